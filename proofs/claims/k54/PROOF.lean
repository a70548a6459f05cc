import PyProof.Rows.All
import Wide.All
import OpenK.AllK
import Wide.FinOn
import HandS.ForMost
import HandS.ForExc
import HandS.Walk
import HandS.TryOnly
import HandS.ExcOwn
import HandS.ExcIs
import HandS.ExcInit
import HandS.TupAny
import HandS.Strs
import HandS.TupLe
import HandS.IsInst
import HandS.Zip
import HandS.Rev
import HandS.Style
import HandS.SortInts
import HandS.Conv
import HandS.Flow
import HandS.Deep
import HandS.SortOrd
import KE.GoesEnum
import PyProof.ReprRoads
import HandS.More
import HandS.RaiseMore
import HandS.Dict
import HandS.TupMul
import KE.DatumOrd
import HandS.SetFor
import HandS.SortKw
import HandS.WrittenGet
import KE.GoesMore
import KE.KExcIs
import HandS.Defaults
import KE.SortData
import KE.KDictKeyed
import KE.KDictSum
import KE.KDictDisplayH
import HandS.DictTup
import KE.KDictItemsList
import KE.DataCmp
import KE.KDictPairs
import HandS.HotCalls
import KE.KDictZip
import PySem.Challenge.RW_fivecups_k54_sums_of_sayings
set_option Elab.async false
set_option linter.all false
set_option maxRecDepth 100000
set_option maxHeartbeats 4000000
/-! DL, part A: plain data over the layer L2; its relation to values and heaps; the judgements. -/
namespace DL
open PySem PySem.Spec PyProof.Rows L2

inductive D where
  | non | bl (b : Bool) | int (i : Int) | str (x : Str) | ty (n : String)
  | tup (xs : List D) | lst (xs : List D) | scr (ns : List Int) | ref (a : Addr)
  /-- a tuple of ints that is known to have no dict of its own (its methods may be called) -/
  | tpk (ns : List Int)

/-- a dict that stays: its object, its entries, its keys and values -/
structure Pin where
  o : Obj
  es : Array DictEntry
  ep : Nat
  xs : List (List Int × Addr × V)
inductive Cell where
  | lst (xs : List D)
  | ins (C dx : Addr) (fs : List (Str × D))
  | dic (kvs : List (Key × D))
  | dit (kvs : List (List Key × D))
  /-- a caught exception: its class, where its dict lies -/
  | exc (cls : Value) (od : Option Addr)
  /-- the dict of an exception -/
  | xd (fs : List (Str × D))
  /-- a dict whose keys are tuples of ints -/
  | dct (kvs : List (D × D))
  /-- .. that stays as it is -/
  | dcf (z : Pin) (kvs : List (D × D))

abbrev Sto := Addr → Option Cell
def sput (S : Sto) (a : Addr) (c : Cell) : Sto := fun b => if b = a then some c else S b
def sdel (S : Sto) (a : Addr) : Sto := fun b => if b = a then none else S b
theorem sput_same {S : Sto} {a : Addr} {c : Cell} : sput S a c a = some c := by unfold sput; rw [if_pos rfl]
theorem sput_ne {S : Sto} {a b : Addr} {c : Cell} (h : b ≠ a) : sput S a c b = S b := by unfold sput; rw [if_neg h]
theorem sput_sput {S : Sto} {a : Addr} {c c' : Cell} : sput (sput S a c) a c' = sput S a c' := by
  funext b; unfold sput; split <;> rfl
theorem sdel_sput {S : Sto} {a : Addr} {c : Cell} (h : S a = none) : sdel (sput S a c) a = S := by
  funext b; unfold sdel sput; split
  · rename_i e; rw [e, h]
  · rfl
theorem sdel_same {S : Sto} {a : Addr} : sdel S a a = none := by unfold sdel; rw [if_pos rfl]
theorem sdel_ne {S : Sto} {a b : Addr} (h : b ≠ a) : sdel S a b = S b := by unfold sdel; rw [if_neg h]
theorem sput_self {S : Sto} {a : Addr} {c : Cell} (h : S a = some c) : sput S a c = S := by
  funext b; unfold sput; split
  · rename_i e; rw [e, h]
  · rfl
theorem ne_none {S : Sto} {a b : Addr} {c : Cell} (h : S a = some c) (h' : S b = none) : b ≠ a := by
  rintro rfl; rw [h] at h'; cases h'

/-- at a: a tuple of these ints without a dict -/
def TpK (K : PySem.W.Frag) (H : Hp) (a : Addr) (ns : List Int) : Prop :=
  (∃ o : Obj, H a = some (.frz o (.tup (ns.map V.int))) ∧ o.dict = none) ∨
    ∃ (o : Obj) (its : Array Value) (n : Nat), K.lookup a = some o ∧ o.cls = .type "tuple" ∧ o.dict = none ∧ o.data = .seq its n ∧ its.size ≤ sizeLine ∧ Vals (ns.map V.int) its.toList
theorem TpK.sq {K : PySem.W.Frag} {H : Hp} {a : Addr} {ns : List Int} (h : TpK K H a ns) : SqT K H a (ns.map V.int) := by
  rcases h with ⟨o, h, _⟩ | ⟨o, its, n, h1, h2, h3, h4, h5, h6⟩
  · exact .inl (.inr ⟨o, h⟩)
  · exact .inr ⟨o, its, n, h1, h2, h4, h5, h6⟩
section
variable (K : PySem.W.Frag) (H : Hp) (nf : Addr → Prop)
mutual
/-- the value v is the data d -/
def Rl : D → V → Prop
  | .non, v => v = .non
  | .bl b, v => v = .bl b
  | .int i, v => v = .int i
  | .str x, v => v = .str x
  | .ty n, v => v = .ty n
  | .ref a, v => v = .ref a
  | .scr ns, v => ∃ a, v = .ref a ∧ ((∃ o, H a = some (.frz o (.lst (ns.map V.int)))) ∨ SqL K (fun _ => none) a (ns.map V.int))
  | .tup xs, v => ∃ a vs, v = .ref a ∧ SqT K H a vs ∧ RlA xs vs
  | .tpk ns, v => ∃ a, v = .ref a ∧ TpK K H a ns
  | .lst xs, v => ∃ a vs, v = .ref a ∧ H a = some (.lst vs) ∧ nf a ∧ RlA xs vs
def RlA : List D → List V → Prop
  | [], vs => vs = []
  | x :: xs, vs => ∃ v r, vs = v :: r ∧ Rl x v ∧ RlA xs r
end
end

/-- what must stay for data to stay -/
structure Keep (K : PySem.W.Frag) (H : Hp) (nf : Addr → Prop) (H' : Hp) (nf' : Addr → Prop) : Prop where
  tup : ∀ a vs, H a = some (.tup vs) → H' a = some (.tup vs)
  frz : ∀ a o u, H a = some (.frz o u) → H' a = some (.frz o u)
  lst : ∀ a vs, H a = some (.lst vs) → nf a → H' a = some (.lst vs) ∧ nf' a

section
variable {K : PySem.W.Frag} {H H' : Hp} {nf nf' : Addr → Prop}
theorem Keep.sqT (k : Keep K H nf H' nf') {a : Addr} {vs : List V} (h : SqT K H a vs) : SqT K H' a vs := by
  rcases h with (h | ⟨o, h⟩) | h
  · exact .inl (.inl (k.tup _ _ h))
  · exact .inl (.inr ⟨o, k.frz _ _ _ h⟩)
  · exact .inr h
mutual
theorem Rl.keep (k : Keep K H nf H' nf') : ∀ (d : D) (v : V), Rl K H nf d v → Rl K H' nf' d v
  | .non, v, h => by unfold Rl at h ⊢; exact h
  | .bl b, v, h => by unfold Rl at h ⊢; exact h
  | .int i, v, h => by unfold Rl at h ⊢; exact h
  | .str x, v, h => by unfold Rl at h ⊢; exact h
  | .ty n, v, h => by unfold Rl at h ⊢; exact h
  | .ref a, v, h => by unfold Rl at h ⊢; exact h
  | .scr ns, v, h => by
    unfold Rl at h ⊢
    obtain ⟨a, e, h | h⟩ := h
    · obtain ⟨o, h⟩ := h
      exact ⟨a, e, .inl ⟨o, k.frz _ _ _ h⟩⟩
    · exact ⟨a, e, .inr h⟩
  | .tup xs, v, h => by
    unfold Rl at h ⊢
    obtain ⟨a, vs, e, hs, hr⟩ := h
    exact ⟨a, vs, e, k.sqT hs, RlA.keep k xs vs hr⟩
  | .tpk ns, v, h => by
    unfold Rl at h ⊢
    obtain ⟨a, e, ⟨o, h1, h2⟩ | h⟩ := h
    · exact ⟨a, e, .inl ⟨o, k.frz _ _ _ h1, h2⟩⟩
    · exact ⟨a, e, .inr h⟩
  | .lst xs, v, h => by
    unfold Rl at h ⊢
    obtain ⟨a, vs, e, hs, hn, hr⟩ := h
    obtain ⟨h1, h2⟩ := k.lst _ _ hs hn
    exact ⟨a, vs, e, h1, h2, RlA.keep k xs vs hr⟩
theorem RlA.keep (k : Keep K H nf H' nf') : ∀ (ds : List D) (vs : List V), RlA K H nf ds vs → RlA K H' nf' ds vs
  | [], vs, h => by unfold RlA at h ⊢; exact h
  | x :: xs, vs, h => by
    unfold RlA at h ⊢
    obtain ⟨v, r, e, h1, h2⟩ := h
    exact ⟨v, r, e, Rl.keep k x v h1, RlA.keep k xs r h2⟩
end
theorem RlA.length : ∀ {ds : List D} {vs : List V}, RlA K H nf ds vs → ds.length = vs.length
  | [], vs, h => by unfold RlA at h; subst h; rfl
  | x :: xs, vs, h => by
    unfold RlA at h
    obtain ⟨v, r, rfl, h1, h2⟩ := h
    simp [RlA.length h2]
theorem RlA.nil : RlA K H nf [] [] := by unfold RlA; rfl
theorem RlA.cons {d : D} {v : V} {ds : List D} {vs : List V} (h : Rl K H nf d v) (t : RlA K H nf ds vs) : RlA K H nf (d :: ds) (v :: vs) := by
  unfold RlA; exact ⟨v, vs, rfl, h, t⟩
theorem RlA.of_nil {vs : List V} (h : RlA K H nf [] vs) : vs = [] := by unfold RlA at h; exact h
theorem RlA.of_cons {d : D} {ds : List D} {vs : List V} (h : RlA K H nf (d :: ds) vs) : ∃ v r, vs = v :: r ∧ Rl K H nf d v ∧ RlA K H nf ds r := by unfold RlA at h; exact h
theorem RlA.app : ∀ {ds es : List D} {vs ws : List V}, RlA K H nf ds vs → RlA K H nf es ws → RlA K H nf (ds ++ es) (vs ++ ws)
  | [], es, vs, ws, h, h' => by rw [RlA.of_nil h]; exact h'
  | x :: xs, es, vs, ws, h, h' => by
    obtain ⟨v, r, rfl, h1, h2⟩ := RlA.of_cons h
    exact RlA.cons h1 (RlA.app h2 h')
theorem RlA.get : ∀ {ds : List D} {vs : List V} {i : Nat} {v : V}, RlA K H nf ds vs → vs[i]? = some v → ∃ d, ds[i]? = some d ∧ Rl K H nf d v
  | [], vs, i, v, h, e => by rw [RlA.of_nil h] at e; simp at e
  | x :: xs, vs, i, v, h, e => by
    obtain ⟨w, r, rfl, h1, h2⟩ := RlA.of_cons h
    cases i with
    | zero => simp at e; subst e; exact ⟨x, rfl, h1⟩
    | succ i => simp at e; simpa using RlA.get (i := i) h2 e
theorem RlA.getD : ∀ {ds : List D} {vs : List V} {i : Nat} {d : D}, RlA K H nf ds vs → ds[i]? = some d → ∃ v, vs[i]? = some v ∧ Rl K H nf d v
  | [], vs, i, v, h, e => by simp at e
  | x :: xs, vs, i, v, h, e => by
    obtain ⟨w, r, rfl, h1, h2⟩ := RlA.of_cons h
    cases i with
    | zero => simp at e; subst e; exact ⟨w, rfl, h1⟩
    | succ i => simp at e; simpa using RlA.getD (i := i) h2 e
theorem RlA.take : ∀ {ds : List D} {vs : List V} (n : Nat), RlA K H nf ds vs → RlA K H nf (ds.take n) (vs.take n)
  | _, _, 0, _ => by simpa using RlA.nil
  | [], vs, n + 1, h => by rw [RlA.of_nil h]; exact RlA.nil
  | x :: xs, vs, n + 1, h => by
    obtain ⟨w, r, rfl, h1, h2⟩ := RlA.of_cons h
    exact RlA.cons h1 (RlA.take n h2)
theorem RlA.drop : ∀ {ds : List D} {vs : List V} (n : Nat), RlA K H nf ds vs → RlA K H nf (ds.drop n) (vs.drop n)
  | _, _, 0, h => by simpa using h
  | [], vs, n + 1, h => by rw [RlA.of_nil h]; simpa using RlA.nil
  | x :: xs, vs, n + 1, h => by
    obtain ⟨w, r, rfl, h1, h2⟩ := RlA.of_cons h
    simpa using RlA.drop n h2
theorem RlA.set {d : D} {v : V} (hd : Rl K H nf d v) : ∀ {ds : List D} {vs : List V} (n : Nat), RlA K H nf ds vs → RlA K H nf (ds.set n d) (vs.set n v)
  | [], vs, n, h => by rw [RlA.of_nil h]; simpa using RlA.nil
  | x :: xs, vs, 0, h => by
    obtain ⟨w, r, rfl, h1, h2⟩ := RlA.of_cons h
    exact RlA.cons hd h2
  | x :: xs, vs, n + 1, h => by
    obtain ⟨w, r, rfl, h1, h2⟩ := RlA.of_cons h
    exact RlA.cons h1 (RlA.set hd n h2)
theorem RlA.erase : ∀ {ds : List D} {vs : List V} (n : Nat), RlA K H nf ds vs → RlA K H nf (ds.eraseIdx n) (vs.eraseIdx n)
  | [], vs, n, h => by rw [RlA.of_nil h]; simpa using RlA.nil
  | x :: xs, vs, 0, h => by
    obtain ⟨w, r, rfl, h1, h2⟩ := RlA.of_cons h
    exact h2
  | x :: xs, vs, n + 1, h => by
    obtain ⟨w, r, rfl, h1, h2⟩ := RlA.of_cons h
    exact RlA.cons h1 (RlA.erase n h2)
theorem RlA.rev : ∀ {ds : List D} {vs : List V}, RlA K H nf ds vs → RlA K H nf ds.reverse vs.reverse
  | [], vs, h => by rw [RlA.of_nil h]; exact RlA.nil
  | x :: xs, vs, h => by
    obtain ⟨w, r, rfl, h1, h2⟩ := RlA.of_cons h
    rw [List.reverse_cons, List.reverse_cons]
    exact RlA.app (RlA.rev h2) (RlA.cons h1 RlA.nil)
theorem RlA.ints : ∀ (ns : List Int), RlA K H nf (ns.map D.int) (ns.map V.int)
  | [] => RlA.nil
  | n :: r => RlA.cons (by unfold Rl; rfl) (RlA.ints r)
theorem Rl.int {i : Int} : Rl K H nf (.int i) (.int i) := by unfold Rl; rfl
theorem Rl.bl {b : Bool} : Rl K H nf (.bl b) (.bl b) := by unfold Rl; rfl
theorem Rl.str {x : Str} : Rl K H nf (.str x) (.str x) := by unfold Rl; rfl
theorem Rl.non : Rl K H nf .non .non := by unfold Rl; rfl
theorem Rl.ref {a : Addr} : Rl K H nf (.ref a) (.ref a) := by unfold Rl; rfl
theorem Rl.ty {n : String} : Rl K H nf (.ty n) (.ty n) := by unfold Rl; rfl
theorem Rl.tup {xs : List D} {a : Addr} {vs : List V} (h : SqT K H a vs) (r : RlA K H nf xs vs) : Rl K H nf (.tup xs) (.ref a) := by unfold Rl; exact ⟨a, vs, rfl, h, r⟩
theorem Rl.lst {xs : List D} {a : Addr} {vs : List V} (h : H a = some (.lst vs)) (n : nf a) (r : RlA K H nf xs vs) : Rl K H nf (.lst xs) (.ref a) := by unfold Rl; exact ⟨a, vs, rfl, h, n, r⟩
theorem Rl.of_int {i : Int} {v : V} (h : Rl K H nf (.int i) v) : v = .int i := by unfold Rl at h; exact h
theorem Rl.of_bl {b : Bool} {v : V} (h : Rl K H nf (.bl b) v) : v = .bl b := by unfold Rl at h; exact h
theorem Rl.of_str {x : Str} {v : V} (h : Rl K H nf (.str x) v) : v = .str x := by unfold Rl at h; exact h
theorem Rl.of_ref {a : Addr} {v : V} (h : Rl K H nf (.ref a) v) : v = .ref a := by unfold Rl at h; exact h
theorem Rl.of_non {v : V} (h : Rl K H nf .non v) : v = .non := by unfold Rl at h; exact h
theorem Rl.of_ty {n : String} {v : V} (h : Rl K H nf (.ty n) v) : v = .ty n := by unfold Rl at h; exact h
theorem Rl.of_tup {xs : List D} {v : V} (h : Rl K H nf (.tup xs) v) : ∃ a vs, v = .ref a ∧ SqT K H a vs ∧ RlA K H nf xs vs := by unfold Rl at h; exact h
theorem Rl.tpk {ns : List Int} {a : Addr} (h : TpK K H a ns) : Rl K H nf (.tpk ns) (.ref a) := by unfold Rl; exact ⟨a, rfl, h⟩
theorem Rl.of_tpk {ns : List Int} {v : V} (h : Rl K H nf (.tpk ns) v) : ∃ a, v = .ref a ∧ TpK K H a ns := by unfold Rl at h; exact h
theorem Rl.of_lst {xs : List D} {v : V} (h : Rl K H nf (.lst xs) v) : ∃ a vs, v = .ref a ∧ H a = some (.lst vs) ∧ nf a ∧ RlA K H nf xs vs := by unfold Rl at h; exact h
theorem Rl.of_scr {ns : List Int} {v : V} (h : Rl K H nf (.scr ns) v) : ∃ a, v = .ref a ∧ SqL K H a (ns.map V.int) := by
  unfold Rl at h
  obtain ⟨a, e, ⟨o, h⟩ | h⟩ := h
  · exact ⟨a, e, .inl (.inr ⟨o, h⟩)⟩
  · rcases h with (h | ⟨o, h⟩) | h
    · cases h
    · cases h
    · exact ⟨a, e, .inr h⟩
end

/-! ### the store -/
def nfz (G : Addr → Prop) (S : Sto) (a : Addr) : Prop := ¬ G a ∧ S a = none
def RlF (K : PySem.W.Frag) (H : Hp) (nf : Addr → Prop) : List (Str × D) → List (Str × V) → Prop
  | [], vs => vs = []
  | x :: xs, vs => ∃ v r, vs = (x.1, v) :: r ∧ Rl K H nf x.2 v ∧ RlF K H nf xs r
def RlK {κ : Type} (K : PySem.W.Frag) (H : Hp) (nf : Addr → Prop) : List (κ × D) → List (κ × V) → Prop
  | [], vs => vs = []
  | x :: xs, vs => ∃ v r, vs = (x.1, v) :: r ∧ Rl K H nf x.2 v ∧ RlK K H nf xs r
/-- the ints of a key -/
def intsD : List D → Option (List Int)
  | [] => some []
  | .int i :: r => (intsD r).map (i :: ·)
  | _ :: _ => none
def keyI : D → Option (List Int)
  | .tpk ns => some ns
  | .tup xs => intsD xs
  | _ => none
/-- at a: a dict with these keys (their ints, where they lie) and values -/
def DcO (a : Addr) (xs : List (List Int × Addr × V)) : HO := .ext fun h => xs.length ≤ sizeLine ∧ (a == sysModules) = false ∧ (xs.map (·.1)).Nodup ∧
  ∃ (ys : List (List Int × Addr × Value)) (o : Obj) (es : Array DictEntry) (ep : Nat), Paired (fun x y => x.1 = y.1 ∧ x.2.1 = y.2.1 ∧ RelV x.2.2 y.2.2) xs ys ∧ h.get? a = some o ∧ o.ExactDict ∧ o.data = .dict es ep ∧
    ∀ (P : Program) (w : World), es.toList = ys.map (entryOfKey (tupleKind (intKind P w)))
def DcE (a : Addr) (z : Pin) : HO := .ext fun h => z.xs.length ≤ sizeLine ∧ (a == sysModules) = false ∧ (z.xs.map (·.1)).Nodup ∧
  ∃ (ys : List (List Int × Addr × Value)), Paired (fun x y => x.1 = y.1 ∧ x.2.1 = y.2.1 ∧ RelV x.2.2 y.2.2) z.xs ys ∧ h.get? a = some z.o ∧ z.o.ExactDict ∧ z.o.data = .dict z.es z.ep ∧
    ∀ (P : Program) (w : World), z.es.toList = ys.map (entryOfKey (tupleKind (intKind P w)))
def RlD (K : PySem.W.Frag) (H : Hp) (nf : Addr → Prop) : List (D × D) → List (List Int × Addr × V) → Prop
  | [], xs => xs = []
  | p :: r, xs => ∃ ks b v t, xs = (ks, b, v) :: t ∧ keyI p.1 = some ks ∧ Rl K H nf p.1 (.ref b) ∧ Rl K H nf p.2 v ∧ RlD K H nf r t
/-- at a: an exception of this class with this dict -/
def ExV (cls : Value) (od : Option Addr) (a : Addr) : HO := .ext fun h => ∃ oe vs, h.get? a = some oe ∧ Zc cls od oe ∧ oe.data = .fields vs
def CellOk (K : PySem.W.Frag) (H : Hp) (nf : Addr → Prop) (a : Addr) : Cell → Prop
  | .lst xs => ∃ vs, H a = some (.lst vs) ∧ RlA K H nf xs vs
  | .ins C dx fs => ∃ vs, H a = some (.ins C dx vs) ∧ RlF K H nf fs vs
  | .dic kvs => ∃ vs, H a = some (.dK vs) ∧ RlK K H nf kvs vs
  | .dit kvs => ∃ vs, H a = some (.dT vs) ∧ RlK K H nf kvs vs
  | .exc cls od => H a = some (ExV cls od a)
  | .xd fs => ∃ vs, H a = some (.xd vs) ∧ RlF K H nf fs vs
  | .dct kvs => ∃ xs, H a = some (DcO a xs) ∧ RlD K H nf kvs xs
  | .dcf z kvs => H a = some (DcE a z) ∧ RlD K H nf kvs z.xs
/-- the store's cells stand in the heap -/
def RepS (K : PySem.W.Frag) (G : Addr → Prop) (S : Sto) (H : Hp) : Prop := ∀ a c, S a = some c → ¬ G a ∧ CellOk K H (nfz G S) a c
/-- what is no cell stays, and is none -/
def Tr (S : Sto) (H : Hp) (S' : Sto) (H' : Hp) : Prop := ∀ a o, S a = none → H a = some o → H' a = some o ∧ S' a = none
theorem Tr.refl {S : Sto} {H : Hp} : Tr S H S H := fun _ _ h h' => ⟨h', h⟩
theorem Tr.trans {S S1 S2 : Sto} {H H1 H2 : Hp} (a : Tr S H S1 H1) (b : Tr S1 H1 S2 H2) : Tr S H S2 H2 := fun p o h h' =>
  let ⟨x, y⟩ := a p o h h'
  b p o y x
section
variable {K : PySem.W.Frag} {G : Addr → Prop} {S S' : Sto} {H H' : Hp}
theorem RepS.free (r : RepS K G S H) {a : Addr} {o : HO} (h : H a = some o) (hm : ∀ vs, o ≠ .lst vs) (hi : ∀ C dx fs, o ≠ .ins C dx fs) (hk : ∀ k, o ≠ .dK k) (ht : ∀ k, o ≠ .dT k) (he : ∀ φ, o ≠ .ext φ) (hx : ∀ k, o ≠ .xd k) : S a = none := by
  cases q : S a with
  | none => rfl
  | some c =>
    obtain ⟨_, e⟩ := r a c q
    cases c with
    | lst xs => obtain ⟨vs, e, _⟩ := e; rw [h] at e; cases e; exact absurd rfl (hm _)
    | ins C dx fs => obtain ⟨vs, e, _⟩ := e; rw [h] at e; cases e; exact absurd rfl (hi _ _ _)
    | dic k => obtain ⟨vs, e, _⟩ := e; rw [h] at e; cases e; exact absurd rfl (hk _)
    | dit k => obtain ⟨vs, e, _⟩ := e; rw [h] at e; cases e; exact absurd rfl (ht _)
    | exc cls od => exact absurd (Option.some.inj (h.symm.trans e)) (he _)
    | xd k => obtain ⟨vs, e, _⟩ := e; rw [h] at e; cases e; exact absurd rfl (hx _)
    | dct k => obtain ⟨vs, e, _⟩ := e; exact absurd (Option.some.inj (h.symm.trans e)) (he _)
    | dcf z k => obtain ⟨e, _⟩ := e; exact absurd (Option.some.inj (h.symm.trans e)) (he _)
theorem Tr.keep (r : RepS K G S H) (t : Tr S H S' H') : Keep K H (nfz G S) H' (nfz G S') where
  tup := fun a vs h => (t a _ (r.free h (fun _ z => nomatch z) (fun _ _ _ z => nomatch z) (fun _ z => nomatch z) (fun _ z => nomatch z) (fun _ z => nomatch z) (fun _ z => nomatch z)) h).1
  frz := fun a o u h => (t a _ (r.free h (fun _ z => nomatch z) (fun _ _ _ z => nomatch z) (fun _ z => nomatch z) (fun _ z => nomatch z) (fun _ z => nomatch z) (fun _ z => nomatch z)) h).1
  lst := fun a vs h n => let ⟨x, y⟩ := t a _ n.2 h; ⟨x, n.1, y⟩
theorem Rl.tr (r : RepS K G S H) (t : Tr S H S' H') {d : D} {v : V} (h : Rl K H (nfz G S) d v) : Rl K H' (nfz G S') d v := Rl.keep (t.keep r) d v h
theorem RlA.tr (r : RepS K G S H) (t : Tr S H S' H') {d : List D} {v : List V} (h : RlA K H (nfz G S) d v) : RlA K H' (nfz G S') d v := RlA.keep (t.keep r) d v h
theorem RlF.keep {nf nf' : Addr → Prop} (k : Keep K H nf H' nf') : ∀ {fs : List (Str × D)} {vs : List (Str × V)}, RlF K H nf fs vs → RlF K H' nf' fs vs
  | [], vs, h => h
  | x :: xs, vs, ⟨v, r, e, h1, h2⟩ => ⟨v, r, e, Rl.keep k _ _ h1, RlF.keep k h2⟩
theorem RlK.keep {κ : Type} {nf nf' : Addr → Prop} (k : Keep K H nf H' nf') : ∀ {fs : List (κ × D)} {vs : List (κ × V)}, RlK K H nf fs vs → RlK K H' nf' fs vs
  | [], vs, h => h
  | x :: xs, vs, ⟨v, r, e, h1, h2⟩ => ⟨v, r, e, Rl.keep k _ _ h1, RlK.keep k h2⟩
theorem RlD.keep {nf nf' : Addr → Prop} (k : Keep K H nf H' nf') : ∀ {kvs : List (D × D)} {xs : List (List Int × Addr × V)}, RlD K H nf kvs xs → RlD K H' nf' kvs xs
  | [], _, h => h
  | _ :: _, _, ⟨ks, b, v, t, e, h0, h1, h2, h3⟩ => ⟨ks, b, v, t, e, h0, Rl.keep k _ _ h1, Rl.keep k _ _ h2, RlD.keep k h3⟩
theorem CellOk.keep {nf nf' : Addr → Prop} {a : Addr} {c : Cell} (k : Keep K H nf H' nf') (e : H' a = H a) (h : CellOk K H nf a c) : CellOk K H' nf' a c := by
  cases c with
  | lst xs => obtain ⟨vs, h1, h2⟩ := h; exact ⟨vs, e.trans h1, RlA.keep k _ _ h2⟩
  | ins C dx fs => obtain ⟨vs, h1, h2⟩ := h; exact ⟨vs, e.trans h1, RlF.keep k h2⟩
  | dic kvs => obtain ⟨vs, h1, h2⟩ := h; exact ⟨vs, e.trans h1, RlK.keep k h2⟩
  | dit kvs => obtain ⟨vs, h1, h2⟩ := h; exact ⟨vs, e.trans h1, RlK.keep k h2⟩
  | exc cls od => exact e.trans h
  | xd fs => obtain ⟨vs, h1, h2⟩ := h; exact ⟨vs, e.trans h1, RlF.keep k h2⟩
  | dct kvs => obtain ⟨vs, h1, h2⟩ := h; exact ⟨vs, e.trans h1, RlD.keep k h2⟩
  | dcf z kvs => obtain ⟨h1, h2⟩ := h; exact ⟨e.trans h1, RlD.keep k h2⟩
/-- a new object, no cell -/
theorem Tr.new {a : Addr} {o : HO} (n : H a = none) : Tr S H S (upd H a o) := fun b u h h' => ⟨by rw [upd_ne (ne_of_none h' n)]; exact h', h⟩
theorem Keep.new {nf : Addr → Prop} {a : Addr} {o : HO} (n : H a = none) : Keep K H nf (upd H a o) nf where
  tup := fun b vs h => by rw [upd_ne (ne_of_none h n)]; exact h
  frz := fun b _ _ h => by rw [upd_ne (ne_of_none h n)]; exact h
  lst := fun b vs h z => ⟨by rw [upd_ne (ne_of_none h n)]; exact h, z⟩
theorem RepS.some_heap (r : RepS K G S H) {a : Addr} {c : Cell} (h : S a = some c) : ∃ o, H a = some o := by
  obtain ⟨_, e⟩ := r a c h
  cases c with
  | lst xs => obtain ⟨vs, e, _⟩ := e; exact ⟨_, e⟩
  | ins C dx fs => obtain ⟨vs, e, _⟩ := e; exact ⟨_, e⟩
  | dic k => obtain ⟨vs, e, _⟩ := e; exact ⟨_, e⟩
  | dit k => obtain ⟨vs, e, _⟩ := e; exact ⟨_, e⟩
  | exc cls od => exact ⟨_, e⟩
  | xd k => obtain ⟨vs, e, _⟩ := e; exact ⟨_, e⟩
  | dct k => obtain ⟨vs, e, _⟩ := e; exact ⟨_, e⟩
  | dcf z k => obtain ⟨e, _⟩ := e; exact ⟨_, e⟩
theorem RepS.none_of (r : RepS K G S H) {a : Addr} (n : H a = none) : S a = none := by
  cases q : S a with
  | none => rfl
  | some c => obtain ⟨o, e⟩ := r.some_heap q; rw [n] at e; cases e
theorem RepS.new (r : RepS K G S H) {a : Addr} {o : HO} (n : H a = none) : RepS K G S (upd H a o) := fun b c h => by
  obtain ⟨g, e⟩ := r b c h
  have nb : b ≠ a := by rintro rfl; rw [r.none_of n] at h; cases h
  exact ⟨g, e.keep (Keep.new n) (upd_ne nb)⟩
/-- G: what may be in the making; a free address is none of it -/
def GOk (G : Addr → Prop) (H : Hp) : Prop := ∀ a, G a → H a ≠ none
end
end DL

/-! DL, part B: the judgements over data. -/
namespace DL
open PySem PySem.Spec PyProof.Rows L2

abbrev En := List (Option D)
def RlE (K : PySem.W.Frag) (H : Hp) (nf : Addr → Prop) (e : En) (σ : L2.St) : Prop :=
  e.length = σ.length ∧ ∀ (i : Nat) (d : D), e[i]? = some (some d) → ∃ v, σ[i]? = some (some v) ∧ Rl K H nf d v
/-- what is known of what is in the making and of the entry: it stays -/
structure Ct where
  ok : (Addr → Prop) → Sto → Hp → Prop
  tr : ∀ (G : Addr → Prop) (S : Sto) (H : Hp) (S' : Sto) (H' : Hp), ok G S H → Tr S H S' H' → ok G S' H'
/-- nothing is known (a comprehension's block) -/
def C1 : Ct := ⟨fun _ _ _ => True, fun _ _ _ _ _ _ _ => trivial⟩
/-- a def's entry -/
def CtOf (G0 : Addr → Prop) (S0 : Sto) (H0 : Hp) : Ct := ⟨fun G S H => G = G0 ∧ Tr S0 H0 S H, fun _ _ _ _ _ h t => ⟨h.1, h.2.trans t⟩⟩
structure At (K : PySem.W.Frag) (C : Ct) (G : Addr → Prop) (e : En) (S : Sto) (σ : L2.St) (H : Hp) : Prop where
  rep : RepS K G S H
  g : GOk G H
  c : C.ok G S H
  env : RlE K H (nfz G S) e σ

section
variable {K : PySem.W.Frag} {C : Ct} {G : Addr → Prop} {e : En} {S S' : Sto} {σ : L2.St} {H H' : Hp}
theorem GOk.tr (g : GOk G H) (r : RepS K G S H) (t : Tr S H S' H') : GOk G H' := fun a ha => by
  have hs : S a = none := by
    cases q : S a with
    | none => rfl
    | some c => exact absurd ha (r a c q).1
  cases q : H a with
  | none => exact absurd q (g a ha)
  | some o => rw [(t a o hs q).1]; intro z; cases z
theorem RlE.keep {nf nf' : Addr → Prop} (k : Keep K H nf H' nf') (h : RlE K H nf e σ) : RlE K H' nf' e σ :=
  ⟨h.1, fun i d q => let ⟨v, q1, q2⟩ := h.2 i d q; ⟨v, q1, Rl.keep k d v q2⟩⟩
theorem At.next (a : At K C G e S σ H) (t : Tr S H S' H') (r : RepS K G S' H') : At K C G e S' σ H' :=
  ⟨r, a.g.tr a.rep t, C.tr _ _ _ _ _ a.c t, a.env.keep (t.keep a.rep)⟩
theorem RlE.set {nf : Addr → Prop} (h : RlE K H nf e σ) {i : Nat} {d : D} {v : V} (r : Rl K H nf d v) : RlE K H nf (e.set i (some d)) (σ.set i (some v)) := by
  refine ⟨by simp [h.1], fun j d' q => ?_⟩
  by_cases hj : i = j
  · subst hj
    by_cases hl : i < e.length
    · rw [List.getElem?_set_self hl] at q
      cases q
      exact ⟨v, by rw [List.getElem?_set_self (by rw [← h.1]; exact hl)], r⟩
    · rw [List.getElem?_eq_none (by simpa using hl)] at q; cases q
  · rw [List.getElem?_set_ne hj] at q
    obtain ⟨w, q1, q2⟩ := h.2 j d' q
    exact ⟨w, by rw [List.getElem?_set_ne hj]; exact q1, q2⟩
theorem At.set (a : At K C G e S σ H) {i : Nat} {d : D} {v : V} (r : Rl K H (nfz G S) d v) : At K C G (e.set i (some d)) S (σ.set i (some v)) H := ⟨a.rep, a.g, a.c, a.env.set r⟩
end

/-! ### readings over data -/
abbrev KD := D → Sto → Prop
abbrev TDE := En → Sto → KD → Prop
abbrev TDT := En → Sto → (Bool → Sto → Prop) → Prop
abbrev TDA := En → Sto → (List D → Sto → Prop) → Prop
abbrev TDG := D → En → Sto → (En → Sto → Prop) → Prop
abbrev TDGs := List D → En → Sto → (En → Sto → Prop) → Prop
structure DEnds where
  nx : En → Sto → Prop
  rt : KD
  bk : En → Sto → Prop := fun _ _ => False
  ct : En → Sto → Prop := fun _ _ => False
abbrev TDS := DEnds → En → Sto → Prop
/-- what is wanted of an exception: its class, where its dict lies (a cell of the store) -/
abbrev XKD := Value → Option Addr → Sto → Prop
/-- a def's promise over data -/
abbrev SpD := List D → Sto → KD → XKD → Prop

/-- behind an operation -/
def Aft (K : PySem.W.Frag) (G : Addr → Prop) (S : Sto) (H : Hp) (Q' : KD) (Q : VK) : Prop :=
  ∀ d S' v H', Tr S H S' H' → RepS K G S' H' → Rl K H' (nfz G S') d v → Q' d S' → Q v H'
def LE (K : PySem.W.Frag) (C : Ct) (t : TDE) : TE := fun σ H Q => ∃ G e S Q', At K C G e S σ H ∧ t e S Q' ∧ Aft K G S H Q' Q
def LT (K : PySem.W.Frag) (C : Ct) (t : TDT) : TT := fun σ H Q => ∃ G e S Q', At K C G e S σ H ∧ t e S Q' ∧ ∀ b S' H', Tr S H S' H' → RepS K G S' H' → Q' b S' → Q b H'
def LA (K : PySem.W.Frag) (C : Ct) (t : TDA) : TA := fun σ H Q => ∃ G e S Q', At K C G e S σ H ∧ t e S Q' ∧ ∀ ds S' vs H', Tr S H S' H' → RepS K G S' H' → RlA K H' (nfz G S') ds vs → Q' ds S' → Q vs H'
/-- behind a statement -/
def AftS (K : PySem.W.Frag) (C : Ct) (G : Addr → Prop) (S : Sto) (H : Hp) (Q' : En → Sto → Prop) (Q : L2.St → Hp → Prop) : Prop :=
  ∀ e' S' σ' H', Tr S H S' H' → At K C G e' S' σ' H' → Q' e' S' → Q σ' H'
structure EndsOk (K : PySem.W.Frag) (C : Ct) (G : Addr → Prop) (S : Sto) (H : Hp) (D' : DEnds) (D : Ends) : Prop where
  nx : AftS K C G S H D'.nx D.nx
  bk : AftS K C G S H D'.bk D.bk
  ct : AftS K C G S H D'.ct D.ct
  rt : Aft K G S H D'.rt D.rt
def LS (K : PySem.W.Frag) (C : Ct) (t : TDS) : TS := fun D σ H => ∃ G e S D', At K C G e S σ H ∧ t D' e S ∧ EndsOk K C G S H D' D
def LG (K : PySem.W.Frag) (C : Ct) (g : TDG) : TG := fun v σ H Q => ∃ G d e S Q', At K C G e S σ H ∧ Rl K H (nfz G S) d v ∧ g d e S Q' ∧ AftS K C G S H Q' Q
def LGs (K : PySem.W.Frag) (C : Ct) (g : TDGs) : TGs := fun vs σ H Q => ∃ G ds e S Q', At K C G e S σ H ∧ RlA K H (nfz G S) ds vs ∧ g ds e S Q' ∧ AftS K C G S H Q' Q

structure DE (X : Cx) (C : Ct) (e : Expr) (t : TDE) : Prop where
  pe : PE X e (LE X.K C t)
structure DT (X : Cx) (C : Ct) (e : Expr) (t : TDT) : Prop where
  pt : PT X e (LT X.K C t)
/-- and, or -/
structure DW (X : Cx) (C : Ct) (e : Expr) (t : TDT) : Prop where
  pw : PW X e (LT X.K C t)
structure DA (X : Cx) (C : Ct) (es : List Expr) (t : TDA) : Prop where
  pa : PA X es (LA X.K C t)
structure DS (X : Cx) (C : Ct) (st : Stmt) (t : TDS) : Prop where
  ps : PS X st (LS X.K C t)
structure DSs (X : Cx) (C : Ct) (st : List Stmt) (t : TDS) : Prop where
  ps : PSs X st (LS X.K C t)
structure DG (X : Cx) (C : Ct) (tg : Expr) (g : TDG) : Prop where
  pg : PG X tg (LG X.K C g)
structure DGs (X : Cx) (C : Ct) (tg : List Expr) (g : TDGs) : Prop where
  pg : PGs X tg (LGs X.K C g)

section
variable {X : Cx}
theorem PE.imp {e : Expr} {t t' : TE} (h : PE X e t) (i : ∀ σ H Q, t' σ H Q → t σ H Q) : PE X e t' := ⟨fun p s σ H Q I q => h.run p s σ H Q I (i σ H Q q)⟩
theorem PT.imp {e : Expr} {t t' : TT} (h : PT X e t) (i : ∀ σ H Q, t' σ H Q → t σ H Q) : PT X e t' := ⟨fun p s σ H Q I q => h.run p s σ H Q I (i σ H Q q)⟩
theorem PW.imp {e : Expr} {t t' : TT} (h : PW X e t) (i : ∀ σ H Q, t' σ H Q → t σ H Q) : PW X e t' := ⟨fun w p s σ H Q I q => h.run w p s σ H Q I (i σ H Q q)⟩
theorem PA.imp {e : List Expr} {t t' : TA} (h : PA X e t) (i : ∀ σ H Q, t' σ H Q → t σ H Q) : PA X e t' := ⟨fun w p s σ H Q I q => h.run w p s σ H Q I (i σ H Q q)⟩
theorem PS.imp {e : Stmt} {t t' : TS} (h : PS X e t) (i : ∀ D σ H, t' D σ H → t D σ H) : PS X e t' := ⟨fun p s σ H D I q => h.run p s σ H D I (i D σ H q)⟩
theorem PSs.imp {e : List Stmt} {t t' : TS} (h : PSs X e t) (i : ∀ D σ H, t' D σ H → t D σ H) : PSs X e t' := ⟨fun p s σ H D I q => h.run p s σ H D I (i D σ H q)⟩
theorem PG.imp {e : Expr} {t t' : TG} (h : PG X e t) (i : ∀ v σ H Q, t' v σ H Q → t v σ H Q) : PG X e t' := ⟨fun p s σ H v u Q I r q => h.run p s σ H v u Q I r (i v σ H Q q)⟩
theorem PGs.imp {e : List Expr} {t t' : TGs} (h : PGs X e t) (i : ∀ v σ H Q, t' v σ H Q → t v σ H Q) : PGs X e t' := ⟨fun p s σ H v u Q I r q => h.run p s σ H v u Q I r (i v σ H Q q)⟩
theorem OpR.imp {f : Value → Value → Sem Value} {r r' : R2} (h : OpR X f r) (i : ∀ x y H Q, r' x y H Q → r x y H Q) : OpR X f r' := fun p s σ H x y v u Q I rx ry q => h p s σ H x y v u Q I rx ry (i x y H Q q)
theorem CallR.imp {f : Value} {r r' : List V → Hp → VK → Prop} (h : CallR X f r) (i : ∀ x H Q, r' x H Q → r x H Q) : CallR X f r' := fun p s σ H x v Q I rx q => h p s σ H x v Q I rx (i x H Q q)
theorem MtR.imp {f : String} {r r' : V → List V → Hp → VK → Prop} (h : MtR X f r) (i : ∀ x y H Q, r' x y H Q → r x y H Q) : MtR X f r' := fun p s σ H x y v u Q I rx ry q => h p s σ H x y v u Q I rx ry (i x y H Q q)
end

section
variable {K : PySem.W.Frag} {C : Ct} {G : Addr → Prop} {e : En} {S S' : Sto} {σ : L2.St} {H H' : Hp}
theorem Aft.tr {Q' : KD} {Q : VK} (a : Aft K G S H Q' Q) (t : Tr S H S' H') : Aft K G S' H' Q' Q := fun d S2 v H2 t2 r2 l q => a d S2 v H2 (t.trans t2) r2 l q
theorem AftS.tr {Q' : En → Sto → Prop} {Q : L2.St → Hp → Prop} (a : AftS K C G S H Q' Q) (t : Tr S H S' H') : AftS K C G S' H' Q' Q := fun e2 S2 σ2 H2 t2 r2 q => a e2 S2 σ2 H2 (t.trans t2) r2 q
theorem EndsOk.tr {D' : DEnds} {D : Ends} (a : EndsOk K C G S H D' D) (t : Tr S H S' H') : EndsOk K C G S' H' D' D := ⟨a.nx.tr t, a.bk.tr t, a.ct.tr t, a.rt.tr t⟩
/-- a value in the same heap -/
theorem Aft.now {Q' : KD} {Q : VK} (a : Aft K G S H Q' Q) (r : RepS K G S H) {d : D} {v : V} (l : Rl K H (nfz G S) d v) (q : Q' d S) : Q v H := a d S v H Tr.refl r l q
end

/-! ### by values -/
/-- two values -/
abbrev RD2 := D → D → Sto → KD → Prop
def LR2 (K : PySem.W.Frag) (r : RD2) : R2 := fun x y H Q => ∃ G d1 d2 S Q', RepS K G S H ∧ GOk G H ∧ Rl K H (nfz G S) d1 x ∧ Rl K H (nfz G S) d2 y ∧ r d1 d2 S Q' ∧ Aft K G S H Q' Q
abbrev RDL := List D → Sto → KD → Prop
def LRL (K : PySem.W.Frag) (r : RDL) : List V → Hp → VK → Prop := fun xs H Q => ∃ G ds S Q', RepS K G S H ∧ GOk G H ∧ RlA K H (nfz G S) ds xs ∧ r ds S Q' ∧ Aft K G S H Q' Q
abbrev RDM := D → List D → Sto → KD → Prop
def LRM (K : PySem.W.Frag) (r : RDM) : V → List V → Hp → VK → Prop := fun x xs H Q => ∃ G d ds S Q', RepS K G S H ∧ GOk G H ∧ Rl K H (nfz G S) d x ∧ RlA K H (nfz G S) ds xs ∧ r d ds S Q' ∧ Aft K G S H Q' Q

/-! ### new lists -/
/-- a new list: a cell, or one that stays -/
def mkL (c : Bool) (ds : List D) (S : Sto) (Q : KD) : Prop := match c with
  | true => ∀ p, S p = none → Q (.ref p) (sput S p (.lst ds))
  | false => Q (.lst ds) S
section
variable {K : PySem.W.Frag} {C : Ct} {G : Addr → Prop} {e : En} {S S' : Sto} {σ : L2.St} {H H' : Hp}
/-- from a heap in which p was free: the object at p is the new cell, all else stays -/
theorem Keep.newCell (k : Keep K H (nfz G S) H' (nfz G S)) {p : Addr} {c : Cell} (n : H p = none) : Keep K H (nfz G S) H' (nfz G (sput S p c)) where
  tup := k.tup
  frz := k.frz
  lst := fun a vs h nn => by
    obtain ⟨h1, h2⟩ := k.lst a vs h nn
    exact ⟨h1, h2.1, by rw [sput_ne (ne_of_none h n)]; exact h2.2⟩
theorem RepS.newCell (r : RepS K G S H) (g : GOk G H) {p : Addr} {o : HO} {c : Cell} (n : H p = none) (hc : CellOk K (upd H p o) (nfz G (sput S p c)) p c) :
    RepS K G (sput S p c) (upd H p o) ∧ Tr S H (sput S p c) (upd H p o) ∧ Keep K H (nfz G S) (upd H p o) (nfz G (sput S p c)) := by
  have k : Keep K H (nfz G S) (upd H p o) (nfz G (sput S p c)) := (Keep.new n).newCell n
  refine ⟨fun b c' h => ?_, fun b u h h' => ?_, k⟩
  · by_cases hb : b = p
    · subst hb
      rw [sput_same] at h; cases h
      exact ⟨fun z => g b z n, hc⟩
    · rw [sput_ne hb] at h
      obtain ⟨g', e⟩ := r b c' h
      exact ⟨g', e.keep k (upd_ne hb)⟩
  · have nb := ne_of_none h' n
    exact ⟨by rw [upd_ne nb]; exact h', by rw [sput_ne nb]; exact h⟩
theorem mkL_ok {c : Bool} {ds : List D} {vs : List V} {Q' : KD} {Q : VK} {p : Addr} (r : RepS K G S H) (g : GOk G H) (l : RlA K H (nfz G S) ds vs) (n : H p = none) (q : mkL c ds S Q') (a : Aft K G S H Q' Q) : Q (.ref p) (upd H p (.lst vs)) := by
  cases c with
  | false => exact a _ S _ _ (Tr.new n) (r.new n) (Rl.lst upd_same ⟨fun z => g p z n, r.none_of n⟩ (RlA.keep (Keep.new n) _ _ l)) q
  | true =>
    have k : Keep K H (nfz G S) (upd H p (.lst vs)) (nfz G (sput S p (.lst ds))) := (Keep.new n).newCell n
    obtain ⟨r', t, _⟩ := r.newCell (o := .lst vs) (c := .lst ds) g n ⟨vs, upd_same, RlA.keep k _ _ l⟩
    exact a _ _ _ _ t r' Rl.ref (q p (r.none_of n))
theorem tup_ok {ds : List D} {vs : List V} {Q' : KD} {Q : VK} {p : Addr} (r : RepS K G S H) (l : RlA K H (nfz G S) ds vs) (n : H p = none) (q : Q' (.tup ds) S) (a : Aft K G S H Q' Q) : Q (.ref p) (upd H p (.tup vs)) :=
  a _ S _ _ (Tr.new n) (r.new n) (Rl.tup (.inl (.inl upd_same)) (RlA.keep (Keep.new n) _ _ l)) q
/-- a cell is changed -/
theorem RepS.put (r : RepS K G S H) {p : Addr} {o : HO} {c c' : Cell} (h : S p = some c) (hm : ∀ v, H p ≠ some (.tup v)) (hf : ∀ o u, H p ≠ some (.frz o u)) (hc : ∀ k : Keep K H (nfz G S) (upd H p o) (nfz G (sput S p c')), CellOk K (upd H p o) (nfz G (sput S p c')) p c') :
    RepS K G (sput S p c') (upd H p o) ∧ Tr S H (sput S p c') (upd H p o) := by
  have k : Keep K H (nfz G S) (upd H p o) (nfz G (sput S p c')) := by
    refine ⟨fun a vs e => ?_, fun a ob u e => ?_, fun a vs e n => ?_⟩
    · by_cases z : a = p
      · subst z; exact absurd e (hm _)
      · rw [upd_ne z]; exact e
    · by_cases z : a = p
      · subst z; exact absurd e (hf _ _)
      · rw [upd_ne z]; exact e
    · have z : a ≠ p := by rintro rfl; have n2 := n.2; rw [h] at n2; cases n2
      exact ⟨by rw [upd_ne z]; exact e, n.1, by rw [sput_ne z]; exact n.2⟩
  refine ⟨fun b c2 e => ?_, fun b u e e' => ?_⟩
  · by_cases z : b = p
    · subst z
      rw [sput_same] at e; cases e
      exact ⟨(r b c h).1, hc k⟩
    · rw [sput_ne z] at e
      obtain ⟨g', e2⟩ := r b c2 e
      exact ⟨g', e2.keep k (upd_ne z)⟩
  · have z : b ≠ p := by rintro rfl; rw [h] at e; cases e
    exact ⟨by rw [upd_ne z]; exact e', by rw [sput_ne z]; exact e⟩
theorem RepS.putL (r : RepS K G S H) {p : Addr} {xs ys : List D} {ws : List V} (h : S p = some (.lst xs)) (l : RlA K H (nfz G S) ys ws) :
    RepS K G (sput S p (.lst ys)) (upd H p (.lst ws)) ∧ Tr S H (sput S p (.lst ys)) (upd H p (.lst ws)) := by
  obtain ⟨_, vs, e, _⟩ := r p _ h
  exact r.put h (fun v z => by rw [e] at z; cases z) (fun o u z => by rw [e] at z; cases z) fun k => ⟨ws, upd_same, RlA.keep k _ _ l⟩
theorem RepS.lst (r : RepS K G S H) {p : Addr} {xs : List D} (h : S p = some (.lst xs)) : ∃ vs, H p = some (.lst vs) ∧ RlA K H (nfz G S) xs vs := (r p _ h).2
end

/-! ### lists and tuples as they are read -/
/-- the items of a list: a cell, one that stays, the script -/
def asL (S : Sto) : D → Option (List D)
  | .lst xs => some xs
  | .scr ns => some (ns.map D.int)
  | .ref a => match S a with
    | some (.lst xs) => some xs
    | _ => none
  | _ => none
/-- .. that is tracked -/
def asM (S : Sto) : D → Option (List D)
  | .lst xs => some xs
  | .ref a => match S a with
    | some (.lst xs) => some xs
    | _ => none
  | _ => none
def asT : D → Option (List D)
  | .tup xs => some xs
  | .tpk ns => some (ns.map D.int)
  | _ => none
section
variable {K : PySem.W.Frag} {G : Addr → Prop} {S S' : Sto} {H H' : Hp}
theorem asM_ref {a : Addr} {xs : List D} (h : S a = some (.lst xs)) : asM S (.ref a) = some xs := by simp [asM, h]
theorem asL_ref {a : Addr} {xs : List D} (h : S a = some (.lst xs)) : asL S (.ref a) = some xs := by simp [asL, h]
theorem of_asM {d : D} {xs : List D} {v : V} (r : RepS K G S H) (h : asM S d = some xs) (l : Rl K H (nfz G S) d v) : ∃ a vs, v = .ref a ∧ H a = some (.lst vs) ∧ RlA K H (nfz G S) xs vs := by
  cases d with
  | lst ys =>
    cases h
    obtain ⟨a, vs, e, h1, _, h2⟩ := l.of_lst
    exact ⟨a, vs, e, h1, h2⟩
  | ref a =>
    obtain rfl := l.of_ref
    simp only [asM] at h
    split at h
    · rename_i ys q
      cases h
      obtain ⟨vs, h1, h2⟩ := r.lst q
      exact ⟨a, vs, rfl, h1, h2⟩
    · cases h
  | _ => cases h
theorem of_asL {d : D} {xs : List D} {v : V} (r : RepS K G S H) (h : asL S d = some xs) (l : Rl K H (nfz G S) d v) : ∃ a vs, v = .ref a ∧ SqL K H a vs ∧ RlA K H (nfz G S) xs vs := by
  cases d with
  | lst ys =>
    cases h
    obtain ⟨a, vs, e, h1, _, h2⟩ := l.of_lst
    exact ⟨a, vs, e, .inl (.inl h1), h2⟩
  | scr ns =>
    cases h
    obtain ⟨a, e, h1⟩ := l.of_scr
    exact ⟨a, _, e, h1, RlA.ints ns⟩
  | ref a =>
    obtain rfl := l.of_ref
    simp only [asL] at h
    split at h
    · rename_i ys q
      cases h
      obtain ⟨vs, h1, h2⟩ := r.lst q
      exact ⟨a, vs, rfl, .inl (.inl h1), h2⟩
    · cases h
  | _ => cases h
theorem of_asT {d : D} {xs : List D} {v : V} (h : asT d = some xs) (l : Rl K H (nfz G S) d v) : ∃ a vs, v = .ref a ∧ SqT K H a vs ∧ RlA K H (nfz G S) xs vs := by
  cases d with
  | tup ys =>
    cases h
    exact l.of_tup
  | tpk ns =>
    cases h
    obtain ⟨a, e, h1⟩ := l.of_tpk
    exact ⟨a, _, e, h1.sq, RlA.ints ns⟩
  | _ => cases h
end
end DL

/-! DL, part C: expressions. -/
namespace DL
open PySem PySem.Spec PyProof.Rows L2

def slot : En → Nat → Option D
  | [], _ => none
  | x :: _, 0 => x
  | _ :: r, n + 1 => slot r n
theorem slot_get : ∀ {e : En} {i : Nat} {d : D}, slot e i = some d → e[i]? = some (some d)
  | [], _, _, h => by cases h
  | x :: _, 0, _, h => by simpa [slot] using h
  | _ :: r, n + 1, _, h => by simpa using slot_get (e := r) (i := n) h
def dVar (i : Nat) : TDE := fun e S Q => match slot e i with
  | some d => Q d S
  | none => False
def dC (d : D) : TDE := fun _ S Q => Q d S
def dOp (r : RD2) (ta tb : TDE) : TDE := fun e S Q => ta e S fun x S1 => tb e S1 fun y S2 => r x y S2 Q
def dTst (t : TDE) : TDT := fun e S Q => t e S fun d S' => match d with
  | .bl b => Q b S'
  | _ => False
def dChain (r r' : RD2) (ta tb tc : TDE) : TDE := fun e S Q => ta e S fun x S1 => tb e S1 fun y S2 => r x y S2 fun z S3 => match z with
  | .bl true => tc e S3 fun w S4 => r' y w S4 Q
  | .bl false => Q (.bl false) S3
  | _ => False
def dNot (t : TDT) : TDT := fun e S Q => t e S fun b S' => Q (!b) S'
def dAnd (t u : TDT) : TDT := fun e S Q => t e S fun b S' => match b with
  | true => u e S' Q
  | false => Q false S'
def dOr (t u : TDT) : TDT := fun e S Q => t e S fun b S' => match b with
  | true => Q true S'
  | false => u e S' Q
def dNotV (t : TDE) : TDE := fun e S Q => t e S fun d S' => match d with
  | .bl b => Q (.bl (!b)) S'
  | _ => False
def dAndV (t u : TDE) : TDE := fun e S Q => t e S fun d S' => match d with
  | .bl true => u e S' Q
  | .bl false => Q (.bl false) S'
  | _ => False
def dOrV (t u : TDE) : TDE := fun e S Q => t e S fun d S' => match d with
  | .bl true => Q (.bl true) S'
  | .bl false => u e S' Q
  | _ => False
def dNil : TDA := fun _ S Q => Q [] S
def dCons (t : TDE) (u : TDA) : TDA := fun e S Q => t e S fun d S1 => u e S1 fun ds S2 => Q (d :: ds) S2
def dTup (t : TDA) : TDE := fun e S Q => t e S fun ds S1 => ds.length ≤ sizeLine ∧ Q (.tup ds) S1
def dLst (c : Bool) (t : TDA) : TDE := fun e S Q => t e S fun ds S1 => ds.length ≤ sizeLine ∧ mkL c ds S1 Q
def dCB (r : RDL) (t : TDA) : TDE := fun e S Q => t e S fun ds S1 => r ds S1 Q

section
variable {K : PySem.W.Frag} {C : Ct} {G : Addr → Prop} {e : En} {S S' : Sto} {σ : L2.St} {H H' : Hp} {ta tb tc : TDE} {Q' : KD} {Q : VK}
theorem bin_ok {r : RD2} (a : At K C G e S σ H) (h : dOp r ta tb e S Q') (k : Aft K G S H Q' Q) : tOp (LR2 K r) (LE K C ta) (LE K C tb) σ H Q :=
  ⟨G, e, S, _, a, h, fun d1 S1 v1 H1 t1 r1 l1 h1 => ⟨G, e, S1, _, a.next t1 r1, h1, fun d2 S2 v2 H2 t2 r2 l2 h2 =>
    ⟨G, d1, d2, S2, Q', r2, ((a.next t1 r1).next t2 r2).g, l1.tr r1 t2, l2, h2, k.tr (t1.trans t2)⟩⟩⟩
theorem le_imp {t t' : TDE} {R : VK} (a : At K C G e S σ H) (h : t e S Q') (k : Aft K G S H Q' Q) : LE K C t σ H Q := ⟨G, e, S, Q', a, h, k⟩
end

section
variable {X : Cx} {C : Ct} {a b c : Expr} {ta tb tc : TDE} {pos : Pos} {es rest : List Expr}
theorem dv (i : Nat) {x : Str} {pos : Pos} (hN : X.N[i]? = some x := by rfl) (hv : Vis X.env.scope x := by first | exact Or.inl rfl | exact Or.inr (Or.inl rfl) | exact Or.inr (Or.inr rfl)) (hd : (x == ("__debug__" : Str)) = false := by decide)
    (hcd : (x == ("__classdict__" : Str)) = false := by decide) : DE X C (.Name x pos) (dVar i) :=
  ⟨PE.imp (pe_var hN hv hd hcd) fun σ H Q ⟨G, e, S, Q', at', h, k⟩ => by
    unfold dVar at h
    cases q : slot e i with
    | none => rw [q] at h; exact h.elim
    | some d =>
      rw [q] at h
      obtain ⟨v, h1, h2⟩ := at'.env.2 i d (slot_get q)
      exact ⟨v, h1, k.now at'.rep h2 h⟩⟩
theorem dc_any {x : Expr} {v : V} {d : D} (h : PE X x (tC v)) (l : ∀ (H : Hp) (nf : Addr → Prop), Rl X.K H nf d v) : DE X C x (dC d) :=
  ⟨PE.imp h fun σ H Q ⟨G, e, S, Q', at', h, k⟩ => k.now at'.rep (l _ _) h⟩
theorem de_int {i j pos} : DE X C (.Constant (.int i) j pos) (dC (.int i)) := dc_any pe_int fun _ _ => Rl.int
theorem de_bl {b j pos} : DE X C (.Constant (.bool b) j pos) (dC (.bl b)) := dc_any pe_bl fun _ _ => Rl.bl
theorem de_non {j pos} : DE X C (.Constant .none j pos) (dC .non) := dc_any pe_non fun _ _ => Rl.non
theorem de_str {x j pos} : DE X C (.Constant (.str x) j pos) (dC (.str x)) := dc_any pe_str fun _ _ => Rl.str
theorem de_op {op : Operator} {r : RD2} (ho : OpR X (binaryOp op) (LR2 X.K r)) (ha : DE X C a ta) (hb : DE X C b tb) : DE X C (.BinOp a op b pos) (dOp r ta tb) :=
  ⟨PE.imp (pe_op ho ha.pe hb.pe) fun σ H Q ⟨G, e, S, Q', at', h, k⟩ => bin_ok at' h k⟩
theorem de_cmp {op : CmpOp} {r : RD2} (ho : OpR X (compareOp op) (LR2 X.K r)) (ha : DE X C a ta) (hb : DE X C b tb) (hm : behindInMarks op b = false := by first | exact nomark _ | rfl | with_unfolding_all rfl) : DE X C (.Compare a [op] [b] pos) (dOp r ta tb) :=
  ⟨PE.imp (pe_cmpR ho ha.pe hb.pe hm) fun σ H Q ⟨G, e, S, Q', at', h, k⟩ => bin_ok at' h k⟩
theorem dTst_aft {K : PySem.W.Frag} {G : Addr → Prop} {S : Sto} {H : Hp} {Q' : Bool → Sto → Prop} {Q : Bool → Hp → Prop} (k : ∀ b S' H', Tr S H S' H' → RepS K G S' H' → Q' b S' → Q b H') :
    Aft K G S H (fun d S' => match d with | .bl b => Q' b S' | _ => False) (fun x H' => ∃ c, x = .bl c ∧ Q c H') := fun d S' v H' t r l q => by
  cases d with
  | bl b => exact ⟨b, l.of_bl, k b S' H' t r q⟩
  | _ => exact False.elim q
theorem dt_cmp {op : CmpOp} {r : RD2} (ho : OpR X (compareOp op) (LR2 X.K r)) (ha : DE X C a ta) (hb : DE X C b tb) (hm : behindInMarks op b = false := by first | exact nomark _ | rfl | with_unfolding_all rfl) : DT X C (.Compare a [op] [b] pos) (dTst (dOp r ta tb)) :=
  ⟨PT.imp (pt_cmpR ho ha.pe hb.pe hm) fun σ H Q ⟨G, e, S, Q', at', h, k⟩ => bin_ok at' h (dTst_aft k)⟩
theorem chain_ok {K : PySem.W.Frag} {G : Addr → Prop} {e : En} {S : Sto} {σ : L2.St} {H : Hp} {r r' : RD2} {Q' : KD} {Q : VK} (at' : At K C G e S σ H) (h : dChain r r' ta tb tc e S Q') (k : Aft K G S H Q' Q) : tChain (LR2 K r) (LR2 K r') (LE K C ta) (LE K C tb) (LE K C tc) σ H Q :=
  ⟨G, e, S, _, at', h, fun d1 S1 v1 H1 t1 r1 l1 h1 => ⟨G, e, S1, _, at'.next t1 r1, h1, fun d2 S2 v2 H2 t2 r2 l2 h2 =>
    ⟨G, d1, d2, S2, _, r2, ((at'.next t1 r1).next t2 r2).g, l1.tr r1 t2, l2, h2, fun d3 S3 v3 H3 t3 r3 l3 h3 => by
      cases d3 with
      | bl q =>
        refine ⟨q, l3.of_bl, ?_⟩
        cases q with
        | false => exact iteF (k _ S3 _ H3 (t1.trans (t2.trans t3)) r3 Rl.bl h3)
        | true =>
          refine iteT ⟨G, e, S3, _, ((at'.next t1 r1).next t2 r2).next t3 r3, h3, fun d4 S4 v4 H4 t4 r4 l4 h4 => ?_⟩
          exact ⟨G, d2, d4, S4, Q', r4, (((at'.next t1 r1).next t2 r2).next t3 r3 |>.next t4 r4).g, (l2.tr r2 t3).tr r3 t4, l4, h4, k.tr (t1.trans (t2.trans (t3.trans t4)))⟩
      | _ => exact False.elim h3⟩⟩⟩
theorem de_chain {op op' : CmpOp} {r r' : RD2} (ho : OpR X (compareOp op) (LR2 X.K r)) (ho' : OpR X (compareOp op') (LR2 X.K r')) (ha : DE X C a ta) (hb : DE X C b tb) (hc : DE X C c tc)
    (hm : lastMarks [op, op'] [b, c] = false := by with_unfolding_all rfl) : DE X C (.Compare a [op, op'] [b, c] pos) (dChain r r' ta tb tc) :=
  ⟨PE.imp (pe_chain ho ho' ha.pe hb.pe hc.pe hm) fun σ H Q ⟨G, e, S, Q', at', h, k⟩ => chain_ok at' h k⟩
theorem dt_chain {op op' : CmpOp} {r r' : RD2} (ho : OpR X (compareOp op) (LR2 X.K r)) (ho' : OpR X (compareOp op') (LR2 X.K r')) (ha : DE X C a ta) (hb : DE X C b tb) (hc : DE X C c tc)
    (hm : lastMarks [op, op'] [b, c] = false := by with_unfolding_all rfl) : DT X C (.Compare a [op, op'] [b, c] pos) (dTst (dChain r r' ta tb tc)) :=
  ⟨PT.imp (pt_chain ho ho' ha.pe hb.pe hc.pe hm) fun σ H Q ⟨G, e, S, Q', at', h, k⟩ => chain_ok at' h (dTst_aft k)⟩
theorem dt_val {e : Expr} {t : TDE} (h : DE X C e t) (he : ∀ whole, isTrue e X.env whole = (do let v ← whole; standAt e.pos; holding [v] (truthy v)) := by intro _; rfl) : DT X C e (dTst t) :=
  ⟨PT.imp (pt_val h.pe he) fun σ H Q ⟨G, e, S, Q', at', h, k⟩ => ⟨G, e, S, _, at', h, dTst_aft k⟩⟩
theorem dt_not {t : TDT} (h : DT X C a t) : DT X C (.UnaryOp .Not a pos) (dNot t) :=
  ⟨PT.imp (pt_not h.pt) fun σ H Q ⟨G, e, S, Q', at', h, k⟩ => ⟨G, e, S, _, at', h, fun b S' H' t r q => k _ S' H' t r q⟩⟩
theorem dw_pt {t : TDT} (h : DW X C a t) : DT X C a t := ⟨h.pw.pt⟩
theorem dw_and1 {t : TDT} (h : DT X C a t) : DW X C (.BoolOp .And [a] pos) t := ⟨pw_and1 h.pt⟩
theorem dw_or1 {t : TDT} (h : DT X C a t) : DW X C (.BoolOp .Or [a] pos) t := ⟨pw_or1 h.pt⟩
theorem dw_and {t u : TDT} (h : DT X C a t) (h' : DW X C (.BoolOp .And (b :: rest) pos) u) : DW X C (.BoolOp .And (a :: b :: rest) pos) (dAnd t u) :=
  ⟨PW.imp (pw_and h.pt h'.pw) fun σ H Q ⟨G, e, S, Q', at', h, k⟩ => ⟨G, e, S, _, at', h, fun q S' H' t r h' => by
    cases q with
    | true => exact iteT ⟨G, e, S', Q', at'.next t r, h', fun b S2 H2 t2 r2 q2 => k b S2 H2 (t.trans t2) r2 q2⟩
    | false => exact iteF (k false S' H' t r h')⟩⟩
theorem dw_or {t u : TDT} (h : DT X C a t) (h' : DW X C (.BoolOp .Or (b :: rest) pos) u) : DW X C (.BoolOp .Or (a :: b :: rest) pos) (dOr t u) :=
  ⟨PW.imp (pw_or h.pt h'.pw) fun σ H Q ⟨G, e, S, Q', at', h, k⟩ => ⟨G, e, S, _, at', h, fun q S' H' t r h' => by
    cases q with
    | false => exact iteF ⟨G, e, S', Q', at'.next t r, h', fun b S2 H2 t2 r2 q2 => k b S2 H2 (t.trans t2) r2 q2⟩
    | true => exact iteT (k true S' H' t r h')⟩⟩
theorem de_one {op} {t : TDE} (h : DE X C a t) : DE X C (.BoolOp op [a] pos) t := ⟨pe_one h.pe⟩
theorem de_and {t u : TDE} (h : DE X C a t) (h' : DE X C (.BoolOp .And (b :: rest) pos) u) : DE X C (.BoolOp .And (a :: b :: rest) pos) (dAndV t u) :=
  ⟨PE.imp (pe_and h.pe h'.pe) fun σ H Q ⟨G, e, S, Q', at', h, k⟩ => ⟨G, e, S, _, at', h, fun d S' v H' t r l h' => by
    cases d with
    | bl q =>
      refine ⟨q, l.of_bl, ?_⟩
      cases q with
      | true => exact iteT ⟨G, e, S', Q', at'.next t r, h', k.tr t⟩
      | false => exact iteF (k _ S' _ H' t r Rl.bl h')
    | _ => exact False.elim h'⟩⟩
theorem de_or {t u : TDE} (h : DE X C a t) (h' : DE X C (.BoolOp .Or (b :: rest) pos) u) : DE X C (.BoolOp .Or (a :: b :: rest) pos) (dOrV t u) :=
  ⟨PE.imp (pe_or h.pe h'.pe) fun σ H Q ⟨G, e, S, Q', at', h, k⟩ => ⟨G, e, S, _, at', h, fun d S' v H' t r l h' => by
    cases d with
    | bl q =>
      refine ⟨q, l.of_bl, ?_⟩
      cases q with
      | false => exact iteF ⟨G, e, S', Q', at'.next t r, h', k.tr t⟩
      | true => exact iteT (k _ S' _ H' t r Rl.bl h')
    | _ => exact False.elim h'⟩⟩
theorem de_not {t : TDE} (h : DE X C a t) : DE X C (.UnaryOp .Not a pos) (dNotV t) :=
  ⟨PE.imp (pe_not h.pe) fun σ H Q ⟨G, e, S, Q', at', h, k⟩ => ⟨G, e, S, _, at', h, fun d S' v H' t r l h' => by
    cases d with
    | bl q => exact ⟨q, l.of_bl, k _ S' _ H' t r Rl.bl h'⟩
    | _ => exact False.elim h'⟩⟩
def dNeg (t : TDE) : TDE := fun e S Q => t e S fun d S' => match d with
  | .int i => Q (.int (-i)) S'
  | _ => False
theorem de_neg {t : TDE} (h : DE X C a t) : DE X C (.UnaryOp .USub a pos) (dNeg t) :=
  ⟨PE.imp (pe_un un_neg h.pe) fun σ H Q ⟨G, e, S, Q', at', h, k⟩ => ⟨G, e, S, _, at', h, fun d S' v H' t r l h' => by
    cases d with
    | int i => exact ⟨i, l.of_int, k _ S' _ H' t r Rl.int h'⟩
    | _ => exact False.elim h'⟩⟩
theorem da_nil : DA X C [] dNil := ⟨PA.imp pa_nil fun σ H Q ⟨G, e, S, Q', at', h, k⟩ => k [] S [] H Tr.refl at'.rep RlA.nil h⟩
theorem da_cons {t : TDE} {u : TDA} (h : DE X C a t) (h' : DA X C es u) (hs : starEach (a :: es) X.env = (false, eval a X.env) :: starEach es X.env := by rfl) : DA X C (a :: es) (dCons t u) :=
  ⟨PA.imp (pa_cons h.pe h'.pa hs) fun σ H Q ⟨G, e, S, Q', at', h, k⟩ => ⟨G, e, S, _, at', h, fun d S1 v H1 t1 r1 l1 h1 => ⟨G, e, S1, _, at'.next t1 r1, h1, fun ds S2 vs H2 t2 r2 l2 h2 =>
    k _ S2 _ H2 (t1.trans t2) r2 (RlA.cons (l1.tr r1 t2) l2) h2⟩⟩⟩
theorem de_tup {u : TDA} {x1} (h : DA X C es u) : DE X C (.Tuple es x1 pos) (dTup u) :=
  ⟨PE.imp (pe_tup h.pa) fun σ H Q ⟨G, e, S, Q', at', h, k⟩ => ⟨G, e, S, _, at', h, fun ds S1 vs H1 t1 r1 l1 h1 => ⟨by rw [← l1.length]; exact h1.1, fun p n => tup_ok r1 l1 n h1.2 (k.tr t1)⟩⟩⟩
theorem de_lst (c : Bool) {u : TDA} (h : DA X C es u) : DE X C (.List es pos) (dLst c u) :=
  ⟨PE.imp (pe_lst h.pa) fun σ H Q ⟨G, e, S, Q', at', h, k⟩ => ⟨G, e, S, _, at', h, fun ds S1 vs H1 t1 r1 l1 h1 => ⟨by rw [← l1.length]; exact h1.1, fun p n => mkL_ok r1 (at'.next t1 r1).g l1 n h1.2 (k.tr t1)⟩⟩⟩
/-- built-in functions and types, called -/
theorem cb_ok {K : PySem.W.Frag} {G : Addr → Prop} {e : En} {S : Sto} {σ : L2.St} {H : Hp} {u : TDA} {r : RDL} {Q' : KD} {Q : VK} (at' : At K C G e S σ H) (h : dCB r u e S Q') (k : Aft K G S H Q' Q) : tCB (LRL K r) (LA K C u) σ H Q :=
  ⟨G, e, S, _, at', h, fun ds S1 vs H1 t1 r1 l1 h1 => ⟨G, ds, S1, Q', r1, (at'.next t1 r1).g, l1, h1, k.tr t1⟩⟩
theorem de_b {x : Str} {id : String} {u : TDA} {r : RDL} {p : Pos} (hc : CallR X (.builtin id) (LRL X.K r)) (hg : Gl X x) (hm : X.mg x = none) (hv : bootBuiltins x = some (.builtin id)) (ha : DA X C (a :: es) u) (hn : x ≠ "__name__" := by decide) (hdb : (x == ("__debug__" : Str)) = false := by decide)
    (he : starEach (a :: es) X.env = (false, eval a X.env) :: starEach es X.env := by rfl) (hpl : (backTo pos (starEach es X.env)).any (·.1) = false := by rfl) : DE X C (.Call (.Name x p) (a :: es) [] pos) (dCB r u) :=
  ⟨PE.imp (pe_callB hc hg hm hv ha.pa hn hdb he hpl) fun σ H Q ⟨G, e, S, Q', at', h, k⟩ => cb_ok at' h k⟩
theorem de_bt {x : Str} {T : String} {u : TDA} {r : RDL} {p : Pos} (hc : CallR X (.type T) (LRL X.K r)) (hg : Gl X x) (hm : X.mg x = none) (hv : bootBuiltins x = some (.type T)) (ha : DA X C (a :: es) u) (hn : x ≠ "__name__" := by decide) (hdb : (x == ("__debug__" : Str)) = false := by decide)
    (he : starEach (a :: es) X.env = (false, eval a X.env) :: starEach es X.env := by rfl) (hpl : (backTo pos (starEach es X.env)).any (·.1) = false := by rfl) : DE X C (.Call (.Name x p) (a :: es) [] pos) (dCB r u) :=
  ⟨PE.imp (pe_callTy hc hg hm hv ha.pa hn hdb he hpl) fun σ H Q ⟨G, e, S, Q', at', h, k⟩ => cb_ok at' h k⟩
end

/-! ### operators -/
section
variable {X : Cx} {C : Ct}
def iiR (g : Int → Int → D) (P : Int → Int → Prop) : RD2 := fun x y S Q => match x with
  | .int i => (match y with
    | .int j => P i j ∧ Q (g i j) S
    | _ => False)
  | _ => False
def subR : RD2 := fun x y S Q => match x with
  | .int i => (match y with
    | .int j => Q (.int (i - j)) S
    | _ => False)
  | _ => False
theorem or_sub : OpR X (binaryOp .Sub) (LR2 X.K subR) := OpR.imp op_sub fun x y H Q ⟨G, d1, d2, S, Q', r, g, l1, l2, h, k⟩ => by
  cases d1 with
  | int i => cases d2 with
    | int j => exact ⟨i, j, l1.of_int, l2.of_int, k.now r Rl.int h⟩
    | _ => exact False.elim h
  | _ => exact False.elim h
theorem ii_lift {f : Value → Value → Sem Value} {P P' : Int → Int → Prop} {g : Int → Int → Int} (ho : OpR X f (rI P fun i j => .int (g i j))) (hp : ∀ i j, P' i j → P i j) : OpR X f (LR2 X.K (iiR (fun i j => .int (g i j)) P')) :=
  OpR.imp ho fun x y H Q ⟨G, d1, d2, S, Q', r, gg, l1, l2, h, k⟩ => by
    cases d1 with
    | int i => cases d2 with
      | int j => exact ⟨i, j, l1.of_int, l2.of_int, hp _ _ h.1, k.now r Rl.int h.2⟩
      | _ => exact False.elim h
    | _ => exact False.elim h
abbrev modR : RD2 := iiR (fun i j => .int (i % j)) fun _ j => 0 < j
abbrev divR : RD2 := iiR (fun i j => .int (i / j)) fun _ j => 0 < j ∧ j < 1073741824
abbrev powR : RD2 := iiR (fun i j => .int (i ^ j.toNat)) fun i j => 0 ≤ j ∧ j ≤ 1000000 ∧ i.natAbs < 2 ^ 64
abbrev mulR : RD2 := iiR (fun i j => .int (i * j)) fun i j => (-(2 ^ 64) < i ∧ i < 2 ^ 64) ∨ (-(2 ^ 64) < j ∧ j < 2 ^ 64)
theorem or_mod : OpR X (binaryOp .Mod) (LR2 X.K modR) := ii_lift op_mod fun _ _ h => h
theorem or_div : OpR X (binaryOp .FloorDiv) (LR2 X.K divR) := ii_lift op_fdiv fun _ _ h => h
theorem or_pow : OpR X (binaryOp .Pow) (LR2 X.K powR) := ii_lift op_pow fun _ _ h => h
theorem or_mul : OpR X (binaryOp .Mult) (LR2 X.K mulR) := ii_lift op_mul fun _ _ h => h
theorem ib_lift {f : Value → Value → Sem Value} {g : Int → Int → Bool} (ho : OpR X f (rI0 fun i j => .bl (g i j))) : OpR X f (LR2 X.K (iiR (fun i j => .bl (g i j)) fun _ _ => True)) :=
  OpR.imp ho fun x y H Q ⟨G, d1, d2, S, Q', r, gg, l1, l2, h, k⟩ => by
    cases d1 with
    | int i => cases d2 with
      | int j => exact ⟨i, j, l1.of_int, l2.of_int, k.now r Rl.bl h.2⟩
      | _ => exact False.elim h
    | _ => exact False.elim h
abbrev ltR : RD2 := iiR (fun i j => .bl (decide (i < j))) fun _ _ => True
abbrev leR : RD2 := iiR (fun i j => .bl (decide (i ≤ j))) fun _ _ => True
abbrev gtR : RD2 := iiR (fun i j => .bl (decide (j < i))) fun _ _ => True
abbrev geR : RD2 := iiR (fun i j => .bl (decide (j ≤ i))) fun _ _ => True
theorem or_lt : OpR X (compareOp .Lt) (LR2 X.K ltR) := ib_lift op_lt
theorem or_le : OpR X (compareOp .LtE) (LR2 X.K leR) := ib_lift op_le
theorem or_gt : OpR X (compareOp .Gt) (LR2 X.K gtR) := ib_lift op_gt
theorem or_ge : OpR X (compareOp .GtE) (LR2 X.K geR) := ib_lift op_ge
/-- + -/
def addR (c : Bool) : RD2 := fun x y S Q => match x with
  | .int i => (match y with
    | .int j => Q (.int (i + j)) S
    | _ => False)
  | .str a => (match y with
    | .str b => a.length + b.length ≤ sizeLine ∧ Q (.str (a ++ b)) S
    | _ => False)
  | .tup xs => ∃ ys, asT y = some ys ∧ xs.length + ys.length ≤ sizeLine ∧ Q (.tup (xs ++ ys)) S
  | .tpk ns => ∃ ys, asT y = some ys ∧ ns.length + ys.length ≤ sizeLine ∧ Q (.tup (ns.map D.int ++ ys)) S
  | x => ∃ xs ys, asM S x = some xs ∧ asM S y = some ys ∧ xs.length + ys.length ≤ sizeLine ∧ mkL c (xs ++ ys) S Q
theorem Rl.weak {K : PySem.W.Frag} {H : Hp} {nf : Addr → Prop} {d : D} {xs : List D} {v : V} (h : asT d = some xs) (l : Rl K H nf d v) : Rl K H nf (.tup xs) v := by
  cases d with
  | tup ys => cases h; exact l
  | tpk ns =>
    cases h
    obtain ⟨a, rfl, h1⟩ := l.of_tpk
    exact Rl.tup h1.sq (RlA.ints ns)
  | _ => cases h
theorem or_add (c : Bool) : OpR X (binaryOp .Add) (LR2 X.K (addR c)) := by
  refine OpR.imp (OpR.or op_add (OpR.or op_add_str (OpR.or op_catA op_cat))) fun x y H Q ⟨G, d1, d2, S, Q', r, g, l1, l2, h, k⟩ => ?_
  have lists : (∃ xs ys, asM S d1 = some xs ∧ asM S d2 = some ys ∧ xs.length + ys.length ≤ sizeLine ∧ mkL c (xs ++ ys) S Q') → rCat x y H Q := fun ⟨xs, ys, e1, e2, hl, q⟩ => by
    obtain ⟨p, vs, rfl, h1, a1⟩ := of_asM r e1 l1
    obtain ⟨p2, ws, rfl, h2, a2⟩ := of_asM r e2 l2
    exact ⟨p, p2, vs, ws, rfl, rfl, h1, h2, by rw [← a1.length, ← a2.length]; exact hl, fun q' n => mkL_ok r g (RlA.app a1 a2) n q k⟩
  have tups : ∀ xs, asT d1 = some xs → (∃ ys, asT d2 = some ys ∧ xs.length + ys.length ≤ sizeLine ∧ Q' (.tup (xs ++ ys)) S) → rCatA X.K x y H Q := fun i e1 ⟨j, e2, hl, q⟩ => by
    have w1 := l1.weak e1
    have w2 := l2.weak e2
    obtain ⟨p, vs, rfl, h1, a1⟩ := of_asT e1 l1
    obtain ⟨p2, ws, rfl, h2, a2⟩ := of_asT e2 l2
    refine ⟨p, p2, vs, ws, rfl, rfl, h1, h2, by rw [← a1.length, ← a2.length]; exact hl, fun z => ?_, fun _ z => ?_, fun _ _ q' n => tup_ok r (RlA.app a1 a2) n q k⟩
    · subst z
      have e : i = [] := List.length_eq_zero_iff.mp (by rw [a1.length]; rfl)
      subst e
      exact k.now r w2 q
    · subst z
      have e : j = [] := List.length_eq_zero_iff.mp (by rw [a2.length]; rfl)
      subst e
      rw [List.append_nil] at q
      exact k.now r w1 q
  cases d1 with
  | int i => cases d2 with
    | int j => exact .inl ⟨i, j, l1.of_int, l2.of_int, k.now r Rl.int h⟩
    | _ => exact False.elim h
  | str i => cases d2 with
    | str j => exact .inr (.inl ⟨i, j, l1.of_str, l2.of_str, h.1, k.now r Rl.str h.2⟩)
    | _ => exact False.elim h
  | tup i => exact .inr (.inr (.inl (tups i rfl h)))
  | tpk i =>
    obtain ⟨ys, e, hl, q⟩ := h
    exact .inr (.inr (.inl (tups _ rfl ⟨ys, e, by rw [List.length_map]; exact hl, q⟩)))
  | _ => exact .inr (.inr (.inr (lists h)))
/-! is None, is True -/
def isNR (neg : Bool) : RD2 := fun x y S Q => match y with
  | .non => (match x with
    | .non => Q (.bl (!neg)) S
    | _ => Q (.bl neg) S)
  | .bl b => (match x with
    | .bl a => Q (.bl (if neg then !decide (a = b) else decide (a = b))) S
    | _ => False)
  | _ => False
theorem Rl.ne_non {K : PySem.W.Frag} {H : Hp} {nf : Addr → Prop} {d : D} {v : V} (l : Rl K H nf d v) (h : d ≠ .non) : v ≠ .non := by
  cases d with
  | non => exact absurd rfl h
  | int i => rw [l.of_int]; intro z; cases z
  | bl i => rw [l.of_bl]; intro z; cases z
  | str i => rw [l.of_str]; intro z; cases z
  | ref i => rw [l.of_ref]; intro z; cases z
  | ty i => rw [l.of_ty]; intro z; cases z
  | tup i => obtain ⟨a, vs, rfl, _⟩ := l.of_tup; intro z; cases z
  | lst i => obtain ⟨a, vs, rfl, _⟩ := l.of_lst; intro z; cases z
  | tpk i => obtain ⟨a, rfl, _⟩ := l.of_tpk; intro z; cases z
  | scr i => obtain ⟨a, rfl, _⟩ := l.of_scr; intro z; cases z
theorem or_is : OpR X (compareOp .Is) (LR2 X.K (isNR false)) := OpR.imp (OpR.or op_isN op_is_bl) fun x y H Q ⟨G, d1, d2, S, Q', r, g, l1, l2, h, k⟩ => by
  cases d2 with
  | non =>
    refine .inl ⟨l2.of_non, ?_⟩
    cases d1 with
    | non => rw [l1.of_non]; exact k.now r Rl.bl h
    | _ => rw [decide_eq_false (l1.ne_non (by intro z; cases z))]; exact k.now r Rl.bl h
  | bl b => cases d1 with
    | bl a => exact .inr ⟨a, b, l1.of_bl, l2.of_bl, k.now r Rl.bl h⟩
    | _ => exact False.elim h
  | _ => exact False.elim h
theorem or_isnot : OpR X (compareOp .IsNot) (LR2 X.K (isNR true)) := OpR.imp (OpR.or op_notN op_isnot_bl) fun x y H Q ⟨G, d1, d2, S, Q', r, g, l1, l2, h, k⟩ => by
  cases d2 with
  | non =>
    refine .inl ⟨l2.of_non, ?_⟩
    cases d1 with
    | non => rw [l1.of_non]; exact k.now r Rl.bl h
    | _ => rw [decide_eq_false (l1.ne_non (by intro z; cases z))]; exact k.now r Rl.bl h
  | bl b => cases d1 with
    | bl a => exact .inr ⟨a, b, l1.of_bl, l2.of_bl, k.now r Rl.bl h⟩
    | _ => exact False.elim h
  | _ => exact False.elim h
end
end DL

/-! DL, part D: equality, in, places, slices, built-ins. -/
namespace DL
open PySem PySem.Spec PyProof.Rows L2

/-! ### data that is compared -/
mutual
def toP : D → PyData
  | .non => .none
  | .bl b => .bool b
  | .int i => .int i
  | .str x => .str x
  | .tup xs => .tuple (toPs xs)
  | .lst xs => .list (toPs xs)
  | .scr ns => .list (ns.map PyData.int)
  | .tpk ns => .tuple (ns.map PyData.int)
  | .ref _ => .none
  | .ty _ => .none
def toPs : List D → List PyData
  | [] => []
  | x :: xs => toP x :: toPs xs
end
mutual
/-- data of a depth of at most n: no cells, texts that are texts -/
def shp : Nat → D → Bool
  | _, .non => true
  | _, .bl _ => true
  | _, .int _ => true
  | _, .str x => PyData.strOk x
  | n + 1, .tup xs => shps n xs
  | n + 1, .lst xs => shps n xs
  | _ + 1, .scr _ => true
  | _ + 1, .tpk _ => true
  | _, _ => false
def shps : Nat → List D → Bool
  | _, [] => true
  | n, x :: xs => shp n x && shps n xs
end
def deq (x y : D) : Bool := PyData.eqv (toP x) (toP y)
def deqs (x y : List D) : Bool := PyData.eqvAll (toPs x) (toPs y)
/-- a cell of a list as its list -/
def vw (S : Sto) : D → D
  | .ref a => match S a with
    | some (.lst xs) => .lst xs
    | _ => .ref a
  | d => d
theorem toPs_map (xs : List D) : toPs xs = xs.map toP := by
  induction xs with
  | nil => simp [toPs]
  | cons x xs ih => simp [toPs, ih]
theorem shps_all (n : Nat) (xs : List D) : shps n xs = xs.all (shp n) := by
  induction xs with
  | nil => simp [shps]
  | cons x xs ih => simp [shps, ih]
theorem shp_int {n : Nat} {i : Int} : shp n (.int i) = true := by cases n <;> simp [shp]
theorem shp_bl {n : Nat} {i : Bool} : shp n (.bl i) = true := by cases n <;> simp [shp]
theorem shp_non {n : Nat} : shp n .non = true := by cases n <;> simp [shp]
theorem shp_tup {n : Nat} {xs : List D} : shp (n + 1) (.tup xs) = xs.all (shp n) := by rw [← shps_all]; simp [shp]
theorem shp_lst {n : Nat} {xs : List D} : shp (n + 1) (.lst xs) = xs.all (shp n) := by rw [← shps_all]; simp [shp]
theorem canInts (ns : List Int) : PyData.canLayAll0 (ns.map PyData.int) = true := by
  induction ns with
  | nil => simp [PyData.canLayAll0]
  | cons x xs ih => simp [PyData.canLayAll0, PyData.canLay0, ih]
theorem depInts (ns : List Int) : PyData.depthAll (ns.map PyData.int) = 0 := by
  induction ns with
  | nil => simp [PyData.depthAll]
  | cons x xs ih => simp [PyData.depthAll, PyData.depth, ih]
mutual
theorem shp_ok : ∀ (n : Nat) (d : D), shp n d = true → (toP d).canLay0 = true ∧ (toP d).depth ≤ n
  | n, .non, _ => by simp [toP, PyData.canLay0, PyData.depth]
  | n, .bl b, _ => by simp [toP, PyData.canLay0, PyData.depth]
  | n, .int i, _ => by simp [toP, PyData.canLay0, PyData.depth]
  | n, .str x, h => by
    have h : PyData.strOk x = true := by cases n <;> simpa [shp] using h
    simp [toP, PyData.canLay0, PyData.depth, h]
  | n + 1, .tup xs, h => by
    obtain ⟨h1, h2⟩ := shps_ok n xs (by simpa [shp] using h)
    simp [toP, PyData.canLay0, PyData.depth, h1, h2]
  | n + 1, .lst xs, h => by
    obtain ⟨h1, h2⟩ := shps_ok n xs (by simpa [shp] using h)
    simp [toP, PyData.canLay0, PyData.depth, h1, h2]
  | n + 1, .scr ns, h => by
    simp [toP, PyData.canLay0, PyData.depth, canInts, depInts]
  | n + 1, .tpk ns, h => by
    simp [toP, PyData.canLay0, PyData.depth, canInts, depInts]
  | 0, .tup xs, h => by simp [shp] at h
  | 0, .lst xs, h => by simp [shp] at h
  | 0, .scr xs, h => by simp [shp] at h
  | 0, .tpk xs, h => by simp [shp] at h
  | n, .ref a, h => by cases n <;> simp [shp] at h
  | n, .ty a, h => by cases n <;> simp [shp] at h
theorem shps_ok : ∀ (n : Nat) (ds : List D), shps n ds = true → PyData.canLayAll0 (toPs ds) = true ∧ PyData.depthAll (toPs ds) ≤ n
  | n, [], _ => by simp [toPs, PyData.canLayAll0, PyData.depthAll]
  | n, x :: xs, h => by
    have h : shp n x = true ∧ shps n xs = true := by simpa [shps] using h
    obtain ⟨h1, h2⟩ := shp_ok n x h.1
    obtain ⟨h3, h4⟩ := shps_ok n xs h.2
    simp [toPs, PyData.canLayAll0, PyData.depthAll, h1, h2, h3, h4]
    omega
end
theorem shaped_of {d : D} (h : shp 64 d = true) : SeqAt.shaped (toP d) = true := by
  obtain ⟨h1, h2⟩ := shp_ok 64 d h
  simp [SeqAt.shaped, h1, h2]
section
variable {K : PySem.W.Frag} {H : Hp} {nf : Addr → Prop}
theorem dpInts : ∀ (ns : List Int), DpAll K H (ns.map V.int) (ns.map PyData.int)
  | [] => .nil
  | n :: r => .cons (.int n) (dpInts r)
mutual
theorem Rl.dp : ∀ (n : Nat) (d : D) (v : V), shp n d = true → Rl K H nf d v → Dp K H v (toP d)
  | n, .non, v, _, h => by rw [h.of_non]; simp only [toP]; exact .non
  | n, .bl b, v, _, h => by rw [h.of_bl]; simp only [toP]; exact .bl b
  | n, .int i, v, _, h => by rw [h.of_int]; simp only [toP]; exact .int i
  | n, .str x, v, _, h => by rw [h.of_str]; simp only [toP]; exact .str x
  | n + 1, .tup xs, v, s, h => by
    obtain ⟨a, vs, rfl, h1, h2⟩ := h.of_tup
    simp only [toP]
    exact .tup h1 (RlA.dp n xs vs (by simpa [shp] using s) h2)
  | n + 1, .lst xs, v, s, h => by
    obtain ⟨a, vs, rfl, h1, _, h2⟩ := h.of_lst
    simp only [toP]
    exact .lst (.inl (.inl h1)) (RlA.dp n xs vs (by simpa [shp] using s) h2)
  | n + 1, .scr ns, v, s, h => by
    obtain ⟨a, rfl, h1⟩ := h.of_scr
    simp only [toP]
    exact .lst h1 (dpInts ns)
  | n + 1, .tpk ns, v, s, h => by
    obtain ⟨a, rfl, h1⟩ := h.of_tpk
    simp only [toP]
    exact .tup h1.sq (dpInts ns)
  | 0, .tup xs, _, s, _ => by simp [shp] at s
  | 0, .lst xs, _, s, _ => by simp [shp] at s
  | 0, .scr xs, _, s, _ => by simp [shp] at s
  | 0, .tpk xs, _, s, _ => by simp [shp] at s
  | n, .ref a, _, s, _ => by cases n <;> simp [shp] at s
  | n, .ty a, _, s, _ => by cases n <;> simp [shp] at s
theorem RlA.dp : ∀ (n : Nat) (ds : List D) (vs : List V), shps n ds = true → RlA K H nf ds vs → DpAll K H vs (toPs ds)
  | n, [], vs, _, h => by rw [h.of_nil]; simp only [toPs]; exact .nil
  | n, x :: xs, vs, s, h => by
    obtain ⟨v, r, rfl, h1, h2⟩ := h.of_cons
    have s : shp n x = true ∧ shps n xs = true := by simpa [shps] using s
    simp only [toPs]
    exact .cons (Rl.dp n x v s.1 h1) (RlA.dp n xs r s.2 h2)
end
end
theorem vw_dp {K : PySem.W.Frag} {G : Addr → Prop} {S : Sto} {H : Hp} {d : D} {v : V} (r : RepS K G S H) (s : shp 64 (vw S d) = true) (l : Rl K H (nfz G S) d v) : Dp K H v (toP (vw S d)) := by
  cases d with
  | ref a =>
    obtain rfl := l.of_ref
    cases q : S a with
    | none => simp [vw, q, shp] at s
    | some c =>
      cases c with
      | lst xs =>
        obtain ⟨vs, h1, h2⟩ := r.lst q
        simp only [vw, q] at s ⊢
        simp only [toP]
        exact .lst (.inl (.inl h1)) (RlA.dp 63 xs vs (by simpa [shp] using s) h2)
      | _ => simp [vw, q, shp] at s
  | _ => exact Rl.dp 64 _ v s l

section
variable {X : Cx} {C : Ct}
def eqDR (neg : Bool) : RD2 := fun x y S Q => shp 64 (vw S x) = true ∧ shp 64 (vw S y) = true ∧ Q (.bl (if neg then !deq (vw S x) (vw S y) else deq (vw S x) (vw S y))) S
def eqSR (neg : Bool) : RD2 := fun x y S Q => ∃ a b, x = .str a ∧ y = .str b ∧ Q (.bl (if neg then !decide (a = b) else decide (a = b))) S
def eqR (neg : Bool) : RD2 := fun x y S Q => eqSR neg x y S Q ∨ eqDR neg x y S Q
theorem dec_strV {a b : Str} : decide (V.str a = V.str b) = decide (a = b) := by
  by_cases h : a = b
  · subst h; rw [decide_eq_true rfl, decide_eq_true rfl]
  · rw [decide_eq_false h, decide_eq_false fun q => h (V.str.inj q)]
theorem or_eq (hu : X.A.units + 64 < cLine) : OpR X (compareOp .Eq) (LR2 X.K (eqR false)) := OpR.imp (OpR.or op_eq (op_eqD hu)) fun x y H Q ⟨G, d1, d2, S, Q', r, g, l1, l2, h, k⟩ => by
  rcases h with ⟨a, b, rfl, rfl, q⟩ | h
  · rw [l1.of_str, l2.of_str]
    exact .inl ⟨rfl, by rw [dec_strV]; exact k.now r Rl.bl q⟩
  · exact .inr ⟨_, _, vw_dp r h.1 l1, vw_dp r h.2.1 l2, shaped_of h.1, shaped_of h.2.1, k.now r Rl.bl h.2.2⟩
theorem or_ne (hu : X.A.units + 64 < cLine) : OpR X (compareOp .NotEq) (LR2 X.K (eqR true)) := OpR.imp (OpR.or op_ne (op_neD hu)) fun x y H Q ⟨G, d1, d2, S, Q', r, g, l1, l2, h, k⟩ => by
  rcases h with ⟨a, b, rfl, rfl, q⟩ | h
  · rw [l1.of_str, l2.of_str]
    exact .inl ⟨rfl, by rw [dec_strV]; exact k.now r Rl.bl q⟩
  · exact .inr ⟨_, _, vw_dp r h.1 l1, vw_dp r h.2.1 l2, shaped_of h.1, shaped_of h.2.1, k.now r Rl.bl h.2.2⟩

def flatD : D → Bool
  | .non => true
  | .bl _ => true
  | .int _ => true
  | .str _ => true
  | _ => false
theorem flat_v {K : PySem.W.Frag} {H : Hp} {nf : Addr → Prop} {d : D} {v : V} (f : flatD d = true) (l : Rl K H nf d v) : flatV v = true := by
  cases d with
  | non => rw [l.of_non]; rfl
  | bl b => rw [l.of_bl]; rfl
  | int b => rw [l.of_int]; rfl
  | str b => rw [l.of_str]; rfl
  | _ => exact absurd f Bool.false_ne_true
theorem flat_eq {K : PySem.W.Frag} {H : Hp} {nf : Addr → Prop} {d d' : D} {v v' : V} (f : flatD d = true) (f' : flatD d' = true) (l : Rl K H nf d v) (l' : Rl K H nf d' v') : eqV v v' = deq d d' := by
  cases d with
  | non => rw [l.of_non]; cases d' with
    | non => rw [l'.of_non]; simp [eqV, deq, toP, PyData.eqv]
    | bl b => rw [l'.of_bl]; simp [eqV, deq, toP, PyData.eqv]
    | int b => rw [l'.of_int]; simp [eqV, deq, toP, PyData.eqv]
    | str b => rw [l'.of_str]; simp [eqV, deq, toP, PyData.eqv]
    | _ => exact absurd f' Bool.false_ne_true
  | bl b => rw [l.of_bl]; cases d' with
    | non => rw [l'.of_non]; simp [eqV, deq, toP, PyData.eqv]
    | bl b => rw [l'.of_bl]; simp [eqV, deq, toP, PyData.eqv]
    | int b => rw [l'.of_int]; simp [eqV, deq, toP, PyData.eqv]
    | str b => rw [l'.of_str]; simp [eqV, deq, toP, PyData.eqv]
    | _ => exact absurd f' Bool.false_ne_true
  | int b => rw [l.of_int]; cases d' with
    | non => rw [l'.of_non]; simp [eqV, deq, toP, PyData.eqv]
    | bl b => rw [l'.of_bl]; simp [eqV, deq, toP, PyData.eqv]
    | int b => rw [l'.of_int]; simp [eqV, deq, toP, PyData.eqv]
    | str b => rw [l'.of_str]; simp [eqV, deq, toP, PyData.eqv]
    | _ => exact absurd f' Bool.false_ne_true
  | str b => rw [l.of_str]; cases d' with
    | non => rw [l'.of_non]; simp [eqV, deq, toP, PyData.eqv]
    | bl b => rw [l'.of_bl]; simp [eqV, deq, toP, PyData.eqv]
    | int b => rw [l'.of_int]; simp [eqV, deq, toP, PyData.eqv]
    | str b => rw [l'.of_str]; simp [eqV, deq, toP, PyData.eqv]
    | _ => exact absurd f' Bool.false_ne_true
  | _ => exact absurd f Bool.false_ne_true
theorem flat_any {K : PySem.W.Frag} {H : Hp} {nf : Addr → Prop} {d : D} {v : V} (f : flatD d = true) (l : Rl K H nf d v) : ∀ {xs : List D} {vs : List V}, xs.all flatD = true → RlA K H nf xs vs → vs.all flatV = true ∧ inV v vs = xs.any fun z => deq z d
  | [], vs, _, h => by rw [h.of_nil]; exact ⟨rfl, rfl⟩
  | x :: xs, vs, g, h => by
    obtain ⟨w, r, rfl, h1, h2⟩ := h.of_cons
    rw [List.all_cons, Bool.and_eq_true] at g
    obtain ⟨i1, i2⟩ := flat_any f l g.2 h2
    refine ⟨by rw [List.all_cons, flat_v g.1 h1, i1]; rfl, ?_⟩
    unfold inV at i2 ⊢
    rw [List.any_cons, List.any_cons, flat_eq g.1 f h1 l, i2]
/-- x in y -/
def inR (neg : Bool) : RD2 := fun x y S Q => match y with
  | .str z => ∃ c : Nat, x = .str ⟨#[c]⟩ ∧ Q (.bl (if neg then !decide (c ∈ z.cps.toList) else decide (c ∈ z.cps.toList))) S
  | .tup xs => flatD x = true ∧ xs.all flatD = true ∧ Q (.bl (if neg then !(xs.any fun z => deq z x) else xs.any fun z => deq z x)) S
  | .tpk ns => flatD x = true ∧ Q (.bl (if neg then !(ns.any fun z => deq (.int z) x) else ns.any fun z => deq (.int z) x)) S
  | y => ∃ xs, asL S y = some xs ∧ shp 64 x = true ∧ shp 64 (.lst xs) = true ∧ Q (.bl (if neg then !(xs.any fun z => deq z x) else xs.any fun z => deq z x)) S
theorem flat_ints (ns : List Int) : (ns.map D.int).all flatD = true := by
  rw [List.all_map, List.all_eq_true]; intro _ _; rfl
theorem any_toP (x : D) (xs : List D) : ((toPs xs).any fun z => PyData.eqv z (toP x)) = xs.any fun z => deq z x := by
  rw [toPs_map, List.any_map]; rfl
theorem asL_dp {K : PySem.W.Frag} {G : Addr → Prop} {S : Sto} {H : Hp} {d : D} {v : V} {xs : List D} (r : RepS K G S H) (e : asL S d = some xs) (s : shp 64 (.lst xs) = true) (l : Rl K H (nfz G S) d v) : Dp K H v (.list (toPs xs)) := by
  obtain ⟨a, vs, rfl, h1, h2⟩ := of_asL r e l
  exact .lst h1 (RlA.dp 63 xs vs (by simpa [shp] using s) h2)
theorem or_in (hu : X.A.units + 65 < cLine) : OpR X (compareOp .In) (LR2 X.K (inR false)) := by
  refine OpR.imp (OpR.or op_in_sign (OpR.or op_in_seq (op_inD hu))) fun x y H Q ⟨G, d1, d2, S, Q', r, g, l1, l2, h, k⟩ => ?_
  have lists : (∃ xs, asL S d2 = some xs ∧ shp 64 d1 = true ∧ shp 64 (.lst xs) = true ∧ Q' (.bl (xs.any fun z => deq z d1)) S) → rInD X.K x y H Q := fun ⟨xs, e, s1, s2, q⟩ =>
    ⟨_, toPs xs, Rl.dp 64 _ _ s1 l1, asL_dp r e s2 l2, shaped_of s1, by have := shaped_of s2; simpa [toP] using this, by rw [any_toP]; exact k.now r Rl.bl q⟩
  cases d2 with
  | str z =>
    obtain ⟨c, rfl, q⟩ := h
    exact .inl ⟨c, z, l1.of_str, l2.of_str, k.now r Rl.bl q⟩
  | tup xs =>
    obtain ⟨f1, f2, q⟩ := h
    obtain ⟨p, vs, rfl, h1, a1⟩ := l2.of_tup
    obtain ⟨i1, i2⟩ := flat_any f1 l1 f2 a1
    exact .inr (.inl ⟨p, vs, rfl, .inr h1, flat_v f1 l1, i1, by rw [i2]; exact k.now r Rl.bl q⟩)
  | tpk ns =>
    obtain ⟨f1, q⟩ := h
    obtain ⟨p, rfl, h1⟩ := l2.of_tpk
    obtain ⟨i1, i2⟩ := flat_any f1 l1 (flat_ints ns) (RlA.ints ns)
    exact .inr (.inl ⟨p, _, rfl, .inr h1.sq, flat_v f1 l1, i1, by rw [i2, List.any_map]; exact k.now r Rl.bl q⟩)
  | _ => exact .inr (.inr (lists h))
theorem or_notin (hu : X.A.units + 65 < cLine) : OpR X (compareOp .NotIn) (LR2 X.K (inR true)) := by
  refine OpR.imp (OpR.or op_notIn_sign (OpR.or op_notIn_seq (op_notInD hu))) fun x y H Q ⟨G, d1, d2, S, Q', r, g, l1, l2, h, k⟩ => ?_
  have lists : (∃ xs, asL S d2 = some xs ∧ shp 64 d1 = true ∧ shp 64 (.lst xs) = true ∧ Q' (.bl (!(xs.any fun z => deq z d1))) S) → rNotInD X.K x y H Q := fun ⟨xs, e, s1, s2, q⟩ =>
    ⟨_, toPs xs, Rl.dp 64 _ _ s1 l1, asL_dp r e s2 l2, shaped_of s1, by have := shaped_of s2; simpa [toP] using this, by rw [any_toP]; exact k.now r Rl.bl q⟩
  cases d2 with
  | str z =>
    obtain ⟨c, rfl, q⟩ := h
    exact .inl ⟨c, z, l1.of_str, l2.of_str, k.now r Rl.bl q⟩
  | tup xs =>
    obtain ⟨f1, f2, q⟩ := h
    obtain ⟨p, vs, rfl, h1, a1⟩ := l2.of_tup
    obtain ⟨i1, i2⟩ := flat_any f1 l1 f2 a1
    exact .inr (.inl ⟨p, vs, rfl, .inr h1, flat_v f1 l1, i1, by rw [i2]; exact k.now r Rl.bl q⟩)
  | tpk ns =>
    obtain ⟨f1, q⟩ := h
    obtain ⟨p, rfl, h1⟩ := l2.of_tpk
    obtain ⟨i1, i2⟩ := flat_any f1 l1 (flat_ints ns) (RlA.ints ns)
    exact .inr (.inl ⟨p, _, rfl, .inr h1.sq, flat_v f1 l1, i1, by rw [i2, List.any_map]; exact k.now r Rl.bl q⟩)
  | _ => exact .inr (.inr (lists h))

/-! ### places and slices -/
/-- a list's or a tuple's items -/
def asQ (S : Sto) : D → Option (List D)
  | .tup xs => some xs
  | .tpk ns => some (ns.map D.int)
  | d => asL S d
theorem atI_rl {K : PySem.W.Frag} {H : Hp} {nf : Addr → Prop} {xs : List D} {vs : List V} {i : Int} {d : D} (a : RlA K H nf xs vs) (h : atI xs i = some d) : ∃ v, atI vs i = some v ∧ Rl K H nf d v := by
  unfold atI at h ⊢
  rw [a.length] at h
  cases q : ixN vs.length i with
  | none => rw [q] at h; cases h
  | some j => rw [q] at h; exact a.getD h
def ixR : RD2 := fun x y S Q => match y with
  | .int i => (match x with
    | .str z => ∃ c, z.length ≤ sizeLine ∧ atI z.cps.toList i = some c ∧ Q (.str ⟨#[c]⟩) S
    | x => ∃ xs d, asQ S x = some xs ∧ atI xs i = some d ∧ Q d S)
  | _ => False
theorem IxR.imp {r r' : R2} (h : IxR X r) (i : ∀ x y H Q, r' x y H Q → r x y H Q) : IxR X r' := by
  intro e1 e2 pins s σ H x y v u Q I rx ry q hs
  exact h e1 e2 pins s σ H x y v u Q I rx ry (i x y H Q q) hs
theorem ixr : IxR X (LR2 X.K ixR) := by
  refine IxR.imp ix_seq fun x y H Q ⟨G, d1, d2, S, Q', r, g, l1, l2, h, k⟩ => ?_
  cases d2 with
  | int i =>
    have lists : (∃ xs d, asQ S d1 = some xs ∧ atI xs i = some d ∧ Q' d S) → rIx X.K x y H Q := fun ⟨xs, d, e, ea, q⟩ => by
      rw [l2.of_int]
      have gl : ∀ ys, asL S d1 = some ys → ys = xs → rIx X.K x (.int i) H Q := fun ys e' z => by
        subst z
        obtain ⟨p, vs, rfl, h1, a1⟩ := of_asL r e' l1
        obtain ⟨v, e1, e2⟩ := atI_rl a1 ea
        exact .inl ⟨p, vs, i, v, rfl, rfl, h1, e1, k.now r e2 q⟩
      cases d1 with
      | tup ys =>
        cases e
        obtain ⟨p, vs, rfl, h1, a1⟩ := l1.of_tup
        obtain ⟨v, e1, e2⟩ := atI_rl a1 ea
        exact .inr (.inl ⟨p, vs, i, v, rfl, rfl, h1, e1, k.now r e2 q⟩)
      | tpk ns =>
        cases e
        obtain ⟨p, rfl, h1⟩ := l1.of_tpk
        obtain ⟨v, e1, e2⟩ := atI_rl (RlA.ints ns) ea
        exact .inr (.inl ⟨p, _, i, v, rfl, rfl, h1.sq, e1, k.now r e2 q⟩)
      | _ => exact gl _ e rfl
    cases d1 with
    | str z =>
      obtain ⟨c, h1, h2, q⟩ := h
      exact .inr (.inr ⟨z, i, c, l1.of_str, l2.of_int, h1, h2, k.now r Rl.str q⟩)
    | _ => exact lists h
  | _ => exact False.elim h
theorem de_ix {a b : Expr} {ta tb : TDE} {pos : Pos} (ha : DE X C a ta) (hb : DE X C b tb) (hs : PlainIx b := by exact fun _ _ => rfl) : DE X C (.Subscript a b pos) (dOp ixR ta tb) :=
  ⟨PE.imp (pe_ix ixr ha.pe hb.pe hs) fun σ H Q ⟨G, e, S, Q', at', h, k⟩ => bin_ok at' h k⟩

abbrev TDO := En → Sto → (Option Int → Sto → Prop) → Prop
def LO (K : PySem.W.Frag) (C : Ct) (t : TDO) : TO := fun σ H Q => ∃ G e S Q', At K C G e S σ H ∧ t e S Q' ∧ ∀ o S' H', Tr S H S' H' → RepS K G S' H' → Q' o S' → Q o H'
structure DO (X : Cx) (C : Ct) (e : Option Expr) (t : TDO) : Prop where
  po : PO X e (LO X.K C t)
def dNo : TDO := fun _ S Q => Q none S
def dSo (t : TDE) : TDO := fun e S Q => t e S fun d S' => match d with
  | .int i => Q (some i) S'
  | _ => False
theorem PO.imp {e : Option Expr} {t t' : TO} (h : PO X e t) (i : ∀ σ H Q, t' σ H Q → t σ H Q) : PO X e t' := by
  constructor
  intro pins s σ H Q I q
  exact h.run pins s σ H Q I (i σ H Q q)
theorem do_no : DO X C none dNo := ⟨PO.imp po_none fun σ H Q ⟨G, e, S, Q', at', h, k⟩ => k _ S H Tr.refl at'.rep h⟩
theorem do_so {a : Expr} {t : TDE} (h : DE X C a t) : DO X C (some a) (dSo t) := ⟨PO.imp (po_some h.pe) fun σ H Q ⟨G, e, S, Q', at', h, k⟩ => ⟨G, e, S, _, at', h, fun d S' v H' t r l q => by
  cases d with
  | int i => exact ⟨i, l.of_int, k _ S' H' t r q⟩
  | _ => exact False.elim q⟩⟩
def cutL {α : Type} (xs : List α) (lo hi : Option Int) : List α := (xs.drop (HT.sIx xs.length 0 lo)).take (HT.sIx xs.length xs.length hi - HT.sIx xs.length 0 lo)
theorem RlA.cut {K : PySem.W.Frag} {H : Hp} {nf : Addr → Prop} {xs : List D} {vs : List V} (a : RlA K H nf xs vs) (lo hi : Option Int) : RlA K H nf (cutL xs lo hi) (cutV vs lo hi) := by
  unfold cutL cutV
  rw [a.length]
  exact (a.drop _).take _
theorem cut_all {α : Type} {xs : List α} {lo hi : Option Int} (h : HT.sIx xs.length 0 lo = 0 ∧ HT.sIx xs.length xs.length hi = xs.length) : cutL xs lo hi = xs := by
  unfold cutL
  rw [h.1, h.2]; simp
def slR (c : Bool) (x : D) (lo hi : Option Int) (S : Sto) (Q : KD) : Prop := match x with
  | .str z => z.length ≤ sizeLine ∧ Q (.str (cutS z lo hi)) S
  | .tup xs => Q (.tup (cutL xs lo hi)) S
  | .tpk ns => Q (.tup (cutL (ns.map D.int) lo hi)) S
  | x => ∃ xs, asL S x = some xs ∧ mkL c (cutL xs lo hi) S Q
def dSl (c : Bool) (t : TDE) (tl th : TDO) : TDE := fun e S Q => t e S fun x S1 => tl e S1 fun lo S2 => th e S2 fun hi S3 => slR c x lo hi S3 Q
def LSl (K : PySem.W.Frag) (c : Bool) : V → Option Int → Option Int → Hp → VK → Prop := fun x lo hi H Q => ∃ G d S Q', RepS K G S H ∧ GOk G H ∧ Rl K H (nfz G S) d x ∧ slR c d lo hi S Q' ∧ Aft K G S H Q' Q
theorem sl_any (c : Bool) : SlR X (LSl X.K c) := by
  have base := SlR.or (sl_str (X := X)) (SlR.or (sl_tupA (X := X)) (sl_list (X := X)))
  intro pins s σ H x v vl vu lo hi sl Q I rx hs pl pu h
  refine base pins s σ H x v vl vu lo hi sl Q I rx hs pl pu ?_
  obtain ⟨G, d, S, Q', r, g, l, h, k⟩ := h
  have lists : (∃ xs, asL S d = some xs ∧ mkL c (cutL xs lo hi) S Q') → rSlL X.K x lo hi H Q := fun ⟨xs, e, q⟩ => by
    obtain ⟨p, vs, rfl, h1, a1⟩ := of_asL r e l
    exact ⟨p, vs, rfl, h1, fun q' n => mkL_ok r g (a1.cut lo hi) n q k⟩
  have tups : ∀ xs, asT d = some xs → Q' (.tup (cutL xs lo hi)) S → rSlA X.K x lo hi H Q := fun xs e h => by
    have w := l.weak e
    obtain ⟨p, vs, rfl, h1, a1⟩ := of_asT e l
    refine ⟨p, vs, rfl, h1, fun z => ?_, fun _ q n => tup_ok r (a1.cut lo hi) n h k⟩
    rw [← a1.length] at z
    rw [cut_all z] at h
    exact k.now r w h
  cases d with
  | str z => exact .inl ⟨z, l.of_str, h.1, k.now r Rl.str h.2⟩
  | tup xs => exact .inr (.inl (tups xs rfl h))
  | tpk ns => exact .inr (.inl (tups _ rfl h))
  | _ => exact .inr (.inr (lists h))
theorem de_sl (c : Bool) {a : Expr} {lo hi : Option Expr} {t : TDE} {tl th : TDO} {p2 pos : Pos} (ha : DE X C a t) (hl : DO X C lo tl) (hh : DO X C hi th) : DE X C (.Subscript a (.Slice lo hi none p2) pos) (dSl c t tl th) :=
  ⟨PE.imp (pe_slice (sl_any c) ha.pe hl.po hh.po) fun σ H Q ⟨G, e, S, Q', at', h, k⟩ => ⟨G, e, S, _, at', h, fun d S1 v H1 t1 r1 l1 h1 => ⟨G, e, S1, _, at'.next t1 r1, h1, fun lo S2 H2 t2 r2 h2 =>
    ⟨G, e, S2, _, (at'.next t1 r1).next t2 r2, h2, fun hi S3 H3 t3 r3 h3 => ⟨G, d, S3, Q', r3, (((at'.next t1 r1).next t2 r2).next t3 r3).g, (l1.tr r1 t2).tr r2 t3, h3, k.tr (t1.trans (t2.trans t3))⟩⟩⟩⟩⟩
end
end DL

/-! DL, part E: statements, loops, comprehensions. -/
namespace DL
open PySem PySem.Spec PyProof.Rows L2

/-! ### small statements and blocks -/
def dNext : TDS := fun D e S => D.nx e S
structure SeqP (t u : TDS) (D : DEnds) (e : En) (S : Sto) : Prop where
  ex : t { D with nx := u D } e S
def dSeq (t u : TDS) : TDS := fun D e S => SeqP t u D e S
theorem seqP_eq {t u : TDS} {D : DEnds} {e : En} {S : Sto} : SeqP t u D e S = t { D with nx := u D } e S := propext ⟨fun h => h.ex, fun h => ⟨h⟩⟩
def dBreak : TDS := fun D e S => D.bk e S
def dCont : TDS := fun D e S => D.ct e S
def dDrop (t : TDE) : TDS := fun D e S => t e S fun _ S' => D.nx e S'
def dRet (t : TDE) : TDS := fun D e S => t e S D.rt
def dRetN : TDS := fun D _ S => D.rt .non S
def dIf (c : TDT) (t u : TDS) : TDS := fun D e S => c e S fun b S' => match b with
  | true => t D e S'
  | false => u D e S'
def dNever : TDS := fun _ _ _ => False
def gN (i : Nat) : TDG := fun d e S Q => Q (e.set i (some d)) S
def gsNil : TDGs := fun ds e S Q => ds = [] ∧ Q e S
def gsCons (g : TDG) (u : TDGs) : TDGs := fun ds e S Q => match ds with
  | d :: r => g d e S fun e' S' => u r e' S' Q
  | [] => False
/-- a tuple of that length is unpacked -/
def gT (n : Nat) (u : TDGs) : TDG := fun d e S Q => match asQ S d with
  | some xs => xs.length = n ∧ u xs e S Q
  | none => False
def dAsg (t : TDE) (g : TDG) : TDS := fun D e S => t e S fun d S' => g d e S' D.nx
def dSet (i : Nat) (t : TDE) : TDS := fun D e S => t e S fun d S' => D.nx (e.set i (some d)) S'

theorem of_asQ {K : PySem.W.Frag} {G : Addr → Prop} {S : Sto} {H : Hp} {d : D} {xs : List D} {v : V} (r : RepS K G S H) (h : asQ S d = some xs) (l : Rl K H (nfz G S) d v) : ∃ a vs, v = .ref a ∧ (SqL K H a vs ∨ SqT K H a vs) ∧ RlA K H (nfz G S) xs vs := by
  have gl : asL S d = some xs → ∃ a vs, v = .ref a ∧ (SqL K H a vs ∨ SqT K H a vs) ∧ RlA K H (nfz G S) xs vs := fun h => by
    obtain ⟨a, vs, e, h1, h2⟩ := of_asL r h l
    exact ⟨a, vs, e, .inl h1, h2⟩
  cases d with
  | tup ys =>
    cases h
    obtain ⟨a, vs, e, h1, h2⟩ := l.of_tup
    exact ⟨a, vs, e, .inr h1, h2⟩
  | tpk ns =>
    cases h
    obtain ⟨a, e, h1⟩ := l.of_tpk
    exact ⟨a, _, e, .inr h1.sq, RlA.ints ns⟩
  | _ => exact gl h
/-- (a, b, ..) = a tuple, or a list, of that length -/
def gSeqA (K : PySem.W.Frag) (n : Nat) (t : TGs) : TG := fun v σ H Q => ∃ a xs, v = .ref a ∧ (SqL K H a xs ∨ SqT K H a xs) ∧ xs.length = n ∧ t xs σ H Q
theorem pg_seqA {X : Cx} {es : List Expr} {k : Nat} {t : TGs} {n : Nat} {pos : Pos} (hc : X.calm = true) (h : PGs X es t)
    (hn : (assignEach es X.env).length = n := by rfl) (hst : (assignEach es X.env).findIdx? (·.1) = none := by rfl) : PG X (.Tuple es k pos) (gSeqA X.K n t) := by
  refine ⟨fun pins s σ H v u Q I r hw => ?_⟩
  obtain ⟨a, xs, e1, hq | hq, hl, hw⟩ := hw
  · subst e1
    cases r
    obtain ⟨its, rv, p, hz⟩ := I.list hq
    rw [arm_assign_Tuple]
    refine wpAny_bind (wpAny_standAt ?_)
    unfold unpack
    rw [hn, hst, show n = its.toArray.size by simp [← hl, rv.length]]
    refine wpAny_bind (wpAny_holding (PySem.W.kun_itemsOf (I.ok.hd hc) p.isList fun h' hx => ?_))
    have I1 : Inv X pins σ H { s with heap := h' } := I.kept (t' := s.toks) fun b o e => hx b o (Nat.ne_of_lt (Heap.lt_size e)) e
    exact h.run pins _ σ H xs _ Q I1 (by simpa using rv) hw
  · exact (pg_tup hc h hn hst).run pins s σ H v u Q I r ⟨a, xs, e1, hq, hl, hw⟩
section
variable {K : PySem.W.Frag} {C : Ct} {G : Addr → Prop} {e : En} {S S' : Sto} {σ : L2.St} {H H' : Hp} {D' : DEnds} {D : Ends}
theorem EndsOk.aft (a : At K C G e S σ H) (k : EndsOk K C G S H D' D) : D'.nx e S → D.nx σ H := fun q => k.nx e S σ H Tr.refl a q
/-- a value, then a store or the like in the same slots -/
theorem aft_nx (a : At K C G e S σ H) (k : EndsOk K C G S H D' D) {i : Nat} {d : D'.nx e S → Prop} : True := trivial
end

section
variable {X : Cx} {C : Ct} {st : Stmt} {rest : List Stmt} {t u : TDS} {a b : Expr} {ta tb : TDE} {pos : Pos}
theorem dss_nil : DSs X C [] dNext := ⟨PSs.imp pss_nil fun D σ H ⟨G, e, S, D', at', h, k⟩ => k.aft at' h⟩
theorem dss_cons (h1 : DS X C st t) (h2 : DSs X C rest u) : DSs X C (st :: rest) (dSeq t u) :=
  ⟨PSs.imp (pss_cons h1.ps h2.ps) fun D σ H ⟨G, e, S, D', at', h, k⟩ => ⟨G, e, S, { D' with nx := u D' }, at', h.ex,
    ⟨fun e2 S2 σ2 H2 t2 a2 q => ⟨G, e2, S2, D', a2, q, k.tr t2⟩, k.bk, k.ct, k.rt⟩⟩⟩
theorem dss_one (h1 : DS X C st t) : DSs X C [st] t := ⟨pss_one h1.ps⟩
theorem dss_never {sts : List Stmt} : DSs X C sts dNever := ⟨PSs.imp pss_never fun D σ H ⟨G, e, S, D', at', h, k⟩ => h⟩
theorem ds_never : DS X C st dNever := ⟨PS.imp ps_never fun D σ H ⟨G, e, S, D', at', h, k⟩ => h⟩
theorem ds_pass : DS X C (.Pass pos) dNext := ⟨PS.imp ps_pass fun D σ H ⟨G, e, S, D', at', h, k⟩ => k.aft at' h⟩
theorem ds_break : DS X C (.Break pos) dBreak := ⟨PS.imp ps_break fun D σ H ⟨G, e, S, D', at', h, k⟩ => k.bk e S σ H Tr.refl at' h⟩
theorem ds_cont : DS X C (.Continue pos) dCont := ⟨PS.imp ps_continue fun D σ H ⟨G, e, S, D', at', h, k⟩ => k.ct e S σ H Tr.refl at' h⟩
theorem ds_doc {x j pos pos'} : DS X C (.Expr (.Constant (.str x) j pos) pos') dNext := ⟨PS.imp ps_doc fun D σ H ⟨G, e, S, D', at', h, k⟩ => k.aft at' h⟩
theorem ds_expr (ha : DE X C a ta) (hs : swapsWith a none pos.line X.env = pure false := by rfl) : DS X C (.Expr a pos) (dDrop ta) :=
  ⟨PS.imp (ps_expr ha.pe hs) fun D σ H ⟨G, e, S, D', at', h, k⟩ => ⟨G, e, S, _, at', h, fun d S1 v H1 t1 r1 l1 q => k.nx e S1 σ H1 t1 (at'.next t1 r1) q⟩⟩
theorem ds_ret (ha : DE X C a ta) : DS X C (.Return (some a) pos) (dRet ta) :=
  ⟨PS.imp (ps_ret ha.pe) fun D σ H ⟨G, e, S, D', at', h, k⟩ => ⟨G, e, S, _, at', h, k.rt⟩⟩
theorem ds_retN : DS X C (.Return none pos) dRetN := ⟨PS.imp ps_retN fun D σ H ⟨G, e, S, D', at', h, k⟩ => k.rt _ S _ H Tr.refl at'.rep Rl.non h⟩
theorem ds_if {c : Expr} {a b : List Stmt} {tc : TDT} (hc : DT X C c tc) (ha : DSs X C a t) (hb : DSs X C b u) : DS X C (.If c a b pos) (dIf tc t u) :=
  ⟨PS.imp (ps_if hc.pt ha.ps hb.ps) fun D σ H ⟨G, e, S, D', at', h, k⟩ => ⟨G, e, S, _, at', h, fun q S1 H1 t1 r1 h1 => by
    cases q with
    | true => exact iteT ⟨G, e, S1, D', at'.next t1 r1, h1, k.tr t1⟩
    | false => exact iteF ⟨G, e, S1, D', at'.next t1 r1, h1, k.tr t1⟩⟩⟩
theorem dg_name {i : Nat} {x : Str} (hN : X.N.Nodup) (hi : X.N[i]? = some x) (hx : Loc X.env.scope x := by first | exact .inl rfl | exact .inr rfl) (hf : X.fn x = true ∨ X.env.scope.names.lookup x = some .local := by first | exact .inl rfl | exact .inr rfl | assumption) : DG X C (.Name x pos) (gN i) :=
  ⟨PG.imp (pg_name hN hi hx hf) fun v σ H Q ⟨G, d, e, S, Q', at', l, h, k⟩ => k _ S _ H Tr.refl (at'.set l) h⟩
theorem dgs_nil : DGs X C [] gsNil := ⟨PGs.imp pgs_nil fun vs σ H Q ⟨G, ds, e, S, Q', at', l, h, k⟩ => by
  obtain ⟨z, h⟩ := h
  subst z
  exact ⟨l.of_nil, k e S σ H Tr.refl at' h⟩⟩
theorem dgs_cons {x : Expr} {es : List Expr} {g : TDG} {u : TDGs} (h1 : DG X C x g) (h2 : DGs X C es u) (hs : (assignEach (x :: es) X.env).map (·.2) = assign x X.env :: (assignEach es X.env).map (·.2) := by rfl) : DGs X C (x :: es) (gsCons g u) :=
  ⟨PGs.imp (pgs_cons h1.pg h2.pg hs) fun vs σ H Q ⟨G, ds, e, S, Q', at', l, h, k⟩ => by
    cases ds with
    | nil => exact False.elim h
    | cons d r =>
      obtain ⟨v, w, rfl, l1, l2⟩ := l.of_cons
      exact ⟨v, w, rfl, G, d, e, S, _, at', l1, h, fun e2 S2 σ2 H2 t2 a2 q => ⟨G, r, e2, S2, Q', a2, l2.tr at'.rep t2, q, k.tr t2⟩⟩⟩
theorem dg_tup {es : List Expr} {k n : Nat} {u : TDGs} (hc : X.calm = true) (h : DGs X C es u) (hn : (assignEach es X.env).length = n := by rfl) (hst : (assignEach es X.env).findIdx? (·.1) = none := by rfl) : DG X C (.Tuple es k pos) (gT n u) :=
  ⟨PG.imp (pg_seqA hc h.pg hn hst) fun v σ H Q ⟨G, d, e, S, Q', at', l, h, k⟩ => by
    unfold gT at h
    cases z : asQ S d with
    | some xs =>
      rw [z] at h
      obtain ⟨a, vs, rfl, h1, l1⟩ := of_asQ at'.rep z l
      exact ⟨a, vs, rfl, h1, by rw [← l1.length]; exact h.1, G, xs, e, S, Q', at', l1, h.2, k⟩
    | none => rw [z] at h; exact False.elim h⟩
theorem ds_asg {tg : Expr} {g : TDG} (ha : DE X C a ta) (hg : DG X C tg g) (hs : swapsWithSole [tg] a pos.line X.env = pure false := by rfl) (hw : swappedStores [tg] a X.env = pure none := by rfl)
    (h1 : (assignEach [tg] X.env).map (·.2) = [assign tg X.env] := by rfl) : DS X C (.Assign [tg] a pos) (dAsg ta g) :=
  ⟨PS.imp (ps_asg ha.pe hg.pg hs hw h1) fun D σ H ⟨G, e, S, D', at', h, k⟩ => ⟨G, e, S, _, at', h, fun d S1 v H1 t1 r1 l1 h1 => ⟨G, d, e, S1, _, at'.next t1 r1, l1, h1, k.nx.tr t1⟩⟩⟩
theorem ds_set {i : Nat} {x : Str} {pos' : Pos} (hN : X.N.Nodup) (hi : X.N[i]? = some x) (ha : DE X C a ta) (hx : Loc X.env.scope x := by first | exact .inl rfl | exact .inr rfl) (hs : swapsWith a (some (.Name x pos')) pos.line X.env = pure false := by rfl) (hf : X.fn x = true ∨ X.env.scope.names.lookup x = some .local := by first | exact .inl rfl | exact .inr rfl | assumption) :
    DS X C (.Assign [.Name x pos'] a pos) (dSet i ta) :=
  ⟨PS.imp (L2.ps_set hN hi hx ha.pe hs hf) fun D σ H ⟨G, e, S, D', at', h, k⟩ => ⟨G, e, S, _, at', h, fun d S1 v H1 t1 r1 l1 h1 => k.nx _ S1 _ H1 t1 ((at'.next t1 r1).set l1) h1⟩⟩
/-- a, b = x, y -/
def dPar (i j : Nat) (t : TDA) : TDS := fun D e S => t e S fun ds S' => match ds with
  | [d, d'] => D.nx ((e.set i (some d)).set j (some d')) S'
  | _ => False
theorem ds_par {i j : Nat} {x y : Str} {u : TDA} {px py pt : Pos} {kt k2 pt2} (hc : X.calm = true) (hN : X.N.Nodup) (hi : X.N[i]? = some x) (hj : X.N[j]? = some y) (hij : i ≠ j)
    (hx : X.env.scope.names.lookup x = some .local) (hy : X.env.scope.names.lookup y = some .local) (ha : DA X C [a, b] u)
    (hw : swappedStores [.Tuple [.Name x px, .Name y py] kt pt] (.Tuple [a, b] k2 pt2) X.env = pure (some [x, y]) := by rfl)
    (hs : swapsWithSole [.Tuple [.Name x px, .Name y py] kt pt] (.Tuple [a, b] k2 pt2) pos.line X.env = pure false := by rfl) :
    DS X C (.Assign [.Tuple [.Name x px, .Name y py] kt pt] (.Tuple [a, b] k2 pt2) pos) (dPar i j u) :=
  ⟨PS.imp (ps_par hc hN hi hj hij hx hy ha.pa hw hs) fun D σ H ⟨G, e, S, D', at', h, k⟩ => ⟨G, e, S, _, at', h, fun ds S1 vs H1 t1 r1 l1 h1 => by
    match ds, h1 with
    | [d, d'], h1 =>
      obtain ⟨v, r, rfl, l2, l3⟩ := l1.of_cons
      obtain ⟨w, r', rfl, l4, l5⟩ := l3.of_cons
      have z := l5.of_nil
      subst z
      exact ⟨v, w, rfl, k.nx _ S1 _ H1 t1 (((at'.next t1 r1).set l2).set l4) h1⟩⟩⟩
/-- o[i] = e -/
abbrev RD3 := D → D → D → Sto → (Sto → Prop) → Prop
def LR3 (K : PySem.W.Frag) (r : RD3) : TSet := fun o i v H Q => ∃ G d1 d2 d3 S Q', RepS K G S H ∧ GOk G H ∧ Rl K H (nfz G S) d1 o ∧ Rl K H (nfz G S) d2 i ∧ Rl K H (nfz G S) d3 v ∧ r d1 d2 d3 S Q' ∧ ∀ S' H', Tr S H S' H' → RepS K G S' H' → Q' S' → Q H'
def gSb (to ti : TDE) (r : RD3) : TDG := fun d e S Q => to e S fun o S1 => ti e S1 fun i S2 => r o i d S2 fun S3 => Q e S3
theorem dg_sub {o i : Expr} {to ti : TDE} {r : RD3} (ho : DE X C o to) (hi : DE X C i ti) (hr : PSet X (LR3 X.K r))
    (ha : ∀ v, assign (.Subscript o i pos) X.env v = (do
      let ov ← holding [v] (eval o X.env)
      let iv ← holding [v, ov] (eval i X.env)
      standAt pos
      holding [v, ov, iv] (setItem ov iv v)
      release [v, ov, iv] []) := by intro _; rfl) : DG X C (.Subscript o i pos) (gSb to ti r) :=
  ⟨PG.imp (pg_sub ho.pe hi.pe hr ha) fun v σ H Q ⟨G, d, e, S, Q', at', l, h, k⟩ => ⟨G, e, S, _, at', h, fun d1 S1 v1 H1 t1 r1 l1 h1 => ⟨G, e, S1, _, at'.next t1 r1, h1, fun d2 S2 v2 H2 t2 r2 l2 h2 =>
    ⟨G, d1, d2, d, S2, _, r2, ((at'.next t1 r1).next t2 r2).g, l1.tr r1 t2, l2, (l.tr at'.rep t1).tr r1 t2, h2, fun S3 H3 t3 r3 h3 =>
      k e S3 σ H3 (t1.trans (t2.trans t3)) (((at'.next t1 r1).next t2 r2).next t3 r3) h3⟩⟩⟩⟩
/-- xs[i] = v of a cell -/
def setR : RD3 := fun o i v S Q => match o with
  | .ref a => (match i with
    | .int k => ∃ xs j, S a = some (.lst xs) ∧ ixN xs.length k = some j ∧ Q (sput S a (.lst (xs.set j v)))
    | _ => False)
  | _ => False
theorem sr_list : PSet X (LR3 X.K setR) := by
  intro pins s σ H o i v ov iv u Q I ro ri rv h
  refine set_list pins s σ H o i v ov iv u Q I ro ri rv ?_
  obtain ⟨G, d1, d2, d3, S, Q', r, g, l1, l2, l3, h, k⟩ := h
  cases d1 with
  | ref a => cases d2 with
    | int n =>
      obtain ⟨xs, j, hs, hj, q⟩ := h
      obtain ⟨vs, e, la⟩ := r.lst hs
      obtain ⟨r2, t2⟩ := r.putL hs (la.set l3 j)
      exact ⟨a, vs, n, j, l1.of_ref, l2.of_int, e, by rw [← la.length]; exact hj, k _ _ t2 r2 q⟩
    | _ => exact False.elim h
  | _ => exact False.elim h
/-- x += e -/
def dAug (i : Nat) (t : TDE) (r : RD2) : TDS := fun D e S => match slot e i with
  | some x => t e S fun y S1 => r x y S1 fun z S2 => D.nx (e.set i (some z)) S2
  | none => False
theorem ds_aug {i : Nat} {x : Str} {op : Operator} {r : RD2} {pos' : Pos} (hN : X.N.Nodup) (hi : X.N[i]? = some x) (ha : DE X C a ta) (ho : OpR X (inplaceOp op) (LR2 X.K r)) (hx : Loc X.env.scope x := by first | exact .inl rfl | exact .inr rfl) (hf : X.fn x = true ∨ X.env.scope.names.lookup x = some .local := by first | exact .inl rfl | exact .inr rfl | assumption) :
    DS X C (.AugAssign (.Name x pos') op a pos) (dAug i ta r) :=
  ⟨PS.imp (ps_aug hN hi hx ha.pe (ti := LR2 X.K r) (fun pins s σ H x y v u Q I r1 r2 h => ho pins s σ H x y v u Q I r1 r2 h) hf) fun D σ H ⟨G, e, S, D', at', h, k⟩ => by
    unfold dAug at h
    cases q : slot e i with
    | none => rw [q] at h; exact h.elim
    | some d =>
      rw [q] at h
      obtain ⟨v, h1, h2⟩ := at'.env.2 i d (slot_get q)
      exact ⟨v, h1, G, e, S, _, at', h, fun d2 S2 v2 H2 t2 r2 l2 q2 => ⟨G, d, d2, S2, _, r2, (at'.next t2 r2).g, h2.tr at'.rep t2, l2, q2, fun d3 S3 v3 H3 t3 r3 l3 q3 =>
        k.nx _ S3 _ H3 (t2.trans t3) (((at'.next t2 r2).next t3 r3).set l3) q3⟩⟩⟩
theorem or_iadd : OpR X (inplaceOp .Add) (LR2 X.K (iiR (fun i j => .int (i + j)) fun _ _ => True)) := OpR.imp iop_add fun x y H Q ⟨G, d1, d2, S, Q', r, g, l1, l2, h, k⟩ => by
  cases d1 with
  | int i => cases d2 with
    | int j => exact ⟨i, j, l1.of_int, l2.of_int, k.now r Rl.int h.2⟩
    | _ => exact False.elim h
  | _ => exact False.elim h
end

/-! ### what is walked -/
theorem Tr.keepG {K : PySem.W.Frag} {G G2 : Addr → Prop} {S S2 : Sto} {H H2 : Hp} (r : RepS K G S H) (t : Tr S H S2 H2) (hg : ∀ a, G2 a → G a ∨ H a = none) : Keep K H (nfz G S) H2 (nfz G2 S2) := by
  have k := t.keep r
  refine ⟨k.tup, k.frz, fun a vs h n => ?_⟩
  obtain ⟨h1, h2⟩ := k.lst a vs h n
  refine ⟨h1, fun z => ?_, h2.2⟩
  rcases hg a z with z | z
  · exact n.1 z
  · rw [h] at z; cases z
/-- the iterator J gives these items, while ok holds of the store -/
def WalkD (K : PySem.W.Frag) (G : Addr → Prop) (J : It) (items : List D) (ok : Sto → Prop) (S : Sto) (H : Hp) : Prop :=
  ∀ (G2 : Addr → Prop) (S2 : Sto) (H2 : Hp), (∀ a, G2 a → G a ∨ H a = none) → Tr S H S2 H2 → RepS K G2 S2 H2 → ok S2 →
    J.stop items.length H2 ∧ ∀ i d, items[i]? = some d → J.go i H2 ∧ ∀ x H3, J.yld i H2 x H3 → Tr S2 H2 S2 H3 ∧ RepS K G2 S2 H3 ∧ Rl K H3 (nfz G2 S2) d x
abbrev TDI := En → Sto → (List D → (Sto → Prop) → Sto → Prop) → Prop
def LI (K : PySem.W.Frag) (C : Ct) (t : TDI) : TI := fun σ H R => ∃ G e S Q', At K C G e S σ H ∧ t e S Q' ∧ ∀ items ok S' J H', Tr S H S' H' → RepS K G S' H' → WalkD K G J items ok S' H' → Q' items ok S' → R J H'
structure DI (X : Cx) (C : Ct) (tg iter : Expr) (t : TDI) : Prop where
  pi : PI X tg iter (LI X.K C t)
theorem PI.imp {X : Cx} {tg iter : Expr} {t t' : TI} (h : PI X tg iter t) (i : ∀ σ H Q, t' σ H Q → t σ H Q) : PI X tg iter t' := ⟨fun p s σ H Q I q => h.run p s σ H Q I (i σ H Q q)⟩

/-! ### for -/
def forGo (g : TDG) (body : TDS) (ok : Sto → Prop) (E : DEnds) : List D → En → Sto → Prop
  | [], e, S => ok S ∧ E.nx e S
  | x :: xs, e, S => ok S ∧ g x e S fun e' S' => body { E with nx := forGo g body ok E xs, ct := forGo g body ok E xs, bk := E.nx } e' S'
structure ForP (g : TDG) (body : TDS) (ok : Sto → Prop) (E : DEnds) (items : List D) (e : En) (S : Sto) : Prop where
  ex : forGo g body ok E items e S
def dFor (ti : TDI) (g : TDG) (body : TDS) : TDS := fun D e S => ti e S fun items ok S' => ForP g body ok D items e S'
theorem drop_of {α : Type} {xs : List α} {i : Nat} {x : α} (h : xs[i]? = some x) : xs.drop i = x :: xs.drop (i + 1) := by
  obtain ⟨hl, e⟩ := List.getElem?_eq_some_iff.mp h
  rw [List.drop_eq_getElem_cons hl, e]
section
variable {X : Cx} {C : Ct} {pos : Pos}
theorem ds_for {tg iter : Expr} {body : List Stmt} {ti : TDI} {g : TDG} {tb : TDS} (hp : PassesOwn (model X.prog X.w) X.A X.env X.xe) (hc : X.calm = true) (hi : DI X C tg iter ti) (hg : DG X C tg g) (hb : DSs X C body tb)
    (hs : ∀ x, foldedSetIterable iter X.env x = pure x := by intro _; rfl) : DS X C (.For tg iter body [] pos) (dFor ti g tb) := by
  refine ⟨PS.imp (ps_for hp hc hi.pi hg.pg hb.ps hs) fun D σ H ⟨G, e, S, D', at', h, k⟩ => ?_⟩
  refine ⟨G, e, S, _, at', h, fun items ok S1 J H1 t1 r1 wd h1 => ?_⟩
  refine ⟨fun i m σ2 H2 => ∃ e2 S2, m = items.length - i ∧ i ≤ items.length ∧ Tr S1 H1 S2 H2 ∧ At X.K C G e2 S2 σ2 H2 ∧ forGo g tb ok D' (items.drop i) e2 S2, ⟨items.length, e, S1, by simp, Nat.zero_le _, Tr.refl, at'.next t1 r1, h1.ex⟩, ?_⟩
  rintro i m σ2 H2 ⟨e2, S2, rfl, hi2, t2, a2, f2⟩
  by_cases hlt : i < items.length
  · have hx : items[i]? = some items[i] := List.getElem?_eq_getElem hlt
    rw [drop_of hx] at f2
    obtain ⟨ok2, f2⟩ := f2
    obtain ⟨_, w⟩ := wd G S2 H2 (fun a z => .inl z) t2 a2.rep ok2
    obtain ⟨go, yl⟩ := w i _ hx
    refine .inr ⟨go, fun σ3 H3 => ∃ e3 S3, Tr S1 H1 S3 H3 ∧ At X.K C G e3 S3 σ3 H3 ∧ forGo g tb ok D' (items.drop (i + 1)) e3 S3, ?_, fun x H3 y => ?_⟩
    · rintro σ3 H3 ⟨e3, S3, t3, a3, f3⟩
      exact ⟨items.length - (i + 1), by omega, e3, S3, rfl, hlt, t3, a3, f3⟩
    · obtain ⟨t3, r3, l3⟩ := yl x H3 y
      refine ⟨G, items[i], e2, S2, _, a2.next t3 r3, l3, f2, fun e4 S4 σ4 H4 t4 a4 q4 => ?_⟩
      refine ⟨G, e4, S4, _, a4, q4, ⟨fun e5 S5 σ5 H5 t5 a5 q5 => ?_, k.nx.tr (t1.trans (t2.trans (t3.trans t4))), fun e5 S5 σ5 H5 t5 a5 q5 => ?_, k.rt.tr (t1.trans (t2.trans (t3.trans t4)))⟩⟩
      · exact ⟨e5, S5, t2.trans (t3.trans (t4.trans t5)), a5, q5⟩
      · exact ⟨e5, S5, t2.trans (t3.trans (t4.trans t5)), a5, q5⟩
  · have ei : i = items.length := by omega
    subst ei
    rw [List.drop_length] at f2
    obtain ⟨ok2, f2⟩ := f2
    obtain ⟨st, _⟩ := wd G S2 H2 (fun a z => .inl z) t2 a2.rep ok2
    exact .inl ⟨st, k.nx e2 S2 σ2 H2 (t1.trans t2) a2 f2⟩

/-! ### while -/
def whileN (c : TDT) (body : TDS) (D : DEnds) : Nat → En → Sto → Prop
  | 0, _, _ => False
  | n + 1, e, S => c e S fun b S' => match b with
    | true => body { D with nx := whileN c body D n, ct := whileN c body D n, bk := D.nx } e S'
    | false => D.nx e S'
structure WhileP (c : TDT) (body : TDS) (D : DEnds) (e : En) (S : Sto) : Prop where
  ex : ∃ n, whileN c body D n e S
def dWhile (c : TDT) (body : TDS) : TDS := fun D e S => WhileP c body D e S
theorem ds_while {c : Expr} {body : List Stmt} {tc : TDT} {tb : TDS} (hp : PassesOwn (model X.prog X.w) X.A X.env X.xe) (hc : DT X C c tc) (hb : DSs X C body tb) : DS X C (.While c body [] pos) (dWhile tc tb) := by
  refine ⟨PS.imp (ps_while hp hc.pt hb.ps) fun D σ H ⟨G, e, S, D', at', ⟨n, h⟩, k⟩ => ?_⟩
  refine ⟨fun m σ2 H2 => ∃ e2 S2, Tr S H S2 H2 ∧ At X.K C G e2 S2 σ2 H2 ∧ whileN tc tb D' m e2 S2, ⟨n, e, S, Tr.refl, at', h⟩, ?_⟩
  rintro m σ2 H2 ⟨e2, S2, t2, a2, w⟩
  cases m with
  | zero => exact False.elim w
  | succ m =>
    refine ⟨G, e2, S2, _, a2, w, fun b S3 H3 t3 r3 q => ?_⟩
    cases b with
    | false => exact iteF (k.nx e2 S3 σ2 H3 (t2.trans t3) (a2.next t3 r3) q)
    | true =>
      refine iteT ⟨fun σ4 H4 => ∃ e4 S4, Tr S H S4 H4 ∧ At X.K C G e4 S4 σ4 H4 ∧ whileN tc tb D' m e4 S4, ?_, ?_⟩
      · rintro σ4 H4 ⟨e4, S4, t4, a4, w4⟩
        exact ⟨m, Nat.lt_succ_self m, e4, S4, t4, a4, w4⟩
      · refine ⟨G, e2, S3, _, a2.next t3 r3, q, ⟨fun e5 S5 σ5 H5 t5 a5 q5 => ?_, k.nx.tr (t2.trans t3), fun e5 S5 σ5 H5 t5 a5 q5 => ?_, k.rt.tr (t2.trans t3)⟩⟩
        · exact ⟨e5, S5, t2.trans (t3.trans t5), a5, q5⟩
        · exact ⟨e5, S5, t2.trans (t3.trans t5), a5, q5⟩
end

/-! ### comprehensions -/
def wip (e : En) : List Nat → En
  | [] => e
  | v :: vs => (wip e vs).set v none
/-- the tests of a clause -/
structure DTs (X : Cx) (C : Ct) (ifs : List Expr) (t : TDT) : Prop where
  pts : PTs X ifs (LT X.K C t)
def dYes : TDT := fun _ S Q => Q true S
theorem PTs.imp {X : Cx} {ifs : List Expr} {t t' : TT} (h : PTs X ifs t) (i : ∀ σ H Q, t' σ H Q → t σ H Q) : PTs X ifs t' := by
  constructor
  intro p s σ H Q I q
  exact h.run p s σ H Q I (i σ H Q q)
theorem dts_nil {X : Cx} {C : Ct} : DTs X C [] dYes := ⟨PTs.imp pts_nil fun σ H Q ⟨G, e, S, Q', at', h, k⟩ => k true S H Tr.refl at'.rep h⟩
theorem dts_one {X : Cx} {C : Ct} {c : Expr} {t : TDT} (h : DT X C c t) : DTs X C [c] t := ⟨pts_one h.pt⟩
def lcGo (g : TDG) (tt : TDT) (te : TDE) (ok : Sto → Prop) (e : En) (vs : List Nat) (Q : List D → Sto → Prop) : List D → List D → Sto → Prop
  | [], acc, S => ok S ∧ Q acc S
  | x :: xs, acc, S => ok S ∧ g x (wip e vs) S fun e' S1 => tt e' S1 fun b S2 => match b with
    | true => te e' S2 fun d S3 => lcGo g tt te ok e vs Q xs (acc ++ [d]) S3
    | false => lcGo g tt te ok e vs Q xs acc S2
structure LcP (g : TDG) (tt : TDT) (te : TDE) (ok : Sto → Prop) (e : En) (vs : List Nat) (Q : List D → Sto → Prop) (items acc : List D) (S : Sto) : Prop where
  ex : lcGo g tt te ok e vs Q items acc S
def dLc (c : Bool) (ti : TDI) (g : TDG) (tt : TDT) (te : TDE) (vs : List Nat) : TDE := fun e S Q => ti e S fun items ok S' => items.length < sizeLine ∧ LcP g tt te ok e vs (fun ds S2 => mkL c ds S2 Q) items [] S'
theorem wipe_get {σ : L2.St} {j : Nat} : ∀ {vs : List Nat}, (wipe σ vs)[j]? = if j ∈ vs then σ[j]?.map fun _ => none else σ[j]?
  | [] => by simp [wipe]
  | v :: vs => by
    unfold wipe
    by_cases hv : v = j
    · subst hv
      by_cases hl : v < (wipe σ vs).length
      · rw [List.getElem?_set_self hl]
        have hl' : v < σ.length := by rwa [wipe_length] at hl
        simp [List.getElem?_eq_getElem hl']
      · rw [List.getElem?_eq_none (by simpa using hl)]
        have hl' : ¬ v < σ.length := by rwa [wipe_length] at hl
        simp [List.getElem?_eq_none (Nat.le_of_not_lt hl')]
    · rw [List.getElem?_set_ne hv, wipe_get (vs := vs)]
      have hj : ¬ j = v := fun z => hv z.symm
      simp [hj]
theorem wip_length (e : En) : ∀ vs : List Nat, (wip e vs).length = e.length
  | [] => rfl
  | v :: vs => by unfold wip; rw [List.length_set, wip_length e vs]
theorem wip_get {σ : En} {j : Nat} : ∀ {vs : List Nat}, (wip σ vs)[j]? = if j ∈ vs then σ[j]?.map fun _ => none else σ[j]?
  | [] => by simp [wip]
  | v :: vs => by
    unfold wip
    by_cases hv : v = j
    · subst hv
      by_cases hl : v < (wip σ vs).length
      · rw [List.getElem?_set_self hl]
        have hl' : v < σ.length := by rwa [wip_length] at hl
        simp [List.getElem?_eq_getElem hl']
      · rw [List.getElem?_eq_none (by simpa using hl)]
        have hl' : ¬ v < σ.length := by rwa [wip_length] at hl
        simp [List.getElem?_eq_none (Nat.le_of_not_lt hl')]
    · rw [List.getElem?_set_ne hv, wip_get (vs := vs)]
      have hj : ¬ j = v := fun z => hv z.symm
      simp [hj]
theorem wipe_set {σ : L2.St} {i : Nat} {x : Option V} {vs : List Nat} (h : i ∈ vs) : wipe (σ.set i x) vs = wipe σ vs := by
  refine List.ext_getElem? fun j => ?_
  rw [wipe_get, wipe_get]
  by_cases hj : j ∈ vs
  · rw [if_pos hj, if_pos hj]
    by_cases hi : i = j
    · subst hi
      by_cases hl : i < σ.length
      · rw [List.getElem?_set_self hl, List.getElem?_eq_getElem hl]; rfl
      · rw [List.getElem?_eq_none (by simpa using hl), List.getElem?_eq_none (by simpa using hl)]
    · rw [List.getElem?_set_ne hi]
  · rw [if_neg hj, if_neg hj, List.getElem?_set_ne (fun z : i = j => hj (z ▸ h))]
theorem RlE.wipe {K : PySem.W.Frag} {H : Hp} {nf : Addr → Prop} {e : En} {σ : L2.St} (h : RlE K H nf e σ) (vs : List Nat) : RlE K H nf (wip e vs) (L2.wipe σ vs) := by
  refine ⟨by rw [wip_length, wipe_length]; exact h.1, fun i d q => ?_⟩
  rw [wip_get] at q
  by_cases hi : i ∈ vs
  · rw [if_pos hi] at q
    cases z : e[i]? with
    | none => rw [z] at q; cases q
    | some y => rw [z] at q; cases q
  · rw [if_neg hi] at q
    obtain ⟨v, h1, h2⟩ := h.2 i d q
    exact ⟨v, by rw [wipe_get, if_neg hi]; exact h1, h2⟩
/-- a target of a comprehension: it stores in its own slots alone -/
def LGc (K : PySem.W.Frag) (C : Ct) (vs : List Nat) (g : TDG) : TG := fun v σ H Q => ∃ G d e S Q', At K C G e S σ H ∧ Rl K H (nfz G S) d v ∧ g d e S Q' ∧ ∀ e' S' σ' H', Tr S H S' H' → At K C G e' S' σ' H' → L2.wipe σ' vs = L2.wipe σ vs → Q' e' S' → Q σ' H'
def LGsc (K : PySem.W.Frag) (C : Ct) (vs : List Nat) (g : TDGs) : TGs := fun us σ H Q => ∃ G ds e S Q', At K C G e S σ H ∧ RlA K H (nfz G S) ds us ∧ g ds e S Q' ∧ ∀ e' S' σ' H', Tr S H S' H' → At K C G e' S' σ' H' → L2.wipe σ' vs = L2.wipe σ vs → Q' e' S' → Q σ' H'
structure DGc (X : Cx) (C : Ct) (vs : List Nat) (tg : Expr) (g : TDG) : Prop where
  pg : PG X tg (LGc X.K C vs g)
structure DGsc (X : Cx) (C : Ct) (vs : List Nat) (tg : List Expr) (g : TDGs) : Prop where
  pg : PGs X tg (LGsc X.K C vs g)
section
variable {X : Cx} {C : Ct} {vs : List Nat} {pos : Pos}
theorem dgc_name {i : Nat} {x : Str} (hN : X.N.Nodup) (hi : X.N[i]? = some x) (hv : i ∈ vs := by decide) (hx : Loc X.env.scope x := by first | exact .inl rfl | exact .inr rfl) (hf : X.fn x = true ∨ X.env.scope.names.lookup x = some .local := by first | exact .inl rfl | exact .inr rfl | assumption) : DGc X C vs (.Name x pos) (gN i) :=
  ⟨PG.imp (pg_name hN hi hx hf) fun v σ H Q ⟨G, d, e, S, Q', at', l, h, k⟩ => k _ S _ H Tr.refl (at'.set l) (wipe_set hv) h⟩
theorem dgsc_nil : DGsc X C vs [] gsNil := ⟨PGs.imp pgs_nil fun us σ H Q ⟨G, ds, e, S, Q', at', l, h, k⟩ => by
    obtain ⟨z, h⟩ := h
    subst z
    exact ⟨l.of_nil, k e S σ H Tr.refl at' rfl h⟩⟩
theorem dgsc_cons {x : Expr} {es : List Expr} {g : TDG} {u : TDGs} (h1 : DGc X C vs x g) (h2 : DGsc X C vs es u) (hs : (assignEach (x :: es) X.env).map (·.2) = assign x X.env :: (assignEach es X.env).map (·.2) := by rfl) : DGsc X C vs (x :: es) (gsCons g u) :=
  ⟨PGs.imp (pgs_cons h1.pg h2.pg hs) fun us σ H Q ⟨G, ds, e, S, Q', at', l, h, k⟩ => by
    cases ds with
    | nil => exact False.elim h
    | cons d r =>
      obtain ⟨v, w, rfl, l1, l2⟩ := l.of_cons
      exact ⟨v, w, rfl, G, d, e, S, _, at', l1, h, fun e2 S2 σ2 H2 t2 a2 w2 q => ⟨G, r, e2, S2, Q', a2, l2.tr at'.rep t2, q, fun e3 S3 σ3 H3 t3 a3 w3 q3 => k e3 S3 σ3 H3 (t2.trans t3) a3 (w3.trans w2) q3⟩⟩⟩
theorem dgc_tup {es : List Expr} {k n : Nat} {u : TDGs} (hc : X.calm = true) (h : DGsc X C vs es u) (hn : (assignEach es X.env).length = n := by rfl) (hst : (assignEach es X.env).findIdx? (·.1) = none := by rfl) : DGc X C vs (.Tuple es k pos) (gT n u) :=
  ⟨PG.imp (pg_seqA hc h.pg hn hst) fun v σ H Q ⟨G, d, e, S, Q', at', l, h, k⟩ => by
    unfold gT at h
    cases z : asQ S d with
    | some xs =>
      rw [z] at h
      obtain ⟨a, ws, rfl, h1, l1⟩ := of_asQ at'.rep z l
      exact ⟨a, ws, rfl, h1, by rw [← l1.length]; exact h.1, G, xs, e, S, Q', at', l1, h.2, k⟩
    | none => rw [z] at h; exact False.elim h⟩
end
section
variable {K : PySem.W.Frag} {G : Addr → Prop} {S : Sto} {H : Hp} {p : Addr}
/-- p is in the making, too -/
def gAnd (G : Addr → Prop) (p : Addr) : Addr → Prop := fun a => G a ∨ a = p
theorem RepS.grow (r : RepS K G S H) (n : H p = none) {o : HO} : RepS K (gAnd G p) S (upd H p o) := fun a c h => by
  obtain ⟨g, e⟩ := r a c h
  have na : a ≠ p := by rintro rfl; rw [r.none_of n] at h; cases h
  have k : Keep K H (nfz G S) (upd H p o) (nfz (gAnd G p) S) := ⟨(Keep.new (K := K) n (nf := nfz G S)).tup, (Keep.new (K := K) n (nf := nfz G S)).frz, fun b vs hb z => ⟨by rw [upd_ne (ne_of_none hb n)]; exact hb, fun q => q.elim z.1 (ne_of_none hb n), z.2⟩⟩
  exact ⟨fun z => z.elim g na, e.keep k (upd_ne na)⟩
theorem GOk.grow (g : GOk G H) {o : HO} : GOk (gAnd G p) (upd H p o) := fun a z => by
  by_cases h : a = p
  · subst h; rw [upd_same]; intro q; cases q
  · rw [upd_ne h]; exact g a (z.resolve_right h)
/-- what is in the making is changed -/
theorem Keep.making {o : HO} (hp : ∃ vs, H p = some (.lst vs)) : Keep K H (nfz (gAnd G p) S) (upd H p o) (nfz (gAnd G p) S) := by
  obtain ⟨vs, hp⟩ := hp
  refine ⟨fun a ws h => ?_, fun a ob u h => ?_, fun a ws h z => ?_⟩
  · rw [upd_ne (by rintro rfl; rw [hp] at h; cases h)]; exact h
  · rw [upd_ne (by rintro rfl; rw [hp] at h; cases h)]; exact h
  · rw [upd_ne (fun q => z.1 (.inr q))]; exact ⟨h, z⟩
theorem RepS.making (r : RepS K (gAnd G p) S H) {o : HO} (hp : ∃ vs, H p = some (.lst vs)) : RepS K (gAnd G p) S (upd H p o) := fun a c h => by
  obtain ⟨g, e⟩ := r a c h
  exact ⟨g, e.keep (Keep.making hp) (upd_ne fun q => g (.inr q))⟩
theorem RepS.not (r : RepS K (gAnd G p) S H) : S p = none := by
  cases q : S p with
  | none => rfl
  | some c => exact absurd (.inr rfl) (r p c q).1
/-- it is made: a list that stays, or a cell -/
theorem Keep.madeF : Keep K H (nfz (gAnd G p) S) H (nfz G S) := ⟨fun _ _ h => h, fun _ _ _ h => h, fun _ _ h z => ⟨h, fun q => z.1 (.inl q), z.2⟩⟩
theorem RepS.madeF (r : RepS K (gAnd G p) S H) : RepS K G S H := fun a c h => by
  obtain ⟨g, e⟩ := r a c h
  exact ⟨fun q => g (.inl q), e.keep Keep.madeF rfl⟩
theorem Keep.madeC {c : Cell} : Keep K H (nfz (gAnd G p) S) H (nfz G (sput S p c)) := ⟨fun _ _ h => h, fun _ _ _ h => h, fun _ _ h z => ⟨h, fun q => z.1 (.inl q), by rw [sput_ne (fun q => z.1 (.inr q))]; exact z.2⟩⟩
theorem RepS.madeC (r : RepS K (gAnd G p) S H) (g : ¬ G p) {c : Cell} (hc : CellOk K H (nfz G (sput S p c)) p c) : RepS K G (sput S p c) H := fun a c' h => by
  by_cases z : a = p
  · subst z
    rw [sput_same] at h; cases h
    exact ⟨g, hc⟩
  · rw [sput_ne z] at h
    obtain ⟨g', e⟩ := r a c' h
    exact ⟨fun q => g' (.inl q), e.keep Keep.madeC rfl⟩
end
section
variable {X : Cx} {C : Ct} {pos : Pos} {c : Bool} {elt tg iter : Expr} {ifs : List Expr} {ti : TDI} {g : TDG} {tt : TDT} {te : TDE} {vs : List Nat}
theorem lc_ok {K : PySem.W.Frag} {σ : L2.St} {H : Hp} {Q : VK} (h : LE K C (dLc c ti g tt te vs) σ H Q) : tLc (LI K C ti) (LGc K C1 vs g) (LT K C1 tt) (LE K C1 te) vs σ H Q := by
  obtain ⟨G, e, S, Q', at', h, k⟩ := h
  refine ⟨G, e, S, _, at', h, fun items ok S1 J H1 t1 r1 wd h1 => ?_⟩
  obtain ⟨hlen, h1⟩ := h1
  intro p np
  have a1 := at'.next t1 r1
  have gnp : ¬ G p := fun z => a1.g p z np
  refine ⟨fun i m H2 => ∃ S2 acc ws, m = items.length - i ∧ i ≤ items.length ∧ Tr S1 H1 S2 H2 ∧ RepS K (gAnd G p) S2 H2 ∧ GOk (gAnd G p) H2 ∧ H2 p = some (.lst ws) ∧ RlA K H2 (nfz (gAnd G p) S2) acc ws ∧ acc.length ≤ i ∧ lcGo g tt te ok e vs (fun ds S2 => mkL c ds S2 Q') (items.drop i) acc S2,
    ⟨items.length, S1, [], [], by simp, Nat.zero_le _, Tr.new np, r1.grow np, a1.g.grow, upd_same, RlA.nil, Nat.le_refl _, h1.ex⟩, ?_⟩
  rintro i m H2 ⟨S2, acc, ws, rfl, hi2, t2, r2, g2, e2, l2, hacc, f2⟩
  have sub : ∀ a, gAnd G p a → G a ∨ H1 a = none := fun a z => z.elim .inl fun q => .inr (q ▸ np)
  by_cases hlt : i < items.length
  · have hx : items[i]? = some items[i] := List.getElem?_eq_getElem hlt
    rw [drop_of hx] at f2
    obtain ⟨ok2, f2⟩ := f2
    obtain ⟨_, w⟩ := wd (gAnd G p) S2 H2 sub t2 r2 ok2
    obtain ⟨go, yl⟩ := w i _ hx
    refine .inr ⟨go, fun H3 => ∃ S3 acc ws, Tr S1 H1 S3 H3 ∧ RepS K (gAnd G p) S3 H3 ∧ GOk (gAnd G p) H3 ∧ H3 p = some (.lst ws) ∧ RlA K H3 (nfz (gAnd G p) S3) acc ws ∧ acc.length ≤ i + 1 ∧ lcGo g tt te ok e vs (fun ds S2 => mkL c ds S2 Q') (items.drop (i + 1)) acc S3, ?_, fun x H3 y => ?_⟩
    · rintro H3 ⟨S3, acc3, ws3, t3, r3, g3, e3, l3, n3, f3⟩
      exact ⟨items.length - (i + 1), by omega, S3, acc3, ws3, rfl, hlt, t3, r3, g3, e3, l3, n3, f3⟩
    · obtain ⟨t3, r3, l3⟩ := yl x H3 y
      have g3 := g2.tr r2 t3
      have a3 : At K C1 (gAnd G p) (wip e vs) S2 (L2.wipe σ vs) H3 := ⟨r3, g3, trivial, (a1.env.keep ((t2.trans t3).keepG r1 sub)).wipe vs⟩
      refine ⟨gAnd G p, items[i], wip e vs, S2, _, a3, l3, f2, fun e4 S4 σ4 H4 t4 a4 w4 q4 => ⟨?_, ?_⟩⟩
      · rw [w4]
        refine List.ext_getElem? fun j => ?_
        rw [wipe_get, wipe_get]
        by_cases hj : j ∈ vs
        · rw [if_pos hj, if_pos hj]
          cases σ[j]? <;> rfl
        · rw [if_neg hj]
      · refine ⟨gAnd G p, e4, S4, _, a4, q4, fun b S5 H5 t5 r5 q5 => ?_⟩
        have np2 : S2 p = none := r2.not
        have t25 : Tr S2 H2 S5 H5 := t3.trans (t4.trans t5)
        cases b with
        | false =>
          obtain ⟨e5, _⟩ := t25 p _ np2 e2
          exact iteF ⟨S5, acc, ws, t2.trans t25, r5, g2.tr r2 t25, e5, l2.tr r2 t25, Nat.le_succ_of_le hacc, q5⟩
        | true =>
          refine iteT ⟨gAnd G p, e4, S5, _, a4.next t5 r5, q5, fun d S6 v H6 t6 r6 l6 q6 => ?_⟩
          have t26 : Tr S2 H2 S6 H6 := t25.trans t6
          obtain ⟨e6, _⟩ := t26 p _ np2 e2
          have hl : ws.length < sizeLine := by rw [← l2.length]; omega
          refine ⟨ws, e6, hl, S6, acc ++ [d], ws ++ [v], ?_, r6.making ⟨_, e6⟩, ?_, upd_same, ?_, ?_, q6⟩
          · intro a o n' h'
            obtain ⟨x1, x2⟩ := (t2.trans t26) a o n' h'
            exact ⟨by rw [upd_ne (ne_of_none h' np)]; exact x1, x2⟩
          · intro a z
            by_cases q : a = p
            · subst q; rw [upd_same]; intro w; cases w
            · rw [upd_ne q]; exact (g2.tr r2 t26) a z
          · exact RlA.keep (Keep.making ⟨_, e6⟩) _ _ (RlA.app (l2.tr r2 t26) (RlA.cons l6 RlA.nil))
          · rw [List.length_append]; simp only [List.length_cons, List.length_nil]; omega
  · have ei : i = items.length := by omega
    subst ei
    rw [List.drop_length] at f2
    obtain ⟨ok2, f2⟩ := f2
    obtain ⟨st, _⟩ := wd (gAnd G p) S2 H2 sub t2 r2 ok2
    refine .inl ⟨st, ?_⟩
    have np2 : S2 p = none := r2.not
    cases c with
    | false => exact k _ S2 _ H2 (t1.trans t2) r2.madeF (Rl.lst e2 ⟨gnp, np2⟩ (RlA.keep Keep.madeF _ _ l2)) f2
    | true =>
      refine k _ (sput S2 p (.lst acc)) _ H2 ?_ (r2.madeC gnp ⟨ws, e2, RlA.keep Keep.madeC _ _ l2⟩) Rl.ref (f2 p np2)
      intro a o n' h'
      obtain ⟨x1, x2⟩ := t1 a o n' h'
      obtain ⟨y1, y2⟩ := t2 a o x2 x1
      exact ⟨y1, by rw [sput_ne (ne_of_none x1 np)]; exact y2⟩
theorem de_lc (c : Bool) {scope : Scope} {own : List (Str × Nat)} (hc : X.calm = true) (hN : X.N.Nodup) (hi : DI X C tg iter ti) (ok : BlkOk X.N X.env.scope scope own)
    (hg : ∀ (s : Shared) (H : Hp) (A : Addr) (cl : List (Str × Addr)) (fp : List Addr), DGc (X.blk s H scope (compEnvC scope cl A X.env) fp) C1 (own.map (·.2)) tg g) (ht : ∀ (s : Shared) (H : Hp) (A : Addr) (cl : List (Str × Addr)) (fp : List Addr), DTs (X.blk s H scope (compEnvC scope cl A X.env) fp) C1 ifs tt)
    (he : ∀ (s : Shared) (H : Hp) (A : Addr) (cl : List (Str × Addr)) (fp : List Addr), DE (X.blk s H scope (compEnvC scope cl A X.env) fp) C1 elt te) (hs : ∀ x, foldedSetIterable iter X.env x = pure x := by intro _; rfl) :
    DE X C (.ListComp elt [⟨tg, iter, ifs, 0⟩] scope pos) (dLc c ti g tt te (own.map (·.2))) :=
  ⟨PE.imp (pe_lc hc hN hi.pi ok (fun s H A cl fp => (hg s H A cl fp).pg) (fun s H A cl fp => (ht s H A cl fp).pts) (fun s H A cl fp => (he s H A cl fp).pe) hs) fun σ H Q h => lc_ok h⟩
theorem ds_setLc (c : Bool) {i : Nat} {y : Str} {py spos : Pos} {scope : Scope} {own : List (Str × Nat)} (hc : X.calm = true) (hN : X.N.Nodup) (hy : X.N[i]? = some y) (hyl : X.env.scope.names.lookup y = some .local)
    (hsw : swapsWith (.ListComp elt [⟨tg, iter, ifs, 0⟩] scope pos) (some (.Name y py)) spos.line X.env = pure true) (hi : DI X C tg iter ti) (ok : BlkOk X.N X.env.scope scope own)
    (hg : ∀ (s : Shared) (H : Hp) (A : Addr) (cl : List (Str × Addr)) (fp : List Addr), DGc (X.blk s H scope (compEnvC scope cl A X.env) fp) C1 (own.map (·.2)) tg g) (ht : ∀ (s : Shared) (H : Hp) (A : Addr) (cl : List (Str × Addr)) (fp : List Addr), DTs (X.blk s H scope (compEnvC scope cl A X.env) fp) C1 ifs tt)
    (he : ∀ (s : Shared) (H : Hp) (A : Addr) (cl : List (Str × Addr)) (fp : List Addr), DE (X.blk s H scope (compEnvC scope cl A X.env) fp) C1 elt te) (hs : ∀ x, foldedSetIterable iter X.env x = pure x := by intro _; rfl) :
    DS X C (.Assign [.Name y py] (.ListComp elt [⟨tg, iter, ifs, 0⟩] scope pos) spos) (dSet i (dLc c ti g tt te (own.map (·.2)))) :=
  ⟨PS.imp (L2.ps_setLc hc hN hy hyl hsw hi.pi ok (fun s H A cl fp => (hg s H A cl fp).pg) (fun s H A cl fp => (ht s H A cl fp).pts) (fun s H A cl fp => (he s H A cl fp).pe) hs) fun D σ H ⟨G, e, S, D', at', h, k⟩ => by
    refine lc_ok (c := c) ⟨G, e, S, fun d S1 => D'.nx (e.set i (some d)) S1, at', h, fun d S1 v H1 t1 r1 l1 h1 => ?_⟩
    exact k.nx _ S1 _ H1 t1 ((at'.next t1 r1).set l1) h1⟩
end
end DL

/-! DL, part F: defs, their promises, calls, the law's end. -/
namespace DL
open PySem PySem.Spec PyProof.Rows L2

structure Rm (k : Nat) (A : Around) : Prop where
  room : Room k A
  gd : A.guards = some []
theorem Rm.mono {j k : Nat} {A : Around} (r : Rm k A) (h : j ≤ k) : Rm j A := ⟨r.room.mono h, r.gd⟩
theorem Rm.deeper {k : Nat} {A : Around} (r : Rm (k + 1) A) (env : Env) : Rm k (A.deeper env) := ⟨r.room.deeper env, r.gd⟩
theorem Rm.u64 {k : Nat} {A : Around} (r : Rm k A) : A.units + 64 < cLine := r.room.units
theorem Rm.u65 {k : Nat} {A : Around} (r : Rm k A) : A.units + 65 < cLine := by have := r.room.un; omega

def AftX (K : PySem.W.Frag) (G : Addr → Prop) (S : Sto) (H : Hp) (E' : XKD) (E : XK) : Prop :=
  ∀ c od S' H', Tr S H S' H' → RepS K G S' H' → E' c od S' → E c od H'
/-- a promise over data as one over values -/
def LSp (K : PySem.W.Frag) (sp : SpD) : Sp := fun vs H Q E => ∃ G S ds Q' E', RepS K G S H ∧ GOk G H ∧ RlA K H (nfz G S) ds vs ∧ sp ds S Q' E' ∧ Aft K G S H Q' Q ∧ AftX K G S H E' E
structure FnD (P : Program) (w : World) (K : PySem.W.Frag) (mg : Str → Option Value) (base : Heap) (k : Nat) (f : Addr) (fd : FuncData) (ps : List Str) (sp : SpD) : Prop where
  len : ∀ ds S Q E, sp ds S Q E → ds.length = ps.length
  run : ∀ (A : Around) (outer : List Env) (s : Shared) (H : Hp) (args : Args) (us : List Value) (vs : List V) (Q : VK) (E : XK), Rm k A → Env0 P w K mg base A outer s H → BindsTo s fd args (ps.zip us) → Vals vs us → LSp K sp vs H Q E →
    codeAny (model P w) A (.call (.ref f) args) (CR (L2.CX P w) outer P w H s Q E) s
theorem FnD.mono {P : Program} {w : World} {K : PySem.W.Frag} {mg : Str → Option Value} {base : Heap} {j k : Nat} {f : Addr} {fd : FuncData} {ps : List Str} {sp : SpD} (F : FnD P w K mg base j f fd ps sp) (h : j ≤ k) : FnD P w K mg base k f fd ps sp :=
  ⟨F.len, fun A o s H args us vs Q E hr => F.run A o s H args us vs Q E (hr.mono h)⟩
theorem FnD.imp {P : Program} {w : World} {K : PySem.W.Frag} {mg : Str → Option Value} {base : Heap} {k : Nat} {f : Addr} {fd : FuncData} {ps : List Str} {sp sp' : SpD} (F : FnD P w K mg base k f fd ps sp)
    (h : ∀ ds S Q E, sp' ds S Q E → sp ds S Q E) : FnD P w K mg base k f fd ps sp' :=
  ⟨fun ds S Q E q => F.len _ _ _ _ (h _ _ _ _ q), fun A o s H args us vs Q E hr e hb r ⟨G, S, ds, Q', E', z1, z2, z3, z4, z5⟩ => F.run A o s H args us vs Q E hr e hb r ⟨G, S, ds, Q', E', z1, z2, z3, h _ _ _ _ z4, z5⟩⟩

/-! ### what leaves a def -/
/-- the store may lose cells, a cell that is told may become a list that stays -/
def Fz (S : Sto) (d : D) (S' : Sto) (d' : D) : Prop := ∀ K G H v, RepS K G S H → GOk G H → Rl K H (nfz G S) d v → RepS K G S' H ∧ Tr S H S' H ∧ Rl K H (nfz G S') d' v
structure Fin (Q : KD) (d : D) (S : Sto) : Prop where
  ex : ∃ d' S', Fz S d S' d' ∧ Q d' S'
/-- the store loses cells -/
def Drop (S S' : Sto) : Prop := ∀ a, S' a = S a ∨ S' a = none
def FinX (E : XKD) : XKD := fun c od S => ∃ S', Drop S S' ∧ E c od S'
theorem Drop.refl {S : Sto} : Drop S S := fun _ => .inl rfl
theorem Drop.trans {S S1 S2 : Sto} (a : Drop S S1) (b : Drop S1 S2) : Drop S S2 := fun p => by
  rcases b p with h | h
  · rw [h]; exact a p
  · exact .inr h
theorem Drop.put {S : Sto} {a : Addr} {c : Cell} (h : S a = none) : Drop (sput S a c) S := fun b => by
  by_cases z : b = a
  · subst z; exact .inr h
  · exact .inl (sput_ne z).symm
theorem Drop.puts {S S' : Sto} {a : Addr} {c : Cell} (h : S a = none) (d : Drop S' S) : Drop (sput S' a c) S := fun b => by
  by_cases z : b = a
  · subst z; exact .inr h
  · rw [sput_ne z]; exact d b
theorem Drop.keep {K : PySem.W.Frag} {G : Addr → Prop} {S S' : Sto} {H : Hp} (d : Drop S S') : Keep K H (nfz G S) H (nfz G S') :=
  ⟨fun _ _ h => h, fun _ _ _ h => h, fun a _ h z => ⟨h, z.1, by rcases d a with q | q; exact q.trans z.2; exact q⟩⟩
theorem Drop.rep {K : PySem.W.Frag} {G : Addr → Prop} {S S' : Sto} {H : Hp} (d : Drop S S') (r : RepS K G S H) : RepS K G S' H := fun a c h => by
  rcases d a with q | q
  · obtain ⟨g, e⟩ := r a c (q ▸ h)
    exact ⟨g, e.keep d.keep rfl⟩
  · rw [q] at h; cases h
theorem Drop.tr {S S' : Sto} {H : Hp} (d : Drop S S') : Tr S H S' H := fun a o n h => ⟨h, by rcases d a with q | q; exact q.trans n; exact q⟩
theorem Fz.drop {S S' : Sto} {d : D} (h : Drop S S') : Fz S d S' d := fun K G H v r g l => ⟨h.rep r, h.tr, Rl.keep h.keep _ _ l⟩
/-- a cell that is told becomes a list that stays -/
theorem Fz.lst {S S' : Sto} {a : Addr} {xs : List D} (h : Drop S S') (n : S' a = none) (e : S a = some (.lst xs)) : Fz S (.ref a) S' (.lst xs) := fun K G H v r g l => by
  obtain rfl := l.of_ref
  obtain ⟨vs, e1, e2⟩ := r.lst e
  exact ⟨h.rep r, h.tr, Rl.lst e1 ⟨(r a _ e).1, n⟩ (RlA.keep h.keep _ _ e2)⟩
theorem fin_same {Q : KD} {d : D} {S : Sto} (q : Q d S) : Fin Q d S := ⟨d, S, Fz.drop Drop.refl, q⟩
theorem fin_drop {Q : KD} {d : D} {S S' : Sto} (h : Drop S S') (q : Q d S') : Fin Q d S := ⟨d, S', Fz.drop h, q⟩
theorem fin_lst {Q : KD} {a : Addr} {xs : List D} {S S' : Sto} (h : Drop S S') (n : S' a = none) (e : S a = some (.lst xs)) (q : Q (.lst xs) S') : Fin Q (.ref a) S := ⟨_, S', Fz.lst h n e, q⟩

/-! ### exceptions that a def lets out -/
def EL (K : PySem.W.Frag) (C : Ct) (E' : XKD) : XK := fun c od H' => ∃ G S', C.ok G S' H' ∧ RepS K G S' H' ∧ E' c od S'
abbrev XOk (X : Cx) (C : Ct) (E' : XKD) : Prop := Takes X (fun c od _ H' => EL X.K C E' c od H')
abbrev N0 : XKD := fun _ _ _ => False
theorem xok0 {X : Cx} {C : Ct} : XOk X C N0 := fun _ _ h => by
  obtain ⟨_, _, _, _, _, _, _, _, _, _, _, _, _, _, _, _, z⟩ := h
  obtain ⟨_, _, _, _, z⟩ := z
  exact z.elim

section
variable {P : Program} {w : World} {K : PySem.W.Frag} {mg : Str → Option Value} {base : Heap}
def startD : List Str → List D → En
  | [], _ => []
  | _ :: N, [] => none :: startD N []
  | _ :: N, d :: ds => some d :: startD N ds
theorem startD_eq : ∀ {N : List Str} {ds : List D}, ds.length ≤ N.length → startD N ds = ds.map some ++ List.replicate (N.length - ds.length) none
  | [], [], _ => rfl
  | [], _ :: _, h => by simp at h
  | _ :: N, [], h => by
    show none :: startD N [] = _
    rw [startD_eq (N := N) (ds := []) (Nat.zero_le _)]
    simp [List.replicate_succ]
  | _ :: N, d :: ds, h => by
    show some d :: startD N ds = _
    rw [startD_eq (N := N) (ds := ds) (by simpa using h)]
    simp
theorem FnD.ofG {x qual : Str} {params : Arguments} {body : List Stmt} {scope : Scope} {f : Addr} {oc dV kV doc pm cdv ct : Value} {od an : Option Addr} {osl : Array (Option Value)} {N ps : List Str} {k : Nat} {sp : SpD} {t : XKD → TDS}
    (lk : K.lookup f = some ⟨oc, od, .func (PySem.W.fnOf x qual params body scope dV kV doc pm an cdv ct), osl⟩) (hcd : PySem.W.codeIn K cdv qual = true) (Sc : FnScope N ps scope) (len : ∀ ds S Q E, sp ds S Q E → ds.length = ps.length)
    (hbody : ∀ (X : Cx) (C : Ct) (E' : XKD) (cdv : Value) (A : Around) (outer : List Env) (s : Shared) (H : Hp) (E : XK), X = cxOf (L2.CX P w) P w K mg base N qual scope f cdv A outer s H E → Rm k X.A → XOk X C E' → PassesOwn (model X.prog X.w) X.A X.env X.xe → X.calm = true →
      DSs X C (body) (t E'))
    (hsp : ∀ ds S Q E', sp ds S Q E' → t (FinX E') { nx := fun _ S' => Fin Q .non S', rt := Fin Q } (startD N ds) S) : FnD P w K mg base (k + 1) f (PySem.W.fnOf x qual params body scope dV kV doc pm an cdv ct) ps sp := by
  refine ⟨len, fun A outer s H args us vs Q E hr e0 hb r ⟨G, S, ds, Q', E', rep, g, l, hs, aft, aftx⟩ => ?_⟩
  have hl : vs.length = ps.length := by rw [← l.length]; exact len _ _ _ _ hs
  have kin : K.In s.heap := e0.mod.kin.keeps fun b o e => (e0.bs b o e).1
  have nolim : s.heap.NoLimit := e0.mod.nolimit.keeps fun b o e => (e0.bs b o e).1
  have kinds : ∀ y ∈ ps.zip us, scope.names.lookup y.1 = some .local ∨ (scope.names.lookup y.1 = some .cell ∧ ((cellsFrom (s.heap.objs.size + 1) scope.names []).lookup y.1).isSome = true) := by
    rintro ⟨n, v⟩ hy
    rcases Sc.par n (List.of_mem_zip hy).1 with q | q
    · exact .inl q
    · exact .inr ⟨q, PySem.W.cellsFrom_some _ _ _ (.inl q)⟩
  refine codeAny_call_function hr.room.depth (kin _ _ lk) rfl Sc.co Sc.gen rfl (PySem.W.codeRec_of kin hcd) (hb _ _ _ _ ?_)
  refine wpAny_newFunctionEnv_cells Sc.kind kinds fun env he s1 x => ?_
  subst he
  refine ⟨nolim.keeps x.toInCall.keep, codeAny_func ?_⟩
  have hX : XOk (cxOf (L2.CX P w) P w K mg base N qual scope f cdv A outer s H E) (CtOf G S H) (FinX E') :=
    (takes_of rfl rfl rfl rfl).imp fun c od _ H' z => by
      obtain ⟨G', S', ⟨z0, z1⟩, z2, S2, dr, z4⟩ := z
      subst z0
      exact aftx c od S2 H' (z1.trans dr.tr) (dr.rep z2) z4
  have hB := hbody _ (CtOf G S H) (FinX E') cdv A outer s H E rfl (hr.deeper _) hX (passes_of rfl) rfl
  have I := inv_start (CX := L2.CX P w) (P := P) (w := w) (K := K) (mg := mg) (E := E) Sc hr.room.hd e0 hl r x
  have hq := hsp ds S Q' E' hs
  have hpl : ps.length ≤ N.length := by have := congrArg List.length Sc.pre; rw [List.length_take] at this; omega
  have at0 : At K (CtOf G S H) G (startD N ds) S (L2.start N vs) H := by
    have hdl : ds.length ≤ N.length := by rw [l.length, hl]; exact hpl
    refine ⟨rep, g, ⟨rfl, Tr.refl⟩, by rw [startD_eq hdl]; simp [L2.start, l.length], fun i d q => ?_⟩
    rw [startD_eq hdl] at q
    by_cases hi : i < ds.length
    · rw [List.getElem?_append_left (by simpa using hi), List.getElem?_map] at q
      cases z : ds[i]? with
      | none => rw [z] at q; cases q
      | some y =>
        rw [z] at q; cases q
        obtain ⟨v, h1, h2⟩ := l.getD z
        exact ⟨v, by unfold L2.start; rw [List.getElem?_append_left (by simpa [l.length] using hi), List.getElem?_map, h1]; rfl, h2⟩
    · rw [List.getElem?_append_right (by simpa using hi), List.getElem?_replicate] at q
      split at q <;> cases q
  have red : LS K (CtOf G S H) (t (FinX E')) { nx := fun _ H' => Q .non H', rt := Q } (L2.start N vs) H := by
    refine ⟨G, _, S, _, at0, hq, ⟨fun e2 S2 σ2 H2 t2 a2 q => ?_, fun _ _ _ _ _ _ z => z.elim, fun _ _ _ _ _ _ z => z.elim, fun d S2 v H2 t2 r2 l2 q => ?_⟩⟩
    · obtain ⟨d', S3, fz, q⟩ := q.ex
      obtain ⟨r3, t3, l3⟩ := fz K G H2 .non a2.rep a2.g Rl.non
      exact aft d' S3 _ H2 (t2.trans t3) r3 l3 q
    · obtain ⟨d', S3, fz, q⟩ := q.ex
      obtain ⟨r3, t3, l3⟩ := fz K G H2 v r2 (g.tr rep t2) l2
      exact aft d' S3 _ H2 (t2.trans t3) r3 l3 q
  refine wpAny_mono (hB.ps.run [] s1 (L2.start N vs) H _ I red) (fun fl s' hs' => ?_) fun _ _ z => z
  cases fl with
  | ret u =>
    obtain ⟨v, σ', H', J, rv, q⟩ := hs'
    exact ⟨v, H', J.os, J.bare, J.base, J.hok, rv, q⟩
  | next =>
    obtain ⟨σ', H', J, q⟩ := hs'
    exact ⟨V.non, H', J.os, J.bare, J.base, J.hok, rfl, q⟩
  | brk => obtain ⟨_, _, _, q⟩ := hs'; exact False.elim q
  | cont => obtain ⟨_, _, _, q⟩ := hs'; exact False.elim q
/-- THE RULE for a def: the derivation of its body, and its reading -/
theorem FnD.of {x qual : Str} {st : Stmt} {f : Addr} {fd : FuncData} {N ps : List Str} {k : Nat} {sp : SpD} {t : XKD → TDS} (F : Fun K x qual st f fd) (Sc : FnScope N ps (defScope st)) (len : ∀ ds S Q E, sp ds S Q E → ds.length = ps.length)
    (hbody : ∀ (X : Cx) (C : Ct) (E' : XKD) (cdv : Value) (A : Around) (outer : List Env) (s : Shared) (H : Hp) (E : XK), X = cxOf (L2.CX P w) P w K mg base N qual (defScope st) f cdv A outer s H E → Rm k X.A → XOk X C E' → PassesOwn (model X.prog X.w) X.A X.env X.xe → X.calm = true →
      DSs X C (defBody st) (t E'))
    (hsp : ∀ ds S Q E', sp ds S Q E' → t (FinX E') { nx := fun _ S' => Fin Q .non S', rt := Fin Q } (startD N ds) S) : FnD P w K mg base (k + 1) f fd ps sp := by
  obtain ⟨oc, od, kV, doc, pm, an, cdv, ct, osl, rfl, lk, hcd⟩ := F.ex
  exact FnD.ofG lk hcd Sc len hbody hsp
end

/-! ### a def as it is called -/
structure Fc (P : Program) (w : World) (K : PySem.W.Frag) (mg : Str → Option Value) (base : Heap) (k : Nat) (x : Str) (ps : List Str) (sp : SpD) : Prop where
  ex : ∃ (f : Addr) (fd : FuncData), mg x = some (.ref f) ∧ PySem.W.keepIn K (.ref f) = true ∧ Binds K fd ps [] ∧ FnD P w K mg base k f fd ps sp
def dCall (sp : SpD) (E : XKD) (t : TDA) : TDE := fun e S Q => t e S fun ds S1 => sp ds S1 Q E
section
variable {X : Cx} {C : Ct} {k : Nat} {x : Str} {ps : List Str} {sp : SpD} {E : XKD} {p pos : Pos} {a : Expr} {es : List Expr} {t : TDA}
theorem call_fnd {f : Addr} {fd : FuncData} {pins : List (Addr × Obj)} {σ : L2.St} {H : Hp} {s : Shared} {Q : VK} {us : List Value} {vs : List V} {E : XK} (F : FnD X.prog X.w X.K X.mg X.base k f fd ps sp) (hr : Rm k X.A) (hb : Binds X.K fd ps []) (hx : Passes (L2.CX X.prog X.w) X E)
    (I : Inv X pins σ H s) (r : Vals vs us) (h : LSp X.K sp vs H Q E) : wpAny (model X.prog X.w) X.A (call (.ref f) us) (EP X pins σ Q) X.xe s := by
  have hl : us.length = ps.length := by
    obtain ⟨G, S, ds, Q', E', rep, g, l, hs, _⟩ := h
    rw [← r.length, ← l.length]; exact F.len _ _ _ _ hs
  have bt := hb s us I.kIn (by rw [List.append_nil]; exact hl)
  rw [List.append_nil] at bt
  refine wpAny_call (codeAny_mono (F.run X.A X.stack s H ⟨us, []⟩ us vs Q E hr I.env0 bt r h) fun z s' hq => ?_)
  cases z with
  | error e => exact hx pins σ H s e s' I hq
  | ok fl =>
    cases fl with
    | ret u => exact I.after hq
    | next => exact False.elim hq
    | brk => exact False.elim hq
    | cont => exact False.elim hq
theorem lsp_of {K : PySem.W.Frag} {G : Addr → Prop} {e : En} {S : Sto} {σ : L2.St} {H : Hp} {ds : List D} {vs : List V} {Q' : KD} {Q : VK} (at' : At K C G e S σ H) (l : RlA K H (nfz G S) ds vs) (h : sp ds S Q' E) (k : Aft K G S H Q' Q) : LSp K sp vs H Q (EL K C E) :=
  ⟨G, S, ds, Q', E, at'.rep, at'.g, l, h, k, fun c od S' H' t r q => ⟨G, S', C.tr _ _ _ _ _ at'.c t, r, q⟩⟩
theorem de_call (F : Fc X.prog X.w X.K X.mg X.base k x ps sp) (hr : Rm k X.A) (hx : XOk X C E) (hg : Gl X x) (ha : DA X C (a :: es) t)
    (hdb : (x == ("__debug__" : Str)) = false := by decide) (he : starEach (a :: es) X.env = (false, eval a X.env) :: starEach es X.env := by rfl) (hpl : (backTo pos (starEach es X.env)).any (·.1) = false := by rfl) :
    DE X C (.Call (.Name x p) (a :: es) [] pos) (dCall sp E t) := by
  obtain ⟨f, fd, hm, hk, hb, F⟩ := F.ex
  refine ⟨⟨fun pins s σ H Q I ⟨G, e, S, Q', at', h, k⟩ => ?_⟩⟩
  refine wpAny_Call_Name_kw (ld_glob I hg hm ?_ hdb)
  refine PySem.W.callWith_K (h₀ := X.base) I.ok.mod.kin hk (thn (ha.pa.run pos pins s σ H (fun vs H1 => LSp X.K sp vs H1 Q (EL X.K C E)) I ⟨G, e, S, _, at', h, fun ds S1 vs H1 t1 r1 l1 h1 => lsp_of (at'.next t1 r1) l1 h1 (k.tr t1)⟩) fun us s1 ⟨vs, H1, I1, r, q⟩ => ⟨I1.kIn, ?_⟩) he hpl
  exact call_fnd F hr hb (passes_call hx fun _ _ _ _ h => h) I1 r q
theorem de_call0 (F : Fc X.prog X.w X.K X.mg X.base k x ps sp) (hr : Rm k X.A) (hx : XOk X C E) (hg : Gl X x)
    (hdb : (x == ("__debug__" : Str)) = false := by decide) : DE X C (.Call (.Name x p) [] [] pos) (dCall sp E dNil) := by
  obtain ⟨f, fd, hm, hk, hb, F⟩ := F.ex
  refine ⟨⟨fun pins s σ H Q I ⟨G, e, S, Q', at', h, k⟩ => ?_⟩⟩
  refine wpAny_Call_Name_kw (ld_glob I hg hm ?_ hdb)
  exact PySem.W.callWith_K0 I.kIn hk (call_fnd (us := []) F hr hb (passes_call hx fun _ _ _ _ h => h) I .nil (lsp_of at' RlA.nil h k))
end
/-- a module's constant -/
structure Gc (K : PySem.W.Frag) (mg : Str → Option Value) (x : Str) (d : D) : Prop where
  ex : ∃ (u : Value) (v : V), mg x = some u ∧ RelV v u ∧ ∀ H nf, Rl K H nf d v
theorem dgl {X : Cx} {C : Ct} {x : Str} {d : D} {pos : Pos} (F : Gc X.K X.mg x d) (hg : Gl X x) (hd : (x == ("__debug__" : Str)) = false := by decide) : DE X C (.Name x pos) (dC d) := by
  obtain ⟨u, v, h1, h2, h3⟩ := F.ex
  exact dc_any (pe_glob hg h1 h2 hd) h3
/-- built-in names that the module doesn't store -/
abbrev Bn (mg : Str → Option Value) (xs : List Str) : Prop := ∀ x ∈ xs, mg x = none
/-- a built-in type's name as a value -/
theorem dty {X : Cx} {C : Ct} {x : Str} {T : String} {pos : Pos} (hg : Gl X x) (hm : X.mg x = none) (hv : bootBuiltins x = some (.type T)) (hn : x ≠ "__name__" := by decide) (hd : (x == ("__debug__" : Str)) = false := by decide) : DE X C (.Name x pos) (dC (.ty T)) :=
  dc_any (pe_bltn hg hm hv (show RelV (.ty T) (.type T) from rfl) hn hd) fun _ _ => Rl.ty

/-! ### the law's end -/
section
variable {P : Program} {w : World} {K : PySem.W.Frag} {mg mb : Str → Option Value}
theorem law_callD {k : Nat} {fa a : Addr} {fd : FuncData} {x : Str} {sp : SpD} {s₁ : Shared} {vs : List Value} {ns : List Int}
    (kx : K.In s₁.heap) (hns : s₁.heap.Ns mainGlobals mg) (hb : s₁.heap.Ns builtinsNs mb) (hbb : ∀ x : Str, x ≠ "__name__" → mb x = bootBuiltins x) (hlim : s₁.heap.NoLimit) (hg : s₁.gens = #[])
    (ha : s₁.heap.get? a = some { cls := .type "list", data := .seq vs.toArray }) (hi : IntsAre vs ns) (hl : ns.length ≤ sizeLine) (hr : Rm k callerA)
    (F : ∀ base : Heap, K.In base → base.Ns mainGlobals mg → FnD P w K mg base k fa fd [x] sp) (hbind : ∀ (s : Shared) (u : Value), BindsTo s fd ⟨[u], []⟩ [(x, u)])
    (hsp : sp [.scr ns] (fun _ => none) (fun d _ => d = .bl true) N0) :
    codeAny (model P w) callerA (.call (.ref fa) ⟨[.ref a], []⟩) (fun r s' => r = .ok (.ret (.bool true)) ∧ OldK s₁.heap s'.heap ∧ s'.os = s₁.os ∧ AllBare s'.gens) s₁ := by
  have rv := vals_ints hi
  -- the script is tracked, unless it is an object of the module
  obtain ⟨H, hA, hK, hok, hS, hF⟩ : ∃ H : Hp, (∀ b, H b ≠ none → b = a) ∧ (H a ≠ none → K.lookup a = none) ∧ HOk P w H s₁.heap ∧ Rl K H (nfz (fun _ => False) fun _ => none) (.scr ns) (.ref a) ∧ ∀ b u, H b = some u → ∃ o xs, u = .frz o (.lst xs) := by
    cases hk : K.lookup a with
    | some o =>
      have e := kx a o hk
      rw [ha] at e
      cases e
      refine ⟨fun _ => none, fun b z => absurd rfl z, fun z => absurd rfl z, fun b u z => (nomatch z), ?_, fun b u z => (nomatch z)⟩
      unfold Rl
      exact ⟨a, rfl, .inr (.inr ⟨_, vs.toArray, _, hk, rfl, rfl, rfl, by rw [List.size_toArray, hi.length]; exact hl, by simpa using rv⟩)⟩
    | none =>
      let o : Obj := { cls := .type "list", data := .seq vs.toArray }
      refine ⟨upd (fun _ => none) a (.frz o (.lst (ns.map V.int))), fun b z => ?_, fun _ => rfl, fun b u z => ?_, ?_, fun b u z => ?_⟩
      · by_cases hb : b = a
        · exact hb
        · rw [upd_ne hb] at z; exact absurd rfl z
      · by_cases hb : b = a
        · subst hb
          rw [upd_same] at z; cases z
          exact ⟨ha, by rw [List.length_map]; exact hl, vs, _, rv, ha⟩
        · rw [upd_ne hb] at z; cases z
      · unfold Rl
        exact ⟨a, rfl, .inl ⟨o, upd_same⟩⟩
      · by_cases hb : b = a
        · subst hb; rw [upd_same] at z; cases z; exact ⟨_, _, rfl⟩
        · rw [upd_ne hb] at z; cases z
  have inb : ∀ {b : Addr} {o : Obj}, s₁.heap.get? b = some o → (b = a → H a = none) → (hidT s₁.heap H).get? b = some o := fun {b o} e n => hidT_get e (by
    cases q : H b with
    | none => rfl
    | some u =>
      have e' := hA b (by rw [q]; intro z; cases z)
      subst e'
      rw [n rfl] at q; cases q)
  have nsK : ∀ {b : Addr} {m : Str → Option Value}, s₁.heap.Ns b m → (hidT s₁.heap H).Ns b m := fun {b m} ⟨o, es, ep, e, d, r⟩ => ⟨o, es, ep, inb e (by
    rintro rfl
    rw [ha] at e; cases e
    have d' : Data.seq vs.toArray _ = Data.dict es ep := d
    cases d'), d, r⟩
  have kb : K.In (hidT s₁.heap H) := fun b o e => inb (kx b o e) (by
    rintro rfl
    cases q : H b with
    | none => rfl
    | some u => have := hK (by rw [q]; intro z; cases z); rw [this] at e; cases e)
  have hM : Mod K mg (hidT s₁.heap H) := ⟨kb, nsK hns, ⟨mb, nsK hb, hbb⟩, let ⟨mc, h1, h2⟩ := hlim; ⟨mc, nsK h1, h2⟩⟩
  have e0 : Env0 P w K mg (hidT s₁.heap H) callerA [] s₁ H := ⟨rfl, hM, fun b o e => of_hidT e, Nat.le_of_eq (hidT_size _ _), trivial, fun b hb => (nomatch hb), hok, .of_eq hg⟩
  refine codeAny_mono ((F _ kb (nsK hns)).run callerA [] s₁ H ⟨[.ref a], []⟩ [.ref a] [.ref a] (fun v _ => v = .bl true) (fun _ _ _ => False) hr e0 (hbind s₁ (.ref a)) (.cons rfl .nil)
    ⟨fun _ => False, fun _ => none, [.scr ns], _, N0, fun _ _ z => (nomatch z), fun _ z => z.elim, RlA.cons hS RlA.nil, hsp, fun d S' v H' t r l q => by subst q; exact l.of_bl, fun _ _ _ _ _ _ z => z⟩) fun r s' h => ?_
  cases r with
  | error e =>
    obtain ⟨_, _, _, _, _, _, _, _, _, _, _, _, z⟩ := h
    exact z.elim
  | ok fl =>
    cases fl with
    | next => exact False.elim h
    | brk => exact False.elim h
    | cont => exact False.elim h
    | ret u =>
      obtain ⟨v, H', os, bare, un, hok', r', q⟩ := h
      have q' : v = .bl true := q
      subst q'
      obtain rfl : u = Value.bool true := r'
      refine ⟨rfl, OldK.of_keep fun b o e => ?_, os, bare⟩
      cases q : H b with
      | none => exact un.keep b o e q (fun z => (nomatch z)) (fun z => (nomatch z))
      | some u =>
        obtain ⟨ob, xs, rfl⟩ := hF b u q
        obtain ⟨e1, _⟩ := hok b _ q
        obtain ⟨e2, _⟩ := hok' b _ (un.frzs b ob _ q)
        rw [e] at e1; cases e1
        exact e2
end
theorem walk_ofD {l : PySem.W.OpenLaw} {n k : Nat} {q : Program} {loose : List Str} {XP : (Str → Option Value) → Heap → Prop} {YP : World → Heap → Prop} {d : DefRec} {K : Params → PySem.W.Frag} {sp : SpD} {x : Str}
    (hn : l.most = some n) (hn2 : n ≤ sizeLine) (hdf : d.params.defaults = []) (hr : Rm k callerA)
    (hY : ∀ (w : World) (h : Heap), YP w h → (K w.params).In h)
    (F : ∀ (w : World) (mg : Str → Option Value) (fa : Addr) (h : Heap), (K w.params).In h → h.Ns mainGlobals mg → mg d.name = some (.ref fa) →
      ∃ fd : FuncData, (∀ (s : Shared) (u : Value), BindsTo s fd ⟨[u], []⟩ [(x, u)]) ∧
        ∀ base : Heap, (K w.params).In base → base.Ns mainGlobals mg → FnD l.prog w (K w.params) mg base k fa fd [x] sp)
    (hsp : ∀ (ns : List Int), ns.length ≤ n → sp [.scr ns] (fun _ => none) (fun d _ => d = .bl true) N0) :
    PySem.W.WalkO q loose XP YP l.row.toRowW d [] (fun f vs => PySem.call f vs) := by
  refine Att.attach_call hn hdf fun w s₀ s₁ mg mb fa o pm cd doc a vs ns G Y ho hd hcd hmg hobj hints hlen hg => ?_
  obtain ⟨fd, hb, hF⟩ := F w mg fa _ (hY w _ Y) G.T.g hmg
  exact law_callD (hY w _ Y) G.T.g G.T.b G.T.builtins G.T.nolimit hg hobj hints (Nat.le_trans hlen hn2) hr hF hb (hsp ns hlen)
end DL

/-! DLX: further rules of the layer: enumerate of a tuple, sorted of a tuple of ints, index of a tuple of flat items, repr of data. -/
namespace DL
open PySem PySem.Spec PyProof.Rows L2
open Builtin Builtin.Str

/-! ### enumerate(t), t a tuple -/
theorem enum_one {v : Value} {o : Obj} {Hh : Heap → Prop} (B : Begins v o Hh) :
    Meets (Builtin.«enumerate.__new__» ⟨[.type "enumerate", v], []⟩) (fun _ R s => Hh s.heap ∧
      R (.ok (.ret (.ref (s.heap.push o).objs.size))) { s with heap := (s.heap.push o).push { cls := .type "enumerate", data := .fields #[.none, .bool false, .ref s.heap.objs.size, rawInt 0, .none, .none] } }) :=
  .of_wp fun prog w A R s h => by
    obtain ⟨hp, g, d, tk, os⟩ := s
    obtain ⟨h1, h⟩ := h
    have hsub := sub_enumerate
    have go : ∀ {A' : Around} {E : Value → Shared → Prop} {Q : Value → Shared → Prop}, Q (.ref hp.objs.size) ⟨hp.push o, g, d, tk, os⟩ →
        wpAny (model prog w) A' (pyIter v) Q E ⟨hp, g, d, tk, os⟩ := fun q => B.iter prog w _ _ ⟨hp, g, d, tk, os⟩ _ h1 q
    wp_walk using go
    refine wpAny_stack_any fun st => wpAny_pure ?_
    split
    · rename_i c _ _ _ _ _
      cases (c == Value.type "enumerate") <;> (wp_walk using go; exact ⟨_, rfl, h⟩)
    · wp_walk using go
      exact ⟨_, rfl, h⟩
theorem call_enum_one {prog : Program} {w : World} {A : Around} {E : Value → Shared → Prop} {s : Shared} {v : Value} {o : Obj} {Hh : Heap → Prop} {Q : Value → Shared → Prop} (B : Begins v o Hh) (h1 : Hh s.heap)
    (h : ∀ h', IsEnum h' (s.heap.objs.size + 1) s.heap.objs.size 0 .none → h'.get? s.heap.objs.size = some o → (∀ b ob, s.heap.get? b = some ob → h'.get? b = some ob) → Q (.ref (s.heap.objs.size + 1)) { s with heap := h' }) :
    wpAny (model prog w) A (call (.type "enumerate") [v]) Q E s := by
  refine callType_new F.called_enumerate (by decide) (F.typeCall_enumerate_1 _) (F.newCall_enumerate_1 _) (fun obj => F.args_object_init_2 obj _) F.entry_enumerate_new (enum_one B) ⟨h1, ?_⟩
  have hz : (s.heap.push o).objs.size = s.heap.objs.size + 1 := Heap.size_push ..
  show _ ∧ _
  rw [hz]
  have he := Heap.get?_push_size (s.heap.push o) (o := { cls := .type "enumerate", data := .fields #[.none, .bool false, .ref s.heap.objs.size, rawInt 0, .none, .none] }) rfl
  rw [hz] at he
  exact ⟨⟨_, he, rfl⟩, h _ he (Heap.get?_push_of_some _ (Heap.get?_push_size _ B.free)) fun b ob x => Heap.get?_push_of_some _ (Heap.get?_push_of_some _ x)⟩

/-- the tuple at a, its items in new pairs with their places -/
def IteT (K : PySem.W.Frag) (a : Addr) : It where
  go i H := ∃ (xs : List V) (x : V), SqT K H a xs ∧ xs[i]? = some x
  yld i H v H' := ∃ T x, v = .ref T ∧ H T = none ∧ H' = upd H T (.tup [.int (i : Nat), x]) ∧ ∀ xs, SqT K H a xs → xs[i]? = some x
  stop i H := ∃ xs : List V, SqT K H a xs ∧ xs.length ≤ i
theorem turn_enumT {P : Program} {w : World} {K : PySem.W.Frag} {elts : List Expr} {kk : Nat} {tpos : Pos} (a e it : Addr) :
    Turn P w K (.Tuple elts kk tpos) (IteT K a) [e, it] e (fun i h => (∃ old, IsEnum h e it ((i : Nat) : Int) old) ∧ h.IsTupleIter it a i ∧ e ≠ it ∧ a ≠ it ∧ e ≠ a) where
  mem := by simp
  obj := fun i h st b hb => by
    obtain ⟨⟨old, he⟩, ⟨o, ho, hc, hd⟩, _⟩ := st
    rcases (by simpa using hb : b = e ∨ b = it) with z | z
    · subst z; exact ⟨_, he, fun v q => nomatch q⟩
    · subst z; exact ⟨o, ho, fun v q => by rw [hd] at q; cases q⟩
  keep := fun i h h' st k => ⟨let ⟨old, he⟩ := st.1; ⟨old, k e (by simp) _ he⟩, st.2.1.at fun o q => k it (by simp) o q, st.2.2⟩
  item := by
    intro X hP hw hK hc i pins s σ H E I hf st hg
    subst hP hw hK
    obtain ⟨⟨old, he⟩, hit, hne, hai, hea⟩ := st
    obtain ⟨xs, x, hq, hx⟩ := hg
    obtain ⟨its, rv, p, hz⟩ := I.tuple hq
    obtain ⟨u, hu, ru⟩ := rv.get hx
    have hi : i < its.toArray.size := by simpa using (List.getElem?_eq_some_iff.mp hu).1
    have hel : e < s.heap.objs.size := Heap.lt_size he
    have hil : it < s.heap.objs.size := by obtain ⟨_, q, _⟩ := hit; exact Heap.lt_size q
    have D := Draws.tuple (prog := X.prog) (w := X.w) (A := X.A.in1) (I.ok.hd hc) it a hai its.toArray
    refine wpAny_pyNext_enum_itemD D he ⟨hit, p⟩ hi hne (by simp [hne, hea]) fun y h' tk hy ho hst hT hsz hk => ?_
    have ey : y = u := by
      have : its.toArray[i]? = some u := by simpa using hu
      rw [this] at hy; exact (Option.some.inj hy).symm
    subst ey
    refine ⟨_, rfl, wpAny_letOwnedTupleGo_enum (s := { s with heap := h', toks := tk + 1 }) ho fun h'' he' sb => ?_⟩
    have hT2 : h''.get? s.heap.objs.size = some { cls := .type "tuple", data := .seq #[.int i tk, y] } := (sb.2 _ (Nat.ne_of_gt hel)).trans hT
    have new : ObjOk X.prog X.w (upd H s.heap.objs.size (.tup [.int (i : Nat), x])) h'' s.heap.objs.size (.tup [.int (i : Nat), x]) :=
      ⟨by show 2 ≤ sizeLine; decide, [.int i tk, y], .cons ⟨_, rfl⟩ (.cons ru .nil), ⟨_, hT2, rfl, _, rfl⟩⟩
    have I1 : Inv X pins σ (upd H s.heap.objs.size (.tup [.int (i : Nat), x])) { s with heap := h'', toks := tk + 1 } :=
      I.turnedNew (ch := [e, it]) (fun b ob hb q => (sb.2 b (fun z => hb (by simp [z]))).trans (hk b ob (fun z => hb (by simp [z])) (fun z => hb (by simp [z])) q)) hf (Nat.le_refl _) new
    have low : ∀ b ∈ [e, it], b < s.heap.objs.size := fun b hb => by
      rcases (by simpa using hb : b = e ∨ b = it) with z | z
      · rw [z]; exact hel
      · rw [z]; exact hil
    refine ⟨.ref s.heap.objs.size, _, I1, rfl, ⟨_, x, rfl, I.hok.fresh (Nat.le_refl _), rfl, fun ys hy => by rw [I.tuple_inj hy hq]; exact hx⟩, ⟨⟨y, ?_⟩, hst.1.at fun o q => (sb.2 it (Ne.symm hne)).trans q, hne, hai, hea⟩, fun b hb => ?_⟩
    · have e1 : ((i + 1 : Nat) : Int) = (i : Int) + 1 := by omega
      rw [e1]
      exact he'
    · rw [upd_ne (Nat.ne_of_lt (low b hb))]
      exact (hf b hb).1
  done := by
    intro X hP hw hK hc i pins s σ H E I hf st hg
    subst hP hw hK
    obtain ⟨⟨old, he⟩, hit, hne, hai, hea⟩ := st
    obtain ⟨xs, hq, hx⟩ := hg
    obtain ⟨its, rv, p, hz⟩ := I.tuple hq
    obtain ⟨f0, f1, f2, f3, f4, f5⟩ := hf it (by simp)
    have hT : s.TypeIs (.ref e) "enumerate" := ⟨_, he, rfl⟩
    unfold pyNext
    refine wpAny_bind (wpAny_attempt (wpAny_callSpecial?_slot (name := Str.ofString "__next__") hT F.slot_enumerate_next (wpAny_call_entry F.slot_enumerate_next hT F.entry_enumerate_next ?_ (F.args_enumerate_next_1 _))))
    show wpAny _ _ (field (.ref e) 2 >>= _) _ _ _
    refine wpAny_bind (wpAny_field he rfl (x := .ref it) rfl ?_)
    have nx : its.toArray[i]? = none := by
      have : its.length ≤ i := by rw [← rv.length]; exact hx
      simpa using this
    refine wpAny_bind (wpAny_nextOf_tuple_end (A := X.A.in1) (I.ok.hd hc) hit p nx fun h' y eb hy => ?_)
    obtain ⟨o, ho, hcl⟩ := hy
    refine wpAny_bind (wpAny_isInstance (T := "StopIteration") (b := true) ⟨o, ho, hcl⟩ isSubtype_stop ?_)
    exact wpAny_pure ⟨rfl, I.turned (t' := s.toks) (fun b ob hb q => eb b ob hb q) f0 f1 f3 f4 f5⟩
  self := fun A i s Q E st h => let ⟨⟨_, he⟩, _⟩ := st; wpAny_pyIter_enum he h
def iEnumT (K : PySem.W.Frag) (ta : TA) : TI := fun σ H R => ta σ H fun vs H1 => ∃ a xs, vs = [.ref a] ∧ ((SqL K H1 a xs ∧ R (Ite K a) H1) ∨ (SqT K H1 a xs ∧ R (IteT K a) H1))
theorem pi_enumT {X : Cx} {e : Expr} {ta : TA} {p pos tpos : Pos} {elts : List Expr} {kk : Nat} (hg : Gl X "enumerate") (hm : X.mg "enumerate" = none) (ha : PA X [e] ta) (hs : starEach [e] X.env = [(false, eval e X.env)] := by rfl) :
    PI X (.Tuple elts kk tpos) (.Call (.Name "enumerate" p) [e] [] pos) (iEnumT X.K ta) := by
  refine ⟨fun pins s σ H R I h => ?_⟩
  refine Call_ (ld_blt I hg hm boot_enumerate (PyProof.Rows.callWith_type1 (thn (ha.run pos pins s σ H _ I h) fun us s1 ⟨vs, H1, I1, r1, q1⟩ => ?_) hs rfl))
  obtain ⟨a, xs, ex, q⟩ := q1
  subst ex
  obtain rfl := Vals.ref1 r1
  have old : ∀ {h' : Heap} {R' : It → Hp → Prop} {J : It} {tn : Nat → Heap → Prop}, (∀ b o, s1.heap.get? b = some o → h'.get? b = some o) → IsEnum h' (s1.heap.objs.size + 1) s1.heap.objs.size 0 .none →
      Turn X.prog X.w X.K (.Tuple elts kk tpos) J [s1.heap.objs.size + 1, s1.heap.objs.size] (s1.heap.objs.size + 1) tn → tn 0 h' → R' J H1 → wpAny (model X.prog X.w) X.A (pyIter (.ref (s1.heap.objs.size + 1))) (PIE X pins σ (.Tuple elts kk tpos) R') X.xe { s1 with heap := h' } := by
    intro h' R' J tn hk he T ht hr
    refine wpAny_pyIter_enum he ?_
    refine ⟨s1.heap.objs.size + 1, [s1.heap.objs.size + 1, s1.heap.objs.size], tn, J, H1, rfl, I1.kept (t' := s1.toks) hk, T, ht, fun b hb => ?_, hr⟩
    have hle : s1.heap.objs.size ≤ b := by
      rcases (by simpa using hb : b = s1.heap.objs.size + 1 ∨ b = s1.heap.objs.size) with z | z
      · rw [z]; exact Nat.le_add_right _ _
      · rw [z]; exact Nat.le_refl _
    exact I1.fpOk hle (I1.hok.fresh hle)
  rcases q with ⟨hq, q⟩ | ⟨hq, q⟩
  · obtain ⟨its, rv, p', hz⟩ := I1.list hq
    refine call_enum_one (begins_list a its.toArray) p'.isList fun h' he hi hk => old hk he (turn_enum a _ _) ⟨⟨.none, he⟩, ⟨_, hi, rfl, rfl⟩, Nat.succ_ne_self _⟩ q
  · obtain ⟨its, rv, p', hz⟩ := I1.tuple hq
    have la : a < s1.heap.objs.size := p'.lt
    refine call_enum_one (begins_tuple a its.toArray) p' fun h' he hi hk => old hk he (turn_enumT a _ _) ⟨⟨.none, he⟩, ⟨_, hi, rfl, rfl⟩, Nat.succ_ne_self _, Nat.ne_of_lt la, Nat.ne_of_gt (Nat.lt_succ_of_lt la)⟩ q

/-! ### sorted(t), t a tuple of ints -/
section
variable {prog : Program} {w : World} {A : Around} {E : Value → Shared → Prop} {s : Shared}
theorem collect_tup {l : Addr} {vs : List Value} {Q : List Value → Shared → Prop} (ht : s.heap.IsTuple l vs.toArray) (hsz : vs.length ≤ sizeLine)
    (h : ∀ h' : Heap, (∀ b o, s.heap.get? b = some o → h'.get? b = some o) → Q vs { s with heap := h' }) : wpAny (model prog w) A (collect (.ref l)) Q E s := by
  obtain ⟨o, ho, hc, n, hd⟩ := id ht
  unfold collect
  refine wpAny_bind (wpAny_runValue (codeAny_builtin entry_proto_collect' ?_))
  show wpAny _ _ (do again (.builtin "list.__iadd__" ⟨[← newList [], .ref l], []⟩)) _ _ s
  refine wpAny_bind (wpAny_newList (wpAny_pure ?_))
  refine ⟨Code.quiet_builtin _ (by decide +kernel), codeAny_builtin entry_list_iadd' ?_⟩
  let new : Obj := seqObj "list" #[] 0
  show wpAny _ _ (Builtin.List.listExtendWith (.ref s.heap.objs.size) (.ref l) (.ref s.heap.objs.size)) _ _ { s with heap := s.heap.push new }
  unfold Builtin.List.listExtendWith
  have ho2 : (s.heap.push new).get? l = some o := Heap.get?_push_of_some _ ho
  have hn2 : (s.heap.push new).get? s.heap.objs.size = some new := Heap.get?_push_size _ rfl
  refine wpAny_bind (wpAny_typeOf (T := "tuple") ⟨o, ho2, hc⟩ ?_)
  rw [if_pos (Bool.or_eq_true_iff.mpr (.inr (by rfl)))]
  refine wpAny_bind (listItems_at ho2 hd (wpAny_bind (listItems_at hn2 rfl ?_)))
  rw [if_neg (by simp)]
  refine wpAny_bind (listUpdate_at hn2 rfl ?_ (Nat.zero_le _) (by show (#[] ++ vs.toArray).size ≤ sizeLine + 1; simp only [Array.size_append, List.size_toArray, List.length_nil]; omega))
  refine wpAny_pure ?_
  show wpAny (model prog w) A (do
      match (← load s.heap.objs.size).data with
      | .seq xs _ => pure xs.toList
      | _ => unsupported "internal:collect") Q E { s with heap := (s.heap.push new).update s.heap.objs.size (Obj.mapSeq (· ++ vs.toArray)) }
  refine wpAny_bind (wpAny_load (get?_update_seq hn2 _) ?_)
  have ev : ((#[] : Array Value) ++ vs.toArray).toList = vs := by simp
  show wpAny _ _ (pure ((#[] : Array Value) ++ vs.toArray).toList) Q E _
  rw [ev]
  refine wpAny_pure (h _ fun b ob q => ?_)
  rw [Heap.get?_update_ne _ _ _ _ (Nat.ne_of_lt (Heap.lt_size q))]
  exact Heap.get?_push_of_some _ q
end
/-- sorted of a list or a tuple of ints -/
def rSortQ (K : PySem.W.Frag) : List V → Hp → VK → Prop := fun vs H Q => ∃ (a : Addr) (ns : List Int), vs = [V.ref a] ∧ SqT K H a (ns.map V.int) ∧
  ∀ (ns' : List Int) (p : Addr), ns'.Perm ns → ns'.Pairwise (· ≤ ·) → H p = none → Q (.ref p) (upd H p (.lst (ns'.map V.int)))
theorem cr_sortQ {X : Cx} : CallR X (.builtin "sorted") (rSortQ X.K) := by
  intro pins s σ H vs us Q I r h
  obtain ⟨a, ns, rfl, hs, q⟩ := h
  obtain ⟨its, rv, ht, hz⟩ := I.tuple hs
  rw [Vals.ref1 r]
  have hi := rv.ints
  have hlen : its.length ≤ sizeLine := by rw [← rv.length]; exact hz
  refine Calls.call_function_entry kind_sorted plain_sorted entry_sorted (args_sorted1 _) ?_
  unfold Builtin.«sorted»
  refine wpAny_bind (m := checkCount "sorted" 1 1 _) (wpAny_pure (wpAny_bind (collect_tup ht hlen fun h' hk => wpAny_bind (wpAny_newList ?_ hlen))))
  have I1 : Inv X pins σ H { s with heap := h' } := I.kept (t' := s.toks) hk
  have hL : (h'.push (seqObj "list" its.toArray 0)).get? h'.objs.size = some (seqObj "list" its.toArray 0) := Heap.get?_push_size _ rfl
  show wpAny _ _ _ _ _ { s with heap := h'.push (seqObj "list" its.toArray 0) }
  refine wpAny_bind (wpAny_holding (wpAny_call_entry slot_list_sort ⟨_, hL, rfl⟩ entry_list_sort
    (SrtO.list_sort_ord (s := { s with heap := h'.push (seqObj "list" its.toArray 0) }) SrtO.swo_int hL hlen (fun h2 => SrtO.ints_sortable hi h2) fun out h1 h2 => ⟨_, rfl, ?_⟩) (args_list_sort _)))
  obtain ⟨k1, k2, k3⟩ := SrtO.ints_out hi h1 h2
  obtain ⟨e', he'⟩ := sortedHeap_at (vs := its) (out := out.toArray) hL
  have hl2 : ((out.map SrtO.iv).map V.int).length ≤ sizeLine := by
    rw [List.length_map, k2.length_eq]
    rwa [List.length_map] at hz
  refine wpAny_pure ⟨_, rfl, .ref h'.objs.size, upd H h'.objs.size (.lst ((out.map SrtO.iv).map V.int)), I1.laid (t' := s.toks) (fun b u e => ?_) (Nat.le_refl _) ⟨hl2, out, e', vals_of_ints k1, he'⟩, rfl, q _ _ k2 k3 (I1.hok.fresh (Nat.le_refl _))⟩
  have hb : b < h'.objs.size := Heap.lt_size e
  rw [sortedHeap_old (Nat.ne_of_lt hb) (by rw [size_push']; exact Nat.lt_succ_of_lt hb)]
  exact Heap.get?_push_of_some _ e

/-! ### t.index(x), t a tuple of flat items -/
def rTIndex (K : PySem.W.Frag) : V → List V → Hp → VK → Prop := fun x xs H Q => ∃ (a : Addr) (ys : List V) (y : V) (j : Nat) (z : V), x = V.ref a ∧ xs = [y] ∧ SqT K H a ys ∧ flatV y = true ∧ ys.all flatV = true ∧
  ys[j]? = some z ∧ eqV z y = true ∧ (∀ (m : Nat) (z' : V), m < j → ys[m]? = some z' → eqV z' y = false) ∧ Q (.int (j : Nat)) H
theorem mt_tindex {X : Cx} : MtR X "tuple.index" (rTIndex X.K) := by
  intro pins s σ H x xs v us Q I rx rs h
  obtain ⟨p, ys, y, j, z, rfl, rfl, hq, fy, fys, hz, hzj, hno, q⟩ := h
  cases rx
  obtain ⟨u, rfl, ry⟩ := vals1 rs
  obtain ⟨its, r, pl, hzz⟩ := I.tuple hq
  obtain ⟨⟨cls, dd, dt, sl⟩, ho, hc, n, hd⟩ := pl
  simp only at hc hd
  subst hc hd
  have at' : ∀ (m : Nat) (z' : V), ys[m]? = some z' → ∀ hm : m < its.toArray.size, eqU y its.toArray[m] = eqV z' y := fun m z' e hm => by
    obtain ⟨w, hw, rw'⟩ := r.get e
    have e2 := (List.getElem?_eq_some_iff.mp hw).2
    have e3 : its.toArray[m] = w := by rw [← e2]; simp
    rw [e3, eqU_of rw' (flat_at fys e)]
  have hj : j < its.toArray.size := by
    obtain ⟨w, hw, _⟩ := r.get hz
    simpa using (List.getElem?_eq_some_iff.mp hw).1
  refine call_meets PySem.F.slot_tuple_index ⟨_, ho, rfl⟩ PySem.F.entry_tuple_index (PySem.F.args_tuple_index_2 _ _) (TI.tuple_indexAt p its.toArray n dd sl u (eqU y) j hj ?_ ?_)
    ⟨ho, fun w hw => mem_eqAt ry fy r fys w (by simpa using hw), ⟨.int (j : Nat), H, I.tok _, ⟨_, rfl⟩, q⟩⟩
  · rw [at' j z hz hj]; exact hzj
  · intro m hm hmj
    have hmy : m < ys.length := by rw [r.length]; simpa using hm
    have e : ys[m]? = some ys[m] := List.getElem?_eq_getElem hmy
    rw [at' m _ e hm]
    exact hno m _ hmj e

/-! ### repr of a tuple or list of data -/
def rRepr (K : PySem.W.Frag) : List V → Hp → VK → Prop := fun xs H Q => ∃ a d, xs = [V.ref a] ∧ Dp K H (.ref a) d ∧ d.showable = true ∧ d.hasDict = false ∧ d.depth ≤ 64 ∧ d.shown.length ≤ sizeLine ∧ Q (.str d.shown) H
theorem cr_repr {X : Cx} (hg : X.A.guards = some []) (hu : X.A.units + 65 < cLine) : CallR X (.builtin "repr") (rRepr X.K) := by
  intro pins s σ H xs us Q I r h
  obtain ⟨a, d, rfl, hd, sh, nd, dp, sz, q⟩ := h
  obtain rfl := Vals.ref1 r
  obtain ⟨as, rd⟩ := Dp.reads I d (.ref a) (.ref a) hd rfl
  exact repr_of_reads' rd sh (fun z => by rw [nd] at z; cases z) hg (by omega) (fun _ _ e => e) (fun h' u tk hk => ⟨.str d.shown, H, I.kept hk, ⟨_, rfl⟩, q⟩) sz
end DL

/-! DL, part G: built-ins, methods, what is walked. -/
namespace DL
open PySem PySem.Spec PyProof.Rows L2

section
variable {X : Cx} {C : Ct}
theorem of_one {K : PySem.W.Frag} {H : Hp} {nf : Addr → Prop} {d : D} {vs : List V} (l : RlA K H nf [d] vs) : ∃ v, vs = [v] ∧ Rl K H nf d v := by
  obtain ⟨v, r, rfl, h1, h2⟩ := l.of_cons
  rw [h2.of_nil]
  exact ⟨v, rfl, h1⟩
theorem of_two {K : PySem.W.Frag} {H : Hp} {nf : Addr → Prop} {d d' : D} {vs : List V} (l : RlA K H nf [d, d'] vs) : ∃ v w, vs = [v, w] ∧ Rl K H nf d v ∧ Rl K H nf d' w := by
  obtain ⟨v, r, rfl, h1, h2⟩ := l.of_cons
  obtain ⟨w, rfl, h3⟩ := of_one h2
  exact ⟨v, w, rfl, h1, h3⟩
theorem RlA.of_ints {K : PySem.W.Frag} {H : Hp} {nf : Addr → Prop} : ∀ {ns : List Int} {vs : List V}, RlA K H nf (ns.map D.int) vs → vs = ns.map V.int
  | [], vs, h => h.of_nil
  | n :: r, vs, h => by
    obtain ⟨v, w, rfl, h1, h2⟩ := h.of_cons
    rw [h1.of_int, RlA.of_ints h2]; rfl
theorem RlA.of_bls {K : PySem.W.Frag} {H : Hp} {nf : Addr → Prop} : ∀ {ns : List Bool} {vs : List V}, RlA K H nf (ns.map D.bl) vs → vs = ns.map V.bl
  | [], vs, h => h.of_nil
  | n :: r, vs, h => by
    obtain ⟨v, w, rfl, h1, h2⟩ := h.of_cons
    rw [h1.of_bl, RlA.of_bls h2]; rfl
theorem RlA.of_strs {K : PySem.W.Frag} {H : Hp} {nf : Addr → Prop} : ∀ {ns : List Str} {vs : List V}, RlA K H nf (ns.map D.str) vs → vs = ns.map V.str
  | [], vs, h => h.of_nil
  | n :: r, vs, h => by
    obtain ⟨v, w, rfl, h1, h2⟩ := h.of_cons
    rw [h1.of_str, RlA.of_strs h2]; rfl

/-- one argument, two -/
def one (r : D → Sto → KD → Prop) : RDL := fun ds S Q => match ds with
  | [d] => r d S Q
  | _ => False
def two (r : RD2) : RDL := fun ds S Q => match ds with
  | [d, d'] => r d d' S Q
  | _ => False
def L1 (K : PySem.W.Frag) (r : D → Sto → KD → Prop) : V → Hp → VK → Prop := fun v H Q => ∃ G d S Q', RepS K G S H ∧ GOk G H ∧ Rl K H (nfz G S) d v ∧ r d S Q' ∧ Aft K G S H Q' Q
theorem cr_one {f : Value} {r : D → Sto → KD → Prop} {r' : List V → Hp → VK → Prop} (h : CallR X f r') (i : ∀ v H Q, L1 X.K r v H Q → r' [v] H Q) : CallR X f (LRL X.K (one r)) := CallR.imp h fun vs H Q ⟨G, ds, S, Q', rep, g, l, h, k⟩ => by
  cases ds with
  | nil => exact False.elim h
  | cons d ds =>
    cases ds with
    | nil =>
      obtain ⟨v, rfl, l2⟩ := of_one l
      exact i v H Q ⟨G, d, S, Q', rep, g, l2, h, k⟩
    | cons d' ds => exact False.elim h
theorem cr_two {f : Value} {r : RD2} {r' : List V → Hp → VK → Prop} (h : CallR X f r') (i : ∀ v w H Q, LR2 X.K r v w H Q → r' [v, w] H Q) : CallR X f (LRL X.K (two r)) := CallR.imp h fun vs H Q ⟨G, ds, S, Q', rep, g, l, h, k⟩ => by
  cases ds with
  | nil => exact False.elim h
  | cons d ds =>
    cases ds with
    | nil => exact False.elim h
    | cons d' ds =>
      cases ds with
      | nil =>
        obtain ⟨v, w, rfl, l1, l2⟩ := of_two l
        exact i v w H Q ⟨G, d, d', S, Q', rep, g, l1, l2, h, k⟩
      | cons d'' ds => exact False.elim h
/-- len -/
def lenR : D → Sto → KD → Prop := fun d S Q => match d with
  | .str z => z.length ≤ sizeLine ∧ Q (.int z.length) S
  | d => ∃ xs, asQ S d = some xs ∧ Q (.int xs.length) S
theorem cr_len : CallR X (.builtin "len") (LRL X.K (one lenR)) := cr_one (CallR.or call_len_seq call_len_str) fun v H Q ⟨G, d, S, Q', r, g, l, h, k⟩ => by
  have seq : (∃ xs, asQ S d = some xs ∧ Q' (.int xs.length) S) → ∃ p ys, [v] = [V.ref p] ∧ (SqL X.K H p ys ∨ SqT X.K H p ys) ∧ Q (.int ys.length) H := fun ⟨xs, e, q⟩ => by
    obtain ⟨a, vs, rfl, h1, h2⟩ := of_asQ r e l
    exact ⟨a, vs, rfl, h1, by rw [← h2.length]; exact k.now r Rl.int q⟩
  cases d with
  | str z => exact .inr ⟨z, by rw [l.of_str], h.1, k.now r Rl.int h.2⟩
  | _ => exact .inl (seq h)
/-- tuple(x), list(x) -/
def tupR : D → Sto → KD → Prop := fun d S Q => ∃ xs, asQ S d = some xs ∧ Q (.tup xs) S
theorem cr_tup : CallR X (.type "tuple") (LRL X.K (one tupR)) := cr_one call_tuple_of fun v H Q ⟨G, d, S, Q', r, g, l, ⟨xs, e, q⟩, k⟩ => by
  obtain ⟨a, vs, rfl, h1 | h1, h2⟩ := of_asQ r e l
  · exact ⟨a, vs, rfl, .inl ⟨h1, fun p n => tup_ok r h2 n q k⟩⟩
  · exact ⟨a, vs, rfl, .inr ⟨h1, k.now r (Rl.tup h1 h2) q⟩⟩
def lstR (c : Bool) : D → Sto → KD → Prop := fun d S Q => ∃ xs, asQ S d = some xs ∧ mkL c xs S Q
theorem cr_lst (c : Bool) : CallR X (.type "list") (LRL X.K (one (lstR c))) := cr_one call_list_of fun v H Q ⟨G, d, S, Q', r, g, l, ⟨xs, e, q⟩, k⟩ => by
  obtain ⟨a, vs, rfl, h1, h2⟩ := of_asQ r e l
  exact ⟨a, vs, rfl, h1, fun p n => mkL_ok r g h2 n q k⟩
/-- all, any of truths; sum of ints -/
def allR : D → Sto → KD → Prop := fun d S Q => ∃ bs : List Bool, asL S d = some (bs.map D.bl) ∧ Q (.bl (bs.all id)) S
def anyR : D → Sto → KD → Prop := fun d S Q => ∃ bs : List Bool, asL S d = some (bs.map D.bl) ∧ Q (.bl (bs.any id)) S
def sumR : D → Sto → KD → Prop := fun d S Q => ∃ ns : List Int, asL S d = some (ns.map D.int) ∧ Q (.int ns.sum) S
theorem cr_allD (hc : X.calm = true) : CallR X (.builtin "all") (LRL X.K (one allR)) := cr_one (cr_all hc) fun v H Q ⟨G, d, S, Q', r, g, l, ⟨xs, e, q⟩, k⟩ => by
  obtain ⟨a, vs, rfl, h1, h2⟩ := of_asL r e l
  rw [h2.of_bls] at h1
  exact ⟨a, xs, rfl, h1, k.now r Rl.bl q⟩
theorem cr_anyD (hc : X.calm = true) : CallR X (.builtin "any") (LRL X.K (one anyR)) := cr_one (cr_any hc) fun v H Q ⟨G, d, S, Q', r, g, l, ⟨xs, e, q⟩, k⟩ => by
  obtain ⟨a, vs, rfl, h1, h2⟩ := of_asL r e l
  rw [h2.of_bls] at h1
  exact ⟨a, xs, rfl, h1, k.now r Rl.bl q⟩
theorem cr_sumD (hc : X.calm = true) : CallR X (.builtin "sum") (LRL X.K (one sumR)) := cr_one (cr_sum hc) fun v H Q ⟨G, d, S, Q', r, g, l, ⟨xs, e, q⟩, k⟩ => by
  obtain ⟨a, vs, rfl, h1, h2⟩ := of_asL r e l
  rw [h2.of_ints] at h1
  exact ⟨a, xs, rfl, h1, k.now r Rl.int q⟩
/-- max, min of two ints -/
abbrev max2R : RD2 := iiR (fun i j => .int (if j > i then j else i)) fun _ _ => True
abbrev min2R : RD2 := iiR (fun i j => .int (if j < i then j else i)) fun _ _ => True
theorem cr_max2D (hc : X.calm = true) : CallR X (.builtin "max") (LRL X.K (two max2R)) := cr_two (call_max2 hc) fun v w H Q ⟨G, d, d', S, Q', r, g, l, l', h, k⟩ => by
  cases d with
  | int i => cases d' with
    | int j => exact ⟨i, j, by rw [l.of_int, l'.of_int], k.now r Rl.int h.2⟩
    | _ => exact False.elim h
  | _ => exact False.elim h
theorem cr_min2D (hc : X.calm = true) : CallR X (.builtin "min") (LRL X.K (two min2R)) := cr_two (call_min2 hc) fun v w H Q ⟨G, d, d', S, Q', r, g, l, l', h, k⟩ => by
  cases d with
  | int i => cases d' with
    | int j => exact ⟨i, j, by rw [l.of_int, l'.of_int], k.now r Rl.int h.2⟩
    | _ => exact False.elim h
  | _ => exact False.elim h
/-- int(x) -/
def intR : D → Sto → KD → Prop := fun d S Q => match d with
  | .int i => Q (.int i) S
  | .bl b => Q (.int (if b then 1 else 0)) S
  | .str a => ∃ n, PySem.intText? a = some n ∧ a.length ≤ 640 ∧ Q (.int n) S
  | _ => False
theorem cr_intD : CallR X (.type "int") (LRL X.K (one intR)) := cr_one (CallR.or call_int1 call_int_str) fun v H Q ⟨G, d, S, Q', r, g, l, h, k⟩ => by
  cases d with
  | int i => exact .inl (.inl ⟨i, by rw [l.of_int], k.now r Rl.int h⟩)
  | bl i => exact .inl (.inr ⟨i, by rw [l.of_bl], k.now r Rl.int h⟩)
  | str i =>
    obtain ⟨n, h1, h2, h3⟩ := h
    exact .inr ⟨i, n, by rw [l.of_str], h1, h2, k.now r Rl.int h3⟩
  | _ => exact False.elim h
/-- str(n) -/
def strR : D → Sto → KD → Prop := fun d S Q => match d with
  | .int i => i.natAbs.log2 < 1920 ∧ Q (.str (toString i)) S
  | _ => False
theorem cr_strD : CallR X (.type "str") (LRL X.K (one strR)) := cr_one call_str_int fun v H Q ⟨G, d, S, Q', r, g, l, h, k⟩ => by
  cases d with
  | int i => exact ⟨i, by rw [l.of_int], h.1, k.now r Rl.str h.2⟩
  | _ => exact False.elim h
/-- sorted of ints -/
def srt (ns : List Int) : List Int := ns.mergeSort fun a b => decide (a ≤ b)
theorem srt_perm (ns : List Int) : (srt ns).Perm ns := List.mergeSort_perm ..
theorem srt_sorted (ns : List Int) : (srt ns).Pairwise (· ≤ ·) := by
  have h := List.pairwise_mergeSort (le := fun a b : Int => decide (a ≤ b)) (fun a b c h1 h2 => by simp at *; omega) (fun a b => by simp; omega) ns
  exact h.imp fun h => by simpa using h
theorem sorted_unique : ∀ {xs ys : List Int}, xs.Perm ys → xs.Pairwise (· ≤ ·) → ys.Pairwise (· ≤ ·) → xs = ys
  | [], ys, p, _, _ => (List.nil_perm.mp p).symm
  | x :: xs, [], p, _, _ => by have := p.length_eq; simp at this
  | x :: xs, y :: ys, p, hx, hy => by
    have hx' := List.pairwise_cons.mp hx
    have hy' := List.pairwise_cons.mp hy
    have e : x = y := by
      have h1 : x ∈ y :: ys := p.mem_iff.mp List.mem_cons_self
      have h2 : y ∈ x :: xs := p.mem_iff.mpr List.mem_cons_self
      rcases List.mem_cons.mp h1 with h1 | h1
      · exact h1
      rcases List.mem_cons.mp h2 with h2 | h2
      · exact h2.symm
      have a := hy'.1 x h1
      have b := hx'.1 y h2
      omega
    subst e
    rw [sorted_unique (List.Perm.cons_inv p) hx'.2 hy'.2]
theorem srt_of {xs ns : List Int} (p : xs.Perm ns) (h : xs.Pairwise (· ≤ ·)) : xs = srt ns := sorted_unique (p.trans (srt_perm ns).symm) h (srt_sorted ns)
theorem srt_id {ns : List Int} (h : ns.Pairwise (· ≤ ·)) : srt ns = ns := (srt_of (List.Perm.refl _) h).symm
def sortR (c : Bool) : D → Sto → KD → Prop := fun d S Q => ∃ ns : List Int, asQ S d = some (ns.map D.int) ∧ mkL c ((srt ns).map D.int) S Q
theorem cr_sortD (c : Bool) : CallR X (.builtin "sorted") (LRL X.K (one (sortR c))) := cr_one (CallR.or cr_sortedI cr_sortQ) fun v H Q ⟨G, d, S, Q', r, g, l, ⟨ns, e, q⟩, k⟩ => by
  obtain ⟨a, vs, rfl, h1, h2⟩ := of_asQ r e l
  rw [h2.of_ints] at h1
  have fin : ∀ (ns' : List Int) (p : Addr), ns'.Perm ns → ns'.Pairwise (· ≤ ·) → H p = none → Q (.ref p) (upd H p (.lst (ns'.map V.int))) := fun ns' p h3 h4 n => by
    rw [srt_of h3 h4]
    exact mkL_ok r g (RlA.ints _) n q k
  rcases h1 with h1 | h1
  · exact .inl ⟨a, ns, rfl, h1, fin⟩
  · exact .inr ⟨a, ns, rfl, h1, fin⟩
/-- isinstance(x, T), T a built-in type -/
def tyD (S : Sto) : D → String
  | .non => "NoneType"
  | .bl _ => "bool"
  | .int _ => "int"
  | .str _ => "str"
  | .tup _ => "tuple"
  | .tpk _ => "tuple"
  | .lst _ => "list"
  | .scr _ => "list"
  | .ref a => match S a with
    | some (.lst _) => "list"
    | some (.dic _) => "dict"
    | some (.dit _) => "dict"
    | _ => ""
  | .ty _ => ""
def known : List String := ["NoneType", "bool", "int", "str", "tuple", "list", "dict"]
def isI (n T : String) : Bool := n == T || (n == "bool" && T == "int")
theorem kit_all : (known.all fun n => known.tail.all fun T => decide (kitB n T = some (isI n T))) = true := by decide +kernel
theorem kit_known : ∀ n ∈ known, ∀ T ∈ known.tail, kitB n T = some (isI n T) := fun n hn T hT => by
  have h := kit_all
  rw [List.all_eq_true] at h
  have h2 := h n hn
  rw [List.all_eq_true] at h2
  exact of_decide_eq_true (h2 T hT)
theorem tyX_of {K : PySem.W.Frag} {G : Addr → Prop} {S : Sto} {H : Hp} {d : D} {v : V} (r : RepS K G S H) (l : Rl K H (nfz G S) d v) (h : tyD S d ∈ known) : TyX K H v (.type (tyD S d)) := by
  cases d with
  | non => rw [l.of_non]; exact .base .non
  | bl b => rw [l.of_bl]; exact .base (.bl b)
  | int b => rw [l.of_int]; exact .base (.int b)
  | str b => rw [l.of_str]; exact .base (.str b)
  | ty n => exact absurd h (by show ¬ ("" ∈ known); decide)
  | tup xs =>
    obtain ⟨a, vs, rfl, (h1 | ⟨o, h1⟩) | ⟨o, its, n, h1, h2, h3⟩, _⟩ := l.of_tup
    · exact .base (.tup h1)
    · exact .fTuple h1
    · exact .kTuple h1 h2
  | tpk xs =>
    obtain ⟨a, rfl, ⟨o, h1, _⟩ | ⟨o, its, n, h1, h2, h3⟩⟩ := l.of_tpk
    · exact .fTuple h1
    · exact .kTuple h1 h2
  | lst xs =>
    obtain ⟨a, vs, rfl, h1, _⟩ := l.of_lst
    exact .base (.lst h1)
  | scr ns =>
    obtain ⟨a, rfl, (h1 | ⟨o, h1⟩) | ⟨o, its, n, h1, h2, h3⟩⟩ := l.of_scr
    · exact .base (.lst h1)
    · exact .base (.frz h1)
    · exact .kList h1 h2
  | ref a =>
    obtain rfl := l.of_ref
    cases q : S a with
    | none => simp [tyD, q, known] at h
    | some c =>
      cases c with
      | lst xs => obtain ⟨vs, e, _⟩ := (r a _ q).2; simp only [tyD, q]; exact .base (.lst e)
      | dic xs => obtain ⟨vs, e, _⟩ := (r a _ q).2; simp only [tyD, q]; exact .base (.dK e)
      | dit xs => obtain ⟨vs, e, _⟩ := (r a _ q).2; simp only [tyD, q]; exact .base (.dT e)
      | ins _ _ _ => simp [tyD, q, known] at h
      | exc _ _ => simp [tyD, q, known] at h
      | xd _ => simp [tyD, q, known] at h
      | dct _ => simp [tyD, q, known] at h
      | dcf _ _ => simp [tyD, q, known] at h
def isiR : RD2 := fun x t S Q => match t with
  | .ty T => tyD S x ∈ known ∧ T ∈ known.tail ∧ Q (.bl (isI (tyD S x) T)) S
  | _ => False
theorem cr_isi : CallR X (.builtin "isinstance") (LRL X.K (two isiR)) := cr_two call_isi fun v u H Q ⟨G, x, t, S, Q', r, g, l1, l2, h, k⟩ => by
  cases t with
  | ty T =>
    obtain ⟨h1, h2, h3⟩ := h
    exact ⟨v, u, _, .type T, _, rfl, by rw [l2.of_ty]; exact .ty T, tyX_of r l1 h1, kit_ty (kit_known _ h1 _ h2), k.now r Rl.bl h3⟩
  | _ => exact False.elim h
end
end DL

/-! DL, part K: strong tuples of ints made; their index; what is walked; ranges; methods. -/
namespace DL
open PySem PySem.Spec PyProof.Rows L2

section
variable {X : Cx} {C : Ct} {pins : List (Addr × Obj)} {σ : L2.St} {H : Hp} {s : Shared}
/-- a new tuple is known with its object -/
abbrev tupO (its : List Value) : Obj := { cls := .type "tuple", data := .seq its.toArray }
theorem newTup {t' : Nat} {its : List Value} {ys : List V} (I : L2.Inv X pins σ H s) (r : Vals ys its) (hz : ys.length ≤ sizeLine) :
    L2.Inv X pins σ (upd H s.heap.objs.size (.frz (tupO its) (.tup ys))) { s with heap := s.heap.push (tupO its), toks := t' } := by
  have g : (s.heap.push (tupO its)).get? s.heap.objs.size = some (tupO its) := Heap.get?_push_size _ rfl
  exact I.laid (t' := t') (fun b u e => Heap.get?_push_of_some _ e) (Nat.le_refl _) ⟨g, hz, its, r, ⟨_, g, rfl, _, rfl⟩⟩
/-- tuple(a list): known -/
theorem call_tupK : CallR X (.type "tuple") (fun xs H Q => ∃ p ys, xs = [.ref p] ∧ SqL X.K H p ys ∧ ∀ l o, H l = none → o.dict = none → Q (.ref l) (upd H l (.frz o (.tup ys)))) := by
  intro pins s σ H xs us Q I r h
  obtain ⟨p, ys, rfl, hq, q⟩ := h
  obtain rfl := Vals.ref1 r
  obtain ⟨its, r', pl, hz⟩ := I.list hq
  have hlen := r'.length
  refine call_tuple_list pl.isList (fun h' kp => ?_) (by simp only [List.size_toArray] <;> omega)
  have I1 : Inv X pins σ H { s with heap := h' } := I.kept (t' := s.toks) kp
  exact ⟨.ref h'.objs.size, _, newTup (t' := s.toks) I1 r' hz, rfl, q _ (tupO its) (I1.hok.fresh (Nat.le_refl _)) rfl⟩
/-- a written tuple: known -/
theorem pe_tupK {es : List Expr} {t : TA} {pos : Pos} {x1} (h : PA X es t) : PE X (.Tuple es x1 pos) (fun σ H Q => t σ H fun xs H1 => xs.length ≤ sizeLine ∧ ∀ p o, H1 p = none → o.dict = none → Q (.ref p) (upd H1 p (.frz o (.tup xs)))) := by
  refine ⟨fun pins s σ H Q I hq => ?_⟩
  refine wpAny_Tuple_spliced (thn (h.run pos pins s σ H _ I hq) fun us s1 ⟨xs, H1, I1, r, z, q⟩ => ⟨by rw [← r.length]; exact z, ?_⟩)
  exact ⟨.ref s1.heap.objs.size, _, newTup (t' := s1.toks) I1 r z, rfl, q _ (tupO us) (I1.hok.fresh (Nat.le_refl _)) rfl⟩
/-- tuple(range(..)): known -/
theorem pe_tupRgK {e : Expr} {te : L2.St → Hp → (Int → Int → Hp → Prop) → Prop} {p pos : Pos} (hc : X.calm = true) (hg : Gl X "tuple") (hm : X.mg "tuple" = none) (he : PRg X e te) (na : starEach [e] X.env = (false, eval e X.env) :: starEach [] X.env := by rfl) :
    PE X (.Call (.Name "tuple" p) [e] [] pos) (fun σ H Q => te σ H fun a b H1 => RgOk a b ∧ ∀ q o, H1 q = none → o.dict = none → Q (.ref q) (upd H1 q (.frz o (.tup (rgV a b))))) := by
  refine ⟨fun pins s σ H Q I h => ?_⟩
  refine Call_ (ld_blt I hg hm boot_tuple (PyProof.Rows.callWith_type1 (args_cons (thn (he pins s σ H _ I h) fun x s1 hx => args_nil ?_) na) na))
  obtain ⟨r, a, b, t, u, v, H1, ex, hr, I1, ok, q⟩ := hx
  subst ex
  obtain ⟨b1, b2, b3, b4, b5⟩ := ok
  refine call_tuple_range (n := (b - a).toNat) (I1.ok.hd hc) hr (small_one b1 b2 b3 b4) (rangeSize_nat a b) b5 fun h' tk acc hk hi => ?_
  have I2 : Inv X pins σ H1 { s1 with heap := h', toks := tk } := I1.kept hk
  have hz : (rgV a b).length ≤ sizeLine := by rw [rgV_length, sizeLine_eq]; omega
  have e : acc = acc.toList.toArray := by simp
  have I3 := newTup (t' := tk) I2 (vals_rg hi) hz
  rw [e]
  exact ⟨.ref h'.objs.size, _, I3, rfl, q _ (tupO acc.toList) (I2.hok.fresh (Nat.le_refl _)) rfl⟩
/-- t + u of tuples, both not empty: known -/
theorem op_catK : OpR X (binaryOp .Add) (fun x y H Q => ∃ a b xs ys, x = .ref a ∧ y = .ref b ∧ SqT X.K H a xs ∧ SqT X.K H b ys ∧ xs.length + ys.length ≤ sizeLine ∧ (xs = [] → Q (.ref b) H) ∧ (xs ≠ [] → ys = [] → Q (.ref a) H) ∧
    (xs ≠ [] → ys ≠ [] → ∀ p o, H p = none → o.dict = none → Q (.ref p) (upd H p (.frz o (.tup (xs ++ ys)))))) := by
  intro pins s σ H x y v u Q I rx ry h
  obtain ⟨a, b, xs, ys, rfl, rfl, ha, hb, hz, q0, q1, q2⟩ := h
  by_cases hx : xs = []
  · exact op_catA pins s σ H _ _ v u Q I rx ry ⟨a, b, xs, ys, rfl, rfl, ha, hb, hz, q0, fun z => absurd hx z, fun z => absurd hx z⟩
  · cases rx
    cases ry
    obtain ⟨its, r1, p1, _⟩ := I.tuple ha
    obtain ⟨its2, r2, p2, _⟩ := I.tuple hb
    refine HT.cat_tup p1 p2 (fun z => hx ?_) (fun z => ⟨.ref a, H, I, rfl, q1 hx ?_⟩) (fun z => ?_) (by rw [← r1.length, ← r2.length]; exact hz)
    · subst z; cases r1; rfl
    · subst z; cases r2; rfl
    · have I1 := newTup (t' := s.toks) I (r1.append r2) (by rw [List.length_append]; exact hz)
      exact ⟨.ref s.heap.objs.size, _, I1, rfl, q2 hx (fun w => z (by subst w; cases r2; rfl)) _ (tupO (its ++ its2)) (I.hok.fresh (Nat.le_refl _)) rfl⟩
end

section
variable {K : PySem.W.Frag} {G : Addr → Prop} {S S' : Sto} {H H' : Hp} {Q' : KD} {Q : VK}
theorem tpk_ok {ns : List Int} {p : Addr} {o : Obj} (r : RepS K G S H) (n : H p = none) (ho : o.dict = none) (q : Q' (.tpk ns) S) (a : Aft K G S H Q' Q) : Q (.ref p) (upd H p (.frz o (.tup (ns.map V.int)))) :=
  a _ S _ _ (Tr.new n) (r.new n) (Rl.tpk (.inl ⟨o, upd_same, ho⟩)) q
end
section
variable {X : Cx} {C : Ct} {pos : Pos} {es : List Expr}
def rngI (a b : Int) : List Int := (List.range (b - a).toNat).map fun (i : Nat) => a + (i : Int)
theorem rgV_ints (a b : Int) : rgV a b = (rngI a b).map V.int := by unfold rgV rngI; rw [List.map_map]; rfl
/-- tuple(a list of ints), strong -/
def tupKR : D → Sto → KD → Prop := fun d S Q => ∃ ns : List Int, asL S d = some (ns.map D.int) ∧ Q (.tpk ns) S
theorem cr_tupK : CallR X (.type "tuple") (LRL X.K (one tupKR)) := cr_one call_tupK fun v H Q ⟨G, d, S, Q', r, g, l, ⟨ns, e, q⟩, k⟩ => by
  obtain ⟨a, vs, rfl, h1, h2⟩ := of_asL r e l
  rw [h2.of_ints] at h1
  exact ⟨a, _, rfl, h1, fun p o n ho => tpk_ok r n ho q k⟩
/-- (a, b, ..) of ints, strong -/
def dTupK (t : TDA) : TDE := fun e S Q => t e S fun ds S1 => ∃ ns : List Int, ds = ns.map D.int ∧ ns.length ≤ sizeLine ∧ Q (.tpk ns) S1
theorem de_tupK {u : TDA} {x1} (h : DA X C es u) : DE X C (.Tuple es x1 pos) (dTupK u) :=
  ⟨PE.imp (pe_tupK h.pa) fun σ H Q ⟨G, e, S, Q', at', h, k⟩ => ⟨G, e, S, _, at', h, fun ds S1 vs H1 t1 r1 l1 h1 => by
    obtain ⟨ns, rfl, hz, q⟩ := h1
    obtain rfl := l1.of_ints
    exact ⟨by rw [List.length_map]; exact hz, fun p o n ho => tpk_ok r1 n ho q (k.tr t1)⟩⟩⟩
/-- t + u of strong tuples of ints -/
def addKR : RD2 := fun x y S Q => match x with
  | .tpk ns => (match y with
    | .tpk ms => ns.length + ms.length ≤ sizeLine ∧ Q (.tpk (ns ++ ms)) S
    | _ => False)
  | _ => False
theorem or_addK : OpR X (binaryOp .Add) (LR2 X.K addKR) := OpR.imp op_catK fun x y H Q ⟨G, d1, d2, S, Q', r, g, l1, l2, h, k⟩ => by
  cases d1 with
  | tpk ns => cases d2 with
    | tpk ms =>
      have w1 := l1
      have w2 := l2
      obtain ⟨p, rfl, h1⟩ := l1.of_tpk
      obtain ⟨p2, rfl, h2⟩ := l2.of_tpk
      obtain ⟨hl, q⟩ := h
      refine ⟨p, p2, _, _, rfl, rfl, h1.sq, h2.sq, by rw [List.length_map, List.length_map]; exact hl, fun z => ?_, fun _ z => ?_, fun _ _ p' o n ho => ?_⟩
      · have e : ns = [] := List.map_eq_nil_iff.mp z
        subst e
        exact k.now r w2 q
      · have e : ms = [] := List.map_eq_nil_iff.mp z
        subst e
        rw [List.append_nil] at q
        exact k.now r w1 q
      · rw [← List.map_append]
        exact tpk_ok r n ho q k
    | _ => exact False.elim h
  | _ => exact False.elim h

/-! ### ranges -/
abbrev TDR := En → Sto → (Int → Int → Sto → Prop) → Prop
def LR (K : PySem.W.Frag) (C : Ct) (t : TDR) : L2.St → Hp → (Int → Int → Hp → Prop) → Prop := fun σ H R => ∃ G e S Q', At K C G e S σ H ∧ t e S Q' ∧ ∀ a b S' H', Tr S H S' H' → RepS K G S' H' → Q' a b S' → R a b H'
structure DR (X : Cx) (C : Ct) (e : Expr) (t : TDR) : Prop where
  pr : PRg X e (LR X.K C t)
theorem PRg.imp {X : Cx} {e : Expr} {t t' : L2.St → Hp → (Int → Int → Hp → Prop) → Prop} (h : PRg X e t) (i : ∀ σ H Q, t' σ H Q → t σ H Q) : PRg X e t' := fun p s σ H Q I q => h p s σ H Q I (i σ H Q q)
def dRg1 (t : TDE) : TDR := fun e S Q => t e S fun d S' => match d with
  | .int n => Q 0 n S'
  | _ => False
def dRg2 (t u : TDE) : TDR := fun e S Q => t e S fun d S' => u e S' fun d' S2 => match d with
  | .int n => (match d' with
    | .int m => Q n m S2
    | _ => False)
  | _ => False
theorem dr_1 {a : Expr} {t : TDE} {p : Pos} (hg : Gl X "range") (hm : X.mg "range" = none) (ha : DE X C a t) (na : starEach [a] X.env = (false, eval a X.env) :: starEach [] X.env := by rfl) : DR X C (.Call (.Name "range" p) [a] [] pos) (dRg1 t) :=
  ⟨PRg.imp (prg_1 hg hm ha.pe na) fun σ H Q ⟨G, e, S, Q', at', h, k⟩ => ⟨G, e, S, _, at', h, fun d S1 v H1 t1 r1 l1 h1 => by
    cases d with
    | int n => exact ⟨n, l1.of_int, k _ _ S1 H1 t1 r1 h1⟩
    | _ => exact False.elim h1⟩⟩
theorem dr_2 {a b : Expr} {t u : TDE} {p : Pos} (hg : Gl X "range") (hm : X.mg "range" = none) (ha : DE X C a t) (hb : DE X C b u) (na : starEach [a, b] X.env = (false, eval a X.env) :: starEach [b] X.env := by rfl)
    (nb : starEach [b] X.env = (false, eval b X.env) :: starEach [] X.env := by rfl) (hp : (backTo pos (starEach [b] X.env)).any (·.1) = false := by rfl) : DR X C (.Call (.Name "range" p) [a, b] [] pos) (dRg2 t u) :=
  ⟨PRg.imp (prg_2 hg hm ha.pe hb.pe na nb hp) fun σ H Q ⟨G, e, S, Q', at', h, k⟩ => ⟨G, e, S, _, at', h, fun d S1 v H1 t1 r1 l1 h1 => ⟨G, e, S1, _, at'.next t1 r1, h1, fun d2 S2 v2 H2 t2 r2 l2 h2 => by
    cases d with
    | int n => cases d2 with
      | int m => exact ⟨n, m, l1.of_int, l2.of_int, k _ _ S2 H2 (t1.trans t2) r2 h2⟩
      | _ => exact False.elim h2
    | _ => exact False.elim h2⟩⟩⟩
def dTupRg (t : TDR) : TDE := fun e S Q => t e S fun a b S' => RgOk a b ∧ Q (.tpk (rngI a b)) S'
def dLstRg (c : Bool) (t : TDR) : TDE := fun e S Q => t e S fun a b S' => RgOk a b ∧ mkL c ((rngI a b).map D.int) S' Q
theorem de_tupRg {a : Expr} {t : TDR} {p : Pos} (hc : X.calm = true) (hg : Gl X "tuple") (hm : X.mg "tuple" = none) (ha : DR X C a t) (na : starEach [a] X.env = (false, eval a X.env) :: starEach [] X.env := by rfl) : DE X C (.Call (.Name "tuple" p) [a] [] pos) (dTupRg t) :=
  ⟨PE.imp (pe_tupRgK hc hg hm ha.pr na) fun σ H Q ⟨G, e, S, Q', at', h, k⟩ => ⟨G, e, S, _, at', h, fun x y S1 H1 t1 r1 h1 => ⟨h1.1, fun q o n ho => by rw [rgV_ints]; exact tpk_ok r1 n ho h1.2 (k.tr t1)⟩⟩⟩
theorem de_lstRg (c : Bool) {a : Expr} {t : TDR} {p : Pos} (hc : X.calm = true) (hg : Gl X "list") (hm : X.mg "list" = none) (ha : DR X C a t) (na : starEach [a] X.env = (false, eval a X.env) :: starEach [] X.env := by rfl) : DE X C (.Call (.Name "list" p) [a] [] pos) (dLstRg c t) :=
  ⟨PE.imp (pe_listRg hc hg hm ha.pr na) fun σ H Q ⟨G, e, S, Q', at', h, k⟩ => ⟨G, e, S, _, at', h, fun x y S1 H1 t1 r1 h1 => ⟨h1.1, fun q n => by rw [rgV_ints]; exact mkL_ok r1 (at'.next t1 r1).g (RlA.ints _) n h1.2 (k.tr t1)⟩⟩⟩

/-! ### what is walked -/
/-- an iterator over the values vs that stands in place: items that are told by xs -/
theorem walk_at {K : PySem.W.Frag} {G : Addr → Prop} {S : Sto} {H : Hp} {J : It} {xs : List D} {ok : Sto → Prop}
    (h : ∀ (G2 : Addr → Prop) (S2 : Sto) (H2 : Hp), (∀ a, G2 a → G a ∨ H a = none) → Tr S H S2 H2 → RepS K G2 S2 H2 → ok S2 → ∃ vs, RlA K H2 (nfz G2 S2) xs vs ∧ J.stop xs.length H2 ∧ ∀ i v, vs[i]? = some v → J.go i H2 ∧ ∀ x H3, J.yld i H2 x H3 → H3 = H2 ∧ x = v) : WalkD K G J xs ok S H := fun G2 S2 H2 sub t r o => by
  obtain ⟨vs, l, st, gy⟩ := h G2 S2 H2 sub t r o
  refine ⟨st, fun i d e => ?_⟩
  obtain ⟨v, e2, l2⟩ := l.getD e
  obtain ⟨g1, y1⟩ := gy i v e2
  refine ⟨g1, fun x H3 y => ?_⟩
  obtain ⟨rfl, rfl⟩ := y1 x H3 y
  exact ⟨Tr.refl, r, l2⟩
theorem walkd_list {K : PySem.W.Frag} {G : Addr → Prop} {S : Sto} {H : Hp} {d : D} {xs : List D} {a : Addr} (r : RepS K G S H) (l : Rl K H (nfz G S) d (.ref a)) : WalkD K G (Itl K a) xs (fun S2 => asL S2 d = some xs) S H :=
  walk_at fun G2 S2 H2 sub t r2 o => by
    obtain ⟨a', vs, e, h1, h2⟩ := of_asL r2 o (Rl.keep (t.keepG r sub) _ _ l)
    cases e
    exact ⟨vs, h2, ⟨vs, h1, by rw [h2.length]; exact Nat.le_refl _⟩, fun i v q => ⟨⟨vs, v, h1, q⟩, fun x H3 y => ⟨y.1, by have := y.2 vs h1; rw [q] at this; exact (Option.some.inj this).symm⟩⟩⟩
theorem walkd_tup {K : PySem.W.Frag} {G : Addr → Prop} {S : Sto} {H : Hp} {d : D} {xs : List D} {a : Addr} (r : RepS K G S H) (hd : asT d = some xs) (l : Rl K H (nfz G S) d (.ref a)) : WalkD K G (Itt K a) xs (fun _ => True) S H :=
  walk_at fun G2 S2 H2 sub t r2 _ => by
    obtain ⟨a', vs, e, h1, h2⟩ := of_asT hd (Rl.keep (t.keepG r sub) _ _ l)
    cases e
    exact ⟨vs, h2, ⟨vs, h1, by rw [h2.length]; exact Nat.le_refl _⟩, fun i v q => ⟨⟨vs, v, h1, q⟩, fun x H3 y => ⟨y.1, by have := y.2 vs h1; rw [q] at this; exact (Option.some.inj this).symm⟩⟩⟩
/-- a text's signs -/
def signs (z : Str) : List D := z.cps.toList.map fun c => D.str ⟨#[c]⟩
theorem walkd_str {K : PySem.W.Frag} {G : Addr → Prop} {S : Sto} {H : Hp} {z : Str} : WalkD K G (Its z) (signs z) (fun _ => True) S H := fun G2 S2 H2 sub t r2 _ => by
  have hl : (signs z).length = z.cps.size := by simp [signs]
  refine ⟨(walk_str (z := z)).stops H2 trivial |> fun h => by rw [hl]; exact h, fun i d e => ?_⟩
  have hi : i < z.cps.size := by rw [← hl]; exact (List.getElem?_eq_some_iff.mp e).1
  refine ⟨(walk_str (z := z)).goes i H2 hi trivial, fun x H3 y => ?_⟩
  obtain ⟨rfl, c, hc, rfl⟩ := (walk_str (z := z)).yields i H2 x H3 hi trivial y
  refine ⟨Tr.refl, r2, ?_⟩
  have : d = .str ⟨#[c]⟩ := by
    unfold signs at e
    rw [List.getElem?_map, Array.getElem?_toList, hc] at e
    exact (Option.some.inj e).symm
  subst this
  exact Rl.str
/-- a list, a tuple, a text -/
def iSeq (K : PySem.W.Frag) (tl : TE) : TI := fun σ H R => tl σ H fun x H1 => (∃ a, x = .ref a ∧ (((∃ xs, SqL K H1 a xs) ∧ R (Itl K a) H1) ∨ ((∃ xs, SqT K H1 a xs) ∧ R (Itt K a) H1))) ∨ ∃ z, x = .str z ∧ R (Its z) H1
theorem pi_seq {tg l : Expr} {tl : TE} (hl : PE X l tl) : PI X tg l (iSeq X.K tl) := by
  refine ⟨fun pins s σ H R I h => ?_⟩
  refine thn (hl.run pins s σ H _ I h) fun v s1 ⟨x, H1, I1, r1, q1⟩ => ?_
  have one : ∀ {t : TI}, PI X tg (.Constant .none 0 ⟨0, 0, 0, 0⟩) t → True := fun _ => trivial
  rcases q1 with ⟨a, e, q1⟩ | ⟨z, e, q⟩
  · subst e
    cases r1
    have fp : ∀ {o : Obj} {b : Addr}, b ∈ [s1.heap.objs.size] → FpOk X pins H1 b := fun {o b} hb => by
      obtain rfl : b = s1.heap.objs.size := by simpa using hb
      exact I1.fpOk (Nat.le_refl _) (I1.hok.fresh (Nat.le_refl _))
    rcases q1 with ⟨⟨xs, hq⟩, q⟩ | ⟨⟨xs, hq⟩, q⟩
    · obtain ⟨its, rv, p, hz⟩ := I1.list hq
      refine wpAny_pyIter_list p.isList ⟨s1.heap.objs.size, [s1.heap.objs.size], _, _, H1, rfl, I1.kept (t' := s1.toks) fun b o e => Heap.get?_push_of_some _ e, turn_list a _, ⟨_, Heap.get?_push_size _ rfl, rfl, rfl⟩, fun b hb => fp (o := default) hb, q⟩
    · obtain ⟨its, rv, p, hz⟩ := I1.tuple hq
      refine wpAny_pyIter_tuple (show s1.heap.IsTuple a its.toArray from p) ⟨s1.heap.objs.size, [s1.heap.objs.size], _, _, H1, rfl, I1.kept (t' := s1.toks) fun b o e => Heap.get?_push_of_some _ e, turn_tuple a _, ⟨_, Heap.get?_push_size _ rfl, rfl, rfl⟩, fun b hb => fp (o := default) hb, q⟩
  · subst e
    obtain ⟨t, rfl⟩ := r1
    cases ha : z.cps.all (· < 128)
    · exact wpAny_pyIter_wide ha (pi_one (tk := s1.toks) I1 _ (turn_str _ z t "str_iterator" (.inr rfl)) ⟨_, Heap.get?_push_size _ rfl, rfl, rfl⟩ q)
    · exact wpAny_pyIter_ascii ha (pi_one (tk := s1.toks) I1 _ (turn_str _ z t "str_ascii_iterator" (.inl rfl)) ⟨_, Heap.get?_push_size _ rfl, rfl, rfl⟩ q)
/-- what is walked of data: its items, and what must stay -/
def walkR (d : D) (S : Sto) (Q : List D → (Sto → Prop) → Sto → Prop) : Prop := match d with
  | .str z => Q (signs z) (fun _ => True) S
  | .tup xs => Q xs (fun _ => True) S
  | .tpk ns => Q (ns.map D.int) (fun _ => True) S
  | .lst xs => Q xs (fun _ => True) S
  | d => ∃ xs, asL S d = some xs ∧ Q xs (fun S2 => asL S2 d = some xs) S
def iD (t : TDE) : TDI := fun e S Q => t e S fun d S' => walkR d S' Q
theorem WalkD.imp {K : PySem.W.Frag} {G : Addr → Prop} {S : Sto} {H : Hp} {J : It} {xs : List D} {ok ok' : Sto → Prop} (w : WalkD K G J xs ok S H) (h : ∀ S, ok' S → ok S) : WalkD K G J xs ok' S H := fun G2 S2 H2 a b c d => w G2 S2 H2 a b c (h _ d)
theorem di_seq {tg l : Expr} {t : TDE} (hl : DE X C l t) : DI X C tg l (iD t) :=
  ⟨PI.imp (pi_seq hl.pe) fun σ H R ⟨G, e, S, Q', at', h, k⟩ => ⟨G, e, S, _, at', h, fun d S1 v H1 t1 r1 l1 h1 => by
    have lists : ∀ xs, asL S1 d = some xs → Q' xs (fun S2 => asL S2 d = some xs) S1 → (∃ a, v = .ref a ∧ (((∃ xs, SqL X.K H1 a xs) ∧ R (Itl X.K a) H1) ∨ ((∃ xs, SqT X.K H1 a xs) ∧ R (Itt X.K a) H1))) ∨ ∃ z, v = .str z ∧ R (Its z) H1 := fun xs e q => by
      obtain ⟨a, vs, rfl, h2, h3⟩ := of_asL r1 e l1
      exact .inl ⟨a, rfl, .inl ⟨⟨vs, h2⟩, k xs _ S1 _ H1 t1 r1 (walkd_list r1 l1) q⟩⟩
    have tups : ∀ xs, asT d = some xs → Q' xs (fun _ => True) S1 → (∃ a, v = .ref a ∧ (((∃ xs, SqL X.K H1 a xs) ∧ R (Itl X.K a) H1) ∨ ((∃ xs, SqT X.K H1 a xs) ∧ R (Itt X.K a) H1))) ∨ ∃ z, v = .str z ∧ R (Its z) H1 := fun xs e q => by
      obtain ⟨a, vs, rfl, h2, h3⟩ := of_asT e l1
      exact .inl ⟨a, rfl, .inr ⟨⟨vs, h2⟩, k xs _ S1 _ H1 t1 r1 (walkd_tup r1 e l1) q⟩⟩
    cases d with
    | str z => exact .inr ⟨z, l1.of_str, k _ _ S1 _ H1 t1 r1 walkd_str h1⟩
    | tup xs => exact tups xs rfl h1
    | tpk ns => exact tups _ rfl h1
    | lst xs =>
      obtain ⟨a, vs, rfl, h2, h3⟩ := of_asL r1 (rfl : asL S1 (.lst xs) = some xs) l1
      exact .inl ⟨a, rfl, .inl ⟨⟨vs, h2⟩, k xs _ S1 _ H1 t1 r1 ((walkd_list (xs := xs) r1 l1).imp fun _ _ => rfl) h1⟩⟩
    | _ =>
      obtain ⟨xs, e, q⟩ := h1
      exact lists xs e q⟩⟩
/-- range(a), range(a, b) -/
theorem walkd_rng {K : PySem.W.Frag} {G : Addr → Prop} {S : Sto} {H : Hp} {a b : Int} : WalkD K G (Itr a (b - a).toNat) ((rngI a b).map D.int) (fun _ => True) S H := fun G2 S2 H2 sub t r2 _ => by
  have hl : ((rngI a b).map D.int).length = (b - a).toNat := by simp [rngI]
  refine ⟨by rw [hl]; exact Nat.le_refl _, fun i d e => ?_⟩
  have hi : i < (b - a).toNat := by rw [← hl]; exact (List.getElem?_eq_some_iff.mp e).1
  refine ⟨hi, fun x H3 y => ?_⟩
  obtain ⟨rfl, rfl⟩ := y
  refine ⟨Tr.refl, r2, ?_⟩
  have : d = .int (a + i) := by
    simp only [rngI, List.getElem?_map, List.getElem?_range hi] at e
    exact (Option.some.inj e).symm
  subst this
  exact Rl.int
def iR1 (t : TDE) : TDI := fun e S Q => t e S fun d S' => match d with
  | .int n => (-(2 ^ 62) ≤ n ∧ n < 2 ^ 62) ∧ Q ((rngI 0 n).map D.int) (fun _ => True) S'
  | _ => False
def iR2 (t u : TDE) : TDI := fun e S Q => t e S fun d S' => u e S' fun d' S2 => match d with
  | .int n => (match d' with
    | .int m => (-(2 ^ 62) ≤ n ∧ n < 2 ^ 62 ∧ -(2 ^ 62) ≤ m ∧ m < 2 ^ 62) ∧ Q ((rngI n m).map D.int) (fun _ => True) S2
    | _ => False)
  | _ => False
theorem di_r1 {tg a : Expr} {t : TDE} {p : Pos} (hg : Gl X "range") (hm : X.mg "range" = none) (ha : DE X C a t) (hs : starEach [a] X.env = [(false, eval a X.env)] := by rfl) (h2 : starEach [a] X.env = (false, eval a X.env) :: starEach [] X.env := by rfl) : DI X C tg (.Call (.Name "range" p) [a] [] pos) (iR1 t) :=
  ⟨PI.imp (pi_range1 hg hm (pa_cons ha.pe pa_nil h2) hs) fun σ H R ⟨G, e, S, Q', at', h, k⟩ => ⟨G, e, S, _, at', h, fun d S1 v H1 t1 r1 l1 h1 => by
    cases d with
    | int n =>
      have w := walkd_rng (K := X.K) (G := G) (S := S1) (H := H1) (a := 0) (b := n)
      rw [Int.sub_zero] at w
      exact ⟨n, by rw [l1.of_int], h1.1.1, h1.1.2, k _ _ S1 _ H1 t1 r1 w h1.2⟩
    | _ => exact False.elim h1⟩⟩
theorem di_r2 {tg a b : Expr} {t u : TDE} {p : Pos} (hg : Gl X "range") (hm : X.mg "range" = none) (ha : DE X C a t) (hb : DE X C b u) (hs : starEach [a, b] X.env = [(false, eval a X.env), (false, eval b X.env)] := by rfl) (hs2 : starEach [b] X.env = [(false, eval b X.env)] := by rfl)
    (h1 : starEach [a, b] X.env = (false, eval a X.env) :: starEach [b] X.env := by rfl) (h2 : starEach [b] X.env = (false, eval b X.env) :: starEach [] X.env := by rfl) : DI X C tg (.Call (.Name "range" p) [a, b] [] pos) (iR2 t u) :=
  ⟨PI.imp (pi_range2 hg hm (pa_cons ha.pe (pa_cons hb.pe pa_nil h2) h1) hs hs2) fun σ H R ⟨G, e, S, Q', at', h, k⟩ => ⟨G, e, S, _, at', h, fun d S1 v H1 t1 r1 l1 h1 => ⟨G, e, S1, _, at'.next t1 r1, h1, fun d2 S2 v2 H2 t2 r2 l2 h2 => by
    cases d with
    | int n => cases d2 with
      | int m => exact ⟨n, m, by rw [l1.of_int, l2.of_int], h2.1, k _ _ S2 _ H2 (t1.trans t2) r2 walkd_rng h2.2⟩
      | _ => exact False.elim h2
    | _ => exact False.elim h2⟩⟩⟩
end
end DL

/-! DL, part M: methods; enumerate, zip, reversed; repr; isinstance of two. -/
namespace DL
open PySem PySem.Spec PyProof.Rows L2

/-! ### methods of built-in types -/
def tyM (T : String) (d : D) (S : Sto) : Prop := match d with
  | .str _ => T = "str"
  | .int _ => T = "int"
  | d => T = "list" ∧ (asL S d).isSome = true
def dMt (T : String) (r : RDM) (to : TDE) (t : TDA) : TDE := fun e S Q => to e S fun d S1 => tyM T d S1 ∧ t e S1 fun ds S2 => r d ds S2 Q
def dMt0 (T : String) (r : RDM) (to : TDE) : TDE := fun e S Q => to e S fun d S1 => tyM T d S1 ∧ r d [] S1 Q
section
variable {X : Cx} {C : Ct} {o a : Expr} {es : List Expr} {to : TDE} {t : TDA} {name : Str} {apos cpos : Pos} {T id : String} {r : RDM}
theorem tyM_ok {K : PySem.W.Frag} {G : Addr → Prop} {S : Sto} {H : Hp} {d : D} {v : V} (rp : RepS K G S H) (l : Rl K H (nfz G S) d v) (h : tyM T d S) : tyV K T v H := by
  have lists : T = "list" ∧ (asL S d).isSome = true → tyV K T v H := fun ⟨e, h⟩ => by
    obtain ⟨xs, hx⟩ := Option.isSome_iff_exists.mp h
    obtain ⟨p, vs, rfl, h1, _⟩ := of_asL rp hx l
    exact .inl ⟨e, vs, h1⟩
  cases d with
  | str z => rw [l.of_str]; exact h
  | int z => rw [l.of_int]; exact h
  | _ => exact lists h
theorem de_m (pa : PlainAttrs T) (slot : Slot T name id) (hty : typeOf (.builtin id) = pure (.type "method_descriptor")) (hm : MtR X id (LRM X.K r)) (ho : DE X C o to) (ha : DA X C (a :: es) t)
    (hbase : attributeBase o name X.env (eval o X.env) = eval o X.env := by rfl)
    (hfew : ((backTo cpos (starEach (a :: es) X.env)).all (fun x => !x.1) && (backToKw cpos (keywordEach [] X.env)).all (fun x => x.1.isSome)
      && decide ((a :: es).length + ([] : List Keyword).length + (if ([] : List Keyword).isEmpty then 0 else 1) < 30)) = true := by rfl)
    (hline : (apos.endLine == cpos.line) = true := by rfl) (hs : starEach (a :: es) X.env = (false, eval a X.env) :: starEach es X.env := by rfl) (hplain : (backTo cpos (starEach es X.env)).any (·.1) = false := by rfl) :
    DE X C (.Call (.Attribute o name apos) (a :: es) [] cpos) (dMt T r to t) :=
  ⟨PE.imp (pe_bm pa slot hty hm ho.pe ha.pa hbase hfew hline hs hplain) fun σ H Q ⟨G, e, S, Q', at', h, k⟩ => ⟨G, e, S, _, at', h, fun d S1 v H1 t1 r1 l1 h1 => ⟨tyM_ok r1 l1 h1.1, G, e, S1, _, at'.next t1 r1, h1.2, fun ds S2 vs H2 t2 r2 l2 h2 =>
    ⟨G, d, ds, S2, Q', r2, ((at'.next t1 r1).next t2 r2).g, l1.tr r1 t2, l2, h2, k.tr (t1.trans t2)⟩⟩⟩⟩
theorem de_m0 (pa : PlainAttrs T) (slot : Slot T name id) (hty : typeOf (.builtin id) = pure (.type "method_descriptor")) (hm : MtR X id (LRM X.K r)) (ho : DE X C o to)
    (hbase : attributeBase o name X.env (eval o X.env) = eval o X.env := by rfl) (hline : (apos.endLine == cpos.line) = true := by rfl) : DE X C (.Call (.Attribute o name apos) [] [] cpos) (dMt0 T r to) :=
  ⟨PE.imp (pe_bm0 pa slot hty hm ho.pe hbase hline) fun σ H Q ⟨G, e, S, Q', at', h, k⟩ => ⟨G, e, S, _, at', h, fun d S1 v H1 t1 r1 l1 h1 => ⟨tyM_ok r1 l1 h1.1, G, d, [], S1, Q', r1, (at'.next t1 r1).g, l1, RlA.nil, h1.2, k.tr t1⟩⟩⟩
end

/-- a method of no, one, two arguments on a cell of a list -/
def onL (r : Addr → List D → List D → Sto → KD → Prop) : RDM := fun d ds S Q => match d with
  | .ref a => ∃ xs, S a = some (.lst xs) ∧ r a xs ds S Q
  | _ => False
section
variable {X : Cx}
theorem mt_on {id : String} {r : Addr → List D → List D → Sto → KD → Prop} {r' : V → List V → Hp → VK → Prop} (h : MtR X id r')
    (i : ∀ G S H a xs vs ds ws Q' Q, RepS X.K G S H → GOk G H → S a = some (.lst xs) → H a = some (.lst vs) → RlA X.K H (nfz G S) xs vs → RlA X.K H (nfz G S) ds ws → r a xs ds S Q' → Aft X.K G S H Q' Q → r' (.ref a) ws H Q) : MtR X id (LRM X.K (onL r)) :=
  MtR.imp h fun v ws H Q ⟨G, d, ds, S, Q', rp, g, l, ls, h, k⟩ => by
    cases d with
    | ref a =>
      obtain rfl := l.of_ref
      obtain ⟨xs, hs, q⟩ := h
      obtain ⟨vs, e, la⟩ := rp.lst hs
      exact i G S H a xs vs ds ws Q' Q rp g hs e la ls q k
    | _ => exact False.elim h
def appR : RDM := onL fun a xs ds S Q => match ds with
  | [y] => xs.length < sizeLine ∧ Q .non (sput S a (.lst (xs ++ [y])))
  | _ => False
theorem mt_app : MtR X "list.append" (LRM X.K appR) := mt_on (show MtR X _ _ from mt_append) fun G S H a xs vs ds ws Q' Q rp g hs e la ls q k => by
  cases ds with
  | nil => exact False.elim q
  | cons y r => cases r with
    | nil =>
      obtain ⟨w, rfl, lw⟩ := of_one ls
      obtain ⟨r2, t2⟩ := rp.putL hs (RlA.app la ls)
      exact ⟨a, vs, w, rfl, rfl, e, by rw [← la.length]; exact q.1, k _ _ _ _ t2 r2 Rl.non q.2⟩
    | cons _ _ => exact False.elim q
/-- extend by a list that is tracked -/
def extR : RDM := onL fun a xs ds S Q => match ds with
  | [y] => ∃ ys, asM S y = some ys ∧ xs.length + ys.length ≤ sizeLine ∧ Q .non (sput S a (.lst (xs ++ ys)))
  | _ => False
theorem mt_ext : MtR X "list.extend" (LRM X.K extR) := mt_on (show MtR X _ _ from mt_extend) fun G S H a xs vs ds ws Q' Q rp g hs e la ls q k => by
  cases ds with
  | nil => exact False.elim q
  | cons y r => cases r with
    | nil =>
      obtain ⟨w, rfl, lw⟩ := of_one ls
      obtain ⟨ys, hy, hl, q⟩ := q
      obtain ⟨b, zs, rfl, e2, lz⟩ := of_asM rp hy lw
      obtain ⟨r2, t2⟩ := rp.putL hs (RlA.app la lz)
      exact ⟨a, b, vs, zs, rfl, rfl, e, e2, by rw [← la.length, ← lz.length]; exact hl, k _ _ _ _ t2 r2 Rl.non q⟩
    | cons _ _ => exact False.elim q
theorem RlA.dropLast {K : PySem.W.Frag} {H : Hp} {nf : Addr → Prop} {xs : List D} {vs : List V} (l : RlA K H nf xs vs) : RlA K H nf xs.dropLast vs.dropLast := by
  rw [List.dropLast_eq_take, List.dropLast_eq_take, l.length]; exact l.take _
def popR : RDM := onL fun a xs ds S Q => ds = [] ∧ ∃ y, xs[xs.length - 1]? = some y ∧ Q y (sput S a (.lst xs.dropLast))
theorem mt_popD : MtR X "list.pop" (LRM X.K popR) := mt_on (show MtR X _ _ from mt_pop) fun G S H a xs vs ds ws Q' Q rp g hs e la ls q k => by
  obtain ⟨rfl, y, hy, q⟩ := q
  obtain ⟨v, hv, lv⟩ := la.getD hy
  obtain ⟨r2, t2⟩ := rp.putL hs la.dropLast
  exact ⟨a, vs, v, rfl, ls.of_nil, e, by rw [← la.length]; exact hv, k _ _ _ _ t2 r2 (lv.tr rp t2) q⟩
/-- pop(i), 0 ≤ i -/
def popAtR : RDM := onL fun a xs ds S Q => match ds with
  | [d] => (match d with
    | .int i => ∃ y, 0 ≤ i ∧ i < 2 ^ 63 ∧ xs[i.toNat]? = some y ∧ Q y (sput S a (.lst (xs.eraseIdx i.toNat)))
    | _ => False)
  | _ => False
theorem mt_popAtD : MtR X "list.pop" (LRM X.K popAtR) := mt_on (show MtR X _ _ from mt_popAt) fun G S H a xs vs ds ws Q' Q rp g hs e la ls q k => by
  cases ds with
  | nil => exact False.elim q
  | cons y r => cases r with
    | nil => cases y with
      | int i =>
        obtain ⟨w, rfl, lw⟩ := of_one ls
        obtain ⟨y, h0, h1, hy, q⟩ := q
        obtain ⟨v, hv, lv⟩ := la.getD hy
        obtain ⟨r2, t2⟩ := rp.putL hs (la.erase i.toNat)
        have hlt : i.toNat < vs.length := (List.getElem?_eq_some_iff.mp hv).1
        have sx : seqIndex? i vs.length = some i.toNat := by
          have h := (ixN_seq (n := vs.length) (i := i) (j := i.toNat) (by unfold ixN; rw [if_pos h0, if_pos (by omega)])).1
          exact h
        exact ⟨a, vs, i, i.toNat, v, rfl, by rw [lw.of_int], e, by omega, h1, sx, hv, k _ _ _ _ t2 r2 (lv.tr rp t2) q⟩
      | _ => exact False.elim q
    | cons _ _ => exact False.elim q
def revR : RDM := onL fun a xs ds S Q => ds = [] ∧ Q .non (sput S a (.lst xs.reverse))
theorem mt_revD : MtR X "list.reverse" (LRM X.K revR) := mt_on (show MtR X _ _ from mt_reverse) fun G S H a xs vs ds ws Q' Q rp g hs e la ls q k => by
  obtain ⟨rfl, q⟩ := q
  obtain ⟨r2, t2⟩ := rp.putL hs la.rev
  exact ⟨a, vs, rfl, ls.of_nil, e, k _ _ _ _ t2 r2 Rl.non q⟩
def clrR : RDM := onL fun a xs ds S Q => ds = [] ∧ Q .non (sput S a (.lst []))
theorem mt_clrD : MtR X "list.clear" (LRM X.K clrR) := mt_on (show MtR X _ _ from mt_clear) fun G S H a xs vs ds ws Q' Q rp g hs e la ls q k => by
  obtain ⟨rfl, q⟩ := q
  obtain ⟨r2, t2⟩ := rp.putL hs (ys := []) (ws := []) RlA.nil
  exact ⟨a, vs, rfl, ls.of_nil, e, k _ _ _ _ t2 r2 Rl.non q⟩
/-- xs.index(y): the first place -/
def idxR : RDM := fun d ds S Q => match ds with
  | [y] => ∃ xs j z, asL S d = some xs ∧ shp 64 y = true ∧ shp 64 (.lst xs) = true ∧ xs[j]? = some z ∧ deq z y = true ∧ (∀ m z', m < j → xs[m]? = some z' → deq z' y = false) ∧ Q (.int (j : Nat)) S
  | _ => False
theorem toPs_get {xs : List D} {j : Nat} : (toPs xs)[j]? = xs[j]?.map toP := by rw [toPs_map, List.getElem?_map]
theorem mt_idxD (hu : X.A.units + 65 < cLine) : MtR X "list.index" (LRM X.K idxR) := MtR.imp (mt_indexD hu) fun v ws H Q ⟨G, d, ds, S, Q', rp, g, l, ls, h, k⟩ => by
  cases ds with
  | nil => exact False.elim h
  | cons y r => cases r with
    | nil =>
      obtain ⟨w, rfl, lw⟩ := of_one ls
      obtain ⟨xs, j, z, hx, s1, s2, hz, hd, hno, q⟩ := h
      obtain ⟨a, vs, rfl, h1, la⟩ := of_asL rp hx l
      refine ⟨a, w, toP y, toPs xs, j, toP z, rfl, rfl, asL_dp rp hx s2 l, Rl.dp 64 _ _ s1 lw, by have := shaped_of s2; simpa [toP] using this, shaped_of s1, by rw [toPs_get, hz]; rfl, hd, fun m z' hm e => ?_, k.now rp Rl.int q⟩
      rw [toPs_get] at e
      cases e2 : xs[m]? with
      | none => rw [e2] at e; cases e
      | some u => rw [e2] at e; cases e; exact hno m u hm e2
    | cons _ _ => exact False.elim h
end

/-! ### t.index(x) of a strong tuple of ints -/
section
variable {X : Cx} {C : Ct} {o a : Expr} {es : List Expr} {to : TDE} {t : TDA} {apos cpos : Pos}
/-- where the int stands first -/
def dTIdx (to : TDE) (t : TDA) : TDE := fun e S Q => to e S fun d S1 => match d with
  | .tpk ns => t e S1 fun ds S2 => match ds with
    | [y] => (match y with
      | .int i => ∃ j : Nat, ns[j]? = some i ∧ (∀ m, m < j → ns[m]? ≠ some i) ∧ Q (.int (j : Nat)) S2
      | _ => False)
    | _ => False
  | _ => False
theorem de_tidx (ho : DE X C o to) (ha : DA X C (a :: es) t)
    (hbase : attributeBase o "index" X.env (eval o X.env) = eval o X.env := by rfl)
    (hfew : ((backTo cpos (starEach (a :: es) X.env)).all (fun x => !x.1) && (backToKw cpos (keywordEach [] X.env)).all (fun x => x.1.isSome)
      && decide ((a :: es).length + ([] : List Keyword).length + (if ([] : List Keyword).isEmpty then 0 else 1) < 30)) = true := by rfl)
    (hline : (apos.endLine == cpos.line) = true := by rfl) (hs : starEach (a :: es) X.env = (false, eval a X.env) :: starEach es X.env := by rfl) (hplain : (backTo cpos (starEach es X.env)).any (·.1) = false := by rfl) :
    DE X C (.Call (.Attribute o "index" apos) (a :: es) [] cpos) (dTIdx to t) := by
  refine ⟨⟨fun pins s σ H Q I ⟨G, e, S, Q', at', h, k⟩ => ?_⟩⟩
  refine wpAny_Call_method_late hbase hfew hline rfl (thn (ho.pe.run pins s σ H (fun v H1 => ∃ ns S1, Tr S H S1 H1 ∧ RepS X.K G S1 H1 ∧ Rl X.K H1 (nfz G S1) (.tpk ns) v ∧ t e S1 fun ds S2 => match ds with
    | [y] => (match y with
      | .int i => ∃ j : Nat, ns[j]? = some i ∧ (∀ m, m < j → ns[m]? ≠ some i) ∧ Q' (.int (j : Nat)) S2
      | _ => False)
    | _ => False) I ⟨G, e, S, _, at', h, fun d S1 v H1 t1 r1 l1 h1 => by
      cases d with
      | tpk ns => exact ⟨ns, S1, t1, r1, l1, h1⟩
      | _ => exact False.elim h1⟩) fun v s1 ⟨x, H1, I1, rx, ns, S1, t1, r1, l1, h1⟩ => ?_)
  obtain ⟨p, rfl, tk⟩ := l1.of_tpk
  obtain rfl : v = .ref p := rx
  have ob : ∃ ob, s1.heap.get? p = some ob ∧ ob.cls = .type "tuple" ∧ ob.dict = none := by
    rcases tk with ⟨o', h2, h3⟩ | ⟨o', its, n, h2, h3, h4, _⟩
    · obtain ⟨e1, _, _, _, o2, e2, c2, _⟩ := I1.hok p _ h2
      rw [e1] at e2; cases e2
      exact ⟨o', e1, c2, h3⟩
    · exact ⟨o', I1.kIn p o' h2, h3, h4⟩
  obtain ⟨ob, e1, c1, d1⟩ := ob
  refine ⟨"tuple", "tuple.index", PySem.F.plainAttrs_tuple, PySem.F.slot_tuple_index, PySem.F.type_tuple_index, ⟨ob, e1, c1⟩, fun b e2 => by cases e2; exact ⟨ob, e1, d1⟩, ?_⟩
  have at1 := at'.next t1 r1
  have hA := ha.pa.run cpos pins s1 σ H1 (fun ws H2 => ∃ i j, ws = [V.int i] ∧ SqT X.K H2 p (ns.map V.int) ∧ ns[j]? = some i ∧ (∀ m, m < j → ns[m]? ≠ some i) ∧ Q (.int (j : Nat)) H2) I1 ⟨G, e, S1, _, at1, h1, fun ds S2 ws H2 t2 r2 l2 h2 => by
    cases ds with
    | nil => exact False.elim h2
    | cons y r => cases r with
      | nil =>
        obtain ⟨w, rfl, lw⟩ := of_one l2
        cases y with
        | int i =>
          obtain ⟨j, hj, hno, q⟩ := h2
          obtain ⟨p', e3, tk2⟩ := (l1.tr r1 t2).of_tpk
          cases e3
          exact ⟨i, j, by rw [lw.of_int], tk2.sq, hj, hno, k _ _ _ _ (t1.trans t2) r2 Rl.int q⟩
        | _ => exact False.elim h2
      | cons _ _ => exact False.elim h2⟩
  rw [hs] at hA ⊢
  refine Calls.callWith_builtin (by show (false || (backTo cpos (starEach es X.env)).any (·.1)) = false; rw [hplain] <;> rfl) (Calls.evalArgs_plain ?_)
  refine thn hA fun us s2 ⟨ws, H2, I2, r2, i, j, e3, sq, hj, hno, q⟩ => ?_
  subst e3
  refine mt_tindex pins s2 σ H2 (.ref p) [V.int i] (.ref p) us Q I2 rfl r2 ⟨p, ns.map V.int, V.int i, j, V.int i, rfl, rfl, sq, rfl, ?_, by rw [List.getElem?_map, hj]; rfl, by simp [eqV], fun m z' hm e4 => ?_, q⟩
  · rw [List.all_map, List.all_eq_true]; intro _ _; rfl
  · rw [List.getElem?_map] at e4
    cases e5 : ns[m]? with
    | none => rw [e5] at e4; cases e4
    | some u =>
      rw [e5] at e4; cases e4
      have : u ≠ i := fun z => hno m hm (by rw [e5, z])
      simp [eqV, this]
end

/-! ### enumerate, zip, reversed -/
def prs : Nat → List D → List D
  | _, [] => []
  | n, x :: xs => .tup [.int n, x] :: prs (n + 1) xs
theorem prs_get : ∀ {xs : List D} {n i : Nat}, (prs n xs)[i]? = xs[i]?.map fun x => .tup [.int (n + i : Nat), x]
  | [], n, i => by simp [prs]
  | x :: xs, n, 0 => by simp [prs]
  | x :: xs, n, i + 1 => by
    simp only [prs, List.getElem?_cons_succ]
    rw [prs_get]
    have : n + 1 + i = n + (i + 1) := by omega
    rw [this]
theorem prs_length : ∀ {xs : List D} {n : Nat}, (prs n xs).length = xs.length
  | [], _ => rfl
  | x :: xs, n => by simp [prs, prs_length]
section
variable {X : Cx} {C : Ct} {pos : Pos}
theorem pair_ok {K : PySem.W.Frag} {G2 : Addr → Prop} {S2 : Sto} {H2 : Hp} {x y : D} {v w : V} {T : Addr} (r : RepS K G2 S2 H2) (n : H2 T = none) (l1 : Rl K H2 (nfz G2 S2) x v) (l2 : Rl K H2 (nfz G2 S2) y w) :
    Tr S2 H2 S2 (upd H2 T (.tup [v, w])) ∧ RepS K G2 S2 (upd H2 T (.tup [v, w])) ∧ Rl K (upd H2 T (.tup [v, w])) (nfz G2 S2) (.tup [x, y]) (.ref T) :=
  ⟨Tr.new n, r.new n, Rl.tup (.inl (.inl upd_same)) (RlA.cons (Rl.keep (Keep.new n) _ _ l1) (RlA.cons (Rl.keep (Keep.new n) _ _ l2) RlA.nil))⟩
/-- what an iterable argument is: its items -/
def itsR (d : D) (S : Sto) (Q : List D → (Sto → Prop) → Sto → Prop) : Prop := match d with
  | .tup xs => Q xs (fun _ => True) S
  | .tpk ns => Q (ns.map D.int) (fun _ => True) S
  | .lst xs => Q xs (fun _ => True) S
  | d => ∃ xs, asL S d = some xs ∧ Q xs (fun S2 => asL S2 d = some xs) S
/-- a list or tuple at a, as it stands later -/
def ItsOk (K : PySem.W.Frag) (G : Addr → Prop) (S : Sto) (H : Hp) (b : Bool) (v : V) (R : List D → (Sto → Prop) → Sto → Prop) : Prop :=
  ∃ a xs ok vs, v = .ref a ∧ R xs ok S ∧ (if b then SqL K H a vs else SqT K H a vs) ∧
    (∀ G2 S2 H2, (∀ a, G2 a → G a ∨ H a = none) → Tr S H S2 H2 → RepS K G2 S2 H2 → ok S2 → ∃ ws, (if b then SqL K H2 a ws else SqT K H2 a ws) ∧ RlA K H2 (nfz G2 S2) xs ws) ∧ RlA K H (nfz G S) xs vs
def lk (d : D) : Bool := match d with
  | .tup _ => false
  | .tpk _ => false
  | _ => true
section
variable {K : PySem.W.Frag} {G : Addr → Prop} {S : Sto} {H : Hp} {d : D} {v : V} {R : List D → (Sto → Prop) → Sto → Prop}
theorem its_l (r : RepS K G S H) (l : Rl K H (nfz G S) d v) (xs : List D) (ok : Sto → Prop) (e : asL S d = some xs) (ho : ∀ S2, ok S2 → asL S2 d = some xs) (q : R xs ok S) : ItsOk K G S H true v R := by
  obtain ⟨a, vs, rfl, h1, h2⟩ := of_asL r e l
  exact ⟨a, xs, ok, vs, rfl, q, h1, fun G2 S2 H2 sub t r2 o => by
    obtain ⟨a', ws, e2, h3, h4⟩ := of_asL r2 (ho S2 o) (Rl.keep (t.keepG r sub) _ _ l)
    cases e2
    exact ⟨ws, h3, h4⟩, h2⟩
theorem its_t (r : RepS K G S H) (l : Rl K H (nfz G S) d v) (xs : List D) (e : asT d = some xs) (q : R xs (fun _ => True) S) : ItsOk K G S H false v R := by
  obtain ⟨a, vs, rfl, h1, h2⟩ := of_asT e l
  exact ⟨a, xs, fun _ => True, vs, rfl, q, h1, fun G2 S2 H2 sub t r2 o => by
    obtain ⟨a', ws, e2, h3, h4⟩ := of_asT e (Rl.keep (t.keepG r sub) _ _ l)
    cases e2
    exact ⟨ws, h3, h4⟩, h2⟩
theorem its_ok (r : RepS K G S H) (l : Rl K H (nfz G S) d v) (h : itsR d S R) : ItsOk K G S H (lk d) v R := by
  cases d with
  | tup xs => exact its_t r l xs rfl h
  | tpk ns => exact its_t r l _ rfl h
  | lst xs => exact its_l r l xs _ rfl (fun _ _ => rfl) h
  | _ =>
    obtain ⟨xs, e, q⟩ := h
    exact its_l r l xs _ e (fun _ o => o) q
end
def iEn (t : TDA) : TDI := fun e S Q => t e S fun ds S' => match ds with
  | [d] => itsR d S' fun xs ok S2 => Q (prs 0 xs) ok S2
  | _ => False
theorem di_enum {a : Expr} {t : TDA} {p tpos : Pos} {elts : List Expr} {kk : Nat} (hg : Gl X "enumerate") (hm : X.mg "enumerate" = none) (ha : DA X C [a] t) (hs : starEach [a] X.env = [(false, eval a X.env)] := by rfl) :
    DI X C (.Tuple elts kk tpos) (.Call (.Name "enumerate" p) [a] [] pos) (iEn t) :=
  ⟨PI.imp (pi_enumT hg hm ha.pa hs) fun σ H R ⟨G, e, S, Q', at', h, k⟩ => ⟨G, e, S, _, at', h, fun ds S1 vs H1 t1 r1 l1 h1 => by
    cases ds with
    | nil => exact False.elim h1
    | cons d r => cases r with
      | cons _ _ => exact False.elim h1
      | nil =>
        obtain ⟨v, rfl, l⟩ := of_one l1
        obtain ⟨a, xs, ok, ws, rfl, q, h2, w, _⟩ := its_ok r1 l h1
        refine ⟨a, ws, rfl, ?_⟩
        cases hb : lk d with
        | true =>
          rw [hb] at h2 w
          refine .inl ⟨h2, k _ ok S1 _ H1 t1 r1 (fun G2 S2 H2 sub t r2 o => ?_) q⟩
          obtain ⟨us, hq, la⟩ := w G2 S2 H2 sub t r2 o
          refine ⟨⟨us, hq, by rw [prs_length, la.length]; exact Nat.le_refl _⟩, fun i dd ed => ?_⟩
          rw [prs_get] at ed
          cases ex : xs[i]? with
          | none => rw [ex] at ed; cases ed
          | some x =>
            rw [ex] at ed; cases ed
            obtain ⟨u, hu, lu⟩ := la.getD ex
            refine ⟨⟨us, u, hq, hu⟩, fun y H3 ⟨T, z, e1, e2, e3, e4⟩ => ?_⟩
            have ez := e4 us hq
            rw [hu] at ez; cases ez
            subst e1 e3
            have p := pair_ok r2 e2 (Rl.int (i := (i : Nat))) lu
            rw [Nat.zero_add]
            exact p
        | false =>
          rw [hb] at h2 w
          refine .inr ⟨h2, k _ ok S1 _ H1 t1 r1 (fun G2 S2 H2 sub t r2 o => ?_) q⟩
          obtain ⟨us, hq, la⟩ := w G2 S2 H2 sub t r2 o
          refine ⟨⟨us, hq, by rw [prs_length, la.length]; exact Nat.le_refl _⟩, fun i dd ed => ?_⟩
          rw [prs_get] at ed
          cases ex : xs[i]? with
          | none => rw [ex] at ed; cases ed
          | some x =>
            rw [ex] at ed; cases ed
            obtain ⟨u, hu, lu⟩ := la.getD ex
            refine ⟨⟨us, u, hq, hu⟩, fun y H3 ⟨T, z, e1, e2, e3, e4⟩ => ?_⟩
            have ez := e4 us hq
            rw [hu] at ez; cases ez
            subst e1 e3
            have p := pair_ok r2 e2 (Rl.int (i := (i : Nat))) lu
            rw [Nat.zero_add]
            exact p⟩⟩
end
end DL

/-! DL, part N: zip; isinstance of a tuple of types; repr. -/
namespace DL
open PySem PySem.Spec PyProof.Rows L2
def zips : List D → List D → List D
  | x :: xs, y :: ys => .tup [x, y] :: zips xs ys
  | _, _ => []
theorem zips_get : ∀ {xs ys : List D} {i : Nat} {d : D}, (zips xs ys)[i]? = some d → ∃ x y, xs[i]? = some x ∧ ys[i]? = some y ∧ d = .tup [x, y]
  | [], ys, i, d, h => by simp [zips] at h
  | x :: xs, [], i, d, h => by simp [zips] at h
  | x :: xs, y :: ys, 0, d, h => by simp [zips] at h; exact ⟨x, y, rfl, rfl, h.symm⟩
  | x :: xs, y :: ys, i + 1, d, h => by simp [zips] at h; simpa using zips_get h
theorem zips_length : ∀ {xs ys : List D}, (zips xs ys).length = min xs.length ys.length
  | [], ys => by simp [zips]
  | x :: xs, [] => by simp [zips]
  | x :: xs, y :: ys => by simp [zips, zips_length, Nat.succ_min_succ]
section
variable {X : Cx} {C : Ct} {pos : Pos}
/-- zip of two lists, or of two tuples -/
def iZp (t : TDA) : TDI := fun e S Q => t e S fun ds S' => match ds with
  | [d, d'] => lk d = lk d' ∧ itsR d S' fun xs ok S2 => itsR d' S2 fun ys ok' S3 => Q (zips xs ys) (fun S => ok S ∧ ok' S) S3
  | _ => False
theorem itsR.st {d : D} {S : Sto} {R : List D → (Sto → Prop) → Sto → Prop} (h : itsR d S R) : ∃ xs ok, R xs ok S := by
  cases d with
  | tup xs => exact ⟨_, _, h⟩
  | tpk xs => exact ⟨_, _, h⟩
  | lst xs => exact ⟨_, _, h⟩
  | _ => obtain ⟨xs, _, h⟩ := h; exact ⟨_, _, h⟩
theorem min_stop {n m : Nat} : n ≤ min n m ∨ m ≤ min n m := by omega
theorem di_zip {a b : Expr} {t : TDA} {p tpos : Pos} {elts : List Expr} {kk : Nat} (hg : Gl X "zip") (hm : X.mg "zip" = none) (ha : DA X C [a, b] t)
    (hs : starEach [a, b] X.env = (false, eval a X.env) :: starEach [b] X.env := by rfl) (hpl : (backTo pos (starEach [b] X.env)).any (·.1) = false := by rfl) :
    DI X C (.Tuple elts kk tpos) (.Call (.Name "zip" p) [a, b] [] pos) (iZp t) :=
  ⟨PI.imp (RZ.pi_zipA hg hm ha.pa hs hpl) fun σ H R ⟨G, e, S, Q', at', h, k⟩ => ⟨G, e, S, _, at', h, fun ds S1 vs H1 t1 r1 l1 h1 => by
    cases ds with
    | nil => exact False.elim h1
    | cons d r => cases r with
      | nil => exact False.elim h1
      | cons d' r => cases r with
        | cons _ _ => exact False.elim h1
        | nil =>
          obtain ⟨v, v', rfl, l, l'⟩ := of_two l1
          obtain ⟨hk, h1⟩ := h1
          obtain ⟨a, xs, ok, ws, rfl, h1, h2, w, _⟩ := its_ok r1 l h1
          obtain ⟨b, ys, ok', ws', rfl, q, h2', w', _⟩ := its_ok r1 l' h1
          rw [← hk] at h2' w'
          refine ⟨a, b, ws, ws', rfl, ?_⟩
          cases hb : lk d with
          | true =>
            rw [hb] at h2 w h2' w'
            refine .inl ⟨h2, h2', k _ (fun S => ok S ∧ ok' S) S1 _ H1 t1 r1 (fun G2 S2 H2 sub t r2 o => ?_) q⟩
            obtain ⟨us, hq, la⟩ := w G2 S2 H2 sub t r2 o.1
            obtain ⟨us', hq', la'⟩ := w' G2 S2 H2 sub t r2 o.2
            refine ⟨⟨us, us', hq, hq', by rw [zips_length, la.length, la'.length]; exact min_stop⟩, fun i dd ed => ?_⟩
            obtain ⟨x, y, ex, ey, rfl⟩ := zips_get ed
            obtain ⟨u, hu, lu⟩ := la.getD ex
            obtain ⟨u', hu', lu'⟩ := la'.getD ey
            refine ⟨⟨us, us', u, u', hq, hq', hu, hu'⟩, fun z H3 ⟨T, z1, z2, e1, e2, e3, e4, e5⟩ => ?_⟩
            have ez := e4 us hq
            rw [hu] at ez; cases ez
            have ez := e5 us' hq'
            rw [hu'] at ez; cases ez
            subst e1 e3
            exact pair_ok r2 e2 lu lu'
          | false =>
            rw [hb] at h2 w h2' w'
            refine .inr ⟨h2, h2', k _ (fun S => ok S ∧ ok' S) S1 _ H1 t1 r1 (fun G2 S2 H2 sub t r2 o => ?_) q⟩
            obtain ⟨us, hq, la⟩ := w G2 S2 H2 sub t r2 o.1
            obtain ⟨us', hq', la'⟩ := w' G2 S2 H2 sub t r2 o.2
            refine ⟨⟨us, us', hq, hq', by rw [zips_length, la.length, la'.length]; exact min_stop⟩, fun i dd ed => ?_⟩
            obtain ⟨x, y, ex, ey, rfl⟩ := zips_get ed
            obtain ⟨u, hu, lu⟩ := la.getD ex
            obtain ⟨u', hu', lu'⟩ := la'.getD ey
            refine ⟨⟨us, us', u, u', hq, hq', hu, hu'⟩, fun z H3 ⟨T, z1, z2, e1, e2, e3, e4, e5⟩ => ?_⟩
            have ez := e4 us hq
            rw [hu] at ez; cases ez
            have ez := e5 us' hq'
            rw [hu'] at ez; cases ez
            subst e1 e3
            exact pair_ok r2 e2 lu lu'⟩⟩
end

/-! ### isinstance(x, (list, tuple)) -/
section
variable {X : Cx} {C : Ct} {a : Expr} {pos p1 p2 p3 p4 : Pos}
def isltR (d : D) (S : Sto) (Q : KD) : Prop := tyD S d ∈ known ∧ Q (.bl (tyD S d == "list" || tyD S d == "tuple")) S
def dIsLT (t : TDE) : TDE := fun e S Q => t e S fun d S1 => isltR d S1 Q
theorem kitAny_lt {K : PySem.W.Frag} : ∀ n ∈ known, PySem.W.kitAny K (.type n) [.type "list", .type "tuple"] = some (n == "list" || n == "tuple") := by
  intro n hn
  have h1 := kit_ty (K := K) (kit_known n hn "list" (by decide))
  have h2 := kit_ty (K := K) (kit_known n hn "tuple" (by decide))
  unfold PySem.W.kitAny PySem.W.kitAny PySem.W.kitAny
  rw [h1, h2]
  simp only [known, List.mem_cons, List.not_mem_nil, or_false] at hn
  rcases hn with rfl | rfl | rfl | rfl | rfl | rfl | rfl <;> rfl
theorem de_isLT {t : TDE} {x1} (hg : Gl X "isinstance") (hm : X.mg "isinstance" = none) (hgl : Gl X "list") (hml : X.mg "list" = none) (hgt : Gl X "tuple") (hmt : X.mg "tuple" = none) (ha : DE X C a t)
    (hpl : (backTo pos (starEach [.Tuple [.Name "list" p2, .Name "tuple" p3] x1 p4] X.env)).any (·.1) = false := by rfl)
    (he : starEach [a, .Tuple [.Name "list" p2, .Name "tuple" p3] x1 p4] X.env = (false, eval a X.env) :: starEach [.Tuple [.Name "list" p2, .Name "tuple" p3] x1 p4] X.env := by rfl) (he1 : starEach [.Tuple [.Name "list" p2, .Name "tuple" p3] x1 p4] X.env = (false, eval (.Tuple [.Name "list" p2, .Name "tuple" p3] x1 p4) X.env) :: starEach [] X.env := by rfl)
    (he2 : starEach [.Name "list" p2, .Name "tuple" p3] X.env = (false, eval (.Name "list" p2) X.env) :: starEach [.Name "tuple" p3] X.env := by rfl) (he3 : starEach [.Name "tuple" p3] X.env = (false, eval (.Name "tuple" p3) X.env) :: starEach [] X.env := by rfl) :
    DE X C (.Call (.Name "isinstance" p1) [a, .Tuple [.Name "list" p2, .Name "tuple" p3] x1 p4] [] pos) (dIsLT t) :=
  ⟨PE.imp (pe_callB call_isiT hg hm PyProof.Rows.boot_isinstance (pa_cons ha.pe (pa_cons (pe_tup (pa_cons (pe_bltn hgl hml PyProof.Rows.boot_list (show RelV (.ty "list") (.type "list") from rfl)) (pa_cons (pe_bltn hgt hmt PyProof.Rows.boot_tuple (show RelV (.ty "tuple") (.type "tuple") from rfl)) pa_nil he3) he2)) pa_nil he1) he) (by decide) (by decide) he hpl) fun σ H Q ⟨G, e, S, Q', at', h, k⟩ => by
    refine ⟨G, e, S, _, at', h, fun d S1 v H1 t1 r1 l1 h1 => ?_⟩
    refine ⟨(show 2 ≤ sizeLine by decide), fun T nT => ?_⟩
    have r2 := r1.new (o := .tup [.ty "list", .ty "tuple"]) nT
    have l2 := Rl.keep (Keep.new (K := X.K) (nf := nfz G S1) nT (o := .tup [.ty "list", .ty "tuple"])) _ _ l1
    refine ⟨v, T, [.ty "list", .ty "tuple"], .type (tyD S1 d), [.type "list", .type "tuple"], _, rfl, upd_same, .cons (.ty _) (.cons (.ty _) .nil), tyX_of r2 l2 h1.1, kitAny_lt _ h1.1, ?_⟩
    exact k _ _ _ _ (t1.trans (Tr.new nT)) r2 Rl.bl h1.2⟩
end

/-! ### repr of data -/
mutual
/-- the ints are short -/
def smi : D → Bool
  | .int i => decide (i.natAbs < 10 ^ 12)
  | .tup xs => smis xs
  | .lst xs => smis xs
  | .scr ns => ns.all fun i => decide (i.natAbs < 10 ^ 12)
  | .tpk ns => ns.all fun i => decide (i.natAbs < 10 ^ 12)
  | _ => true
def smis : List D → Bool
  | [] => true
  | x :: xs => smi x && smis xs
end
theorem smis_all (xs : List D) : smis xs = xs.all smi := by
  induction xs with
  | nil => rfl
  | cons x xs ih => simp [smis, ih]
theorem showInts : ∀ (ns : List Int), (ns.all fun i => decide (i.natAbs < 10 ^ 12)) = true → PyData.showableAll (ns.map PyData.int) = true
  | [], _ => rfl
  | i :: r, h => by
    simp only [List.all_cons, Bool.and_eq_true, decide_eq_true_eq] at h
    simp only [List.map_cons, PyData.showableAll, PyData.showable, Bool.and_eq_true, decide_eq_true_eq]
    refine ⟨?_, showInts r h.2⟩
    by_cases z : i.natAbs = 0
    · rw [z]; decide
    · have := (Nat.log2_lt z (k := 1920)).mpr (Nat.lt_of_lt_of_le h.1 (by decide))
      exact this
theorem show1 {i : Int} (h : i.natAbs < 10 ^ 12) : (PyData.int i).showable = true := by
  have := showInts [i] (by simp [h])
  simpa [PyData.showableAll] using this
mutual
theorem smi_ok : ∀ (d : D), smi d = true → (toP d).intsShort 13 = true ∧ (toP d).showable = true
  | .int i, h => by
    simp only [smi, decide_eq_true_eq] at h
    exact ⟨by simpa [toP, PyData.intsShort] using PyData.shown_int_le h, by simpa [toP] using show1 h⟩
  | .tup xs, h => by
    have := smis_ok xs (by simpa [smi] using h)
    simpa [toP, PyData.intsShort, PyData.showable] using this
  | .lst xs, h => by
    have := smis_ok xs (by simpa [smi] using h)
    simpa [toP, PyData.intsShort, PyData.showable] using this
  | .scr ns, h => by
    have h : (ns.all fun i => decide (i.natAbs < 10 ^ 12)) = true := by simpa [smi] using h
    have h1 := PyData.intsShortAll_ints ns fun n hn => of_decide_eq_true (List.all_eq_true.mp h n hn)
    exact ⟨by simpa [toP, PyData.intsShort] using h1, by simpa [toP, PyData.showable] using showInts ns h⟩
  | .tpk ns, h => by
    have h : (ns.all fun i => decide (i.natAbs < 10 ^ 12)) = true := by simpa [smi] using h
    have h1 := PyData.intsShortAll_ints ns fun n hn => of_decide_eq_true (List.all_eq_true.mp h n hn)
    exact ⟨by simpa [toP, PyData.intsShort] using h1, by simpa [toP, PyData.showable] using showInts ns h⟩
  | .non, _ => ⟨rfl, rfl⟩
  | .bl _, _ => ⟨rfl, rfl⟩
  | .str _, _ => ⟨rfl, rfl⟩
  | .ty _, _ => ⟨rfl, rfl⟩
  | .ref _, _ => ⟨rfl, rfl⟩
theorem smis_ok : ∀ (ds : List D), smis ds = true → PyData.intsShortAll 13 (toPs ds) = true ∧ PyData.showableAll (toPs ds) = true
  | [], _ => ⟨rfl, rfl⟩
  | d :: r, h => by
    simp only [smis, Bool.and_eq_true] at h
    have h1 := smi_ok d h.1
    have h2 := smis_ok r h.2
    simp only [toPs, PyData.intsShortAll, PyData.showableAll, Bool.and_eq_true]
    exact ⟨⟨h1.1, h2.1⟩, h1.2, h2.2⟩
end
def seqD : D → Bool
  | .tup _ => true
  | .lst _ => true
  | .scr _ => true
  | .tpk _ => true
  | .ref _ => true
  | _ => false
def sh (S : Sto) (d : D) : Str := (toP (vw S d)).shown
def rprR : D → Sto → KD → Prop := fun d S Q => seqD d = true ∧ shp 64 (vw S d) = true ∧ smi (vw S d) = true ∧ (toP (vw S d)).weight ≤ 2 ^ 20 ∧ Q (.str (sh S d)) S
theorem seq_ref {K : PySem.W.Frag} {H : Hp} {nf : Addr → Prop} {d : D} {v : V} (h : seqD d = true) (l : Rl K H nf d v) : ∃ a, v = .ref a := by
  cases d with
  | tup xs => obtain ⟨a, vs, e, _⟩ := l.of_tup; exact ⟨a, e⟩
  | lst xs => obtain ⟨a, vs, e, _⟩ := l.of_lst; exact ⟨a, e⟩
  | scr xs => obtain ⟨a, e, _⟩ := l.of_scr; exact ⟨a, e⟩
  | tpk xs => obtain ⟨a, e, _⟩ := l.of_tpk; exact ⟨a, e⟩
  | ref a => exact ⟨a, l.of_ref⟩
  | _ => cases h
theorem cr_repD {X : Cx} (hg : X.A.guards = some []) (hu : X.A.units + 65 < cLine) : CallR X (.builtin "repr") (LRL X.K (one rprR)) := cr_one (cr_repr hg hu) fun v H Q ⟨G, d, S, Q', r, g, l, ⟨h0, h1, h2, h3, q⟩, k⟩ => by
  obtain ⟨a, rfl⟩ := seq_ref h0 l
  have c := shp_ok 64 _ h1
  have s := smi_ok _ h2
  exact ⟨a, toP (vw S d), rfl, vw_dp r h1 l, s.2, PyData.hasDict_of_canLay _ c.1, c.2, PyData.shown_fits (B := 13) (by decide) (by decide) (PyData.leavesShort_of_canLay0 13 _ c.1 s.1) h3, k.now r Rl.str q⟩
/-- the weight of short ints -/
theorem wt_int {i : Int} (h : i.natAbs < 10 ^ 12) : (PyData.int i).weight ≤ 40 := by
  unfold PyData.weight
  split
  · omega
  · rename_i z
    have z : i.natAbs ≠ 0 := fun q => z (by simpa using Int.natAbs_eq_zero.mp q)
    have := (Nat.log2_lt z (k := 40)).mpr (Nat.lt_trans h (by decide))
    omega
theorem wt_ints : ∀ {ns : List Int}, (ns.all fun i => decide (i.natAbs < 10 ^ 12)) = true → PyData.weightAll (ns.map PyData.int) ≤ 41 * ns.length
  | [], _ => Nat.le_refl _
  | i :: r, h => by
    simp only [List.all_cons, Bool.and_eq_true, decide_eq_true_eq] at h
    have h1 := wt_int h.1
    have h2 := wt_ints h.2
    simp only [List.map_cons, PyData.weightAll, List.length_cons]
    omega
end DL

/-! DL, part P: loops by what holds at each turn; what stays of a store. -/
namespace DL
open PySem PySem.Spec PyProof.Rows L2

section
variable {g : TDG} {body : TDS} {ok : Sto → Prop} {E : DEnds} {e : En} {S : Sto} {items : List D}
theorem for_inv (I : Nat → En → Sto → Prop) (h0 : I 0 e S) (hok : ∀ i e S, i ≤ items.length → I i e S → ok S)
    (step : ∀ i x e S (N : En → Sto → Prop), items[i]? = some x → I i e S → (∀ e' S', I (i + 1) e' S' → N e' S') → g x e S fun e' S' => body { E with nx := N, ct := N, bk := E.nx } e' S')
    (fin : ∀ e S, I items.length e S → E.nx e S) : ForP g body ok E items e S := by
  have key : ∀ n i e S, n = items.length - i → i ≤ items.length → I i e S → forGo g body ok E (items.drop i) e S := by
    intro n
    induction n with
    | zero =>
      intro i e S hn hi h
      have : i = items.length := by omega
      subst this
      rw [List.drop_length]
      exact ⟨hok _ _ _ (Nat.le_refl _) h, fin _ _ h⟩
    | succ n ih =>
      intro i e S hn hi h
      have hl : i < items.length := by omega
      rw [drop_of (List.getElem?_eq_getElem hl)]
      exact ⟨hok _ _ _ hi h, step i _ e S _ (List.getElem?_eq_getElem hl) h fun e' S' h' => ih (i + 1) e' S' (by omega) (by omega) h'⟩
  have := key _ 0 e S rfl (Nat.zero_le _) h0
  exact ⟨by simpa using this⟩
end
section
variable {g : TDG} {tt : TDT} {te : TDE} {ok : Sto → Prop} {e : En} {vs : List Nat} {Q : List D → Sto → Prop} {S : Sto} {items : List D}
theorem lc_inv (I : Nat → List D → Sto → Prop) (h0 : I 0 [] S) (hok : ∀ i acc S, i ≤ items.length → I i acc S → ok S)
    (step : ∀ i x acc S (N : List D → Sto → Prop), items[i]? = some x → I i acc S → (∀ acc' S', I (i + 1) acc' S' → N acc' S') → g x (wip e vs) S fun e' S1 => tt e' S1 fun b S2 => match b with
      | true => te e' S2 fun d S3 => N (acc ++ [d]) S3
      | false => N acc S2)
    (fin : ∀ acc S, I items.length acc S → Q acc S) : LcP g tt te ok e vs Q items [] S := by
  have key : ∀ n i acc S, n = items.length - i → i ≤ items.length → I i acc S → lcGo g tt te ok e vs Q (items.drop i) acc S := by
    intro n
    induction n with
    | zero =>
      intro i acc S hn hi h
      have : i = items.length := by omega
      subst this
      rw [List.drop_length]
      exact ⟨hok _ _ _ (Nat.le_refl _) h, fin _ _ h⟩
    | succ n ih =>
      intro i acc S hn hi h
      have hl : i < items.length := by omega
      rw [drop_of (List.getElem?_eq_getElem hl)]
      exact ⟨hok _ _ _ hi h, step i _ acc S _ (List.getElem?_eq_getElem hl) h fun e' S' h' => ih (i + 1) e' S' (by omega) (by omega) h'⟩
  have := key _ 0 [] S rfl (Nat.zero_le _) h0
  exact ⟨by simpa using this⟩
/-- nothing is stored: each item gives an item, or none -/
theorem lc_pure (f : D → Option D) (hok : ok S)
    (step : ∀ x (N : Option D → Sto → Prop), x ∈ items → N (f x) S → g x (wip e vs) S fun e' S1 => tt e' S1 fun b S2 => match b with
      | true => te e' S2 fun d S3 => N (some d) S3
      | false => N none S2)
    (fin : Q (items.filterMap f) S) : LcP g tt te ok e vs Q items [] S := by
  refine lc_inv (fun i acc S2 => acc = (items.take i).filterMap f ∧ S2 = S) ⟨by simp, rfl⟩ (fun _ _ S2 _ h => by rw [h.2]; exact hok) (fun i x acc S2 N hx h k => ?_) fun acc S2 h => by
    obtain ⟨rfl, rfl⟩ := h
    rw [List.take_length]
    exact fin
  obtain ⟨rfl, rfl⟩ := h
  have := step x (fun o S3 => match o with
    | some d => N ((items.take i).filterMap f ++ [d]) S3
    | none => N ((items.take i).filterMap f) S3) (List.mem_of_getElem? hx) (by
      have hk := k ((items.take (i + 1)).filterMap f) S2 ⟨rfl, rfl⟩
      rw [List.take_add_one, hx, List.filterMap_append] at hk
      cases q : f x with
      | none => simpa [q] using hk
      | some y => simpa [q] using hk)
  exact this
theorem lc_map (f : D → D) (hok : ok S) (ht : tt = dYes)
    (step : ∀ x (N : KD), x ∈ items → N (f x) S → g x (wip e vs) S fun e' S1 => te e' S1 N)
    (fin : Q (items.map f) S) : LcP g tt te ok e vs Q items [] S := by
  subst ht
  refine lc_pure (fun x => some (f x)) hok (fun x N hx h => step x (fun d S3 => N (some d) S3) hx h) ?_
  rw [List.filterMap_eq_map']
  exact fin
end
section
variable {c : TDT} {body : TDS} {D : DEnds} {e : En} {S : Sto}
theorem while_inv (I : Nat → En → Sto → Prop) (n : Nat) (h0 : I n e S)
    (step : ∀ m e S (N : En → Sto → Prop), I m e S → (∀ m' e' S', m' < m → I m' e' S' → N e' S') → c e S fun b S' => match b with
      | true => body { D with nx := N, ct := N, bk := D.nx } e S'
      | false => D.nx e S') : dWhile c body D e S := by
  have key : ∀ n m e S, m < n → I m e S → whileN c body D n e S := by
    intro n
    induction n with
    | zero => intro m e S h; omega
    | succ n ih =>
      intro m e S hm h
      exact step m e S _ h fun m' e' S' h1 h2 => ih m' e' S' (by omega) h2
  exact ⟨n + 1, key _ n e S (Nat.lt_succ_self _) h0⟩
end
/-! ### stores -/
/-- S' holds what S held, and more -/
def Ext (S S' : Sto) : Prop := ∀ b, S b = none ∨ S' b = S b
theorem Ext.refl {S : Sto} : Ext S S := fun _ => .inr rfl
theorem Ext.put {S S' : Sto} {p : Addr} {c : Cell} (h : Ext S S') (n : S' p = none) : Ext S (sput S' p c) := fun b => by
  by_cases z : b = p
  · subst z
    rcases h b with q | q
    · exact .inl q
    · exact .inl (q ▸ n)
  · rw [sput_ne z]; exact h b
theorem Ext.drop {S S' : Sto} (h : Ext S S') : Drop S' S := fun b => by
  rcases h b with q | q
  · exact .inr q
  · exact .inl q.symm
theorem Ext.own {S S' : Sto} {p : Addr} {c : Cell} (h : Ext S S') (n : S p = none) : Ext S (sput S' p c) := fun b => by
  by_cases z : b = p
  · subst z; exact .inl n
  · rw [sput_ne z]; exact h b
theorem Ext.get {S S' : Sto} {p : Addr} {c : Cell} (h : Ext S S') (n : S p = some c) : S' p = some c := by
  rcases h p with q | q
  · rw [n] at q; cases q
  · rw [q, n]
/-- the like, but at a -/
def Ext1 (a : Addr) (S S' : Sto) : Prop := ∀ b, b ≠ a → S b = none ∨ S' b = S b
theorem Ext1.refl {S : Sto} {a : Addr} : Ext1 a S S := fun _ _ => .inr rfl
theorem Ext1.put {S S' : Sto} {a p : Addr} {c : Cell} (h : Ext1 a S S') (n : S' p = none) : Ext1 a S (sput S' p c) := fun b hb => by
  by_cases z : b = p
  · subst z
    rcases h b hb with q | q
    · exact .inl q
    · exact .inl (q ▸ n)
  · rw [sput_ne z]; exact h b hb
theorem Ext1.own {S S' : Sto} {a p : Addr} {c : Cell} (h : Ext1 a S S') (n : S p = none) : Ext1 a S (sput S' p c) := fun b hb => by
  by_cases z : b = p
  · subst z; exact .inl n
  · rw [sput_ne z]; exact h b hb
theorem Ext1.at' {S S' : Sto} {a : Addr} {c : Cell} (h : Ext1 a S S') : Ext1 a S (sput S' a c) := fun b hb => by rw [sput_ne hb]; exact h b hb
theorem Ext1.trans {S S1 S2 : Sto} {a : Addr} (h : Ext1 a S S1) (h' : Ext1 a S1 S2) : Ext1 a S S2 := fun b hb => by
  rcases h b hb with q | q
  · exact .inl q
  · rcases h' b hb with q' | q'
    · exact .inl (q ▸ q')
    · exact .inr (q'.trans q)
theorem Ext1.get {S S' : Sto} {a p : Addr} {c : Cell} (h : Ext1 a S S') (ne : p ≠ a) (n : S p = some c) : S' p = some c := by
  rcases h p ne with q | q
  · rw [n] at q; cases q
  · rw [q, n]
/-- what S' keeps of S, and its cell at a -/
def rst (a : Addr) (S S' : Sto) : Sto := fun b => if b = a then S' a else S b
theorem Ext1.drop {S S' : Sto} {a : Addr} (h : Ext1 a S S') : Drop S' (rst a S S') := fun b => by
  unfold rst
  by_cases z : b = a
  · subst z; rw [if_pos rfl]; exact .inl rfl
  · rw [if_neg z]
    rcases h b z with q | q
    · exact .inr q
    · exact .inl q.symm
theorem rst_same {S S' : Sto} {a : Addr} : rst a S S' a = S' a := by unfold rst; rw [if_pos rfl]
theorem rst_eq {S S' : Sto} {a : Addr} {c : Cell} (h : S' a = some c) : rst a S S' = sput S a c := by
  funext b; unfold rst sput; split
  · rw [h]
  · rfl
/-- the law's box of digits at a -/
def Bx (S : Sto) (a : Addr) : Prop := ∃ x y : Int, S a = some (.lst [.int x, .int y]) ∧ 0 ≤ x ∧ 1 ≤ y
/-- S but for another box at a -/
def bxd (S : Sto) (a : Addr) (x y : Int) : Sto := sput S a (.lst [.int x, .int y])
theorem Bx.of {S : Sto} {a : Addr} {x y : Int} (hx : 0 ≤ x) (hy : 1 ≤ y) : Bx (bxd S a x y) a := ⟨x, y, sput_same, hx, hy⟩
end DL

namespace DL
open PySem PySem.Spec PyProof.Rows L2
theorem b_len : bootBuiltins "len" = some (.builtin "len") := by decide +kernel
theorem b_tuple : bootBuiltins "tuple" = some (.type "tuple") := by decide +kernel
theorem b_list : bootBuiltins "list" = some (.type "list") := by decide +kernel
theorem b_int : bootBuiltins "int" = some (.type "int") := by decide +kernel
theorem b_str : bootBuiltins "str" = some (.type "str") := by decide +kernel
theorem b_bool : bootBuiltins "bool" = some (.type "bool") := by decide +kernel
theorem b_all : bootBuiltins "all" = some (.builtin "all") := by decide +kernel
theorem b_any : bootBuiltins "any" = some (.builtin "any") := by decide +kernel
theorem b_sum : bootBuiltins "sum" = some (.builtin "sum") := by decide +kernel
theorem b_max : bootBuiltins "max" = some (.builtin "max") := by decide +kernel
theorem b_min : bootBuiltins "min" = some (.builtin "min") := by decide +kernel
theorem b_sorted : bootBuiltins "sorted" = some (.builtin "sorted") := by decide +kernel
theorem b_repr : bootBuiltins "repr" = some (.builtin "repr") := by decide +kernel
theorem b_isinstance : bootBuiltins "isinstance" = some (.builtin "isinstance") := by decide +kernel
end DL

/-! DL, part R: the readings at the constructors, for simp. -/
namespace DL
open PySem PySem.Spec PyProof.Rows L2
theorem lt_sz {n : Nat} (h : n ≤ 16777215) : n < sizeLine := by have : sizeLine = 2 ^ 24 := rfl; omega
theorem le_sz {n : Nat} (h : n ≤ 16777216) : n ≤ sizeLine := by have : sizeLine = 2 ^ 24 := rfl; omega
section
variable {S : Sto} {Q : KD} {xs ys : List D} {ns ms : List Int} {i j : Int} {a : Addr} {d d' : D} {c : Bool} {lo hi : Option Int}
theorem asL_lst : asL S (.lst xs) = some xs := rfl
theorem asL_scr : asL S (.scr ns) = some (ns.map D.int) := rfl
theorem asQ_tup : asQ S (.tup xs) = some xs := rfl
theorem asQ_tpk : asQ S (.tpk ns) = some (ns.map D.int) := rfl
theorem asQ_lst : asQ S (.lst xs) = some xs := rfl
theorem asQ_scr : asQ S (.scr ns) = some (ns.map D.int) := rfl
theorem asQ_ref (h : S a = some (.lst xs)) : asQ S (.ref a) = some xs := asL_ref h
theorem asQ_ref' : asQ (sput S a (.lst xs)) (.ref a) = some xs := asQ_ref sput_same
theorem asL_ref' : asL (sput S a (.lst xs)) (.ref a) = some xs := asL_ref sput_same
theorem setR_ref {v : D} {R : Sto → Prop} (h : S a = some (.lst xs)) : setR (.ref a) (.int i) v S R = ∃ j, ixN xs.length i = some j ∧ R (sput S a (.lst (xs.set j v))) := by
  refine propext ⟨fun ⟨xs', j, e, e2, q⟩ => ?_, fun ⟨j, e, q⟩ => ⟨xs, j, h, e, q⟩⟩
  rw [h] at e; cases e; exact ⟨j, e2, q⟩
theorem setR_ref' {v : D} {R : Sto → Prop} : setR (.ref a) (.int i) v (sput S a (.lst xs)) R = ∃ j, ixN xs.length i = some j ∧ R (sput S a (.lst (xs.set j v))) := by rw [setR_ref sput_same]; simp only [sput_sput]
theorem asQ_T (h : asT d = some xs) : asQ S d = some xs := by
  cases d <;> first | (cases h; done) | exact h
theorem asQ_L (h : asL S d = some xs) : asQ S d = some xs := by
  cases d <;> first | (cases h; done) | exact h
theorem asM_lst : asM S (.lst xs) = some xs := rfl
theorem asT_tup : asT (.tup xs) = some xs := rfl
theorem asT_tpk : asT (.tpk ns) = some (ns.map D.int) := rfl
theorem ixR_Q (h : asQ S d = some xs) : ixR d (.int i) S Q = ∃ y, atI xs i = some y ∧ Q y S := by
  refine propext ⟨fun q => ?_, fun ⟨y, e, q⟩ => ?_⟩
  · cases d <;> first | (cases h; done) | (obtain ⟨xs', y, e, e2, q⟩ := q; rw [h] at e; cases e; exact ⟨y, e2, q⟩)
  · cases d <;> first | (cases h; done) | exact ⟨xs, y, h, e, q⟩
theorem ixR_tup : ixR (.tup xs) (.int i) S Q = ∃ y, atI xs i = some y ∧ Q y S := ixR_Q rfl
theorem atI_map {α β : Type} {f : α → β} {xs : List α} {i : Int} : atI (xs.map f) i = (atI xs i).map f := by
  unfold atI
  rw [List.length_map]
  cases ixN xs.length i with
  | none => rfl
  | some j => simp
theorem ixR_I (h : asQ S d = some (ns.map D.int)) : ixR d (.int i) S Q = ∃ m, atI ns i = some m ∧ Q (.int m) S := by
  rw [ixR_Q h, atI_map]
  refine propext ⟨fun ⟨y, e, q⟩ => ?_, fun ⟨m, e, q⟩ => ⟨.int m, by rw [e]; rfl, q⟩⟩
  cases z : atI ns i with
  | none => rw [z] at e; cases e
  | some m => rw [z] at e; cases e; exact ⟨m, rfl, q⟩
theorem ixR_tpk : ixR (.tpk ns) (.int i) S Q = ∃ m, atI ns i = some m ∧ Q (.int m) S := ixR_I rfl
theorem ixR_scr : ixR (.scr ns) (.int i) S Q = ∃ m, atI ns i = some m ∧ Q (.int m) S := ixR_I rfl
theorem ixR_lst : ixR (.lst xs) (.int i) S Q = ∃ y, atI xs i = some y ∧ Q y S := ixR_Q rfl
theorem ixR_ref (h : S a = some (.lst xs)) : ixR (.ref a) (.int i) S Q = ∃ y, atI xs i = some y ∧ Q y S := ixR_Q (asQ_ref h)
theorem ixR_ref' : ixR (.ref a) (.int i) (sput S a (.lst xs)) Q = ∃ y, atI xs i = some y ∧ Q y (sput S a (.lst xs)) := ixR_ref sput_same
theorem lenR_Q (h : asQ S d = some xs) : lenR d S Q = Q (.int xs.length) S := by
  refine propext ⟨fun q => ?_, fun q => ?_⟩
  · cases d <;> first | (cases h; done) | (obtain ⟨xs', e, q⟩ := q; rw [h] at e; cases e; exact q)
  · cases d <;> first | (cases h; done) | exact ⟨xs, h, q⟩
theorem lenR_tup : lenR (.tup xs) S Q = Q (.int xs.length) S := lenR_Q rfl
theorem lenR_tpk : lenR (.tpk ns) S Q = Q (.int ns.length) S := by rw [lenR_Q (xs := ns.map D.int) rfl, List.length_map]
theorem lenR_lst : lenR (.lst xs) S Q = Q (.int xs.length) S := lenR_Q rfl
theorem lenR_scr : lenR (.scr ns) S Q = Q (.int ns.length) S := by rw [lenR_Q (xs := ns.map D.int) rfl, List.length_map]
theorem lenR_ref (h : S a = some (.lst xs)) : lenR (.ref a) S Q = Q (.int xs.length) S := lenR_Q (asQ_ref h)
theorem lenR_ref' : lenR (.ref a) (sput S a (.lst xs)) Q = Q (.int xs.length) (sput S a (.lst xs)) := lenR_ref sput_same
theorem lenR_str {z : Str} : lenR (.str z) S Q = (z.length ≤ sizeLine ∧ Q (.int z.length) S) := rfl
variable {R : List D → (Sto → Prop) → Sto → Prop}
theorem walkR_T (h : asT d = some xs) : walkR d S R = R xs (fun _ => True) S := by
  cases d <;> first | (cases h; done) | (cases h; rfl)
theorem walkR_tup : walkR (.tup xs) S R = R xs (fun _ => True) S := rfl
theorem walkR_tpk : walkR (.tpk ns) S R = R (ns.map D.int) (fun _ => True) S := rfl
theorem walkR_lst : walkR (.lst xs) S R = R xs (fun _ => True) S := rfl
theorem walkR_scr : walkR (.scr ns) S R = R (ns.map D.int) (fun S2 => some (ns.map D.int) = some (ns.map D.int)) S := by
  refine propext ⟨fun ⟨xs, e, q⟩ => ?_, fun q => ⟨_, rfl, q⟩⟩
  cases e; exact q
theorem walkR_ref (h : S a = some (.lst xs)) : walkR (.ref a) S R = R xs (fun S2 => asL S2 (.ref a) = some xs) S := by
  refine propext ⟨fun ⟨xs', e, q⟩ => ?_, fun q => ⟨_, asL_ref h, q⟩⟩
  rw [asL_ref h] at e; cases e; exact q
theorem walkR_str {z : Str} : walkR (.str z) S R = R (signs z) (fun _ => True) S := rfl
theorem itsR_T (h : asT d = some xs) : itsR d S R = R xs (fun _ => True) S := by
  cases d <;> first | (cases h; done) | (cases h; rfl)
theorem itsR_tup : itsR (.tup xs) S R = R xs (fun _ => True) S := rfl
theorem itsR_tpk : itsR (.tpk ns) S R = R (ns.map D.int) (fun _ => True) S := rfl
theorem itsR_lst : itsR (.lst xs) S R = R xs (fun _ => True) S := rfl
theorem itsR_ref (h : S a = some (.lst xs)) : itsR (.ref a) S R = R xs (fun S2 => asL S2 (.ref a) = some xs) S := by
  refine propext ⟨fun ⟨xs', e, q⟩ => ?_, fun q => ⟨_, asL_ref h, q⟩⟩
  rw [asL_ref h] at e; cases e; exact q
theorem lk_T (h : asT d = some xs) : lk d = false := by cases d <;> first | (cases h; done) | rfl
theorem slR_tup : slR c (.tup xs) lo hi S Q = Q (.tup (cutL xs lo hi)) S := rfl
theorem slR_tpk : slR c (.tpk ns) lo hi S Q = Q (.tup (cutL (ns.map D.int) lo hi)) S := rfl
theorem slR_L (h : asL S d = some xs) : slR c d lo hi S Q = mkL c (cutL xs lo hi) S Q := by
  refine propext ⟨fun q => ?_, fun q => ?_⟩
  · cases d <;> first | (cases h; done) | (obtain ⟨xs', e, q⟩ := q; rw [h] at e; cases e; exact q)
  · cases d <;> first | (cases h; done) | exact ⟨xs, h, q⟩
theorem slR_lst : slR c (.lst xs) lo hi S Q = mkL c (cutL xs lo hi) S Q := slR_L rfl
theorem slR_scr : slR c (.scr ns) lo hi S Q = mkL c (cutL (ns.map D.int) lo hi) S Q := slR_L rfl
theorem slR_ref (h : S a = some (.lst xs)) : slR c (.ref a) lo hi S Q = mkL c (cutL xs lo hi) S Q := slR_L (asL_ref h)
theorem mk_t : mkL true xs S Q = ∀ p, S p = none → Q (.ref p) (sput S p (.lst xs)) := rfl
theorem mk_f : mkL false xs S Q = Q (.lst xs) S := rfl
theorem deq_int : deq (.int i) (.int j) = decide (i = j) := by simp [deq, toP, PyData.eqv]; rfl
theorem deq_bl {x y : Bool} : deq (.bl x) (.bl y) = decide (x = y) := by cases x <;> cases y <;> rfl
theorem eqR_D {neg : Bool} {x y : D} (hx : vw S x = x) (hy : vw S y = y) (hns : ∀ a, x ≠ .str a) (sx : shp 64 x = true) (sy : shp 64 y = true) : eqR neg x y S Q = Q (.bl (if neg then !deq x y else deq x y)) S := by
  unfold eqR eqSR eqDR
  rw [hx, hy, sx, sy]
  refine propext ⟨fun h => ?_, fun q => .inr ⟨rfl, rfl, q⟩⟩
  rcases h with ⟨a, _, e, _⟩ | ⟨_, _, q⟩
  · exact absurd e (hns a)
  · exact q
theorem eqR_int {neg : Bool} : eqR neg (.int i) (.int j) S Q = Q (.bl (if neg then !decide (i = j) else decide (i = j))) S := by
  rw [eqR_D rfl rfl (fun _ h => by cases h) shp_int shp_int, deq_int]
theorem eqR_bl {neg x y : Bool} : eqR neg (.bl x) (.bl y) S Q = Q (.bl (if neg then !decide (x = y) else decide (x = y))) S := by
  rw [eqR_D rfl rfl (fun _ h => by cases h) shp_bl shp_bl, deq_bl]
theorem deq_strs {a b : Str} : deq (.str a) (.str b) = decide (a = b) := by
  simp [deq, toP, PyData.eqv]
  by_cases h : a = b
  · subst h; simp
  · simp [h]
theorem eqR_str {neg : Bool} {a b : Str} : eqR neg (.str a) (.str b) S Q = Q (.bl (if neg then !decide (a = b) else decide (a = b))) S := by
  refine propext ⟨fun h => ?_, fun q => .inl ⟨a, b, rfl, rfl, q⟩⟩
  rcases h with ⟨a', b', e, e', q⟩ | ⟨_, _, q⟩
  · cases e; cases e'; exact q
  · unfold vw at q; rw [deq_strs] at q; exact q
theorem eqR_non {neg : Bool} : eqR neg .non .non S Q = Q (.bl (if neg then false else true)) S := by
  rw [eqR_D rfl rfl (fun _ h => by cases h) rfl rfl]
  cases neg <;> rfl
theorem isiR_of {T n : String} {b : Bool} (h : tyD S d = n) (hn : n ∈ known) (ht : T ∈ known.tail) (hb : isI n T = b) : isiR d (.ty T) S Q = Q (.bl b) S := by
  show (tyD S d ∈ known ∧ T ∈ known.tail ∧ Q (.bl (isI (tyD S d) T)) S) = _
  rw [h, hb]; simp [hn, ht]
theorem isltR_of {n : String} {b : Bool} (h : tyD S d = n) (hn : n ∈ known) (hb : (n == "list" || n == "tuple") = b) : isltR d S Q = Q (.bl b) S := by
  unfold isltR
  rw [h, hb]; simp [hn]
theorem ty_T (h : asT d = some xs) : tyD S d = "tuple" := by cases d <;> first | (cases h; done) | rfl
theorem isltR_int : isltR (.int i) S Q = Q (.bl false) S := isltR_of (n := "int") rfl (by decide) (by decide)
theorem isltR_bl {b : Bool} : isltR (.bl b) S Q = Q (.bl false) S := isltR_of (n := "bool") rfl (by decide) (by decide)
theorem isltR_str {z : Str} : isltR (.str z) S Q = Q (.bl false) S := isltR_of (n := "str") rfl (by decide) (by decide)
theorem isltR_non : isltR .non S Q = Q (.bl false) S := isltR_of (n := "NoneType") rfl (by decide) (by decide)
theorem isiR_int_bool : isiR (.int i) (.ty "bool") S Q = Q (.bl false) S := isiR_of (n := "int") rfl (by decide) (by decide) (by decide)
theorem isiR_bl_bool {b : Bool} : isiR (.bl b) (.ty "bool") S Q = Q (.bl true) S := isiR_of (n := "bool") rfl (by decide) (by decide) (by decide)
theorem isiR_str_bool {z : Str} : isiR (.str z) (.ty "bool") S Q = Q (.bl false) S := isiR_of (n := "str") rfl (by decide) (by decide) (by decide)
theorem isiR_non_bool : isiR .non (.ty "bool") S Q = Q (.bl false) S := isiR_of (n := "NoneType") rfl (by decide) (by decide) (by decide)
theorem atI_0 {x : D} : atI (x :: xs) 0 = some x := by unfold atI ixN; simp
theorem atI_1 {x y : D} : atI (x :: y :: xs) 1 = some y := by
  unfold atI ixN
  rw [if_pos (by omega), if_pos (by simp only [List.length_cons]; omega)]; rfl
theorem atI_n {α : Type} {xs : List α} {n : Nat} : atI xs (n : Int) = xs[n]? := by
  unfold atI ixN
  simp only [Int.natCast_nonneg, if_true]
  by_cases h : (n : Int) < xs.length
  · rw [if_pos h]; simp
  · rw [if_neg h]; simp; omega
theorem atI_p {α : Type} {xs : List α} {i : Int} (h : 0 ≤ i) : atI xs i = xs[i.toNat]? := by
  obtain ⟨n, rfl⟩ := Int.eq_ofNat_of_zero_le h
  rw [atI_n]; rfl
end
theorem seq_mid {t u : TDS} {D : DEnds} {e : En} {S : Sto} (M : En → Sto → Prop) (hu : ∀ e' S', M e' S' → u D e' S') (ht : ∀ N : En → Sto → Prop, (∀ e' S', M e' S' → N e' S') → t { D with nx := N } e S) : dSeq t u D e S := ⟨ht _ hu⟩
theorem ixN_nat {n j : Nat} (h : j < n) : ixN n (j : Int) = some j := by
  unfold ixN
  rw [if_pos (by omega), if_pos (by omega)]; rfl
theorem ixN_pos {n : Nat} {i : Int} (h0 : 0 ≤ i) (h : i < n) : ixN n i = some i.toNat := by
  unfold ixN
  rw [if_pos h0, if_pos h]
section
variable {g : TDG} {tt : TDT} {te : TDE} {ok : Sto → Prop} {e : En} {vs : List Nat} {Q : List D → Sto → Prop} {S : Sto} {items : List D} {α : Type}
theorem lc_pureT (l : List α) (h : α → D) (f : α → Option D) (hok : ok S) (step : ∀ x (N : Option D → Sto → Prop), x ∈ l → N (f x) S → g (h x) (wip e vs) S fun e' S1 => tt e' S1 fun b S2 => match b with
      | true => te e' S2 fun d S3 => N (some d) S3
      | false => N none S2) (fin : Q (l.filterMap f) S) : LcP g tt te ok e vs Q (l.map h) [] S := by
  have key : ∀ (l' : List α) (acc : List D), (∀ x ∈ l', x ∈ l) → Q (acc ++ l'.filterMap f) S → lcGo g tt te ok e vs Q (l'.map h) acc S := by
    intro l'
    induction l' with
    | nil => intro acc _ q; rw [List.filterMap_nil, List.append_nil] at q; exact ⟨hok, q⟩
    | cons x r ih =>
      intro acc hm q
      have := step x (fun o S3 => match o with
        | some d => lcGo g tt te ok e vs Q (r.map h) (acc ++ [d]) S3
        | none => lcGo g tt te ok e vs Q (r.map h) acc S3) (hm x List.mem_cons_self) (by
          cases z : f x with
          | none =>
            refine ih _ (fun y hy => hm y (List.mem_cons_of_mem _ hy)) ?_
            rw [List.filterMap_cons_none z] at q; exact q
          | some y =>
            refine ih _ (fun y hy => hm y (List.mem_cons_of_mem _ hy)) ?_
            rw [List.filterMap_cons_some z] at q
            rw [List.append_assoc]; exact q)
      exact ⟨hok, this⟩
  exact ⟨key l [] (fun _ h => h) fin⟩
theorem lc_mapT (l : List α) (h f : α → D) (hok : ok S) (step : ∀ x (N : KD), x ∈ l → N (f x) S → g (h x) (wip e vs) S fun e' S1 => te e' S1 N) (fin : Q (l.map f) S) : LcP g dYes te ok e vs Q (l.map h) [] S := by
  have key : ∀ (l' : List α) (acc : List D), (∀ x ∈ l', x ∈ l) → Q (acc ++ l'.map f) S → lcGo g dYes te ok e vs Q (l'.map h) acc S := by
    intro l'
    induction l' with
    | nil => intro acc _ q; rw [List.map_nil, List.append_nil] at q; exact ⟨hok, q⟩
    | cons x r ih =>
      intro acc hm q
      refine ⟨hok, step x (fun d S3 => lcGo g dYes te ok e vs Q (r.map h) (acc ++ [d]) S3) (hm x List.mem_cons_self) ?_⟩
      refine ih _ (fun y hy => hm y (List.mem_cons_of_mem _ hy)) ?_
      rw [List.append_assoc]; exact q
  exact ⟨key l [] (fun _ h => h) fin⟩
end
theorem fm_head {α β : Type} {f : α → Option β} {v : β} : ∀ {l : List α}, (∀ k ∈ l, f k = none ∨ f k = some v) → (∃ k ∈ l, f k = some v) → (l.filterMap f)[0]? = some v
  | [], _, h => by obtain ⟨_, h, _⟩ := h; cases h
  | x :: r, ha, he => by
    rcases ha x List.mem_cons_self with h | h
    · rw [List.filterMap_cons_none h]
      refine fm_head (fun k hk => ha k (List.mem_cons_of_mem _ hk)) ?_
      obtain ⟨k, hk, e⟩ := he
      rcases List.mem_cons.mp hk with rfl | hk
      · rw [h] at e; cases e
      · exact ⟨k, hk, e⟩
    · rw [List.filterMap_cons_some h]; rfl
end DL

/-! DL, part S: turnings. -/
namespace DL
open PySem PySem.Spec PyProof.Rows L2
/-- a turning's items -/
def tn (d : D) (ns : List Int) : Prop := asT d = some (ns.map D.int)
/-- one[i] of other -/
def thenI (ns ms : List Int) : List Int := ns.map fun n => (ms[n.toNat]?).getD 0
/-- the places told by ns: js[ns[i]] = i -/
def Inv (ns js : List Int) : Prop := js.length = ns.length ∧ ∀ (i : Nat) (n : Int), ns[i]? = some n → js[n.toNat]? = some (i : Int)
/-- a turning of n places -/
def Turn (n : Int) (ns : List Int) : Prop := ns.Perm (rngI 0 n)
theorem sput_comm {S : Sto} {a b : Addr} {c c' : Cell} (h : a ≠ b) : sput (sput S a c) b c' = sput (sput S b c') a c := by
  funext x; unfold sput
  by_cases h1 : x = a
  · subst h1; simp [h]
  · by_cases h2 : x = b
    · subst h2; simp [h1]
    · simp [h1, h2]
theorem rngI_len {n : Int} (h : 0 ≤ n) : ((rngI 0 n).length : Int) = n := by unfold rngI; rw [List.length_map, List.length_range]; omega
theorem rngI_mem {n x : Int} : x ∈ rngI 0 n ↔ 0 ≤ x ∧ x < n := by
  unfold rngI
  rw [List.mem_map]
  constructor
  · rintro ⟨i, hi, rfl⟩
    rw [List.mem_range] at hi
    omega
  · intro h
    exact ⟨x.toNat, by rw [List.mem_range]; omega, by omega⟩
theorem rngI_nd {n : Int} : (rngI 0 n).Nodup := by
  unfold rngI List.Nodup
  rw [List.pairwise_map]
  exact List.nodup_range.imp fun h => by omega
theorem rngI_get {n : Int} {i : Nat} (h : (i : Int) < n) : (rngI 0 n)[i]? = some (i : Int) := by
  unfold rngI
  rw [List.getElem?_map, List.getElem?_range (by omega)]
  simp
theorem Turn.len {n : Int} {ns : List Int} (t : Turn n ns) (h : 0 ≤ n) : (ns.length : Int) = n := by rw [List.Perm.length_eq t]; exact rngI_len h
theorem Turn.mem {n x : Int} {ns : List Int} (t : Turn n ns) : x ∈ ns ↔ 0 ≤ x ∧ x < n := (List.Perm.mem_iff t).trans rngI_mem
theorem Turn.nd {n : Int} {ns : List Int} (t : Turn n ns) : ns.Nodup := (List.Perm.nodup_iff t).mpr rngI_nd
theorem Turn.of {n : Int} {ns : List Int} (h : ∀ x, x ∈ ns ↔ 0 ≤ x ∧ x < n) (nd : ns.Nodup) : Turn n ns := (List.perm_ext_iff_of_nodup nd rngI_nd).mpr fun x => (h x).trans rngI_mem.symm
theorem Turn.id {n : Int} : Turn n (rngI 0 n) := List.Perm.refl _
theorem map_erase {α β : Type} {f : α → β} : ∀ {xs : List α} {i : Nat}, (xs.eraseIdx i).map f = (xs.map f).eraseIdx i
  | [], _ => rfl
  | _ :: _, 0 => rfl
  | x :: xs, i + 1 => by simp only [List.eraseIdx_cons_succ, List.map_cons]; rw [map_erase]
theorem erase_perm {α : Type} : ∀ {xs : List α} {i : Nat} (h : i < xs.length), ([xs[i]] ++ xs.eraseIdx i).Perm xs
  | [], _, h => absurd h (Nat.not_lt_zero _)
  | _ :: _, 0, _ => List.Perm.refl _
  | x :: xs, i + 1, h => by
    simp only [List.eraseIdx_cons_succ, List.getElem_cons_succ]
    exact (List.Perm.swap _ _ _).trans (List.Perm.cons _ (erase_perm (Nat.lt_of_succ_lt_succ h)))
theorem idx_of {ns : List Int} {x : Int} (h : x ∈ ns) (nd : ns.Nodup) : ∃ j, ns[j]? = some x ∧ (∀ m, m < j → ns[m]? ≠ some x) ∧ ns.idxOf x = j := by
  obtain ⟨j, hj⟩ := List.getElem?_of_mem h
  have hl := (List.getElem?_eq_some_iff.mp hj).1
  refine ⟨j, hj, fun m hm e => ?_, ?_⟩
  · have := (List.getElem?_inj (List.getElem?_eq_some_iff.mp e).1 nd).mp (e.trans hj.symm)
    omega
  · have h2 : ns[j] = x := (List.getElem?_eq_some_iff.mp hj).2
    rw [← h2]
    exact nd.idxOf_getElem j hl
theorem bxd_bxd {S : Sto} {a : Addr} {x y x' y' : Int} : bxd (bxd S a x y) a x' y' = bxd S a x' y' := sput_sput
theorem bxd_get {S : Sto} {a : Addr} {x y : Int} : bxd S a x y a = some (.lst [.int x, .int y]) := sput_same
/-- places told by a turning are a turning -/
theorem Inv.turn {n : Int} {ns js : List Int} (h0 : 0 ≤ n) (t : Turn n ns) (h : Inv ns js) : Turn n js := by
  have hl := t.len h0
  have key : ∀ i : Nat, (i : Int) < n → ∃ j : Nat, (j : Int) < n ∧ js[i]? = some (j : Int) ∧ ns[j]? = some (i : Int) := fun i hi => by
    obtain ⟨j, hj⟩ := List.getElem?_of_mem (t.mem.mpr ⟨Int.natCast_nonneg i, hi⟩)
    have := h.2 j i hj
    have hlt := (List.getElem?_eq_some_iff.mp hj).1
    exact ⟨j, by omega, by simpa using this, hj⟩
  refine Turn.of (fun x => ⟨fun hx => ?_, fun hx => ?_⟩) ?_
  · obtain ⟨i, hi⟩ := List.getElem?_of_mem hx
    have hlt := (List.getElem?_eq_some_iff.mp hi).1
    obtain ⟨j, h1, h2, _⟩ := key i (by rw [h.1] at hlt; omega)
    rw [hi] at h2; cases h2
    omega
  · obtain ⟨m, hm⟩ : ∃ m, ns[x.toNat]? = some m := ⟨_, List.getElem?_eq_getElem (by omega)⟩
    have := h.2 _ _ hm
    exact List.mem_of_getElem? (by rw [this]; congr 1; omega)
  · unfold List.Nodup
    rw [List.pairwise_iff_getElem]
    intro i j hi' hj hij e
    replace e : js[i]? = js[j]? := by rw [List.getElem?_eq_getElem hi', List.getElem?_eq_getElem hj, e]
    have hi : (i : Int) < n := by rw [h.1] at hj; omega
    have hj' : (j : Int) < n := by rw [h.1] at hj; omega
    obtain ⟨a, _, a2, a3⟩ := key i hi
    obtain ⟨b, _, b2, b3⟩ := key j hj'
    rw [a2, b2] at e
    cases e
    rw [a3] at b3; cases b3
    omega
theorem Turn.all {n : Int} {ns : List Int} (t : Turn n ns) (h : n ≤ 1000) : (ns.all fun i => decide (i.natAbs < 10 ^ 12)) = true := by
  rw [List.all_eq_true]
  intro x hx
  have := t.mem.mp hx
  exact decide_eq_true (by omega)
theorem thenI_len {ns ms : List Int} : (thenI ns ms).length = ns.length := by unfold thenI; rw [List.length_map]
theorem thenI_get {ns ms : List Int} {i : Nat} {x y : Int} (h1 : ns[i]? = some x) (h2 : ms[x.toNat]? = some y) : (thenI ns ms)[i]? = some y := by
  unfold thenI
  rw [List.getElem?_map, h1]
  show some ((ms[x.toNat]?).getD 0) = _
  rw [h2]; rfl
theorem Turn.get {n : Int} {ns : List Int} (t : Turn n ns) (h0 : 0 ≤ n) {i : Nat} (h : (i : Int) < n) : ∃ x, ns[i]? = some x ∧ 0 ≤ x ∧ x < n := by
  have := t.len h0
  have e : ns[i]? = some ns[i] := List.getElem?_eq_getElem (by omega)
  exact ⟨_, e, t.mem.mp (List.mem_of_getElem? e)⟩
theorem eq_of_get {n : Int} {xs ys : List Int} (h0 : 0 ≤ n) (hx : (xs.length : Int) = n) (hy : (ys.length : Int) = n) (h : ∀ i : Nat, (i : Int) < n → xs[i]? = ys[i]?) : xs = ys := by
  refine List.ext_getElem? fun i => ?_
  by_cases hi : (i : Int) < n
  · exact h i hi
  · rw [List.getElem?_eq_none (by omega), List.getElem?_eq_none (by omega)]
theorem then_id_l {n : Int} {ns : List Int} (h0 : 0 ≤ n) (t : Turn n ns) : thenI (rngI 0 n) ns = ns :=
  eq_of_get h0 (by rw [thenI_len]; exact rngI_len h0) (t.len h0) fun i hi => by
    obtain ⟨x, hx, _⟩ := t.get h0 hi
    rw [hx]
    exact thenI_get (rngI_get hi) (by simpa using hx)
theorem then_id_r {n : Int} {ns : List Int} (h0 : 0 ≤ n) (t : Turn n ns) : thenI ns (rngI 0 n) = ns :=
  eq_of_get h0 (by rw [thenI_len]; exact t.len h0) (t.len h0) fun i hi => by
    obtain ⟨x, hx, h1, h2⟩ := t.get h0 hi
    rw [hx]
    exact thenI_get hx (by rw [rngI_get (by omega)]; congr 1; omega)
theorem then_inv {n : Int} {ns js : List Int} (h0 : 0 ≤ n) (t : Turn n ns) (h : Inv ns js) : thenI ns js = rngI 0 n :=
  eq_of_get h0 (by rw [thenI_len]; exact t.len h0) (rngI_len h0) fun i hi => by
    obtain ⟨x, hx, h1, h2⟩ := t.get h0 hi
    rw [rngI_get hi]
    exact thenI_get hx (h.2 i x hx)
/-- where i stands -/
theorem Inv.at {n : Int} {ns js : List Int} (h0 : 0 ≤ n) (t : Turn n ns) (h : Inv ns js) {i : Nat} (hi : (i : Int) < n) : ∃ j : Nat, (j : Int) < n ∧ js[i]? = some (j : Int) ∧ ns[j]? = some (i : Int) := by
  obtain ⟨j, hj⟩ := List.getElem?_of_mem (t.mem.mpr ⟨Int.natCast_nonneg i, hi⟩)
  have := h.2 j i hj
  have hlt := (List.getElem?_eq_some_iff.mp hj).1
  have := t.len h0
  exact ⟨j, by omega, by simpa using h.2 j i hj, hj⟩
theorem inv_then {n : Int} {ns js : List Int} (h0 : 0 ≤ n) (t : Turn n ns) (h : Inv ns js) : thenI js ns = rngI 0 n :=
  eq_of_get h0 (by rw [thenI_len, h.1]; exact t.len h0) (rngI_len h0) fun i hi => by
    obtain ⟨j, h1, h2, h3⟩ := h.at h0 t hi
    rw [rngI_get hi]
    exact thenI_get h2 (by simpa using h3)
theorem zips_mem {xs ys : List D} {z : D} (h : z ∈ zips xs ys) : ∃ (i : Nat) (x y : D), xs[i]? = some x ∧ ys[i]? = some y ∧ z = .tup [x, y] := by
  obtain ⟨i, e⟩ := List.getElem?_of_mem h
  obtain ⟨x, y, h1, h2, h3⟩ := zips_get e
  exact ⟨i, x, y, h1, h2, h3⟩
theorem all_true : ∀ n : Nat, (List.replicate n true).all id = true
  | 0 => rfl
  | n + 1 => by rw [List.replicate_succ, List.all_cons, all_true n]; rfl
theorem thenI_get' {n : Int} {ns ms : List Int} (h0 : 0 ≤ n) (t : Turn n ns) (u : Turn n ms) {i : Nat} (hi : (i : Int) < n) : ∃ x y, ns[i]? = some x ∧ ms[x.toNat]? = some y ∧ (thenI ns ms)[i]? = some y ∧ 0 ≤ x ∧ x < n ∧ 0 ≤ y ∧ y < n := by
  obtain ⟨x, hx, x0, x1⟩ := t.get h0 hi
  obtain ⟨y, hy, y0, y1⟩ := u.get h0 (i := x.toNat) (by omega)
  exact ⟨x, y, hx, hy, thenI_get hx hy, x0, x1, y0, y1⟩
theorem Turn.then {n : Int} {ns ms : List Int} (h0 : 0 ≤ n) (t : Turn n ns) (u : Turn n ms) : Turn n (thenI ns ms) := by
  have hl : ((thenI ns ms).length : Int) = n := by rw [thenI_len]; exact t.len h0
  refine Turn.of (fun x => ⟨fun hx => ?_, fun hx => ?_⟩) ?_
  · obtain ⟨i, hi⟩ := List.getElem?_of_mem hx
    have hlt := (List.getElem?_eq_some_iff.mp hi).1
    obtain ⟨_, y, _, _, e, _, _, y0, y1⟩ := thenI_get' h0 t u (i := i) (by omega)
    rw [hi] at e; cases e
    exact ⟨y0, y1⟩
  · obtain ⟨j, hj⟩ := List.getElem?_of_mem (u.mem.mpr hx)
    have hlt := (List.getElem?_eq_some_iff.mp hj).1
    have := u.len h0
    obtain ⟨i, hi⟩ := List.getElem?_of_mem (t.mem.mpr ⟨Int.natCast_nonneg j, by omega⟩)
    exact List.mem_of_getElem? (thenI_get hi (by simpa using hj))
  · unfold List.Nodup
    rw [List.pairwise_iff_getElem]
    intro i j hi hj hij e
    have e' : (thenI ns ms)[i]? = (thenI ns ms)[j]? := by rw [List.getElem?_eq_getElem hi, List.getElem?_eq_getElem hj, e]
    obtain ⟨x, y, a1, a2, a3, _⟩ := thenI_get' h0 t u (i := i) (by omega)
    obtain ⟨x', y', b1, b2, b3, _⟩ := thenI_get' h0 t u (i := j) (by omega)
    rw [a3, b3] at e'; cases e'
    have h1 := (List.getElem?_inj (List.getElem?_eq_some_iff.mp a2).1 u.nd).mp (a2.trans b2.symm)
    have hx : x = x' := by
      have p := t.mem.mp (List.mem_of_getElem? a1)
      have p' := t.mem.mp (List.mem_of_getElem? b1)
      omega
    subst hx
    have h2 := (List.getElem?_inj (List.getElem?_eq_some_iff.mp a1).1 t.nd).mp (a1.trans b1.symm)
    omega
theorem Turn.bd {n : Int} {ns ms : List Int} (h0 : 0 ≤ n) (t : Turn n ns) (u : Turn n ms) : ∀ x ∈ ns, 0 ≤ x ∧ x < (ms.length : Int) := fun x hx => by rw [u.len h0]; exact t.mem.mp hx
theorem Turn.ll {n : Int} {ns : List Int} (h0 : 0 ≤ n) (h1 : n ≤ 1000) (t : Turn n ns) : ns.length ≤ 1000 := by have := t.len h0; omega
theorem ext_bx {S S2 : Sto} {p : Addr} {x y : Int} (h : Ext S S2) (n : S2 p = none) : Ext S (bxd S2 p x y) := h.put n
theorem bx_swap {S : Sto} {a p : Addr} {x y x' y' : Int} {c : Cell} (pa : p ≠ a) : bxd (sput (bxd S a x y) p c) a x' y' = sput (bxd S a x' y') p c := by unfold bxd; rw [sput_comm pa, sput_sput]
theorem bx_at {S : Sto} {a p : Addr} {x y : Int} {c : Cell} (pa : p ≠ a) : sput (bxd S a x y) p c a = some (.lst [.int x, .int y]) := by rw [sput_ne pa.symm]; exact sput_same
theorem bx_none {S : Sto} {a p : Addr} {x y : Int} (pa : p ≠ a) (n : S p = none) : bxd S a x y p = none := by unfold bxd; rw [sput_ne pa]; exact n
theorem bx_ne {S : Sto} {a p : Addr} {x y : Int} (n : bxd S a x y p = none) : p ≠ a ∧ S p = none := by
  have : p ≠ a := by rintro rfl; rw [bxd_get] at n; cases n
  refine ⟨this, ?_⟩
  unfold bxd at n; rw [sput_ne this] at n; exact n
end DL

/-! DL, part U: three at once; insert, a list times an int, reversed, repr of an int. -/
namespace DL
open PySem PySem.Spec PyProof.Rows L2

/-! ### a, b, c = x, y, z -/
def dPar3 (i j l : Nat) (t : TDA) : TDS := fun D e S => t e S fun ds S' => match ds with
  | [a, b, c] => D.nx (((e.set i (some a)).set j (some b)).set l (some c)) S'
  | _ => False
section
variable {X : Cx} {C : Ct} {pos : Pos}
theorem ds_par3 {i j l : Nat} {x y z : Str} {a b c : Expr} {u : TDA} {px py pz pt : Pos} {kt k2 pt2} (hc : X.calm = true) (hN : X.N.Nodup) (hi : X.N[i]? = some x) (hj : X.N[j]? = some y) (hl : X.N[l]? = some z) (hij : i ≠ j) (hil : i ≠ l) (hjl : j ≠ l)
    (hx : X.env.scope.names.lookup x = some .local) (hy : X.env.scope.names.lookup y = some .local) (hz : X.env.scope.names.lookup z = some .local) (ha : DA X C [a, b, c] u)
    (hw : swappedStores [.Tuple [.Name x px, .Name y py, .Name z pz] kt pt] (.Tuple [a, b, c] k2 pt2) X.env = pure (some [x, y, z]) := by rfl)
    (hs : swapsWithSole [.Tuple [.Name x px, .Name y py, .Name z pz] kt pt] (.Tuple [a, b, c] k2 pt2) pos.line X.env = pure false := by rfl) :
    DS X C (.Assign [.Tuple [.Name x px, .Name y py, .Name z pz] kt pt] (.Tuple [a, b, c] k2 pt2) pos) (dPar3 i j l u) :=
  ⟨PS.imp (ps_par3 hc hN hi hj hl hij hil hjl hx hy hz ha.pa hw hs) fun D σ H ⟨G, e, S, D', at', h, k⟩ => ⟨G, e, S, _, at', h, fun ds S1 vs H1 t1 r1 l1 h1 => by
    cases ds with
    | nil => exact h1.elim
    | cons a r => cases r with
      | nil => exact h1.elim
      | cons b r => cases r with
        | nil => exact h1.elim
        | cons c r => cases r with
          | cons _ _ => exact h1.elim
          | nil =>
            obtain ⟨v1, w, rfl, m1, l2⟩ := l1.of_cons
            obtain ⟨v2, v3, rfl, m2, m3⟩ := of_two l2
            exact ⟨v1, v2, v3, rfl, k.nx _ S1 _ H1 t1 ((((at'.next t1 r1).set m1).set m2).set m3) h1⟩⟩⟩
end

/-! ### xs.insert(i, y) -/
def insR : RDM := onL fun a xs ds S Q => match ds with
  | [d, y] => (match d with
    | .int i => xs.length < sizeLine ∧ 0 ≤ i ∧ i < 2 ^ 63 ∧ Q .non (sput S a (.lst (xs.take i.toNat ++ [y] ++ xs.drop i.toNat)))
    | _ => False)
  | _ => False
section
variable {X : Cx}
theorem mt_insD : MtR X "list.insert" (LRM X.K insR) := mt_on (show MtR X _ _ from mt_insert) fun G S H a xs vs ds ws Q' Q rp g hs e la ls q k => by
  cases ds with
  | nil => exact False.elim q
  | cons d r => cases r with
    | nil => exact False.elim q
    | cons y r => cases r with
      | cons _ _ => exact False.elim q
      | nil => cases d with
        | int i =>
          obtain ⟨u, w, rfl, l1, l2⟩ := of_two ls
          obtain ⟨q0, q1, q2, q⟩ := q
          obtain ⟨r2, t2⟩ := rp.putL hs (RlA.app (RlA.app (la.take i.toNat) (RlA.cons l2 RlA.nil)) (la.drop i.toNat))
          exact ⟨a, vs, i, w, rfl, by rw [l1.of_int], e, by rw [← la.length]; exact q0, q1, q2, k _ _ _ _ t2 r2 Rl.non q⟩
        | _ => exact False.elim q
/-- a list times an int -/
def mulLR (c : Bool) : RD2 := fun x y S Q => match y with
  | .int k => ∃ xs, asM S x = some xs ∧ -(2 ^ 63) ≤ k ∧ k < 2 ^ 63 ∧ xs.length * k.toNat ≤ sizeLine ∧ mkL c (List.replicate k.toNat xs).flatten S Q
  | _ => False
theorem RlA.rep {K : PySem.W.Frag} {H : Hp} {nf : Addr → Prop} {xs : List D} {vs : List V} (l : RlA K H nf xs vs) : ∀ n : Nat, RlA K H nf (List.replicate n xs).flatten (List.replicate n vs).flatten
  | 0 => RlA.nil
  | n + 1 => by
    rw [List.replicate_succ, List.replicate_succ, List.flatten_cons, List.flatten_cons]
    exact RlA.app l (RlA.rep l n)
theorem or_mulL (c : Bool) : OpR X (binaryOp .Mult) (LR2 X.K (mulLR c)) := OpR.imp op_rep fun x y H Q ⟨G, d1, d2, S, Q', r, g, l1, l2, h, k⟩ => by
  cases d2 with
  | int j =>
    obtain ⟨xs, hx, h1, h2, h3, q⟩ := h
    obtain ⟨a, vs, rfl, e, la⟩ := of_asM r hx l1
    exact ⟨a, j, vs, rfl, l2.of_int, e, h1, h2, by rw [← la.length]; exact h3, fun p n => mkL_ok r g (la.rep _) n q k⟩
  | _ => exact False.elim h
/-- repr of an int -/
def rpiR : D → Sto → KD → Prop := fun d S Q => match d with
  | .int i => i.natAbs.log2 < 1920 ∧ Q (.str (toString i)) S
  | _ => False
theorem cr_repI : CallR X (.builtin "repr") (LRL X.K (one rpiR)) := cr_one SkE.call_repr_int fun v H Q ⟨G, d, S, Q', r, g, l, h, k⟩ => by
  cases d with
  | int i => exact ⟨i, by rw [l.of_int], h.1, k.now r Rl.str h.2⟩
  | _ => exact False.elim h
end
/-! ### reversed -/
section
variable {X : Cx} {C : Ct} {pos : Pos}
def iRv (t : TDE) : TDI := fun e S Q => t e S fun d S' => itsR d S' fun xs ok S2 => Q xs.reverse ok S2
theorem di_rev {tg a : Expr} {t : TDE} {p : Pos} (hg : Gl X "reversed") (hm : X.mg "reversed" = none) (ha : DE X C a t) (hs : starEach [a] X.env = (false, eval a X.env) :: starEach [] X.env := by rfl) :
    DI X C tg (.Call (.Name "reversed" p) [a] [] pos) (iRv t) :=
  ⟨PI.imp (RT.pi_revA hg hm ha.pe hs) fun σ H R ⟨G, e, S, Q', at', h, k⟩ => ⟨G, e, S, _, at', h, fun d S1 v H1 t1 r1 l h1 => by
    obtain ⟨a, xs, ok, ws, rfl, q, h2, w, l0⟩ := its_ok r1 l h1
    have hl := l0.length
    have gx : ∀ {us : List V} {G2 : Addr → Prop} {S2 : Sto} {H2 : Hp} {i : Nat} {d : D}, RlA X.K H2 (nfz G2 S2) xs us → xs.reverse[i]? = some d → i < ws.length ∧ ∃ u, us[ws.length - 1 - i]? = some u ∧ Rl X.K H2 (nfz G2 S2) d u := fun {us G2 S2 H2 i d} la ed => by
      have hi := (List.getElem?_eq_some_iff.mp ed).1
      rw [List.length_reverse] at hi
      rw [List.getElem?_reverse hi, hl] at ed
      exact ⟨by omega, la.getD ed⟩
    cases hb : lk d with
    | true =>
      rw [hb] at h2 w
      refine ⟨a, ws, rfl, .inl ⟨h2, k _ ok S1 _ H1 t1 r1 (fun G2 S2 H2 sub t r2 o => ?_) q⟩⟩
      obtain ⟨us, hq, la⟩ := w G2 S2 H2 sub t r2 o
      refine ⟨show ws.length ≤ _ by rw [List.length_reverse, hl]; exact Nat.le_refl _, fun i dd ed => ?_⟩
      obtain ⟨hi, u, hu, lu⟩ := gx la ed
      refine ⟨⟨hi, us, u, hq, hu⟩, fun x H3 ⟨e1, e2⟩ => ?_⟩
      subst e1
      have := e2 us hq
      rw [hu] at this; cases this
      exact ⟨Tr.refl, r2, lu⟩
    | false =>
      rw [hb] at h2 w
      refine ⟨a, ws, rfl, .inr ⟨h2, k _ ok S1 _ H1 t1 r1 (fun G2 S2 H2 sub t r2 o => ?_) q⟩⟩
      obtain ⟨us, hq, la⟩ := w G2 S2 H2 sub t r2 o
      refine ⟨show ws.length ≤ _ by rw [List.length_reverse, hl]; exact Nat.le_refl _, fun i dd ed => ?_⟩
      obtain ⟨hi, u, hu, lu⟩ := gx la ed
      refine ⟨⟨hi, us, u, hq, hu⟩, fun x H3 ⟨e1, e2⟩ => ?_⟩
      subst e1
      have := e2 us hq
      rw [hu] at this; cases this
      exact ⟨Tr.refl, r2, lu⟩⟩⟩
end
end DL

/-! DL, part V: steps and dances. -/
namespace DL
open PySem PySem.Spec PyProof.Rows L2
structure Stp where
  q : Int
  y : List Int
  z : List Int
def Stp.d (s : Stp) : D := .tup [.int s.q, .tpk s.y, .tpk s.z]
structure StOk (n m : Int) (s : Stp) : Prop where
  q0 : 0 ≤ s.q
  q1 : s.q < m
  y : Turn n s.y
  z : Turn n s.z
/-- a dance of n cups, m questions, steps l -/
def dnD (n m : Int) (l : List Stp) : D := .tup [.int n, .int m, .tup (l.map Stp.d)]
theorem atI_last1 {α : Type} {xs : List α} {x : α} (h : xs.getLast? = some x) : atI xs (-1) = some x := by
  have hn : xs ≠ [] := by rintro rfl; simp at h
  have hl : 0 < xs.length := List.length_pos_iff.mpr hn
  unfold atI ixN
  rw [if_neg (by omega), if_pos (by omega)]
  rw [List.getLast?_eq_getElem?] at h
  show xs[((-1 : Int) + (xs.length : Int)).toNat]? = some x
  rw [show ((-1 : Int) + (xs.length : Int)).toNat = xs.length - 1 by omega]
  exact h
theorem atI_2 {x y z : D} {r : List D} : atI (x :: y :: z :: r) 2 = some z := by
  unfold atI ixN
  rw [if_pos (by omega), if_pos (by simp only [List.length_cons]; omega)]; rfl
theorem mul4 {i : Int} {α : Type} (xs : List α) (h0 : 0 ≤ i) (h : i < xs.length) : ∃ x, atI xs i = some x ∧ x ∈ xs := by
  have e : xs[i.toNat]? = some xs[i.toNat] := List.getElem?_eq_getElem (by omega)
  exact ⟨_, by rw [atI_p h0]; exact e, List.mem_of_getElem? e⟩
/-- h is the least number of doublings that reach m -/
def Dbl (m : Int) (h : Nat) : Prop := m ≤ 2 ^ h ∧ ∀ j, j < h → (2 : Int) ^ j < m
theorem Dbl.uniq {m : Int} {h h' : Nat} (a : Dbl m h) (b : Dbl m h') : h = h' := by
  rcases Nat.lt_trichotomy h h' with q | q | q
  · have := b.2 h q; have := a.1; omega
  · exact q
  · have := a.2 h' q; have := b.1; omega
theorem pow_ge (f : Nat) : (f : Int) + 1 ≤ 2 ^ f := by
  induction f with
  | zero => decide
  | succ f ih => rw [Int.pow_succ]; omega
/-! ### ways back, one behind the other -/
def invI (ns : List Int) : List Int := (rngI 0 ns.length).map fun i => ((ns.idxOf i : Nat) : Int)
theorem Inv.uniq {n : Int} {ns js ks : List Int} (h0 : 0 ≤ n) (t : Turn n ns) (h : Inv ns js) (h' : Inv ns ks) : js = ks := by
  have hl := t.len h0
  refine eq_of_get h0 (by rw [h.1]; exact hl) (by rw [h'.1]; exact hl) fun i hi => ?_
  obtain ⟨p, p1, p2, p3⟩ := h.at h0 t hi
  have := h'.2 p _ p3
  rw [p2, show i = ((i : Int)).toNat by omega, this]
theorem inv_invI {n : Int} {ns : List Int} (h0 : 0 ≤ n) (t : Turn n ns) : Inv ns (invI ns) := by
  have hl := t.len h0
  refine ⟨?_, fun i m hm => ?_⟩
  · have := rngI_len (n := (ns.length : Int)) (by omega)
    unfold invI; rw [List.length_map]; omega
  · have hm' := t.mem.mp (List.mem_of_getElem? hm)
    obtain ⟨j, e1, e2, e3⟩ := idx_of (List.mem_of_getElem? hm) t.nd
    have : j = i := (List.getElem?_inj (List.getElem?_eq_some_iff.mp e1).1 t.nd).mp (e1.trans hm.symm)
    subst this
    unfold invI
    rw [List.getElem?_map, rngI_get (by omega)]
    show some ((ns.idxOf (m.toNat : Int) : Nat) : Int) = _
    rw [show ((m.toNat : Nat) : Int) = m by omega, e3]
theorem Inv.eq {n : Int} {ns js : List Int} (h0 : 0 ≤ n) (t : Turn n ns) (h : Inv ns js) : js = invI ns := h.uniq h0 t (inv_invI h0 t)
theorem invI_turn {n : Int} {ns : List Int} (h0 : 0 ≤ n) (t : Turn n ns) : Turn n (invI ns) := (inv_invI h0 t).turn h0 t
theorem Inv.symm {n : Int} {ns js : List Int} (h0 : 0 ≤ n) (t : Turn n ns) (h : Inv ns js) : Inv js ns := by
  refine ⟨h.1.symm, fun i m hm => ?_⟩
  have hl := (List.getElem?_eq_some_iff.mp hm).1
  have := t.len h0
  obtain ⟨p, p1, p2, p3⟩ := h.at h0 t (i := i) (by rw [h.1] at hl; omega)
  rw [hm] at p2; cases p2
  simpa using p3
theorem invI_invI {n : Int} {ns : List Int} (h0 : 0 ≤ n) (t : Turn n ns) : invI (invI ns) = ns := (((inv_invI h0 t).symm h0 t).eq h0 (invI_turn h0 t)).symm
theorem then_assoc {n : Int} {a b c : List Int} (h0 : 0 ≤ n) (ta : Turn n a) (tb : Turn n b) (tc : Turn n c) : thenI (thenI a b) c = thenI a (thenI b c) := by
  refine eq_of_get h0 (by rw [thenI_len, thenI_len]; exact ta.len h0) (by rw [thenI_len]; exact ta.len h0) fun i hi => ?_
  obtain ⟨x, y, h1, h2, h3, x0, x1, y0, y1⟩ := thenI_get' h0 ta tb hi
  obtain ⟨z, hz, _, _⟩ := tc.get h0 (i := y.toNat) (by omega)
  rw [thenI_get h3 hz]
  exact (thenI_get h1 (thenI_get h2 hz)).symm
def Stp.inv (s : Stp) : Stp := ⟨s.q, invI s.y, invI s.z⟩
theorem StOk.inv {n m : Int} {s : Stp} (h0 : 0 ≤ n) (h : StOk n m s) : StOk n m s.inv := ⟨h.q0, h.q1, invI_turn h0 h.y, invI_turn h0 h.z⟩
theorem StOk.inv_inv {n m : Int} {s : Stp} (h0 : 0 ≤ n) (h : StOk n m s) : s.inv.inv = s := by
  show Stp.mk s.q (invI (invI s.y)) (invI (invI s.z)) = s
  rw [invI_invI h0 h.y, invI_invI h0 h.z]
/-- the side of a step -/
def Stp.side (as : List Int) (s : Stp) : List Int := if as[s.q.toNat]? = some 1 then s.y else s.z
theorem StOk.side {n m : Int} {s : Stp} (as : List Int) (h : StOk n m s) : Turn n (s.side as) := by
  unfold Stp.side; split
  · exact h.y
  · exact h.z
theorem side_inv {as : List Int} {s : Stp} : s.inv.side as = invI (s.side as) := by
  unfold Stp.side Stp.inv; dsimp only; split <;> rfl
def doneI (as : List Int) (f : List Int) : List Stp → List Int
  | [] => f
  | s :: l => doneI as (thenI f (s.side as)) l
theorem doneI_turn {n m : Int} {as : List Int} (h0 : 0 ≤ n) : ∀ {l : List Stp} {f : List Int}, Turn n f → (∀ s ∈ l, StOk n m s) → Turn n (doneI as f l)
  | [], _, t, _ => t
  | s :: l, f, t, h => by
    show Turn n (doneI as (thenI f (s.side as)) l)
    exact doneI_turn (l := l) h0 (t.then h0 ((h s List.mem_cons_self).side as)) fun u hu => h u (List.mem_cons_of_mem _ hu)
theorem doneI_app {as f : List Int} : ∀ {l r : List Stp}, doneI as f (l ++ r) = doneI as (doneI as f l) r
  | [], _ => rfl
  | _ :: l, r => by rw [List.cons_append]; exact doneI_app (l := l)
/-- from f: f, then from the still one -/
theorem doneI_from {n m : Int} {as : List Int} (h0 : 0 ≤ n) : ∀ {l : List Stp} {f : List Int}, Turn n f → (∀ s ∈ l, StOk n m s) → doneI as f l = thenI f (doneI as (rngI 0 n) l)
  | [], f, t, _ => (then_id_r h0 t).symm
  | s :: l, f, t, h => by
    have hs := h s List.mem_cons_self
    have hl := fun u hu => h u (List.mem_cons_of_mem s hu)
    show doneI as (thenI f (s.side as)) l = thenI f (doneI as (thenI (rngI 0 n) (s.side as)) l)
    rw [doneI_from h0 (t.then h0 (hs.side as)) hl, then_id_l h0 (hs.side as), doneI_from h0 (hs.side as) hl, then_assoc h0 t (hs.side as) (doneI_turn h0 Turn.id hl)]
/-- a dance, then its steps' ways back from the last one on -/
theorem doneI_back {n m : Int} {as : List Int} (h0 : 0 ≤ n) : ∀ {l : List Stp} {f : List Int}, Turn n f → (∀ s ∈ l, StOk n m s) → doneI as (doneI as f l) (l.map Stp.inv).reverse = f
  | [], _, _, _ => rfl
  | s :: l, f, t, h => by
    have hs := h s List.mem_cons_self
    have hl := fun u hu => h u (List.mem_cons_of_mem s hu)
    rw [List.map_cons, List.reverse_cons, doneI_app]
    show doneI as (doneI as (doneI as (thenI f (s.side as)) l) (l.map Stp.inv).reverse) [s.inv] = f
    rw [doneI_back h0 (t.then h0 (hs.side as)) hl]
    show thenI (thenI f (s.side as)) (s.inv.side as) = f
    rw [side_inv, then_assoc h0 t (hs.side as) (invI_turn h0 (hs.side as)), then_inv h0 (hs.side as) (inv_invI h0 (hs.side as)), then_id_r h0 t]
theorem deq_refl {x : D} (h : shp 64 x = true) : deq x x = true := SeqAt.eqv_refl _ (shp_ok 64 x h).1
section
variable {S : Sto} {Q : KD} {n m : Int} {l : List Stp}
theorem ixR_d0 : ixR (dnD n m l) (.int 0) S Q = Q (.int n) S := by unfold dnD; simp only [ixR_tup, atI_0, Option.some.injEq, exists_eq_left']
theorem ixR_d1 : ixR (dnD n m l) (.int 1) S Q = Q (.int m) S := by unfold dnD; simp only [ixR_tup, atI_1, Option.some.injEq, exists_eq_left']
theorem ixR_d2 : ixR (dnD n m l) (.int 2) S Q = Q (.tup (l.map Stp.d)) S := by unfold dnD; simp only [ixR_tup, atI_2, Option.some.injEq, exists_eq_left']
theorem eqR_tpk {neg : Bool} {ns : List Int} : eqR neg (.tpk ns) (.tpk ns) S Q = Q (.bl (if neg then false else true)) S := by
  rw [eqR_D rfl rfl (fun _ h => by cases h) rfl rfl, deq_refl rfl]
  cases neg <;> rfl
end
/-- answers to m questions -/
structure AnsOk (m : Int) (as : List Int) : Prop where
  len : (as.length : Int) = m
  mem : ∀ x ∈ as, x = 0 ∨ x = 1
theorem AnsOk.get {m : Int} {as : List Int} (h : AnsOk m as) {q : Int} (q0 : 0 ≤ q) (q1 : q < m) : ∃ x, as[q.toNat]? = some x ∧ (x = 0 ∨ x = 1) := by
  have := h.len
  have e : as[q.toNat]? = some as[q.toNat] := List.getElem?_eq_getElem (by omega)
  exact ⟨_, e, h.mem _ (List.mem_of_getElem? e)⟩
theorem side_at {n m : Int} {as : List Int} {s : Stp} (hs : StOk n m s) (ha : AnsOk m as) : ∃ x, atI as s.q = some x ∧ atI [D.tpk s.z, .tpk s.y] x = some (.tpk (s.side as)) := by
  obtain ⟨x, hx, h⟩ := ha.get hs.q0 hs.q1
  refine ⟨x, by rw [atI_p hs.q0]; exact hx, ?_⟩
  unfold Stp.side
  rw [hx]
  rcases h with rfl | rfl
  · rfl
  · rfl
/-- how a dance goes: the turnings behind each step -/
def walkI (as f : List Int) : List Stp → List (List Int)
  | [] => []
  | s :: l => thenI f (s.side as) :: walkI as (thenI f (s.side as)) l
theorem walkI_last {as : List Int} : ∀ {l : List Stp} {f : List Int}, (f :: walkI as f l).getLast? = some (doneI as f l)
  | [], _ => rfl
  | s :: l, f => by
    show (f :: thenI f (s.side as) :: walkI as (thenI f (s.side as)) l).getLast? = _
    rw [List.getLast?_cons_cons]
    exact walkI_last (l := l)
theorem walkI_len {as : List Int} : ∀ {l : List Stp} {f : List Int}, (walkI as f l).length = l.length
  | [], _ => rfl
  | s :: l, f => by
    show (walkI as (thenI f (s.side as)) l).length + 1 = l.length + 1
    rw [walkI_len (l := l)]
theorem walkI_app {as : List Int} : ∀ {l r : List Stp} {f : List Int}, walkI as f (l ++ r) = walkI as f l ++ walkI as (doneI as f l) r
  | [], _, _ => rfl
  | s :: l, r, f => by
    show thenI f (s.side as) :: walkI as (thenI f (s.side as)) (l ++ r) = _
    rw [walkI_app (l := l)]; rfl
theorem walkI_turn {n m : Int} {as : List Int} (h0 : 0 ≤ n) : ∀ {l : List Stp} {f : List Int}, Turn n f → (∀ s ∈ l, StOk n m s) → ∀ t ∈ walkI as f l, Turn n t
  | [], _, _, _ => fun _ h => nomatch h
  | s :: l, f, t, h => fun u hu => by
    have ts := t.then h0 ((h s List.mem_cons_self).side as)
    rcases List.mem_cons.mp hu with rfl | hu
    · exact ts
    · exact walkI_turn (l := l) h0 ts (fun v hv => h v (List.mem_cons_of_mem _ hv)) u hu
theorem walk_snoc {as f : List Int} {l : List Stp} {i : Nat} {s : Stp} (h : l[i]? = some s) : walkI as f (l.take (i + 1)) = walkI as f (l.take i) ++ [thenI (doneI as f (l.take i)) (s.side as)] ∧ doneI as f (l.take (i + 1)) = thenI (doneI as f (l.take i)) (s.side as) := by
  rw [List.take_add_one, h]
  exact ⟨walkI_app, doneI_app⟩
end DL

/-! DL, part W: words for readings; more rules of comprehensions. -/
namespace DL
open PySem PySem.Spec PyProof.Rows L2
section
variable {g : TDG} {tt : TDT} {te : TDE} {ok : Sto → Prop} {e : En} {vs : List Nat} {Q : List D → Sto → Prop} {S : Sto} {items : List D}
/-- all items answer True -/
theorem lc_true (hok : ok S) (step : ∀ x (N : KD), x ∈ items → N (.bl true) S → g x (wip e vs) S fun e' S1 => te e' S1 N)
    (fin : Q ((List.replicate items.length true).map D.bl) S) : LcP g dYes te ok e vs Q items [] S :=
  lc_map (fun _ => .bl true) hok rfl step (by
    have : items.map (fun _ => D.bl true) = (List.replicate items.length true).map D.bl := by
      rw [List.map_replicate]; exact List.map_const' ..
    rw [this]; exact fin)
/-- the like, where the items' cells come and go -/
theorem lc_trueX (hok : ∀ S', Ext S S' → ok S') (step : ∀ x S' (N : KD), x ∈ items → Ext S S' → (∀ S'', Ext S S'' → N (.bl true) S'') → g x (wip e vs) S' fun e' S1 => te e' S1 N)
    (fin : ∀ S', Ext S S' → Q ((List.replicate items.length true).map D.bl) S') : LcP g dYes te ok e vs Q items [] S := by
  refine lc_inv (fun i bs S2 => bs = (List.replicate i true).map D.bl ∧ Ext S S2) ⟨rfl, Ext.refl⟩ (fun _ _ S2 _ h => hok S2 h.2) (fun i x bs S2 N hz h hN => ?_) fun bs S2 h => ?_
  · obtain ⟨rfl, hx⟩ := h
    exact step x S2 (fun d S3 => N ((List.replicate i true).map D.bl ++ [d]) S3) (List.mem_of_getElem? hz) hx fun S3 h3 => hN _ _ ⟨by rw [List.replicate_succ', List.map_append]; rfl, h3⟩
  · obtain ⟨rfl, hx⟩ := h
    exact fin S2 hx
end
/-! equality, by what follows -/
section
variable {S : Sto} {Q : KD}
theorem eqR_int_f {i j : Int} (q : Q (.bl (decide (i = j))) S) : eqR false (.int i) (.int j) S Q := by rw [eqR_int]; exact q
theorem eqR_int_t {i j : Int} (q : Q (.bl (!decide (i = j))) S) : eqR true (.int i) (.int j) S Q := by rw [eqR_int]; exact q
theorem eqR_str_f {i j : Str} (q : Q (.bl (decide (i = j))) S) : eqR false (.str i) (.str j) S Q := by rw [eqR_str]; exact q
theorem eqR_str_t {i j : Str} (q : Q (.bl (!decide (i = j))) S) : eqR true (.str i) (.str j) S Q := by rw [eqR_str]; exact q
theorem eqR_bl_f {i j : Bool} (q : Q (.bl (decide (i = j))) S) : eqR false (.bl i) (.bl j) S Q := by rw [eqR_bl]; exact q
theorem eqR_bl_t {i j : Bool} (q : Q (.bl (!decide (i = j))) S) : eqR true (.bl i) (.bl j) S Q := by rw [eqR_bl]; exact q
theorem ints0 : ([] : List D) = List.map D.int [] := rfl
theorem ints1 {a : Int} : [D.int a] = List.map D.int [a] := rfl
theorem ints2 {a b : Int} : [D.int a, D.int b] = List.map D.int [a, b] := rfl
theorem ints3 {a b c : Int} : [D.int a, D.int b, D.int c] = List.map D.int [a, b, c] := rfl
theorem ints5 {a b c d e : Int} : [D.int a, D.int b, D.int c, D.int d, D.int e] = List.map D.int [a, b, c, d, e] := rfl
/-- a test's two ways -/
theorem ways {b : Bool} {A B : Prop} (h1 : b = true → A) (h2 : b = false → B) : match b with
    | true => A
    | false => B := by
  cases b
  · exact h2 rfl
  · exact h1 rfl
theorem wayT {b : Bool} {A B : Prop} (e : b = true) (h1 : A) : match b with
    | true => A
    | false => B := by
  cases b
  · cases e
  · exact h1
theorem wayF {b : Bool} {A B : Prop} (e : b = false) (h1 : B) : match b with
    | true => A
    | false => B := by
  cases b
  · exact h1
  · cases e
end
theorem allR_true {S : Sto} {Q : KD} {n : Nat} {d : D} (h : asL S d = some ((List.replicate n true).map D.bl)) (q : Q (.bl true) S) : allR d S Q := ⟨_, h, by rw [all_true]; exact q⟩
theorem Ext.trans {S S1 S2 : Sto} (h : Ext S S1) (h' : Ext S1 S2) : Ext S S2 := fun b => by
  rcases h b with q | q
  · exact .inl q
  · rcases h' b with q' | q'
    · exact .inl (q ▸ q')
    · exact .inr (q'.trans q)
theorem Ext.none {S S' : Sto} {p : Addr} (h : Ext S S') (n : S' p = none) : S p = none := by
  rcases h p with q | q
  · exact q
  · rw [← q]; exact n
theorem Ext.dropTo {S S' : Sto} {p : Addr} {c : Cell} (h : Ext S S') (e : S' p = some c) : Drop S' (sput S p c) := fun b => by
  by_cases z : b = p
  · subst z; rw [sput_same]; exact .inl e.symm
  · rw [sput_ne z]; exact h.drop b
theorem cutL_len {α : Type} {xs : List α} {lo hi : Option Int} : (cutL xs lo hi).length ≤ xs.length := by
  unfold cutL; rw [List.length_take, List.length_drop]; omega
theorem cutL_mem {α : Type} {xs : List α} {lo hi : Option Int} {x : α} (h : x ∈ cutL xs lo hi) : x ∈ xs := List.mem_of_mem_drop (List.mem_of_mem_take h)
theorem cutL_map {α β : Type} {f : α → β} {xs : List α} {lo hi : Option Int} : cutL (xs.map f) lo hi = (cutL xs lo hi).map f := by
  unfold cutL; rw [List.length_map, List.map_take, List.map_drop]
theorem cutL_to {α : Type} {xs : List α} {j : Nat} (h : j ≤ xs.length) : cutL xs none (some (j : Int)) = xs.take j := by
  unfold cutL
  rw [HT.sIx_none, HT.sIx_nat, Nat.min_eq_left h]; simp
theorem cutL_from {α : Type} {xs : List α} {j : Nat} (h : j ≤ xs.length) : cutL xs (some (j : Int)) none = xs.drop j := by
  unfold cutL
  rw [HT.sIx_none, HT.sIx_nat, Nat.min_eq_left h]
  exact List.take_of_length_le (by rw [List.length_drop]; omega)
end DL

/-! DL, part Y: equality of rows of ints; constants of the module. -/
namespace DL
open PySem PySem.Spec PyProof.Rows L2
theorem eqvs_ints : ∀ ns ms : List Int, PyData.eqvAll (ns.map PyData.int) (ms.map PyData.int) = decide (ns = ms)
  | [], [] => by simp [PyData.eqvAll]
  | [], m :: ms => by simp [PyData.eqvAll]
  | n :: ns, [] => by simp [PyData.eqvAll]
  | n :: ns, m :: ms => by
    simp only [List.map_cons, PyData.eqvAll, PyData.eqv, eqvs_ints ns ms]
    by_cases h : n = m
    · subst h
      by_cases h2 : ns = ms
      · subst h2; simp
      · simp [h2]
    · simp [h]
theorem map_int_inj : ∀ {ns ms : List Int}, ns.map D.int = ms.map D.int → ns = ms
  | [], [], _ => rfl
  | [], _ :: _, h => by cases h
  | _ :: _, [], h => by cases h
  | n :: ns, m :: ms, h => by
    simp only [List.map_cons, List.cons.injEq, D.int.injEq] at h
    rw [h.1, map_int_inj h.2]
theorem toP_T {x : D} {ns : List Int} (h : asT x = some (ns.map D.int)) : toP x = .tuple (ns.map PyData.int) := by
  cases x with
  | tup xs =>
    cases h
    show PyData.tuple (toPs _) = _
    rw [toPs_map, List.map_map]; rfl
  | tpk ms =>
    rw [map_int_inj (Option.some.inj h)]; rfl
  | _ => cases h
theorem shp_ints {n : Nat} {ns : List Int} : shps n (ns.map D.int) = true := by
  rw [shps_all, List.all_map, List.all_eq_true]; intro x _; exact shp_int
theorem shp_T {n : Nat} {x : D} {ns : List Int} (h : asT x = some (ns.map D.int)) : shp (n + 1) x = true := by
  cases x with
  | tup xs => cases h; exact shp_ints
  | tpk ms => rfl
  | _ => cases h
theorem shp_L {n : Nat} {ns : List Int} : shp (n + 1) (.lst (ns.map D.int)) = true := shp_ints
theorem vw_T' {S : Sto} {x : D} {xs : List D} (h : asT x = some xs) : vw S x = x := by
  cases x with
  | ref a => cases h
  | _ => rfl
section
variable {S : Sto} {Q : KD} {neg : Bool}
theorem eqR_of {x y dx dy : D} {b : Bool} (hx : vw S x = dx) (hy : vw S y = dy) (sx : shp 64 dx = true) (sy : shp 64 dy = true) (h : deq dx dy = b) (q : Q (.bl (if neg then !b else b)) S) : eqR neg x y S Q :=
  .inr ⟨by rw [hx]; exact sx, by rw [hy]; exact sy, by rw [hx, hy, h]; exact q⟩
theorem eqR_T {x y : D} {ns ms : List Int} (hx : asT x = some (ns.map D.int)) (hy : asT y = some (ms.map D.int)) (q : Q (.bl (if neg then !decide (ns = ms) else decide (ns = ms))) S) : eqR neg x y S Q :=
  eqR_of (vw_T' hx) (vw_T' hy) (shp_T hx) (shp_T hy) (by unfold deq; rw [toP_T hx, toP_T hy]; exact eqvs_ints ns ms) q
theorem deq_L {ns ms : List Int} : deq (.lst (ns.map D.int)) (.lst (ms.map D.int)) = decide (ns = ms) := by
  unfold deq
  show PyData.eqvAll (toPs _) (toPs _) = _
  rw [toPs_map, toPs_map, List.map_map, List.map_map]; exact eqvs_ints ns ms
theorem eqR_L {x y : D} {ns ms : List Int} (hx : vw S x = .lst (ns.map D.int)) (hy : vw S y = .lst (ms.map D.int)) (q : Q (.bl (if neg then !decide (ns = ms) else decide (ns = ms))) S) : eqR neg x y S Q :=
  eqR_of hx hy shp_L shp_L deq_L q
theorem eqR_LL {ns ms : List Int} (q : Q (.bl (if neg then !decide (ns = ms) else decide (ns = ms))) S) : eqR neg (.lst (ns.map D.int)) (.lst (ms.map D.int)) S Q := eqR_L rfl rfl q
theorem eqR_KK {ns ms : List Int} (q : Q (.bl (if neg then !decide (ns = ms) else decide (ns = ms))) S) : eqR neg (.tpk ns) (.tpk ms) S Q := eqR_T rfl rfl q
theorem eqR_same {x y d : D} (hx : vw S x = d) (hy : vw S y = d) (sx : shp 64 d = true) (q : Q (.bl (if neg then false else true)) S) : eqR neg x y S Q :=
  eqR_of hx hy sx sx (deq_refl sx) (by cases neg <;> exact q)
end
section
variable {S : Sto} {Q : KD}
theorem eqO_int_f {i j : Int} (q : Q (.bl (decide (i = j))) S) : eqSR false (.int i) (.int j) S Q ∨ eqDR false (.int i) (.int j) S Q := eqR_int_f q
theorem eqO_int_t {i j : Int} (q : Q (.bl (!decide (i = j))) S) : eqSR true (.int i) (.int j) S Q ∨ eqDR true (.int i) (.int j) S Q := eqR_int_t q
theorem eqO_str_f {i j : Str} (q : Q (.bl (decide (i = j))) S) : eqSR false (.str i) (.str j) S Q ∨ eqDR false (.str i) (.str j) S Q := eqR_str_f q
theorem eqO_str_t {i j : Str} (q : Q (.bl (!decide (i = j))) S) : eqSR true (.str i) (.str j) S Q ∨ eqDR true (.str i) (.str j) S Q := eqR_str_t q
theorem eqO_bl_f {i j : Bool} (q : Q (.bl (decide (i = j))) S) : eqSR false (.bl i) (.bl j) S Q ∨ eqDR false (.bl i) (.bl j) S Q := eqR_bl_f q
theorem eqO_bl_t {i j : Bool} (q : Q (.bl (!decide (i = j))) S) : eqSR true (.bl i) (.bl j) S Q ∨ eqDR true (.bl i) (.bl j) S Q := eqR_bl_t q
theorem eqO_KK_f {i j : List Int} (q : Q (.bl (decide (i = j))) S) : eqSR false (.tpk i) (.tpk j) S Q ∨ eqDR false (.tpk i) (.tpk j) S Q := eqR_KK q
theorem eqO_KK_t {i j : List Int} (q : Q (.bl (!decide (i = j))) S) : eqSR true (.tpk i) (.tpk j) S Q ∨ eqDR true (.tpk i) (.tpk j) S Q := eqR_KK q
theorem eqO_LL_f {i j : List Int} (q : Q (.bl (decide (i = j))) S) : eqSR false (.lst (i.map D.int)) (.lst (j.map D.int)) S Q ∨ eqDR false (.lst (i.map D.int)) (.lst (j.map D.int)) S Q := eqR_LL q
theorem eqO_LL_t {i j : List Int} (q : Q (.bl (!decide (i = j))) S) : eqSR true (.lst (i.map D.int)) (.lst (j.map D.int)) S Q ∨ eqDR true (.lst (i.map D.int)) (.lst (j.map D.int)) S Q := eqR_LL q
end
theorem vw_c {S : Sto} {a : Addr} {xs : List D} (h : S a = some (.lst xs)) : vw S (.ref a) = .lst xs := by simp [vw, h]
/-! ### constants -/
theorem gc_int {K : PySem.W.Frag} {mg : Str → Option Value} {x : Str} {i : Int} {t : Tok} (h : mg x = some (.int i t)) : Gc K mg x (.int i) := ⟨⟨_, .int i, h, ⟨_, rfl⟩, fun _ _ => Rl.int⟩⟩
theorem gc_str {K : PySem.W.Frag} {mg : Str → Option Value} {x : Str} {z : Str} {t : Tok} (h : mg x = some (.str z t)) : Gc K mg x (.str z) := ⟨⟨_, .str z, h, ⟨_, rfl⟩, fun _ _ => Rl.str⟩⟩
theorem gc_tpk {K : PySem.W.Frag} {mg : Str → Option Value} {x : Str} {a : Addr} {ns : List Int} {its : Array Value} {n : Nat} {sl : Array (Option Value)} (h : mg x = some (.ref a)) (l : K.lookup a = some ⟨.type "tuple", none, .seq its n, sl⟩) (hs : its.size ≤ 1000) (v : Vals (ns.map V.int) its.toList) : Gc K mg x (.tpk ns) :=
  ⟨⟨_, .ref a, h, rfl, fun _ _ => Rl.tpk (.inr ⟨_, its, n, l, rfl, rfl, rfl, le_sz (by omega), v⟩)⟩⟩
end DL

/-! DL, part Z: sayings. -/
namespace DL
open PySem PySem.Spec PyProof.Rows L2
inductive Sy where
  | ask (q : Int) | yes | no | not (a : Sy) | and (a b : Sy) | or (a b : Sy) | either (a b : Sy) | most (a b c : Sy)
def Sy.d : Sy → D
  | .ask q => .tup [.str "ask", .int q]
  | .yes => .tup [.str "yes"]
  | .no => .tup [.str "no"]
  | .not a => .tup [.str "not", a.d]
  | .and a b => .tup [.str "and", a.d, b.d]
  | .or a b => .tup [.str "or", a.d, b.d]
  | .either a b => .tup [.str "either", a.d, b.d]
  | .most a b c => .tup [.str "most", a.d, b.d, c.d]
/-- how many within one another -/
def Sy.dep : Sy → Nat
  | .ask _ => 1
  | .yes => 1
  | .no => 1
  | .not a => a.dep + 1
  | .and a b => max a.dep b.dep + 1
  | .or a b => max a.dep b.dep + 1
  | .either a b => max a.dep b.dep + 1
  | .most a b c => max (max a.dep b.dep) c.dep + 1
def Sy.parts : Sy → Nat
  | .ask _ => 1
  | .yes => 1
  | .no => 1
  | .not a => a.parts + 1
  | .and a b => a.parts + b.parts + 1
  | .or a b => a.parts + b.parts + 1
  | .either a b => a.parts + b.parts + 1
  | .most a b c => a.parts + b.parts + c.parts + 1
/-- it asks questions below m -/
def Sy.ok (m : Int) : Sy → Prop
  | .ask q => 0 ≤ q ∧ q < m
  | .yes => True
  | .no => True
  | .not a => a.ok m
  | .and a b => a.ok m ∧ b.ok m
  | .or a b => a.ok m ∧ b.ok m
  | .either a b => a.ok m ∧ b.ok m
  | .most a b c => a.ok m ∧ b.ok m ∧ c.ok m
def Sy.subs : Sy → List Sy
  | .ask _ => []
  | .yes => []
  | .no => []
  | .not a => [a]
  | .and a b => [a, b]
  | .or a b => [a, b]
  | .either a b => [a, b]
  | .most a b c => [a, b, c]
def Sy.so (as : List Int) : Sy → Bool
  | .ask q => decide (as[q.toNat]? = some 1)
  | .yes => true
  | .no => false
  | .not a => !a.so as
  | .and a b => a.so as && b.so as
  | .or a b => a.so as || b.so as
  | .either a b => xor (a.so as) (b.so as)
  | .most a b c => (a.so as && b.so as) || (a.so as && c.so as) || (b.so as && c.so as)
theorem Sy.dep_pos (s : Sy) : 1 ≤ s.dep := by cases s <;> simp [Sy.dep]
theorem Sy.parts_pos (s : Sy) : 1 ≤ s.parts := by cases s <;> simp [Sy.parts]
theorem Sy.ok_mono {m k : Int} (h : m ≤ k) : ∀ s : Sy, s.ok m → s.ok k
  | .ask q, o => ⟨o.1, by have := o.2; omega⟩
  | .yes, _ => trivial
  | .no, _ => trivial
  | .not a, o => Sy.ok_mono h a o
  | .and a b, o => ⟨Sy.ok_mono h a o.1, Sy.ok_mono h b o.2⟩
  | .or a b, o => ⟨Sy.ok_mono h a o.1, Sy.ok_mono h b o.2⟩
  | .either a b, o => ⟨Sy.ok_mono h a o.1, Sy.ok_mono h b o.2⟩
  | .most a b c, o => ⟨Sy.ok_mono h a o.1, Sy.ok_mono h b o.2.1, Sy.ok_mono h c o.2.2⟩
/-- answers to at least m questions -/
structure AnsL (m : Int) (as : List Int) : Prop where
  len : m ≤ (as.length : Int)
  mem : ∀ x ∈ as, x = 0 ∨ x = 1
theorem AnsL.at {m : Int} {as : List Int} (h : AnsL m as) {q : Int} (q0 : 0 ≤ q) (q1 : q < m) : ∃ x, (x = 0 ∨ x = 1) ∧ as[q.toNat]? = some x ∧ atI (as.map D.int) q = some (.int x) := by
  have := h.len
  have e : as[q.toNat]? = some (as[q.toNat]'(by omega)) := List.getElem?_eq_getElem (by omega)
  exact ⟨_, h.mem _ (List.mem_of_getElem? e), e, by rw [atI_p q0, List.getElem?_map, e]; rfl⟩
theorem AnsOk.l {m : Int} {as : List Int} (h : AnsOk m as) : AnsL m as := ⟨by rw [h.len]; exact Int.le_refl _, h.mem⟩
end DL

/-! DL, part T: {k: v, ..}[i] of texts. -/
namespace DL
open PySem PySem.Spec PyProof.Rows L2
theorem tn_cases {d : D} {ns : List Int} (h : tn d ns) : d = .tup (ns.map D.int) ∨ d = .tpk ns := by
  cases d with
  | tup xs => exact .inl (by rw [Option.some.inj h])
  | tpk ms => exact .inr (by rw [map_int_inj (Option.some.inj h)])
  | _ => cases h
theorem tn_vw {S : Sto} {d : D} {ns : List Int} (h : tn d ns) : vw S d = d := vw_T' h
/-! a cell becomes a list that stays -/
structure FrzE (e : En) (S : Sto) (e' : En) (S' : Sto) : Prop where
  dr : Drop S S'
  len : e'.length = e.length
  at' : ∀ (i : Nat) (d : D), e'[i]? = some (some d) → e[i]? = some (some d) ∨ ∃ (a : Addr) (xs : List D), e[i]? = some (some (D.ref a)) ∧ d = D.lst xs ∧ S a = some (.lst xs) ∧ S' a = none
def dFrz (t : TDS) : TDS := fun D e S => ∃ e' S', FrzE e S e' S' ∧ t D e' S'
theorem ds_frz {X : Cx} {C : Ct} {st : Stmt} {t : TDS} (h : DS X C st t) : DS X C st (dFrz t) :=
  ⟨PS.imp h.ps fun D σ H ⟨G, e, S, D', at', ⟨e', S', f, h⟩, k⟩ => by
    have t1 : Tr S H S' H := f.dr.tr
    refine ⟨G, e', S', D', ⟨f.dr.rep at'.rep, at'.g, C.tr _ _ _ _ _ at'.c t1, ⟨by rw [f.len]; exact at'.env.1, fun i d q => ?_⟩⟩, h, k.tr t1⟩
    rcases f.at' i d q with q' | ⟨a, xs, q', rfl, hs, hn⟩
    · obtain ⟨v, h1, h2⟩ := at'.env.2 i d q'
      exact ⟨v, h1, Rl.keep f.dr.keep _ _ h2⟩
    · obtain ⟨v, h1, h2⟩ := at'.env.2 i _ q'
      obtain rfl := h2.of_ref
      obtain ⟨vs, e1, e2⟩ := at'.rep.lst hs
      exact ⟨_, h1, Rl.lst e1 ⟨(at'.rep a _ hs).1, hn⟩ (RlA.keep f.dr.keep _ _ e2)⟩⟩
theorem frz_slot {e : En} {S : Sto} {i : Nat} {a : Addr} {xs : List D} (h : e[i]? = some (some (.ref a))) (hs : S a = some (.lst xs)) : FrzE e S (e.set i (some (.lst xs))) (sdel S a) := by
  refine ⟨fun b => ?_, by rw [List.length_set], fun j d q => ?_⟩
  · by_cases z : b = a
    · subst z; exact .inr sdel_same
    · exact .inl (sdel_ne z)
  · by_cases z : i = j
    · subst z
      have hl := (List.getElem?_eq_some_iff.mp h).1
      rw [List.getElem?_set_self hl] at q
      cases q
      exact .inr ⟨a, xs, h, rfl, hs, sdel_same⟩
    · rw [List.getElem?_set_ne z] at q; exact .inl q
theorem bls0 : ([] : List D) = List.map D.bl [] := rfl
theorem bls1 {a : Bool} : [D.bl a] = List.map D.bl [a] := rfl
theorem bls2 {a b : Bool} : [D.bl a, D.bl b] = List.map D.bl [a, b] := rfl
theorem bls3 {a b c : Bool} : [D.bl a, D.bl b, D.bl c] = List.map D.bl [a, b, c] := rfl
theorem bls4 {a b c d : Bool} : [D.bl a, D.bl b, D.bl c, D.bl d] = List.map D.bl [a, b, c, d] := rfl
/-! what is in the making is changed -/
section
variable {K : PySem.W.Frag} {G : Addr → Prop} {S : Sto} {H : Hp} {p : Addr}
theorem Keep.makingD {o : HO} (ht : ∀ v, H p ≠ some (.tup v)) (hf : ∀ o u, H p ≠ some (.frz o u)) : Keep K H (nfz (gAnd G p) S) (upd H p o) (nfz (gAnd G p) S) := by
  refine ⟨fun a ws h => ?_, fun a ob u h => ?_, fun a ws h z => ?_⟩
  · rw [upd_ne (by rintro rfl; exact ht _ h)]; exact h
  · rw [upd_ne (by rintro rfl; exact hf _ _ h)]; exact h
  · rw [upd_ne (fun q => z.1 (.inr q))]; exact ⟨h, z⟩
theorem RepS.makingD (r : RepS K (gAnd G p) S H) {o : HO} (ht : ∀ v, H p ≠ some (.tup v)) (hf : ∀ o u, H p ≠ some (.frz o u)) : RepS K (gAnd G p) S (upd H p o) := fun a c h => by
  obtain ⟨g, e⟩ := r a c h
  exact ⟨g, e.keep (Keep.makingD ht hf) (upd_ne fun q => g (.inr q))⟩
end
theorem valV_merge : ∀ {more acc : List (Key × V)} {k : Key} {v : V}, (more.map (·.1)).Nodup → valV more k = some v → valV (mergeK acc more) k = some v
  | [], _, _, _, _, h => by cases h
  | (k1, v1) :: r, acc, k, v, nd, h => by
    have nd' := List.nodup_cons.mp nd
    show valV (mergeK (putK acc k1 v1) r) k = some v
    by_cases e : k1 = k
    · subst e
      rw [valV_pos (p := (k1, v1)) rfl] at h
      cases h
      have hno : valV r k1 = none := by
        cases q : valV r k1 with
        | none => rfl
        | some u =>
          exfalso
          apply nd'.1
          have := valV_any k1 r
          rw [q] at this
          obtain ⟨x, hx, hk⟩ := List.any_eq_true.mp this
          exact List.mem_map.mpr ⟨x, hx, of_decide_eq_true hk⟩
      exact keepV nd'.2 hno (by rw [valV_put, if_pos rfl])
    · rw [valV_neg (p := (k1, v1)) e] at h
      exact valV_merge nd'.2 h
where keepV : ∀ {more acc : List (Key × V)} {k : Key} {v : V}, (more.map (·.1)).Nodup → valV more k = none → valV acc k = some v → valV (mergeK acc more) k = some v
  | [], _, _, _, _, _, h => h
  | (k1, v1) :: r, acc, k, v, nd, hn, h => by
    have nd' := List.nodup_cons.mp nd
    show valV (mergeK (putK acc k1 v1) r) k = some v
    have e : ¬ k1 = k := by
      intro e
      rw [valV_pos (p := (k1, v1)) e] at hn; cases hn
    rw [valV_neg (p := (k1, v1)) e] at hn
    exact keepV nd'.2 hn (by rw [valV_put, if_neg (fun z => e z.symm)]; exact h)
/-! ### the reading -/
def dVals : List TDE → En → Sto → (List D → Sto → Prop) → Prop
  | [], _, S, Q => Q [] S
  | t :: r, e, S, Q => t e S fun d S1 => dVals r e S1 fun ds S2 => Q (d :: ds) S2
def lkp (x : Str) : List Str → List D → Option D
  | k :: ks, d :: ds => if k = x then some d else lkp x ks ds
  | _, _ => none
def dDIx (names : List Str) (ts : List TDE) (ti : TDE) : TDE := fun e S Q => dVals ts e S fun ds S1 => ti e S1 fun i S2 => match i with
  | .str x => ∃ v, lkp x names ds = some v ∧ Q v S2
  | _ => False
abbrev trsOf (K : PySem.W.Frag) (names : List Str) (ts : List TDE) : List (TE × TE) := List.zipWith (fun k t => (tC (.str k), LE K C1 t)) names ts
structure DPs (X : Cx) (pos : Pos) (keys : List (Option Expr)) (values : List Expr) (names : List Str) (ts : List TDE) : Prop where
  pps : PPs X pos keys values (trsOf X.K names ts)
  len : names.length = ts.length
theorem dps_nil {X : Cx} {pos : Pos} : DPs X pos [] [] [] [] := ⟨pps_nil, rfl⟩
theorem dps_cons {X : Cx} {pos : Pos} {k : Str} {v : Expr} {ks : List (Option Expr)} {vs : List Expr} {t : TDE} {names : List Str} {ts : List TDE} {j p2} (hv : DE X C1 v t) (hr : DPs X pos ks vs names ts) :
    DPs X pos (some (.Constant (.str k) j p2) :: ks) (v :: vs) (k :: names) (t :: ts) := ⟨pps_cons pe_str hv.pe hr.pps, by rw [List.length_cons, List.length_cons, hr.len]⟩
theorem pairs_ok {K : PySem.W.Frag} {G : Addr → Prop} {σ : L2.St} : ∀ {names : List Str} {ts : List TDE} {e : En} {S : Sto} {H : Hp} {Q' : List D → Sto → Prop} {Q : List (V × V) → Hp → Prop}, names.length = ts.length → At K C1 G e S σ H → dVals ts e S Q' →
    (∀ ds S' vs H', Tr S H S' H' → RepS K G S' H' → GOk G H' → RlA K H' (nfz G S') ds vs → vs.length = names.length → Q' ds S' → Q (names.zipWith (fun k v => (V.str k, v)) vs) H') → tPairs (trsOf K names ts) σ H Q
  | [], [], e, S, H, Q', Q, _, a, h, k => k [] S [] H Tr.refl a.rep a.g RlA.nil rfl h
  | [], _ :: _, _, _, _, _, _, z, _, _, _ => by cases z
  | _ :: _, [], _, _, _, _, _, z, _, _, _ => by cases z
  | x :: names, t :: r, e, S, H, Q', Q, z, a, h, k => by
    show LE K C1 t σ H _
    refine ⟨G, e, S, _, a, h, fun d S1 v H1 t1 r1 l1 h1 => ?_⟩
    refine pairs_ok (by simpa using z) (a.next t1 r1) h1 fun ds S2 vs H2 t2 r2 g2 l2 n2 h2 => ?_
    exact k (d :: ds) S2 (v :: vs) H2 (t1.trans t2) r2 g2 (RlA.cons (l1.tr r1 t2) l2) (by rw [List.length_cons, List.length_cons, n2]) h2
abbrev kvsOf (names : List Str) (vs : List V) : List (Key × V) := names.zipWith (fun k v => (Sum.inr k, v)) vs
theorem lkp_val {K : PySem.W.Frag} {H : Hp} {nf : Addr → Prop} {x : Str} {d : D} : ∀ {names : List Str} {ds : List D} {vs : List V}, RlA K H nf ds vs → lkp x names ds = some d → ∃ v, valV (kvsOf names vs) (.inr x) = some v ∧ Rl K H nf d v
  | [], _, _, _, h => by cases h
  | _ :: _, [], _, _, h => by cases h
  | k :: names, d' :: ds, vs, l, h => by
    obtain ⟨v, r, rfl, l1, l2⟩ := l.of_cons
    unfold lkp at h
    by_cases e : k = x
    · rw [if_pos e] at h; cases h
      exact ⟨v, by rw [kvsOf, List.zipWith_cons_cons, valV_pos (by rw [e])], l1⟩
    · rw [if_neg e] at h
      obtain ⟨w, h1, h2⟩ := lkp_val l2 h
      exact ⟨w, by rw [kvsOf, List.zipWith_cons_cons, valV_neg (fun z => e (Sum.inr.inj z))]; exact h1, h2⟩
theorem kvs_map : ∀ {names : List Str} {vs : List V}, names.zipWith (fun k v => (V.str k, v)) vs = (kvsOf names vs).map (fun kv => (kV kv.1, kv.2))
  | [], _ => rfl
  | _ :: _, [] => rfl
  | k :: names, v :: vs => by rw [kvsOf, List.zipWith_cons_cons, List.zipWith_cons_cons, List.map_cons, kvs_map]; rfl
theorem kvs_keys : ∀ {names : List Str} {vs : List V}, vs.length = names.length → (kvsOf names vs).map (·.1) = names.map Sum.inr
  | [], [], _ => rfl
  | [], _ :: _, z => by cases z
  | _ :: _, [], z => by cases z
  | k :: names, v :: vs, z => by
    rw [kvsOf, List.zipWith_cons_cons, List.map_cons, List.map_cons, kvs_keys (by simpa using z)]
theorem nodup_inr {names : List Str} (h : names.Nodup) : (names.map (Sum.inr : Str → Key)).Nodup := by
  unfold List.Nodup at *
  rw [List.pairwise_map]
  exact h.imp fun e z => e (Sum.inr.inj z)
section
variable {X : Cx} {C : Ct} {pos : Pos}
theorem de_dIx {keys : List (Option Expr)} {values : List Expr} {i : Expr} {ti : TDE} {ts : List TDE} {dpos : Pos} (names : List Str) (hu : X.A.units + 1 < cLine) (hp : DPs X dpos keys values names ts) (hi : DE X C i ti) (hall : keys.all (·.isSome) = true) (hl : keys.length = values.length) (h0 : keys ≠ [])
    (h15 : keys.length ≤ 15) (hn15 : names.length ≤ 15) (nd : names.Nodup) (hs : NoSl i) : DE X C (.Subscript (.Dict keys values dpos) i pos) (dDIx names ts ti) := by
  refine ⟨PE.imp (pe_dget hu (pe_disp hp.pps hall hl h0 h15) hi.pe hs) fun σ H Q ⟨G, e, S, Q', at', h, k⟩ => ?_⟩
  intro p np
  have sub : ∀ a, gAnd G p a → G a ∨ H a = none := fun a z => z.elim .inl fun q => .inr (q ▸ np)
  have a1 : At X.K C1 (gAnd G p) e S σ (upd H p (.dK [])) := ⟨at'.rep.grow np, at'.g.grow, trivial, at'.env.keep (Tr.keepG at'.rep (Tr.new np) sub)⟩
  refine pairs_ok hp.len a1 h fun ds S1 vs H1 t1 r1 g1 l1 n1 h1 => ?_
  have tp : Tr S H S1 H1 := fun b o n' h' => by
    obtain ⟨x1, x2⟩ := t1 b o n' (by rw [upd_ne (ne_of_none h' np)]; exact h')
    exact ⟨x1, x2⟩
  have np0 : S p = none := at'.rep.none_of np
  obtain ⟨ep, np1⟩ := t1 p _ np0 upd_same
  refine ⟨ep, kvsOf names vs, kvs_map, by unfold kvsOf; rw [List.length_zipWith]; omega, ?_⟩
  have ht : ∀ v, H1 p ≠ some (.tup v) := fun v z => by rw [ep] at z; cases z
  have hf : ∀ o u, H1 p ≠ some (.frz o u) := fun o u z => by rw [ep] at z; cases z
  let HO2 : HO := .dK (mergeK [] (kvsOf names vs))
  have r2 : RepS X.K G S1 (upd H1 p HO2) := (r1.makingD ht hf).madeF
  have l2 : RlA X.K (upd H1 p HO2) (nfz G S1) ds vs := RlA.keep Keep.madeF _ _ (RlA.keep (Keep.makingD ht hf) _ _ l1)
  have t2 : Tr S H S1 (upd H1 p HO2) := fun b o n' h' => by
    obtain ⟨x1, x2⟩ := tp b o n' h'
    exact ⟨by rw [upd_ne (ne_of_none h' np)]; exact x1, x2⟩
  have a2 : At X.K C G e S1 σ (upd H1 p HO2) := at'.next t2 r2
  refine ⟨G, e, S1, _, a2, h1, fun d S3 v H3 t3 r3 l3 h3 => ?_⟩
  cases d with
  | str x =>
    obtain ⟨w, hw, q⟩ := h3
    obtain ⟨u, hu1, hu2⟩ := lkp_val l2 hw
    obtain ⟨e3, _⟩ := t3 p _ np1 upd_same
    have hv := valV_merge (acc := []) (by rw [kvs_keys n1]; exact nodup_inr nd) hu1
    refine ⟨p, u, rfl, ?_, k w S3 u H3 (t2.trans t3) r3 (hu2.tr r2 t3) q⟩
    rw [l3.of_str, ← hv]
    exact DGet.k (k := Sum.inr x) e3
  | _ => exact False.elim h3
end
end DL

/-! DL, part J: a tuple times an int. -/
namespace DL
open PySem PySem.Spec PyProof.Rows L2
theorem tuple_mul1 (l : Addr) (items : Array Value) (n : Nat) (dd : Option Addr) (sl : Array (Option Value)) (u : Tok) :
    Meets (Builtin.«tuple.__mul__» ⟨[.ref l, .int 1 u], []⟩) (fun _ R s => s.heap.get? l = some { cls := .type "tuple", dict := dd, data := .seq items n, slots := sl } ∧ R (.ok (.ret (Value.ref l))) s) :=
  .of_wp fun prog w A R s h => by
    obtain ⟨hp, g, d, tk, os⟩ := s
    obtain ⟨hl, h⟩ := h
    have f1 := AutoSeq1.idx_int
    wp_walk using wpAny_loadPart' hl
    exact ⟨_, rfl, h⟩
theorem tuple_mul0 (l : Addr) (items : Array Value) (n : Nat) (dd : Option Addr) (sl : Array (Option Value)) (u : Tok) (hne : items.isEmpty = false) :
    Meets (Builtin.«tuple.__mul__» ⟨[.ref l, .int 0 u], []⟩) (fun _ R s => s.heap.get? l = some { cls := .type "tuple", dict := dd, data := .seq items n, slots := sl } ∧
      R (.ok (.ret (Value.ref s.heap.objs.size))) { s with heap := s.heap.push { cls := Value.type "tuple", data := Data.seq #[] }, toks := s.toks }) :=
  .of_wp fun prog w A R s h => by
    obtain ⟨hp, g, d, tk, os⟩ := s
    obtain ⟨hl, h⟩ := h
    have f1 := AutoSeq1.idx_int
    have c1 : (items.isEmpty || (0 : Int) == 1) = false := by rw [hne]; rfl
    wp_walk using wpAny_loadPart' hl
    exact ⟨_, rfl, h⟩
section
variable {X : Cx}
def rRep1 (K : PySem.W.Frag) : R2 := fun x y H Q => ∃ l xs, x = .ref l ∧ y = .int 1 ∧ SqT K H l xs ∧ Q (.ref l) H
theorem op_rep1 : OpR X (binaryOp .Mult) (rRep1 X.K) := by
  intro pins s σ H x y v u Q I rx ry h
  obtain ⟨l, xs, rfl, rfl, hT, q⟩ := h
  cases rx
  obtain ⟨t, rfl⟩ := ry
  obtain ⟨its, r, ⟨⟨cls, dd, data, sl⟩, ho, hc, n, hd⟩, hs⟩ := I.tuple hT
  simp only at hc hd
  subst hc hd
  refine wpAny_binaryOp_repeat_ref (T := "tuple") (U := "int") (by decide) ⟨_, ho, rfl⟩ (fun s' => typeIs_int s' 1 t) noFill_tuple_mul F.fills_int_mul F.slot_int_rmul repeat_tuple F.slot_int_index.lookup
    (call_meets F.slot_int_rmul (typeIs_int s 1 t) F.entry_int_rmul (F.args_int_rmul_2 _ _) (int_rmul_tuple 1 t l its.toArray n dd sl)
      ⟨ho, rfl, ⟨_, ho, rfl⟩, call_meets F.slot_tuple_mul ⟨_, ho, rfl⟩ F.entry_tuple_mul (F.args_tuple_mul_2 _ _) (tuple_mul1 l its.toArray n dd sl t) ⟨ho, ?_⟩⟩)
  exact ⟨.ref l, _, I, rfl, q⟩
def rRep0 (K : PySem.W.Frag) : R2 := fun x y H Q => ∃ l xs, x = .ref l ∧ y = .int 0 ∧ SqT K H l xs ∧ xs ≠ [] ∧ ∀ p, H p = none → Q (.ref p) (upd H p (.tup []))
theorem op_rep0 : OpR X (binaryOp .Mult) (rRep0 X.K) := by
  intro pins s σ H x y v u Q I rx ry h
  obtain ⟨l, xs, rfl, rfl, hT, hne, q⟩ := h
  cases rx
  obtain ⟨t, rfl⟩ := ry
  obtain ⟨its, r, ⟨⟨cls, dd, data, sl⟩, ho, hc, n, hd⟩, hs⟩ := I.tuple hT
  simp only at hc hd
  subst hc hd
  have hle : its.length = xs.length := r.length.symm
  have hn : its ≠ [] := fun e => hne (by
    rw [e] at hle
    exact List.eq_nil_of_length_eq_zero hle.symm)
  have hi : its.toArray.isEmpty = false := by
    cases its with
    | nil => exact absurd rfl hn
    | cons a b => rfl
  refine wpAny_binaryOp_repeat_ref (T := "tuple") (U := "int") (by decide) ⟨_, ho, rfl⟩ (fun s' => typeIs_int s' 0 t) noFill_tuple_mul F.fills_int_mul F.slot_int_rmul repeat_tuple F.slot_int_index.lookup
    (call_meets F.slot_int_rmul (typeIs_int s 0 t) F.entry_int_rmul (F.args_int_rmul_2 _ _) (int_rmul_tuple 0 t l its.toArray n dd sl)
      ⟨ho, rfl, ⟨_, ho, rfl⟩, call_meets F.slot_tuple_mul ⟨_, ho, rfl⟩ F.entry_tuple_mul (F.args_tuple_mul_2 _ _) (tuple_mul0 l its.toArray n dd sl t hi) ⟨ho, ?_⟩⟩)
  refine ⟨.ref s.heap.objs.size, _, I.laid (t' := s.toks) (o := .tup []) (fun b ob q => Heap.get?_push_of_some _ q) (Nat.le_refl _) ?_, rfl, q _ (I.hok.fresh (Nat.le_refl _))⟩
  exact ⟨Nat.zero_le _, [], .nil, IsTup.new _ _⟩
def mulTR : RD2 := fun x y S Q => match y with
  | .int k => ∃ xs, asT x = some xs ∧ 0 ≤ k ∧ k ≤ 1000 ∧ xs ≠ [] ∧ xs.length ≤ 1000 ∧ Q (.tup (List.replicate k.toNat xs).flatten) S
  | _ => False
theorem or_mulT : OpR X (binaryOp .Mult) (LR2 X.K mulTR) := OpR.imp (OpR.or op_rep0 (OpR.or op_rep1 op_repT)) fun x y H Q ⟨G, d1, d2, S, Q', r, g, l1, l2, h, k⟩ => by
  cases d2 with
  | int j =>
    obtain ⟨xs, hx, h1, h2, hne, h3, q⟩ := h
    have w1 := l1.weak hx
    obtain ⟨a, vs, rfl, e, la⟩ := of_asT hx l1
    have hl := la.length
    have hv : vs ≠ [] := fun z => hne (by rw [z] at hl; exact List.eq_nil_of_length_eq_zero hl)
    by_cases c0 : j = 0
    · subst c0
      exact .inl ⟨a, vs, rfl, l2.of_int, e, hv, fun p n => tup_ok r RlA.nil n q k⟩
    · by_cases c1 : j = 1
      · subst c1
        refine .inr (.inl ⟨a, vs, rfl, l2.of_int, e, k.now r w1 ?_⟩)
        have : (List.replicate (Int.toNat 1) xs).flatten = xs := by simp
        rw [this] at q; exact q
      · exact .inr (.inr ⟨a, j, vs, rfl, l2.of_int, e, hv, by omega, h2, by rw [← hl]; exact h3, fun p n => tup_ok r (la.rep _) n q k⟩)
  | _ => exact False.elim h
theorem rep_ints {x : Int} : ∀ {n : Nat}, (List.replicate n [D.int x]).flatten = (List.replicate n x).map D.int
  | 0 => rfl
  | n + 1 => by rw [List.replicate_succ, List.flatten_cons, rep_ints, List.replicate_succ]; rfl
end
end DL

/-! DL, part H: min and max of a row of ints, list or tuple. -/
namespace DL
open PySem PySem.Spec PyProof.Rows L2 PySem.W
theorem minOf_int : ∀ {xs : List Int} {x : Int}, minOf x xs ∈ x :: xs ∧ ∀ y ∈ x :: xs, minOf x xs ≤ y
  | [], x => ⟨List.mem_cons_self, fun y h => by rw [List.mem_singleton.mp h]; exact Int.le_refl _⟩
  | z :: xs, x => by
    have e : minOf x (z :: xs) = minOf (if DatumOrd.lt z x = true then z else x) xs := rfl
    obtain ⟨h1, h2⟩ := @minOf_int xs (if DatumOrd.lt z x = true then z else x)
    rw [e]
    have l : DatumOrd.lt z x = decide (z < x) := rfl
    refine ⟨?_, fun y hy => ?_⟩
    · rcases List.mem_cons.mp h1 with q | q
      · rw [q]; split
        · exact List.mem_cons_of_mem _ List.mem_cons_self
        · exact List.mem_cons_self
      · exact List.mem_cons_of_mem _ (List.mem_cons_of_mem _ q)
    · have h3 := h2 _ List.mem_cons_self
      rcases List.mem_cons.mp hy with rfl | hy
      · refine Int.le_trans h3 ?_
        split
        · rename_i q; rw [l] at q; have := of_decide_eq_true q; omega
        · exact Int.le_refl _
      · rcases List.mem_cons.mp hy with rfl | hy
        · refine Int.le_trans h3 ?_
          split
          · exact Int.le_refl _
          · rename_i q; rw [l] at q; have : ¬ y < x := fun z => q (decide_eq_true z); omega
        · exact h2 y (List.mem_cons_of_mem _ hy)
section
variable {X : Cx}
def rMinT (K : PySem.W.Frag) : List V → Hp → VK → Prop := fun vs H Q => ∃ (a : Addr) (ns : List Int), vs = [V.ref a] ∧ SqT K H a (ns.map V.int) ∧ 0 < ns.length ∧ ∀ m, m ∈ ns → (∀ y, y ∈ ns → m ≤ y) → Q (.int m) H
theorem cr_minT (hc : X.calm = true) (hu : X.A.units + 65 < cLine) : CallR X (.builtin "min") (rMinT X.K) := by
  intro pins s σ H vs us Q I r h
  obtain ⟨a, ns, rfl, hs, hne, q⟩ := h
  obtain ⟨its, rv, ht, hz⟩ := I.tuple hs
  rw [Vals.ref1 r]
  cases ns with
  | nil => exact absurd hne (Nat.lt_irrefl _)
  | cons x xs =>
    refine min_tuple_datum (x := x) (xs := xs) (I.ok.hd hc) ht (HoldAll.of_ints rv.ints) (by show X.A.units + 1 + 0 < cLine; omega) fun i v h' tk hv hh hk => ?_
    obtain ⟨t, rfl⟩ := int_of_holds hh
    obtain ⟨h1, h2⟩ := @minOf_int xs x
    exact ⟨.int _, H, I.kept hk, ⟨t, rfl⟩, q _ h1 h2⟩
def minQR : D → Sto → KD → Prop := fun d S Q => ∃ ns : List Int, asQ S d = some (ns.map D.int) ∧ 0 < ns.length ∧ ∀ m, m ∈ ns → (∀ y, y ∈ ns → m ≤ y) → Q (.int m) S
theorem cr_minD (hc : X.calm = true) (hu : X.A.units + 65 < cLine) : CallR X (.builtin "min") (LRL X.K (one minQR)) := cr_one (CallR.or (cr_min hc) (cr_minT hc hu)) fun v H Q ⟨G, d, S, Q', r, g, l, ⟨ns, e, hn, q⟩, k⟩ => by
  obtain ⟨a, vs, rfl, h1, h2⟩ := of_asQ r e l
  rw [h2.of_ints] at h1
  rcases h1 with h1 | h1
  · exact .inl ⟨a, ns, rfl, h1, hn, fun m hm hy => k.now r Rl.int (q m hm hy)⟩
  · exact .inr ⟨a, ns, rfl, h1, hn, fun m hm hy => k.now r Rl.int (q m hm hy)⟩
end
end DL

/-! DL, part I: how often a truth stands in a list; 1 << k. -/
namespace DL
open PySem PySem.Spec PyProof.Rows L2
def eqB (k : Bool) (v : Value) : Bool := match v with
  | .bool n => n == k
  | _ => false
theorem vals_bls : ∀ {bs : List Bool} {us : List Value}, Vals (bs.map V.bl) us → us = bs.map Value.bool
  | [], us, h => by cases h; rfl
  | b :: r, us, h => by
    cases h with
    | cons h1 h2 =>
      rw [vals_bls h2]
      have e : _ = Value.bool b := h1
      rw [e]; rfl
theorem countB {k : Bool} : ∀ {bs : List Bool}, (bs.map Value.bool).countP (eqB k) = bs.count k
  | [] => rfl
  | b :: r => by
    have ih := countB (k := k) (bs := r)
    rw [List.map_cons, List.countP_cons, List.count_cons, ih]; rfl
section
variable {X : Cx}
def rCntB (K : PySem.W.Frag) : V → List V → Hp → VK → Prop := fun x xs H Q => ∃ (p : Addr) (bs : List Bool) (k : Bool), x = .ref p ∧ xs = [.bl k] ∧ SqL K H p (bs.map V.bl) ∧ Q (.int (bs.count k : Nat)) H
theorem mt_lcountB : MtR X "list.count" (rCntB X.K) := by
  intro pins s σ H x xs v us Q I rx rxs h
  obtain ⟨p, bs, k, rfl, rfl, hs, q⟩ := h
  cases rx
  obtain ⟨u, rfl, ru⟩ := rxs.one
  have ru : u = Value.bool k := ru
  subst ru
  obtain ⟨its, rv, ⟨⟨cls, dd, data, sl⟩, n, ho, hc, hdn, hd⟩, hlen⟩ := I.list hs
  simp only at hc hd
  subst hc hd
  have hi := vals_bls rv
  subst hi
  refine call_meets PySem.F.slot_list_count ⟨_, ho, rfl⟩ PySem.F.entry_list_count (PySem.F.args_list_count_2 _ _)
    (SeqAt.list_countAt p (bs.map Value.bool).toArray n dd sl (.bool k) (eqB k)) ⟨ho, fun y hy => ?_, ?_⟩
  · have hy : y ∈ bs.map Value.bool := by simpa using hy
    obtain ⟨b, _, rfl⟩ := List.mem_map.mp hy
    exact SeqAt.EqAt.bool_bool b k
  · have ec : (bs.map Value.bool).toArray.toList.countP (eqB k) = bs.count k := countB
    refine ⟨.int (bs.count k : Nat), H, I.tok _, ⟨s.toks, ?_⟩, q⟩
    show Value.int (((bs.map Value.bool).toArray.toList.countP (eqB k) : Nat) : Int) s.toks = Value.int ((bs.count k : Nat) : Int) s.toks
    rw [ec]
/-- xs.count(k) -/
def cntR : RDM := fun d ds S Q => match ds with
  | [y] => match y with
    | .bl k => ∃ bs : List Bool, asL S d = some (bs.map D.bl) ∧ Q (.int (bs.count k : Nat)) S
    | .int k => ∃ ns : List Int, asL S d = some (ns.map D.int) ∧ Q (.int (ns.count k : Nat)) S
    | _ => False
  | _ => False
theorem mt_cntD : MtR X "list.count" (LRM X.K cntR) := by
  have both : MtR X "list.count" (fun x xs H Q => rCntB X.K x xs H Q ∨ rCntI X.K x xs H Q) := fun pins s σ H x xs v us Q I rx rs h => by
    rcases h with h | h
    · exact mt_lcountB pins s σ H x xs v us Q I rx rs h
    · exact mt_lcount pins s σ H x xs v us Q I rx rs h
  refine MtR.imp both fun v ws H Q ⟨G, d, ds, S, Q', rp, g, l, ls, h, k⟩ => ?_
  cases ds with
  | nil => exact False.elim h
  | cons y r => cases r with
    | cons _ _ => exact False.elim h
    | nil =>
      obtain ⟨w, rfl, lw⟩ := of_one ls
      cases y with
      | bl b =>
        obtain ⟨bs, hx, q⟩ := h
        obtain ⟨a, vs, rfl, h1, la⟩ := of_asL rp hx l
        obtain rfl := la.of_bls
        exact .inl ⟨a, bs, b, rfl, by rw [lw.of_bl], h1, k.now rp Rl.int q⟩
      | int b =>
        obtain ⟨bs, hx, q⟩ := h
        obtain ⟨a, vs, rfl, h1, la⟩ := of_asL rp hx l
        obtain rfl := la.of_ints
        exact .inr ⟨a, bs, b, rfl, by rw [lw.of_int], h1, k.now rp Rl.int q⟩
      | _ => exact False.elim h
end
/-! ### 1 << k -/
section
variable {X : Cx}
abbrev shlR : RD2 := iiR (fun i j => .int (i * 2 ^ j.toNat)) CPow
theorem or_shl : OpR X (binaryOp .LShift) (LR2 X.K shlR) := ii_lift op_shl fun _ _ h => h
end
/-! ### an empty tuple times an int -/
theorem tuple_mulE (l : Addr) (n : Nat) (dd : Option Addr) (sl : Array (Option Value)) (k : Int) (u : Tok) (h0 : 0 ≤ k) (h1 : k ≤ 1000) :
    Meets (Builtin.«tuple.__mul__» ⟨[.ref l, .int k u], []⟩) (fun _ R s => s.heap.get? l = some { cls := .type "tuple", dict := dd, data := .seq #[] n, slots := sl } ∧ R (.ok (.ret (Value.ref l))) s) :=
  .of_wp fun prog w A R s h => by
    obtain ⟨hp, g, d, tk, os⟩ := s
    obtain ⟨hl, h⟩ := h
    have f1 := AutoSeq1.idx_int
    have c0 : (decide (k < -(2 ^ 63)) || decide (k ≥ 2 ^ 63)) = false := by rw [decide_eq_false (by omega), decide_eq_false (by omega)]; rfl
    wp_walk using wpAny_loadPart' hl
    repeat (first
      | (refine wpAny_ite_false (decide_eq_false (by rw [c0]; exact Bool.false_ne_true)) ?_; wp_walk using wpAny_loadPart' hl))
    exact ⟨_, rfl, h⟩
section
variable {X : Cx}
def rRepE (K : PySem.W.Frag) : R2 := fun x y H Q => ∃ l k, x = .ref l ∧ y = .int k ∧ 0 ≤ k ∧ k ≤ 1000 ∧ SqT K H l [] ∧ Q (.ref l) H
theorem op_repE : OpR X (binaryOp .Mult) (rRepE X.K) := by
  intro pins s σ H x y v u Q I rx ry h
  obtain ⟨l, k, rfl, rfl, h0, h1, hT, q⟩ := h
  cases rx
  obtain ⟨t, rfl⟩ := ry
  obtain ⟨its, r, ⟨⟨cls, dd, data, sl⟩, ho, hc, n, hd⟩, hs⟩ := I.tuple hT
  simp only at hc hd
  subst hc hd
  cases r
  refine wpAny_binaryOp_repeat_ref (T := "tuple") (U := "int") (by decide) ⟨_, ho, rfl⟩ (fun s' => typeIs_int s' k t) noFill_tuple_mul F.fills_int_mul F.slot_int_rmul repeat_tuple F.slot_int_index.lookup
    (call_meets F.slot_int_rmul (typeIs_int s k t) F.entry_int_rmul (F.args_int_rmul_2 _ _) (int_rmul_tuple k t l #[] n dd sl)
      ⟨ho, rfl, ⟨_, ho, rfl⟩, call_meets F.slot_tuple_mul ⟨_, ho, rfl⟩ F.entry_tuple_mul (F.args_tuple_mul_2 _ _) (tuple_mulE l n dd sl k t h0 h1) ⟨ho, ?_⟩⟩)
  exact ⟨.ref l, _, I, rfl, q⟩
/-- a tuple, empty perhaps, times an int -/
def mulER : RD2 := fun x y S Q => match y with
  | .int k => ∃ xs, asT x = some xs ∧ 0 ≤ k ∧ k ≤ 1000 ∧ xs.length ≤ 1000 ∧ Q (.tup (List.replicate k.toNat xs).flatten) S
  | _ => False
theorem or_mulE : OpR X (binaryOp .Mult) (LR2 X.K mulER) := OpR.imp (OpR.or op_repE (OpR.or op_rep0 (OpR.or op_rep1 op_repT))) fun x y H Q ⟨G, d1, d2, S, Q', r, g, l1, l2, h, k⟩ => by
  cases d2 with
  | int j =>
    obtain ⟨xs, hx, h1, h2, h3, q⟩ := h
    have w1 := l1.weak hx
    obtain ⟨a, vs, rfl, e, la⟩ := of_asT hx l1
    have hl := la.length
    by_cases hne : xs = []
    · subst hne
      have hv := la.of_nil
      subst hv
      have : (List.replicate j.toNat ([] : List D)).flatten = [] := by simp
      rw [this] at q
      exact .inl ⟨a, j, rfl, l2.of_int, h1, h2, e, k.now r w1 q⟩
    have hv : vs ≠ [] := fun z => hne (by rw [z] at hl; exact List.eq_nil_of_length_eq_zero hl)
    by_cases c0 : j = 0
    · subst c0
      exact .inr (.inl ⟨a, vs, rfl, l2.of_int, e, hv, fun p n => tup_ok r RlA.nil n q k⟩)
    · by_cases c1 : j = 1
      · subst c1
        refine .inr (.inr (.inl ⟨a, vs, rfl, l2.of_int, e, k.now r w1 ?_⟩))
        have : (List.replicate (Int.toNat 1) xs).flatten = xs := by simp
        rw [this] at q; exact q
      · exact .inr (.inr (.inr ⟨a, j, vs, rfl, l2.of_int, e, hv, by omega, h2, by rw [← hl]; exact h3, fun p n => tup_ok r (la.rep _) n q k⟩))
  | _ => exact False.elim h
end
end DL

/-! DL, part 1: d.get(k, x) of a written dict, of a dict of the module; max of a list of ints, with a default. -/
namespace DL
open PySem PySem.Spec PyProof.Rows L2
theorem valV_mergeN : ∀ {more acc : List (Key × V)} {k : Key}, valV more k = none → valV acc k = none → valV (mergeK acc more) k = none
  | [], _, _, _, h => h
  | (k1, v1) :: r, acc, k, hn, h => by
    show valV (mergeK (putK acc k1 v1) r) k = none
    by_cases e : k1 = k
    · rw [valV_pos (p := (k1, v1)) e] at hn; cases hn
    · rw [valV_neg (p := (k1, v1)) e] at hn
      exact valV_mergeN hn (by rw [valV_put, if_neg (fun z => e z.symm)]; exact h)
theorem lkp_none {K : PySem.W.Frag} {H : Hp} {nf : Addr → Prop} {x : Str} : ∀ {names : List Str} {ds : List D} {vs : List V}, RlA K H nf ds vs → names.length = ds.length → lkp x names ds = none → valV (kvsOf names vs) (.inr x) = none
  | [], _, _, _, _, _ => rfl
  | _ :: _, [], _, _, z, _ => by cases z
  | k :: names, d' :: ds, vs, l, z, h => by
    obtain ⟨v, r, rfl, l1, l2⟩ := l.of_cons
    unfold lkp at h
    by_cases e : k = x
    · rw [if_pos e] at h; cases h
    · rw [if_neg e] at h
      rw [kvsOf, List.zipWith_cons_cons, valV_neg (fun z => e (Sum.inr.inj z))]
      exact lkp_none l2 (by simpa using z) h
/-- {..}.get(i, x) -/
def dDGt (names : List Str) (ts : List TDE) (ti tx : TDE) : TDE := fun e S Q => dVals ts e S fun ds S1 => ti e S1 fun i S2 => tx e S2 fun z S3 => match i with
  | .str x => Q ((lkp x names ds).getD z) S3
  | _ => False
section
variable {X : Cx} {C : Ct} {pos apos cpos : Pos}
theorem de_dGt {keys : List (Option Expr)} {values : List Expr} {i f : Expr} {ti tx : TDE} {ts : List TDE} {dpos : Pos} (names : List Str) (hu : X.A.units + 1 < cLine) (hp : DPs X dpos keys values names ts) (hi : DE X C i ti) (hf : DE X C f tx) (hall : keys.all (·.isSome) = true) (hl : keys.length = values.length) (h0 : keys ≠ [])
    (h15 : keys.length ≤ 15) (hn15 : names.length ≤ 15) (nd : names.Nodup)
    (mb : attributeBase (.Dict keys values dpos) "get" X.env (eval (.Dict keys values dpos) X.env) = eval (.Dict keys values dpos) X.env := by rfl)
    (mf : ((backTo cpos (starEach [i, f] X.env)).all (fun x => !x.1) && (backToKw cpos (keywordEach [] X.env)).all (fun x => x.1.isSome)
      && decide (([i, f] : List Expr).length + ([] : List Keyword).length + (if ([] : List Keyword).isEmpty then 0 else 1) < 30)) = true := by rfl)
    (ml : (apos.endLine == cpos.line) = true := by rfl) (mt : backTo cpos (starEach [i, f] X.env) = [(false, eval i X.env), (false, eval f X.env)] := by rfl) :
    DE X C (.Call (.Attribute (.Dict keys values dpos) "get" apos) [i, f] [] cpos) (dDGt names ts ti tx) := by
  refine ⟨PE.imp (pe_dget2 hu (pe_disp hp.pps hall hl h0 h15) hi.pe hf.pe ⟨mb, mf, ml, mt⟩) fun σ H Q ⟨G, e, S, Q', at', h, k⟩ => ?_⟩
  intro p np
  have sub : ∀ a, gAnd G p a → G a ∨ H a = none := fun a z => z.elim .inl fun q => .inr (q ▸ np)
  have a1 : At X.K C1 (gAnd G p) e S σ (upd H p (.dK [])) := ⟨at'.rep.grow np, at'.g.grow, trivial, at'.env.keep (Tr.keepG at'.rep (Tr.new np) sub)⟩
  refine pairs_ok hp.len a1 h fun ds S1 vs H1 t1 r1 g1 l1 n1 h1 => ?_
  have tp : Tr S H S1 H1 := fun b o n' h' => by
    obtain ⟨x1, x2⟩ := t1 b o n' (by rw [upd_ne (ne_of_none h' np)]; exact h')
    exact ⟨x1, x2⟩
  have np0 : S p = none := at'.rep.none_of np
  obtain ⟨ep, np1⟩ := t1 p _ np0 upd_same
  refine ⟨ep, kvsOf names vs, kvs_map, by unfold kvsOf; rw [List.length_zipWith]; omega, ?_⟩
  have ht : ∀ v, H1 p ≠ some (.tup v) := fun v z => by rw [ep] at z; cases z
  have hf2 : ∀ o u, H1 p ≠ some (.frz o u) := fun o u z => by rw [ep] at z; cases z
  let HO2 : HO := .dK (mergeK [] (kvsOf names vs))
  have r2 : RepS X.K G S1 (upd H1 p HO2) := (r1.makingD ht hf2).madeF
  have l2 : RlA X.K (upd H1 p HO2) (nfz G S1) ds vs := RlA.keep Keep.madeF _ _ (RlA.keep (Keep.makingD ht hf2) _ _ l1)
  have t2 : Tr S H S1 (upd H1 p HO2) := fun b o n' h' => by
    obtain ⟨x1, x2⟩ := tp b o n' h'
    exact ⟨by rw [upd_ne (ne_of_none h' np)]; exact x1, x2⟩
  have a2 : At X.K C G e S1 σ (upd H1 p HO2) := at'.next t2 r2
  refine ⟨p, rfl, .inl ⟨_, .inl upd_same⟩, G, e, S1, _, a2, h1, fun d S3 v H3 t3 r3 l3 h3 => ?_⟩
  refine ⟨G, e, S3, _, a2.next t3 r3, h3, fun z S4 v4 H4 t4 r4 l4 h4 => ?_⟩
  cases d with
  | str x =>
    obtain ⟨e3, np3⟩ := t3 p _ np1 upd_same
    obtain ⟨e4, _⟩ := t4 p _ np3 e3
    have hnd : ((kvsOf names vs).map (·.1)).Nodup := by rw [kvs_keys n1]; exact nodup_inr nd
    cases hw : lkp x names ds with
    | none =>
      have h4 : Q' ((lkp x names ds).getD z) S4 := h4
      rw [hw] at h4
      have hv := lkp_none l2 (by rw [l2.length, n1]) hw
      have hv2 : valV (mergeK [] (kvsOf names vs)) (.inr x) = none := valV_mergeN hv rfl
      refine ⟨none, ?_, k z S4 v4 H4 (t2.trans (t3.trans t4)) r4 l4 h4⟩
      rw [l3.of_str, ← hv2]
      exact DGet.k (k := Sum.inr x) e4
    | some u =>
      have h4 : Q' ((lkp x names ds).getD z) S4 := h4
      rw [hw] at h4
      obtain ⟨y, hu1, hu2⟩ := lkp_val l2 hw
      have hv := valV_merge (acc := []) hnd hu1
      refine ⟨some y, ?_, k u S4 y H4 (t2.trans (t3.trans t4)) r4 ((hu2.tr r2 t3).tr r3 t4) h4⟩
      rw [l3.of_str, ← hv]
      exact DGet.k (k := Sum.inr x) e4
  | _ => exact False.elim h4
end
/-! ### a dict of the module, texts to ints -/
def lkT (x : Str) : List (Str × Option Int) → Option (Option Int)
  | [] => none
  | p :: r => if p.1 = x then some p.2 else lkT x r
theorem lkT_mem {x : Str} {o : Option Int} : ∀ {tab : List (Str × Option Int)}, lkT x tab = some o → (x, o) ∈ tab
  | [], h => by cases h
  | p :: r, h => by
    unfold lkT at h
    by_cases e : p.1 = x
    · rw [if_pos e] at h; cases h; subst e; exact List.mem_cons_self
    · rw [if_neg e] at h; exact List.mem_cons_of_mem _ (lkT_mem h)
structure Gt (K : PySem.W.Frag) (w : World) (mg : Str → Option Value) (x : Str) (tab : List (Str × Option Int)) : Prop where
  ex : ∃ (a : Addr) (es : Array DictEntry) (n : Nat), mg x = some (.ref a) ∧ KDict K w a es n ∧ ∀ p ∈ tab, match p.2 with
    | some i => ∃ t, PySem.W.nsIn K a p.1 = some (some (.int i t))
    | none => PySem.W.nsIn K a p.1 = some none
def dGGt (tab : List (Str × Option Int)) (ti tx : TDE) : TDE := fun e S Q => ti e S fun i S2 => tx e S2 fun z S3 => match i with
  | .str x => ∃ o, lkT x tab = some o ∧ Q (match o with | some i => .int i | none => z) S3
  | _ => False
section
variable {X : Cx} {C : Ct} {p apos cpos : Pos} {i f : Expr} {ti tx : TDE} {x : Str} {tab : List (Str × Option Int)}
def tGGt (tab : List (Str × Option Int)) (ty tx : TE) : TE := fun σ H Q => ty σ H fun y H2 => tx σ H2 fun z H3 => ∃ (x : Str) (o : Option Int), y = .str x ∧ lkT x tab = some o ∧ Q (match o with | some i => .int i | none => z) H3
theorem pe_gGt {ty tz : TE} (F : Gt X.K X.w X.mg x tab) (hg : Gl X x) (hi : PE X i ty) (hf : PE X f tz) (hd : (x == ("__debug__" : Str)) = false)
    (mb : attributeBase (.Name x p) "get" X.env (eval (.Name x p) X.env) = eval (.Name x p) X.env)
    (mf : ((backTo cpos (starEach [i, f] X.env)).all (fun x => !x.1) && (backToKw cpos (keywordEach [] X.env)).all (fun x => x.1.isSome)
      && decide (([i, f] : List Expr).length + ([] : List Keyword).length + (if ([] : List Keyword).isEmpty then 0 else 1) < 30)) = true)
    (ml : (apos.endLine == cpos.line) = true) (mt : backTo cpos (starEach [i, f] X.env) = [(false, eval i X.env), (false, eval f X.env)]) :
    PE X (.Call (.Attribute (.Name x p) "get" apos) [i, f] [] cpos) (tGGt tab ty tz) := by
  obtain ⟨a, es, n, hm, D, ht⟩ := F.ex
  refine ⟨fun pins s σ H Q I h => ?_⟩
  refine wpAny_Call_method mb mf ml PySem.F.plainAttrs_dict PySem.F.slot_dict_get PySem.F.type_dict_get (ld_glob I hg hm ?_ hd)
  refine ⟨kd_type D I, fun b q => ?_, ?_⟩
  · cases q
    exact ⟨_, I.kIn _ _ D.at_, rfl⟩
  rw [mt]
  refine Calls.callWith_builtin rfl (Calls.evalArgs_plain (Calls.spliced_cons (thn (hi.run pins s σ H _ I h) fun iv s2 ⟨y, H2, I2, ry, q2⟩ =>
    Calls.spliced_cons (thn (hf.run pins s2 σ H2 _ I2 q2) fun fv s3 ⟨z, H3, I3, rz, q3⟩ => Calls.spliced_nil ?_))))
  obtain ⟨w, o, rfl, ho, q⟩ := q3
  obtain ⟨t, rfl⟩ := ry
  have hmap := PySem.W.mapOf_K (prog := X.prog) (w := X.w) I3.kIn D.at_ D.lit
  refine call_meetsIn PySem.F.slot_dict_get (kd_type D I3) PySem.F.entry_dict_get (PySem.F.args_dict_get_3 _ _ _) (meets_dict_get_default (strKind X.prog X.w) a (strKind_is X.prog X.w w t) D.low fv) ⟨_, hmap, ?_⟩
  have hk := ht _ (lkT_mem ho)
  cases o with
  | none =>
    rw [PySem.W.find_K D.at_ hk]
    exact ⟨z, H3, I3.tok _, rz, q⟩
  | some j =>
    obtain ⟨t2, hk⟩ := hk
    rw [PySem.W.find_K D.at_ hk]
    exact ⟨.int j, H3, I3.tok _, ⟨t2, rfl⟩, q⟩
theorem de_gGt (F : Gt X.K X.w X.mg x tab) (hg : Gl X x) (hi : DE X C i ti) (hf : DE X C f tx) (hd : (x == ("__debug__" : Str)) = false := by decide)
    (mb : attributeBase (.Name x p) "get" X.env (eval (.Name x p) X.env) = eval (.Name x p) X.env := by rfl)
    (mf : ((backTo cpos (starEach [i, f] X.env)).all (fun x => !x.1) && (backToKw cpos (keywordEach [] X.env)).all (fun x => x.1.isSome)
      && decide (([i, f] : List Expr).length + ([] : List Keyword).length + (if ([] : List Keyword).isEmpty then 0 else 1) < 30)) = true := by rfl)
    (ml : (apos.endLine == cpos.line) = true := by rfl) (mt : backTo cpos (starEach [i, f] X.env) = [(false, eval i X.env), (false, eval f X.env)] := by rfl) :
    DE X C (.Call (.Attribute (.Name x p) "get" apos) [i, f] [] cpos) (dGGt tab ti tx) :=
  ⟨PE.imp (pe_gGt F hg hi.pe hf.pe hd mb mf ml mt) fun σ H Q ⟨G, e, S, Q', at', h, k⟩ => ⟨G, e, S, _, at', h, fun d S1 v H1 t1 r1 l1 h1 => ⟨G, e, S1, _, at'.next t1 r1, h1, fun z S2 u H2 t2 r2 l2 h2 => by
    cases d with
    | str w =>
      obtain ⟨o, ho, q⟩ := h2
      refine ⟨w, o, l1.of_str, ho, ?_⟩
      cases o with
      | none => exact k z S2 u H2 (t1.trans t2) r2 l2 q
      | some j => exact k _ S2 _ H2 (t1.trans t2) r2 Rl.int q
    | _ => exact False.elim h2⟩⟩⟩
end
/-! ### max of a list of ints -/
def mxI : Int → List Int → Int
  | a, [] => a
  | a, b :: r => mxI (if a < b then b else a) r
theorem maxOf_mx : ∀ {xs : List Int} {x : Int}, PySem.W.maxOf x xs = mxI x xs
  | [], _ => rfl
  | y :: xs, x => by
    have e : PySem.W.maxOf x (y :: xs) = PySem.W.maxOf (if PySem.W.DatumOrd.lt x y = true then y else x) xs := rfl
    have l : PySem.W.DatumOrd.lt x y = decide (x < y) := rfl
    rw [e, maxOf_mx]
    show _ = mxI (if x < y then y else x) xs
    by_cases h : x < y
    · rw [if_pos h, if_pos (by rw [l]; exact decide_eq_true h)]
    · rw [if_neg h, if_neg (by rw [l]; exact fun z => h (of_decide_eq_true z))]
section
variable {X : Cx}
def rMaxDf (K : PySem.W.Frag) : List V → List V → Hp → VK → Prop := fun vs zs H Q => ∃ (a : Addr) (ns : List Int) (z : V), vs = [V.ref a] ∧ zs = [z] ∧ SqL K H a (ns.map V.int) ∧ Q (match ns with | [] => z | x :: r => .int (mxI x r)) H
theorem cr_maxDf (hc : X.calm = true) (hu : X.A.units + 65 < cLine) : CallRK X (.builtin "max") [Str.ofString "default"] (rMaxDf X.K) := by
  intro pins s σ H vs zs us ws Q I r rz h
  obtain ⟨a, ns, z, rfl, rfl, hs, q⟩ := h
  obtain ⟨its, rv, hl, _⟩ := I.list hs
  rw [Vals.ref1 r]
  obtain ⟨u, rfl, ru⟩ := rz.one
  refine PySem.W.max_list_datum_default (α := Int) (xs := ns) (d := u) (I.ok.hd hc) hl.isList (by simpa using PySem.W.HoldAll.of_ints rv.ints) (by show X.A.units + 1 + 0 < cLine; omega) (fun e h' tk hk => ?_) fun y ys i v h' tk e hv hh hk => ?_
  · subst e
    exact ⟨z, H, I.kept hk, ru, q⟩
  · subst e
    obtain ⟨t, rfl⟩ := PySem.W.int_of_holds hh
    rw [maxOf_mx]
    exact ⟨.int _, H, I.kept hk, ⟨t, rfl⟩, q⟩
/-- max(xs, default=z) -/
def dMaxDf (t td : TDE) : TDE := fun e S Q => t e S fun d S1 => td e S1 fun z S2 => ∃ ns : List Int, asL S2 d = some (ns.map D.int) ∧ Q (match ns with | [] => z | x :: r => .int (mxI x r)) S2
variable {C : Ct} {a b : Expr} {t td : TDE} {p pos kpos : Pos}
theorem de_maxDf (hc : X.calm = true) (hu : X.A.units + 65 < cLine) (hg : Gl X "max") (hm : X.mg "max" = none) (ha : DE X C a t) (hb : DE X C b td)
    (h1 : starEach [a] X.env = (false, eval a X.env) :: starEach [] X.env := by rfl)
    (he : backTo pos (starEach [a] X.env) = (false, eval a X.env) :: backTo pos (starEach [] X.env) := by rfl) (hpl : (backTo pos (starEach [a] X.env)).any (·.1) = false := by rfl)
    (hall : (backToKw pos (keywordEach [⟨some "default", b, kpos⟩] X.env)).all (·.1.isSome) = true := by rfl) (hnone : (backToKw pos (keywordEach [⟨some "default", b, kpos⟩] X.env)).any (·.1.isNone) = false := by rfl) (hks : (backToKw pos (keywordEach [⟨some "default", b, kpos⟩] X.env)).filterMap (·.1) = ([Str.ofString "default"] : List Str) := by rfl) :
    DE X C (.Call (.Name "max" p) [a] [⟨some "default", b, kpos⟩] pos) (dMaxDf t td) :=
  ⟨PE.imp (pe_callBK (cr_maxDf hc hu) hg hm b_max (pa_cons ha.pe pa_nil h1) (pk_cons hb.pe pk_nil) (by decide) (by decide) he hpl hall hnone hks) fun σ H Q ⟨G, e, S, Q', at', h, k⟩ => ⟨G, e, S, _, at', h, fun d S1 v H1 t1 r1 l1 h1 => ⟨G, e, S1, _, at'.next t1 r1, h1, fun z S2 u H2 t2 r2 l2 h2 => by
    obtain ⟨ns, ea, q⟩ := h2
    have l1' := l1.tr r1 t2
    obtain ⟨b, vs, rfl, h3, la⟩ := of_asL r2 ea l1'
    rw [la.of_ints] at h3
    refine ⟨b, ns, u, rfl, rfl, h3, ?_⟩
    cases ns with
    | nil => exact k z S2 u H2 (t1.trans t2) r2 l2 q
    | cons x r => exact k _ S2 _ H2 (t1.trans t2) r2 Rl.int q⟩⟩⟩
/-- max(xs) -/
def maxLR : D → Sto → KD → Prop := fun d S Q => ∃ (x : Int) (r : List Int), asL S d = some ((x :: r).map D.int) ∧ Q (.int (mxI x r)) S
theorem mx_uniq : ∀ {xs : List Int} {x : Int}, mxI x xs ∈ x :: xs ∧ ∀ y ∈ x :: xs, y ≤ mxI x xs
  | [], x => ⟨List.mem_cons_self, fun y h => by rw [List.mem_singleton.mp h]; exact Int.le_refl _⟩
  | z :: xs, x => by
    obtain ⟨h1, h2⟩ := @mx_uniq xs (if x < z then z else x)
    show mxI (if x < z then z else x) xs ∈ _ ∧ ∀ y ∈ _, y ≤ mxI (if x < z then z else x) xs
    refine ⟨?_, fun y hy => ?_⟩
    · rcases List.mem_cons.mp h1 with q | q
      · rw [q]; split
        · exact List.mem_cons_of_mem _ List.mem_cons_self
        · exact List.mem_cons_self
      · exact List.mem_cons_of_mem _ (List.mem_cons_of_mem _ q)
    · have h3 := h2 _ List.mem_cons_self
      rcases List.mem_cons.mp hy with rfl | hy
      · refine Int.le_trans ?_ h3
        split <;> omega
      · rcases List.mem_cons.mp hy with rfl | hy
        · refine Int.le_trans ?_ h3
          split <;> omega
        · exact h2 y (List.mem_cons_of_mem _ hy)
theorem cr_maxL (hc : X.calm = true) : CallR X (.builtin "max") (LRL X.K (one maxLR)) := cr_one (cr_max hc) fun v H Q ⟨G, d, S, Q', r, g, l, ⟨x, ns, e, q⟩, k⟩ => by
  obtain ⟨a, vs, rfl, h1, h2⟩ := of_asL r e l
  rw [h2.of_ints] at h1
  refine ⟨a, x :: ns, rfl, h1, Nat.succ_pos _, fun m hm hy => ?_⟩
  obtain ⟨a1, a2⟩ := @mx_uniq ns x
  have e1 := hy _ a1
  have e2 := a2 m hm
  have : m = mxI x ns := by omega
  rw [this]
  exact k.now r Rl.int q
end
end DL

/-! DL, part 2: zip of a list and a tuple in any mix. -/
namespace DL
open PySem PySem.Spec PyProof.Rows L2

/-- a list (true) or a tuple (false) -/
def SqB (k : Bool) (K : PySem.W.Frag) (H : Hp) (a : Addr) (xs : List V) : Prop := if k then SqL K H a xs else SqT K H a xs
def ItB (k : Bool) (h : Heap) (it a : Addr) (i : Nat) : Prop := if k then h.IsListIter it a i else h.IsTupleIter it a i
def AtB (k : Bool) (h : Heap) (a : Addr) (xs : Array Value) : Prop := if k then h.IsList a xs else h.IsTuple a xs
def obB (k : Bool) (a : Addr) : Obj := { cls := .type (if k then "list_iterator" else "tuple_iterator"), data := .fields #[.ref a, .int 0 0] }
section
variable {prog : Program} {w : World} {A : Around} {k : Bool} {h h' : Heap} {it a : Addr} {i : Nat} {xs : Array Value}
theorem ItB.rec (x : ItB k h it a i) : ∃ o, h.get? it = some o ∧ ∃ vs, o.data = .fields vs := by
  cases k with
  | true => obtain ⟨o, e, _, d⟩ := (show h.IsListIter it a i from x); exact ⟨o, e, _, d⟩
  | false => obtain ⟨o, e, _, d⟩ := (show h.IsTupleIter it a i from x); exact ⟨o, e, _, d⟩
theorem ItB.at (x : ItB k h it a i) (f : ∀ o, h.get? it = some o → h'.get? it = some o) : ItB k h' it a i := by
  cases k with
  | true => exact Heap.IsListIter.at (show h.IsListIter it a i from x) f
  | false => exact Heap.IsTupleIter.at (show h.IsTupleIter it a i from x) f
theorem draws_b (k : Bool) (hh : A.handled = none) (it a : Addr) (hne : a ≠ it) (xs : Array Value) : Draws prog w A it [it, a] xs.size (fun i v => xs[i]? = some v) (fun i h => ItB k h it a i ∧ AtB k h a xs) := by
  cases k with
  | true => exact Draws.list hh it a hne xs
  | false => exact Draws.tuple hh it a hne xs
theorem begins_b (k : Bool) (a : Addr) (xs : Array Value) : Begins (.ref a) (obB k a) (fun h => AtB k h a xs) := by
  cases k with
  | true => exact begins_list a xs
  | false => exact begins_tuple a xs
theorem itB_new (k : Bool) (e : h.get? it = some (obB k a)) : ItB k h it a 0 := by
  cases k with
  | true => exact ⟨_, e, rfl, rfl⟩
  | false => exact ⟨_, e, rfl, rfl⟩
theorem sqB_at {X : Cx} {pins : List (Addr × Obj)} {σ : L2.St} {H : Hp} {s : Shared} {ys : List V} (I : L2.Inv X pins σ H s) (q : SqB k X.K H a ys) : ∃ its : List Value, Vals ys its ∧ AtB k s.heap a its.toArray ∧ a < s.heap.objs.size := by
  cases k with
  | true => obtain ⟨its, r, p, _⟩ := I.list (show SqL X.K H a ys from q); exact ⟨its, r, p.isList, p.lt⟩
  | false =>
    obtain ⟨its, r, p, _⟩ := I.tuple (show SqT X.K H a ys from q)
    obtain ⟨o, e, _⟩ := id p
    exact ⟨its, r, p, Heap.lt_size e⟩
theorem sqB_inj {X : Cx} {pins : List (Addr × Obj)} {σ : L2.St} {H : Hp} {s : Shared} {ys zs : List V} (I : L2.Inv X pins σ H s) (q : SqB k X.K H a ys) (q' : SqB k X.K H a zs) : ys = zs := by
  cases k with
  | true => exact I.list_inj (show SqL X.K H a ys from q) q'
  | false => exact I.tuple_inj (show SqT X.K H a ys from q) q'
end
def ItzB (k1 k2 : Bool) (K : PySem.W.Frag) (a b : Addr) : It :=
  ⟨fun i H => ∃ (xs ys : List V) (x y : V), SqB k1 K H a xs ∧ SqB k2 K H b ys ∧ xs[i]? = some x ∧ ys[i]? = some y,
    fun i H v H' => ∃ T x y, v = .ref T ∧ H T = none ∧ H' = upd H T (.tup [x, y]) ∧ (∀ xs, SqB k1 K H a xs → xs[i]? = some x) ∧ ∀ ys, SqB k2 K H b ys → ys[i]? = some y,
    fun i H => ∃ xs ys : List V, SqB k1 K H a xs ∧ SqB k2 K H b ys ∧ i ≤ xs.length ∧ i ≤ ys.length ∧ (xs.length ≤ i ∨ ys.length ≤ i)⟩
theorem turn_zipB {P : Program} {w : World} {K : PySem.W.Frag} {elts : List Expr} {kk : Nat} {tpos : Pos} {a b z TI TO i1 i2 : Addr} (k1 k2 : Bool) (D : ZipSep2 z TI TO i1 i2 [i1, a] [i2, b]) (na : a ≠ i1) (nb : b ≠ i2) :
    L2.Turn P w K (.Tuple elts kk tpos) (ItzB k1 k2 K a b) [z, TI, TO, i1, i2] z (fun i h => IsZip h z TI TO .none ∧ IsTupOf2 h TI (.ref i1) (.ref i2) ∧ (∃ x y, IsTupOf2 h TO x y) ∧ ItB k1 h i1 a i ∧ ItB k2 h i2 b i) where
  mem := by simp
  obj := fun i h st c hc => by
    obtain ⟨hz, hTI, ⟨x, y, hTO⟩, h1, h2⟩ := st
    obtain ⟨o1, e1, v1, d1⟩ := h1.rec
    obtain ⟨o2, e2, v2, d2⟩ := h2.rec
    simp only [List.mem_cons, List.not_mem_nil, or_false] at hc
    rcases hc with rfl | rfl | rfl | rfl | rfl
    · exact ⟨_, hz, fun v q => nomatch q⟩
    · exact ⟨_, hTI, fun v q => nomatch q⟩
    · exact ⟨_, hTO, fun v q => nomatch q⟩
    · exact ⟨o1, e1, fun v q => by rw [d1] at q; cases q⟩
    · exact ⟨o2, e2, fun v q => by rw [d2] at q; cases q⟩
  keep := fun i h h' st k => by
    obtain ⟨hz, hTI, ⟨x, y, hTO⟩, h1, h2⟩ := st
    exact ⟨k z (by simp) _ hz, k TI (by simp) _ hTI, ⟨x, y, k TO (by simp) _ hTO⟩, h1.at fun o q => k i1 (by simp) o q, h2.at fun o q => k i2 (by simp) o q⟩
  item := by
    intro X hP hw hK hc i pins s σ H E I hf st hg
    subst hP hw hK
    obtain ⟨hz, hTI, ⟨x0, y0, hTO⟩, h1, h2⟩ := st
    obtain ⟨xs, ys, x, y, hqx, hqy, hx, hy⟩ := hg
    obtain ⟨its, rv, p, la⟩ := sqB_at I hqx
    obtain ⟨its2, rv2, p2, lb⟩ := sqB_at I hqy
    obtain ⟨u, hu, ru⟩ := rv.get hx
    obtain ⟨u2, hu2, ru2⟩ := rv2.get hy
    have hh : X.A.in1.handled = none := I.ok.hd hc
    have e1 : its.toArray[i]? = some u := by simpa using hu
    have e2 : its2.toArray[i]? = some u2 := by simpa using hu2
    have hzl : z < s.heap.objs.size := Heap.lt_size hz
    refine wpAny_pyNext_zipD2_item D (draws_b k1 hh i1 a na its.toArray) (draws_b k2 hh i2 b nb its2.toArray) hz hTI hTO ⟨h1, p⟩ ⟨h2, p2⟩ (Array.getElem?_eq_some_iff.mp e1).1 (Array.getElem?_eq_some_iff.mp e2).1 fun x1 x2 h' tk f1 f2 z' TO' st1 st2 hT hsz hk => ?_
    rw [e1] at f1; cases f1
    rw [e2] at f2; cases f2
    refine ⟨_, rfl, wpAny_letOwnedTupleGo_zip (s := { s with heap := h', toks := tk }) z' fun h'' z'' sb => ?_⟩
    have hT2 : h''.get? s.heap.objs.size = some { cls := .type "tuple", data := .seq #[u, u2] } := (sb.2 _ (Nat.ne_of_gt hzl)).trans hT
    have new : ObjOk X.prog X.w (upd H s.heap.objs.size (.tup [x, y])) h'' s.heap.objs.size (.tup [x, y]) :=
      ⟨by show 2 ≤ sizeLine; decide, [u, u2], .cons ru (.cons ru2 .nil), ⟨_, hT2, rfl, _, rfl⟩⟩
    have kk : ∀ c o, c ∉ [z, TI, TO, i1, i2] → s.heap.get? c = some o → h''.get? c = some o := fun c o hb q =>
      (sb.2 c (fun q' => hb (by simp [q']))).trans (hk c o (fun q' => hb (by simp [q'])) (fun q' => hb (by simp [q'])) (fun q' => hb (by simp [q'])) (fun q' => hb (by simp [q'])) q)
    have I1 : L2.Inv X pins σ (upd H s.heap.objs.size (.tup [x, y])) { s with heap := h'', toks := tk } := I.turnedNew (t' := tk) (ch := [z, TI, TO, i1, i2]) kk hf (Nat.le_refl _) new
    refine ⟨.ref s.heap.objs.size, _, I1, rfl, ⟨_, x, y, rfl, I.hok.fresh (Nat.le_refl _), rfl, fun l hl => by rw [sqB_inj I hl hqx]; exact hx, fun l hl => by rw [sqB_inj I hl hqy]; exact hy⟩, ⟨z'', ?_, ⟨u, u2, ?_⟩, ?_, ?_⟩, fun c hcm => ?_⟩
    · exact (sb.2 _ D.TIz).trans (hk _ _ D.TIz D.TITO D.TIi1 D.TIi2 hTI)
    · exact (sb.2 _ D.TOz).trans TO'
    · exact st1.1.at fun o q => (sb.2 _ D.zi1.symm).trans q
    · exact st2.1.at fun o q => (sb.2 _ D.zi2.symm).trans q
    · have hlt : c < s.heap.objs.size := by
        obtain ⟨o1, q1, _⟩ := h1.rec
        obtain ⟨o2, q2, _⟩ := h2.rec
        simp only [List.mem_cons, List.not_mem_nil, or_false] at hcm
        rcases hcm with rfl | rfl | rfl | rfl | rfl
        · exact hzl
        · exact Heap.lt_size hTI
        · exact Heap.lt_size hTO
        · exact Heap.lt_size q1
        · exact Heap.lt_size q2
      rw [upd_ne (Nat.ne_of_lt hlt)]
      exact (hf c hcm).1
  done := by
    intro X hP hw hK hc i pins s σ H E I hf st hg
    subst hP hw hK
    obtain ⟨hz, hTI, ⟨x0, y0, hTO⟩, h1, h2⟩ := st
    obtain ⟨xs, ys, hqx, hqy, hl1, hl2, hend⟩ := hg
    obtain ⟨its, rv, p, la⟩ := sqB_at I hqx
    obtain ⟨its2, rv2, p2, lb⟩ := sqB_at I hqy
    have hh : X.A.in1.handled = none := I.ok.hd hc
    have l1 := rv.length
    have l2 := rv2.length
    exact wpAny_pyNext_zipD2_end D (draws_b k1 hh i1 a na its.toArray) (draws_b k2 hh i2 b nb its2.toArray) hz hTI hTO ⟨h1, p⟩ ⟨h2, p2⟩ (by simp; omega) (by simp; omega) (by simp; omega) fun h' tk hk => ⟨rfl, I.turnedL (t' := tk) (ch := [z, TI, TO, i1, i2]) (fun c o hb q =>
      hk c o (fun q' => hb (by simp [q'])) (fun q' => hb (by simp [q'])) (fun q' => hb (by simp [q'])) (fun q' => hb (by simp [q'])) q) hf⟩
  self := fun A i s Q E st h => wpAny_pyIter_zip st.1 h
def iZipB (K : PySem.W.Frag) (ta : TA) : TI := fun σ H R => ta σ H fun vs H1 => ∃ (k1 k2 : Bool) (a b : Addr) (xs ys : List V), vs = [.ref a, .ref b] ∧ SqB k1 K H1 a xs ∧ SqB k2 K H1 b ys ∧ R (ItzB k1 k2 K a b) H1
theorem pi_zipB {X : Cx} {e e2 : Expr} {ta : TA} {p pos tpos : Pos} {elts : List Expr} {kk : Nat} (hg : Gl X "zip") (hm : X.mg "zip" = none) (ha : PA X [e, e2] ta)
    (hs : starEach [e, e2] X.env = (false, eval e X.env) :: starEach [e2] X.env := by rfl) (hpl : (backTo pos (starEach [e2] X.env)).any (·.1) = false := by rfl) :
    PI X (.Tuple elts kk tpos) (.Call (.Name "zip" p) [e, e2] [] pos) (iZipB X.K ta) := by
  refine ⟨fun pins s σ H R I h => ?_⟩
  refine Call_ (ld_blt I hg hm PyProof.Rows.boot_zip (PyProof.Rows.callWith_type1 (thn (ha.run pos pins s σ H _ I h) fun us s1 ⟨vs, H1, I1, r1, q1⟩ => ?_) hs hpl))
  obtain ⟨k1, k2, a, b, xs, ys, ex, hqx, hqy, q⟩ := q1
  subst ex
  obtain ⟨u1, u2, rfl, r, r'⟩ := vals2 r1
  cases r
  cases r'
  obtain ⟨its, rv, p1, la⟩ := sqB_at I1 hqx
  obtain ⟨its2, rv2, p2, lb⟩ := sqB_at I1 hqy
  refine zip_begins2 (begins_b k1 a its.toArray) (begins_b k2 b its2.toArray) p1 p2 fun h' hz hTI hTO h1 h2 hsz hk => wpAny_pyIter_zip hz ?_
  have I2 : L2.Inv X pins σ H1 { s1 with heap := h' } := I1.kept (t' := s1.toks) hk
  have fresh5 : ∀ c, c ∈ [s1.heap.objs.size + 4, s1.heap.objs.size + 2, s1.heap.objs.size + 3, s1.heap.objs.size, s1.heap.objs.size + 1] → FpOk X pins H1 c := fun c hcm => by
    have hle : s1.heap.objs.size ≤ c := by
      simp only [List.mem_cons, List.not_mem_nil, or_false] at hcm
      rcases hcm with rfl | rfl | rfl | rfl | rfl <;> first | exact Nat.le_add_right _ _ | exact Nat.le_refl _
    exact I1.fpOk hle (I1.hok.fresh hle)
  have D := zip_sep2 (N := s1.heap.objs.size) (fp1 := [a]) (fp2 := [b]) (fun c hc => by rw [List.mem_singleton.mp hc]; exact la) (fun c hc => by rw [List.mem_singleton.mp hc]; exact lb)
  exact ⟨s1.heap.objs.size + 4, [s1.heap.objs.size + 4, s1.heap.objs.size + 2, s1.heap.objs.size + 3, s1.heap.objs.size, s1.heap.objs.size + 1], _, _, H1, rfl, I2, turn_zipB k1 k2 D (Nat.ne_of_lt la) (Nat.ne_of_lt (Nat.lt_succ_of_lt lb)),
    ⟨hz, hTI, ⟨_, _, hTO⟩, itB_new k1 h1, itB_new k2 h2⟩, fresh5, q⟩
section
variable {X : Cx} {C : Ct} {pos : Pos}
/-- zip of two, lists or tuples in any mix -/
def iZpB (t : TDA) : TDI := fun e S Q => t e S fun ds S' => match ds with
  | [d, d'] => itsR d S' fun xs ok S2 => itsR d' S2 fun ys ok' S3 => Q (zips xs ys) (fun S => ok S ∧ ok' S) S3
  | _ => False
theorem min_end {n m i : Nat} (h : i = min n m) : i ≤ n ∧ i ≤ m ∧ (n ≤ i ∨ m ≤ i) := by omega
theorem di_zipB {a b : Expr} {t : TDA} {p tpos : Pos} {elts : List Expr} {kk : Nat} (hg : Gl X "zip") (hm : X.mg "zip" = none) (ha : DA X C [a, b] t)
    (hs : starEach [a, b] X.env = (false, eval a X.env) :: starEach [b] X.env := by rfl) (hpl : (backTo pos (starEach [b] X.env)).any (·.1) = false := by rfl) :
    DI X C (.Tuple elts kk tpos) (.Call (.Name "zip" p) [a, b] [] pos) (iZpB t) :=
  ⟨PI.imp (pi_zipB hg hm ha.pa hs hpl) fun σ H R ⟨G, e, S, Q', at', h, k⟩ => ⟨G, e, S, _, at', h, fun ds S1 vs H1 t1 r1 l1 h1 => by
    cases ds with
    | nil => exact False.elim h1
    | cons d r => cases r with
      | nil => exact False.elim h1
      | cons d' r => cases r with
        | cons _ _ => exact False.elim h1
        | nil =>
          obtain ⟨v, v', rfl, l, l'⟩ := of_two l1
          obtain ⟨a, xs, ok, ws, rfl, h1, h2, w, _⟩ := its_ok r1 l h1
          obtain ⟨b, ys, ok', ws', rfl, q, h2', w', _⟩ := its_ok r1 l' h1
          refine ⟨lk d, lk d', a, b, ws, ws', rfl, h2, h2', k _ (fun S => ok S ∧ ok' S) S1 _ H1 t1 r1 (fun G2 S2 H2 sub t r2 o => ?_) q⟩
          obtain ⟨us, hq, la⟩ := w G2 S2 H2 sub t r2 o.1
          obtain ⟨us', hq', la'⟩ := w' G2 S2 H2 sub t r2 o.2
          have hend := min_end (n := us.length) (m := us'.length) (i := (zips xs ys).length) (by rw [zips_length, la.length, la'.length])
          refine ⟨⟨us, us', hq, hq', hend⟩, fun i dd ed => ?_⟩
          obtain ⟨x, y, ex, ey, rfl⟩ := zips_get ed
          obtain ⟨u, hu, lu⟩ := la.getD ex
          obtain ⟨u', hu', lu'⟩ := la'.getD ey
          refine ⟨⟨us, us', u, u', hq, hq', hu, hu'⟩, fun z H3 ⟨T, z1, z2, e1, e2, e3, e4, e5⟩ => ?_⟩
          have ez := e4 us hq
          rw [hu] at ez; cases ez
          have ez := e5 us' hq'
          rw [hu'] at ez; cases ez
          subst e1 e3
          exact pair_ok r2 e2 lu lu'⟩⟩
end
end DL

/-! DL, part 3: exceptions of the program: raise X(), try .. except X as n: y = n, isinstance of what was caught. -/
namespace DL
open PySem PySem.Spec PyProof.Rows L2

theorem exV_ne {cls : Value} {od : Option Addr} {a : Addr} : (∀ x, ExV cls od a ≠ .own x) ∧ (∀ xs, ExV cls od a ≠ .tup xs) := ⟨fun _ z => (nomatch (show HO.ext _ = HO.own _ from z)), fun _ z => (nomatch (show HO.ext _ = HO.tup _ from z))⟩
theorem exV_ok {P : Program} {w : World} {H : Hp} {h : Heap} {a : Addr} {oe : Obj} {cls : Value} {od : Option Addr} (he : h.get? a = some oe) (hz : Zc cls od oe) (hd : ∃ vs, oe.data = .fields vs) : ObjOk P w H h a (ExV cls od a) := by
  obtain ⟨vs, hd⟩ := hd
  exact ⟨⟨oe, vs, he, hz, hd⟩, ⟨_, he⟩, fun h1 h2 z k => by
    obtain ⟨o, ws, z1, z2, z3⟩ := z
    exact ⟨o, ws, k _ z1, z2, z3⟩⟩
section
variable {X : Cx} {pins : List (Addr × Obj)} {σ : L2.St} {H : Hp} {s : Shared} {a : Addr} {oe : Obj} {o : HO}
/-- a pinned object is tracked from here on -/
theorem inv_track (I : L2.Inv X ((a, oe) :: pins) σ H s) (n0 : X.s_0.heap.get? a = none) (np : ∀ p ∈ X.pn ++ pins, p.1 ≠ a) (ho : ObjOk X.prog X.w (upd H a o) s.heap a o) : L2.Inv X pins σ (upd H a o) s := by
  obtain ⟨ha, na, nL, nF, nc⟩ := I.pin (a, oe) (List.mem_append_right _ List.mem_cons_self)
  refine ⟨I.ok, I.os, I.bare, ⟨I.base.keep, I.base.slot, fun b ob e n hx => ?_, I.base.there, fun b xs e => ?_, fun b ob u e => ?_, fun b ps e => ?_⟩, I.loc, I.cell, ?_, fun x c e => ?_, fun p hp => ?_, fun b u e => ?_, I.len⟩
  · have nb : b ≠ a := by rintro rfl; rw [n0] at e; cases e
    rw [upd_ne nb]; exact I.base.free b ob e n hx
  · have q := I.base.tups b xs e
    rw [upd_ne (ne_of_none q na)]; exact q
  · have q := I.base.frzs b ob u e
    rw [upd_ne (ne_of_none q na)]; exact q
  · obtain ⟨m, q⟩ := I.base.tbls b ps e
    exact ⟨m, by rw [upd_ne (ne_of_none q na)]; exact q⟩
  · rw [upd_ne nL.symm]; exact I.free
  · have nb : c ≠ a := by
      rintro rfl
      obtain ⟨v, z⟩ := I.cell x _ e
      obtain ⟨oc, z1, z2⟩ := z
      rw [ha] at z1; cases z1
      exact nc _ z2
    rw [upd_ne nb]; exact I.freeC x c e
  · obtain ⟨e, n, q⟩ := I.pin p (by
      rcases List.mem_append.mp hp with h | h
      · exact List.mem_append_left _ h
      · exact List.mem_append_right _ (List.mem_cons_of_mem _ h))
    exact ⟨e, by rw [upd_ne (np p hp)]; exact n, q⟩
  · by_cases hb : b = a
    · subst hb
      rw [upd_same] at e; cases e
      exact ho
    · rw [upd_ne hb] at e
      exact (I.hok b u e).stay (fun c w _ q => q) (fun c q => by rw [upd_ne (ne_of_none q na)]; exact q) fun c xs q => by rw [upd_ne (ne_of_none q na)]; exact q
end

/-- what 'except x as n: y = n' wishes of an exception of the body: slot i is n's, slot j is y's -/
def wKeep (K : PySem.W.Frag) (c : Value) (i j : Nat) (D : Ends) : WX := fun cls d σ H =>
  PySem.W.exmOne K cls c = some true ∧ ∀ a, H a = none → D.nx ((((σ.set i (some (.ref a))).set j (some (.ref a)))).set i none) (upd H a (ExV cls d a))
section
variable {X : Cx} {x n y : Str} {c : Value} {i j : Nat} {body : List Stmt} {np p1 p2 p3 pos pos' : Pos} {tb : WX → TS}
theorem ps_try_keep (hs : X.stack = X.env :: X.outer) (hf : X.env.frame = some X.env.locals) (hex : X.ex = []) (hN : X.N.Nodup) (hi : X.N[i]? = some n) (hln : X.env.kindOf n = some .local) (hij : i ≠ j) (hil : i < X.N.length)
    (hsu : ∀ (a : Addr) (pn : List (Addr × Obj)), PSs (X.suite a pn) [.Assign [.Name y p1] (.Name n p2) p3] (fun D σ H => ∃ v, σ[i]? = some (some v) ∧ D.nx (σ.set j (some v)) H)) (hc : Names X x c)
    (hb : ∀ (W : WX) (pn : List (Addr × Obj)) (xe : Value → Shared → Prop), Takes (X.tr pn xe) W → PassesOwn (model X.prog X.w) X.A X.env xe → PSs (X.tr pn xe) body (tb W)) :
    PS X (.Try body [.ExceptHandler (some (.Name x np)) (some n) [.Assign [.Name y p1] (.Name n p2) p3] pos'] [] [] pos) (fun D σ H => tb (wKeep X.K c i j D) D σ H) := by
  refine ⟨fun pins s σ H D I h => ?_⟩
  have ok := I.ok
  have hfr : X.A.frames = some (X.env :: X.outer) := by rw [ok.frames, hs]
  have hloc : Loc X.env.scope n := .inl hln
  refine wpAny_Try_except ?_
  refine wpAny_mono ((hb (wKeep X.K c i j D) (X.pn ++ pins) (fun e s₁ => wpAny (model X.prog X.w) X.A (noteFrame e X.env) (fun _ s₂ => wpAny (model X.prog X.w) X.A (setFlight e none) (fun _ s₃ =>
    wpAny (model X.prog X.w) X.A (handleBy e X.env [.ExceptHandler (some (.Name x np)) (some n) [.Assign [.Name y p1] (.Name n p2) p3] pos']) (SP X pins D) X.xe s₃) X.xe s₂) X.xe s₁) (fun u s' xx => ?_) PassesOwn.looking).run [] s σ H D (I.toTry _) h) (fun f s1 hsp => ?_) (fun e s1 he => he)
  · obtain ⟨a, B, sI, pins', σ', H', cls, d, rfl, J', nb, up, sky, na, os, ag, hb1, hyes⟩ := xx
    have J : L2.Inv X pins σ' H' sI := J'.ofTry ok
    have sky' : Sky B (X.env :: X.outer) a (Zc cls d) X.env.locals s'.heap := by rw [← hs]; exact sky
    show wpAny (model X.prog X.w) X.A (noteFrame (.ref a) X.env) _ _ _
    refine Sky.land Zc.steady hfr hf sky' fun h3 fl3 up3 => ?_
    have J3 : L2.Inv X pins σ' H' { s' with heap := h3 } := J.landed nb fl3.1 (up.trans up3) os ag
    obtain ⟨oe3, vs3, he3, hz3, hd3⟩ := fl3.there
    have notFr : ∀ {h : Heap} {o : Obj} {vs : Array Value}, h.FunFrames B (X.env :: X.outer) → h.get? a = some o → o.data = .fields vs → a ∉ frs (X.env :: X.outer) := fun {h o vs} ff e dd hm => by
      obtain ⟨_, o', e', hnf⟩ := ff.mem hm
      rw [e] at e'; cases e'
      exact hnf _ dd
    have nfr := notFr fl3.2.2.1 he3 hd3
    have nL : a ≠ X.env.locals := fun z => nfr (List.mem_filterMap.mpr ⟨X.env, List.mem_cons_self, by rw [hf, z]⟩)
    have nF : a ∉ X.fs := fun hm => by
      obtain ⟨e, he, q⟩ := List.mem_filterMap.mp hm
      exact nfr (List.mem_filterMap.mpr ⟨e, List.mem_cons_of_mem _ he, q⟩)
    have nI : sI.heap.get? a = none := by
      cases q : sI.heap.get? a with
      | none => rfl
      | some o =>
        have z := nb a o q (by rw [hs]; exact nfr)
        rw [fl3.2.1] at z; cases z
    have n0 : X.s_0.heap.get? a = none := by
      cases q : X.s_0.heap.get? a with
      | none => rfl
      | some o =>
        obtain ⟨o', z⟩ := J.base.there a o q (by rw [hex]; intro z; cases z)
        rw [nI] at z; cases z
    have npn : ∀ p ∈ X.pn ++ pins, p.1 ≠ a := fun p hp z => by
      have q := (J.pin p hp).1
      rw [z, nI] at q; cases q
    have S3 := J3.suite he3 hd3 na nL nF
    refine wpAny_handleBy_cons (codeAny_handlers_test ?_) (by intro q; cases q)
    have LT : PySem.W.Looks (model X.prog X.w) h3 (typeOf (.ref a)) cls := fun A Q E s k q => wpAny_typeOf_ref (k _ _ he3) (by rw [hz3.1]; exact q)
    have LM := PySem.W.exm_one (M := model X.prog X.w) (J3.kIn) LT hb1
    have test : ∀ {Q : Value → Shared → Prop} {E : Value → Shared → Prop}, Q c { s' with heap := h3 } → wpAny (model X.prog X.w) (X.A.mark (some (.ref a))) (eval (.Name x np) X.env) Q E { s' with heap := h3 } := fun {Q E} q => by
      obtain ⟨hg, hdbg, hm | ⟨hm, hv, hnn⟩⟩ := hc
      · exact ld_glob (X := X.suite a ((a, oe3) :: (X.pn ++ pins))) S3 hg hm q hdbg
      · exact ld_blt (X := X.suite a ((a, oe3) :: (X.pn ++ pins))) S3 hg hm hv q hnn hdbg
    refine test (LM.here ?_)
    refine codeAny_handlers_suite_as ?_
    refine HandSPX.lands_againZ fl3 fun h4 fl4 up4 => ?_
    have J4 : L2.Inv X pins σ' H' { s' with heap := h4 } := J.landed nb fl4.1 ((up.trans up3).trans up4) os ag
    obtain ⟨oe4, vs4, he4, hz4, hd4⟩ := fl4.there
    have S4 := J4.suite he4 hd4 na nL nF
    refine store_ok (X := X.suite a ((a, oe4) :: (X.pn ++ pins))) (v := .ref a) S4 hN hi hloc rfl (fun s5 S5 => ?_) (.inr hln)
    have hget : (σ'.set i (some (V.ref a)))[i]? = some (some (V.ref a)) := by
      rw [List.getElem?_set_self (by rw [J.len]; exact hil)]
    refine wpAny_mono ((hsu a _).run [] s5 _ H' { nx := fun σ6 H6 => H6 = H' ∧ D.nx (σ6.set i none) (upd H' a (ExV cls d a)), rt := fun _ _ => False, bk := fun _ _ => False, ct := fun _ _ => False } S5 ⟨_, hget, rfl, hyes a na⟩) (fun f s6 hsp => ?_) (fun _ _ z => False.elim z)
    cases f with
    | next =>
      obtain ⟨σ6, H6, S6, e6, q6⟩ := hsp
      subst e6
      have S7 : L2.Inv X ((a, oe4) :: pins) σ6 H6 s6 := ⟨ok, S6.os, S6.bare, S6.base, S6.loc, S6.cell, S6.free, S6.freeC, fun p hp => S6.pin p (by
        rw [List.append_nil]
        rcases List.mem_append.mp hp with z | z
        · exact List.mem_cons_of_mem _ (List.mem_append_left _ z)
        · rcases List.mem_cons.mp z with z | z
          · rw [z]; exact List.mem_cons_self
          · exact List.mem_cons_of_mem _ (List.mem_append_right _ z)), S6.hok, S6.len⟩
      refine gone_ok S7 hN hi hln fun s7 J7 => ?_
      have e7 := (J7.pin (a, oe4) (List.mem_append_right _ List.mem_cons_self)).1
      exact ⟨_, _, inv_track J7 n0 npn (exV_ok e7 hz4 ⟨_, hd4⟩), q6⟩
    | brk => obtain ⟨_, _, _, q⟩ := hsp; exact q.elim
    | cont => obtain ⟨_, _, _, q⟩ := hsp; exact q.elim
    | ret u => obtain ⟨_, _, _, _, _, q⟩ := hsp; exact q.elim
  · cases f with
    | next =>
      obtain ⟨σ', H', J', q⟩ := hsp
      exact wpAny_execs_nil ⟨σ', H', J'.ofTry ok, q⟩
    | brk =>
      obtain ⟨σ', H', J', q⟩ := hsp
      exact ⟨σ', H', J'.ofTry ok, q⟩
    | cont =>
      obtain ⟨σ', H', J', q⟩ := hsp
      exact ⟨σ', H', J'.ofTry ok, q⟩
    | ret u =>
      obtain ⟨v, σ', H', J', r, q⟩ := hsp
      exact ⟨v, σ', H', J'.ofTry ok, r, q⟩
end

/-! ### over data -/
/-- the class that a module's name stands for -/
def adr (mg : Str → Option Value) (x : Str) : Addr := match mg x with
  | some (.ref C) => C
  | _ => 0
theorem adr_of {mg : Str → Option Value} {x : Str} {C : Addr} (h : mg x = some (.ref C)) : adr mg x = C := by unfold adr; rw [h]
/-- what isinstance asks of an exception's class -/
structure XcI (K : PySem.W.Frag) (C : Addr) : Prop where
  hc : (PySem.W.clsIn K C).isSome = true
  hg : PySem.W.findIn K (.ref C) "__getattribute__" = some (some (.builtin "BaseException.__getattribute__"))
  hk : PySem.W.findIn K (.ref C) "__getattr__" = some none
  hs : PySem.W.subIn K (.ref C) (.type "BaseException") = some true
  ha : PySem.W.findIn K (.ref C) "__class__" = some (some (.builtin "object.__class__"))
  hn : PySem.W.specialIn K (.builtin "object.__class__") "__get__" = some (some (.builtin "getset_descriptor.__get__"))
  ht : PySem.W.takesIn K (.builtin "object.__class__") = some true
  hm : PySem.W.mroIn K C (.type "object") = some true
theorem cls_some {K : PySem.W.Frag} {C : Addr} (h : PySem.W.hasDictIn K C = true) : (PySem.W.clsIn K C).isSome = true := by
  obtain ⟨cd, hc, _⟩ := PySem.W.any_some h
  rw [hc]; rfl
/-- a class of the program by its name -/
structure Xc (K : PySem.W.Frag) (mg : Str → Option Value) (x : Str) : Prop where
  m : mg x = some (.ref (adr mg x))
/-- an exception class without an own __init__, its instances raised -/
structure XcN (K : PySem.W.Frag) (mg : Str → Option Value) (x : Str) : Prop where
  m : mg x = some (.ref (adr mg x))
  kp : PySem.W.keepIn K (.ref (adr mg x)) = true
  ex : PySem.W.excIn K (adr mg x) [.type "ValueError", .type "Exception", .type "BaseException", .type "object"] "ValueError.__new__" = true
  sb : PySem.W.subIn K (.ref (adr mg x)) (.type "BaseException") = some true
  ty : PySem.W.typeIn K (.ref (adr mg x)) = some (.type "type")
theorem Xc.gc {K : PySem.W.Frag} {mg : Str → Option Value} {x : Str} (h : Xc K mg x) : Gc K mg x (.ref (adr mg x)) := ⟨_, .ref (adr mg x), h.m, rfl, fun _ _ => Rl.ref⟩
section
variable {X : Cx} {C : Ct} {k : Nat} {ps : List Str} {sp : SpD} {E : XKD} {K : PySem.W.Frag} {mg : Str → Option Value}
/-- raise X() -/
def dRaise0 (E : XKD) (c : Value) : TDS := fun _ _ S => E c none S
theorem pmk_own0 {x : Str} {p pos : Pos} (F : XcN X.K X.mg x) (hg : Gl X x) (hdb : (x == ("__debug__" : Str)) = false) : PMk X (.Call (.Name x p) [] [] pos) (fun _ H Q => Q (.ref (adr X.mg x)) none H) := by
  intro pins s σ H Q I h
  refine wpAny_Call_Name_kw (ld_glob I hg F.m ?_ hdb)
  refine PySem.W.callWith_K0 I.kIn F.kp ?_
  show wpAny _ _ (call (.ref (adr X.mg x)) []) _ _ _
  obtain ⟨bm, N, nm, qn, bs, hdct, sn, sub, ab, col, dd, k0, k1, k2, k3, k5, mN, hC, hN, hni, T⟩ := exc_obj I.kIn F.ex
  exact wpAny_call_exc_subT PySem.F.excBase_ValueError T hC hN hni (fun h' e hm => mk_of I hm (raises_own F.sb F.ty) h (I.hok.gone hm.new)) (by show 0 ≤ sizeLine; omega)
theorem ds_raise0 {x : Str} {p pos pos' : Pos} (F : XcN K mg x) (eK : X.K = K) (em : X.mg = mg) (hc : X.calm = true) (hx : XOk X C E) (hg : Gl X x) (hdb : (x == ("__debug__" : Str)) = false := by decide) :
    DS X C (.Raise (some (.Call (.Name x p) [] [] pos')) none pos) (dRaise0 E (.ref (adr mg x))) := by
  subst eK em
  exact ⟨PS.imp (ps_raise hc hx (pmk_own0 F hg hdb)) fun D σ H ⟨G, e, S, D', at', h, k⟩ => ⟨G, S, at'.c, at'.rep, h⟩⟩

/-- x = f(..) where an exception is caught and kept -/
def dTry (K : PySem.W.Frag) (c : Value) (i j : Nat) (st : D → En → En) (sp : SpD) (t : TDA) : TDS := fun D e S => t e S fun ds S1 => sp ds S1 (fun d S2 => D.nx (st d e) S2)
  fun cls od S2 => PySem.W.exmOne K cls c = some true ∧ ∀ a, S2 a = none → D.nx (((e.set i (some (.ref a))).set j (some (.ref a))).set i none) (sput S2 a (.exc cls od))
theorem call_fndS {f : Addr} {fd : FuncData} {pins : List (Addr × Obj)} {σ : L2.St} {H : Hp} {s : Shared} {Q : VK} {us : List Value} {vs : List V} {E : XK} (F : FnD X.prog X.w X.K X.mg X.base k f fd ps sp) (hr : Rm k X.A) (hb : Binds X.K fd ps []) (hx : PassesAt (L2.CX X.prog X.w) X σ E)
    (I : L2.Inv X pins σ H s) (r : Vals vs us) (h : LSp X.K sp vs H Q E) : wpAny (model X.prog X.w) X.A (call (.ref f) us) (EP X pins σ Q) X.xe s := by
  have hl : us.length = ps.length := by
    obtain ⟨G, S, ds, Q', E', rep, g, l, hs, _⟩ := h
    rw [← r.length, ← l.length]; exact F.len _ _ _ _ hs
  have bt := hb s us I.kIn (by rw [List.append_nil]; exact hl)
  rw [List.append_nil] at bt
  refine wpAny_call (codeAny_mono (F.run X.A X.stack s H ⟨us, []⟩ us vs Q E hr I.env0 bt r h) fun z s' hq => ?_)
  cases z with
  | error e => exact hx pins H s e s' I hq
  | ok fl =>
    cases fl with
    | ret u => exact I.after hq
    | next => exact False.elim hq
    | brk => exact False.elim hq
    | cont => exact False.elim hq
def tTc (K : PySem.W.Frag) (C : Ct) (sp : SpD) (t : TDA) (W : WX) : TE := fun σ H Q => LA K C t σ H fun vs H1 => LSp K sp vs H1 Q (WE W σ)
theorem pe_tc {f : Str} {p pos : Pos} {a : Expr} {es : List Expr} {t : TDA} {W : WX} (F : Fc X.prog X.w X.K X.mg X.base k f ps sp) (hr : Rm k X.A) (tk : Takes X W) (hg : Gl X f) (ha : DA X C (a :: es) t)
    (hdb : (f == ("__debug__" : Str)) = false) (he : starEach (a :: es) X.env = (false, eval a X.env) :: starEach es X.env) (hpl : (backTo pos (starEach es X.env)).any (·.1) = false) :
    PE X (.Call (.Name f p) (a :: es) [] pos) (tTc X.K C sp t W) := by
  obtain ⟨f, fd, hm, hk, hb, F⟩ := F.ex
  refine ⟨fun pins s σ H Q I h => ?_⟩
  refine wpAny_Call_Name_kw (ld_glob I hg hm ?_ hdb)
  refine PySem.W.callWith_K (h₀ := X.base) I.ok.mod.kin hk (thn (ha.pa.run pos pins s σ H _ I h) fun us s1 ⟨vs, H1, I1, r, q⟩ => ⟨I1.kIn, ?_⟩) he hpl
  exact call_fndS F hr hb (passAt tk σ) I1 r q
theorem try_ok {G : Addr → Prop} {e : En} {S : Sto} {σ : L2.St} {H : Hp} {Dn : Ends} {D' : DEnds} {i j : Nat} {c : Value} {st : D → En → En} {st' : V → L2.St → L2.St} {t : TDA} (at' : At X.K C G e S σ H) (h : dTry X.K c i j st sp t D' e S) (ko : EndsOk X.K C G S H D' Dn)
    (hst : ∀ {S1 H1 d v}, Rl X.K H1 (nfz G S1) d v → At X.K C G e S1 σ H1 → At X.K C G (st d e) S1 (st' v σ) H1) : tTc X.K C sp t (wKeep X.K c i j Dn) σ H fun v H' => Dn.nx (st' v σ) H' := by
  refine ⟨G, e, S, _, at', h, fun ds S1 vs H1 t1 r1 l1 h1 => ?_⟩
  have a1 := at'.next t1 r1
  refine ⟨G, S1, ds, _, _, r1, a1.g, l1, h1, fun d S2 v H2 t2 r2 l2 q => ko.nx _ S2 _ H2 (t1.trans t2) (hst l2 (a1.next t2 r2)) q, fun cls od S2 H2 t2 r2 q => ⟨q.1, fun a na => ?_⟩⟩
  have a2 := a1.next t2 r2
  obtain ⟨r3, t3, _⟩ := r2.newCell (o := ExV cls od a) (c := .exc cls od) a2.g na upd_same
  have a3 := ((a2.next t3 r3).set (i := i) (d := .ref a) (v := .ref a) Rl.ref).set (i := j) (d := .ref a) (v := .ref a) Rl.ref
  refine ko.nx _ _ _ _ ((t1.trans t2).trans t3) ⟨a3.rep, a3.g, a3.c, by simp [a3.env.1], fun m d' z => ?_⟩ (q.2 a (r2.none_of na))
  by_cases hm : i = m
  · subst hm
    by_cases hl : i < ((e.set i (some (D.ref a))).set j (some (D.ref a))).length
    · rw [List.getElem?_set_self hl] at z; cases z
    · rw [List.getElem?_eq_none (by simpa using hl)] at z; cases z
  · rw [List.getElem?_set_ne hm] at z ⊢
    exact a3.env.2 m d' z
section
variable {xn n y f v : Str} {i j m : Nat} {np p1 p2 p3 pos pos' p pos1 pos2 pv : Pos} {a : Expr} {es : List Expr} {t : TDA}
/-- try: x = f(..) / except X as n: y = n -/
theorem ds_try (xc : Xc K mg xn) (F : Fc X.prog X.w X.K X.mg X.base k f ps sp) (hr : Rm k X.A) (ha : ∀ (pn : List (Addr × Obj)) (xe : Value → Shared → Prop), DA (X.tr pn xe) C (a :: es) t) (eK : X.K = K) (em : X.mg = mg)
    (hs : X.stack = X.env :: X.outer) (hf : X.env.frame = some X.env.locals) (hex : X.ex = []) (hN : X.N.Nodup) (hi : X.N[i]? = some n) (hj : X.N[j]? = some y) (hm : X.N[m]? = some v) (hij : i ≠ j) (hil : i < X.N.length)
    (hln : X.env.kindOf n = some .local) (hly : Loc X.env.scope y) (hlv : Loc X.env.scope v) (hfy : X.fn y = true ∨ X.env.scope.names.lookup y = some .local) (hfv : X.fn v = true ∨ X.env.scope.names.lookup v = some .local) (hvn : Vis X.env.scope n)
    (hgx : Gl X xn) (hg : Gl X f) (sw1 : swapsWith (.Name n p2) (some (.Name y p1)) p3.line X.env = pure false) (sw2 : swapsWith (.Call (.Name f p) (a :: es) [] pos1) (some (.Name v pv)) pos2.line X.env = pure false)
    (hdb : (f == ("__debug__" : Str)) = false) (hdn : (n == ("__debug__" : Str)) = false) (hdc : (n == ("__classdict__" : Str)) = false) (hdx : (xn == ("__debug__" : Str)) = false) (he : starEach (a :: es) X.env = (false, eval a X.env) :: starEach es X.env) (hpl : (backTo pos1 (starEach es X.env)).any (·.1) = false) :
    DS X C (.Try [.Assign [.Name v pv] (.Call (.Name f p) (a :: es) [] pos1) pos2] [.ExceptHandler (some (.Name xn np)) (some n) [.Assign [.Name y p1] (.Name n p2) p3] pos'] [] [] pos)
      (dTry K (.ref (adr mg xn)) i j (fun d e => e.set m (some d)) sp t) := by
  subst eK em
  exact ⟨PS.imp (ps_try_keep (tb := fun W => tAsg (tTc X.K C sp t W) (gName m)) hs hf hex hN hi hln hij hil
    (fun a pn => PSs.imp (pss_one (L2.ps_set (X := X.suite a pn) hN hj hly (pe_var hi hvn hdn hdc) sw1 hfy)) fun D σ H h => h)
    ⟨hgx, hdx, .inl xc.m⟩ (fun W pn xe tk po => pss_one (L2.ps_set (X := X.tr pn xe) hN hm hlv (pe_tc (X := X.tr pn xe) F hr tk hg (ha pn xe) hdb he hpl) sw2 hfv)))
    fun D σ H ⟨G, e, S, D', at', h, k⟩ => try_ok (st' := fun v σ => σ.set m (some v)) at' h k fun l q => q.set l⟩
/-- try: f(..) / except X as n: y = n -/
theorem ds_tryE (xc : Xc K mg xn) (F : Fc X.prog X.w X.K X.mg X.base k f ps sp) (hr : Rm k X.A) (ha : ∀ (pn : List (Addr × Obj)) (xe : Value → Shared → Prop), DA (X.tr pn xe) C (a :: es) t) (eK : X.K = K) (em : X.mg = mg)
    (hs : X.stack = X.env :: X.outer) (hf : X.env.frame = some X.env.locals) (hex : X.ex = []) (hN : X.N.Nodup) (hi : X.N[i]? = some n) (hj : X.N[j]? = some y) (hij : i ≠ j) (hil : i < X.N.length)
    (hln : X.env.kindOf n = some .local) (hly : Loc X.env.scope y) (hfy : X.fn y = true ∨ X.env.scope.names.lookup y = some .local) (hvn : Vis X.env.scope n)
    (hgx : Gl X xn) (hg : Gl X f) (sw1 : swapsWith (.Name n p2) (some (.Name y p1)) p3.line X.env = pure false) (sw2 : swapsWith (.Call (.Name f p) (a :: es) [] pos1) none pos2.line X.env = pure false)
    (hdb : (f == ("__debug__" : Str)) = false) (hdn : (n == ("__debug__" : Str)) = false) (hdc : (n == ("__classdict__" : Str)) = false) (hdx : (xn == ("__debug__" : Str)) = false) (he : starEach (a :: es) X.env = (false, eval a X.env) :: starEach es X.env) (hpl : (backTo pos1 (starEach es X.env)).any (·.1) = false) :
    DS X C (.Try [.Expr (.Call (.Name f p) (a :: es) [] pos1) pos2] [.ExceptHandler (some (.Name xn np)) (some n) [.Assign [.Name y p1] (.Name n p2) p3] pos'] [] [] pos)
      (dTry K (.ref (adr mg xn)) i j (fun _ e => e) sp t) := by
  subst eK em
  exact ⟨PS.imp (ps_try_keep (tb := fun W => fun D σ H => tTc X.K C sp t W σ H fun _ H' => D.nx σ H') hs hf hex hN hi hln hij hil
    (fun a pn => PSs.imp (pss_one (L2.ps_set (X := X.suite a pn) hN hj hly (pe_var hi hvn hdn hdc) sw1 hfy)) fun D σ H h => h)
    ⟨hgx, hdx, .inl xc.m⟩ (fun W pn xe tk po => pss_one (ps_expr (X := X.tr pn xe) (pe_tc (X := X.tr pn xe) F hr tk hg (ha pn xe) hdb he hpl) sw2)))
    fun D σ H ⟨G, e, S, D', at', h, k⟩ => try_ok (st' := fun _ σ => σ) at' h k fun l q => q⟩
end

/-! ### isinstance of what was caught -/
def odOk (S : Sto) : Option Addr → Prop
  | none => True
  | some d => ∃ fs, S d = some (.xd fs)
def cvD : D → Option Value
  | .ref C => some (.ref C)
  | .ty n => some (.type n)
  | _ => none
def cvsD : List D → Option (List Value)
  | [] => some []
  | d :: r => match cvD d, cvsD r with
    | some v, some vs => some (v :: vs)
    | _, _ => none
def kitD (K : PySem.W.Frag) (t : Value) : D → Option Bool
  | .tup cs => match cvsD cs with
    | some vs => PySem.W.kitAny K t vs
    | none => none
  | d => match cvD d with
    | some v => PySem.W.kitOne K t v
    | none => none
def isxR (K : PySem.W.Frag) : RD2 := fun x t S Q => ∃ a D od b, x = .ref a ∧ S a = some (.exc (.ref D) od) ∧ odOk S od ∧ XcI K D ∧ kitD K (.ref D) t = some b ∧ Q (.bl b) S
theorem cvD_ok {K : PySem.W.Frag} {H : Hp} {nf : Addr → Prop} {d : D} {v : V} {c u : Value} (h : cvD d = some c) (l : Rl K H nf d v) (r : RelV v u) : u = c := by
  cases d with
  | ref C => cases h; rw [l.of_ref] at r; exact r
  | ty n => cases h; rw [l.of_ty] at r; exact r
  | _ => cases h
theorem cvsD_ok {K : PySem.W.Frag} {H : Hp} {nf : Addr → Prop} : ∀ {ds : List D} {vs : List V} {cs us : List Value}, cvsD ds = some cs → RlA K H nf ds vs → Vals vs us → us = cs
  | [], vs, cs, us, h, l, r => by cases h; rw [l.of_nil] at r; cases r; rfl
  | d :: ds, vs, cs, us, h, l, r => by
    obtain ⟨v, w, rfl, l1, l2⟩ := l.of_cons
    unfold cvsD at h
    split at h
    · rename_i c cs' e1 e2
      cases h
      cases r with
      | cons r1 r2 => rw [cvD_ok e1 l1 r1, cvsD_ok e2 l2 r2]
    · cases h
def rIsx (K : PySem.W.Frag) : List V → Hp → VK → Prop := fun xs H Q => ∃ (a D : Addr) (od : Option Addr) (b : Bool) (v : V), xs = [.ref a, v] ∧ H a = some (ExV (.ref D) od a) ∧ (∀ d, od = some d → ∃ fs, H d = some (.xd fs)) ∧ XcI K D ∧
  ((∃ c, (∀ u, RelV v u → u = c) ∧ PySem.W.kitOne K (.ref D) c = some b) ∨ ∃ tp ws cs, v = .ref tp ∧ SqT K H tp ws ∧ (∀ us, Vals ws us → us = cs) ∧ PySem.W.kitAny K (.ref D) cs = some b) ∧ Q (.bl b) H
theorem call_isx : CallR X (.builtin "isinstance") (rIsx X.K) := by
  intro pins s σ H xs us Q I r h
  obtain ⟨a, D, od, b, v, rfl, ea, hd, c, hv, q⟩ := h
  obtain ⟨u1, u2, rfl, r1, r2⟩ := vals2 r
  cases (show u1 = Value.ref a from r1)
  have x : ObjOk X.prog X.w H s.heap a (.ext fun h => ∃ oe vs, h.get? a = some oe ∧ Zc (.ref D) od oe ∧ oe.data = .fields vs) := I.hok a _ ea
  obtain ⟨⟨oe, vs, he, hz, hdt⟩, _⟩ := x
  have hod : ∃ od' : Option Obj, PySem.W.InstAt s.heap a oe D od' := by
    obtain ⟨oc, odd, oda, osl⟩ := oe
    obtain ⟨h1, h2⟩ := hz
    dsimp only at h1 h2 hdt
    subst h1 h2 hdt
    cases odd with
    | none => exact ⟨none, he, rfl, rfl, trivial⟩
    | some d =>
      obtain ⟨fs, e⟩ := hd d rfl
      obtain ⟨u, hu⟩ := objOk_get (I.hok d _ e)
      exact ⟨some u, he, rfl, rfl, hu⟩
  obtain ⟨od', J⟩ := hod
  have Z := PySem.W.kitx_exc (K := X.K) (x := a) (ox := oe) (od := od') c.hc c.hg c.hk c.hs c.ha c.hn c.ht c.hm
  rcases hv with ⟨cv, hcv, e⟩ | ⟨tp, ws, cs, rfl, hq, hcs, e⟩
  · cases hcv _ r2
    exact PySem.W.kia_one Z I.kIn J e (fun z => nomatch z) fun tk => ⟨.bl b, H, I.tok tk, rfl, q⟩
  · cases (show u2 = Value.ref tp from r2)
    obtain ⟨its, rv, ⟨o, h1, h2, n, h3⟩, _⟩ := I.tuple hq
    cases hcs _ rv
    obtain ⟨oc, odd, dt, sl⟩ := o
    simp only at h2 h3
    subst h2 h3
    exact PySem.W.kia_tup Z I.kIn J h1 e (fun z => nomatch z) fun tk => ⟨.bl b, H, I.tok tk, rfl, q⟩
theorem cr_isx (eK : X.K = K) : CallR X (.builtin "isinstance") (LRL X.K (two (isxR K))) := by
  subst eK
  refine cr_two call_isx fun v u H Q ⟨G, x, t, S, Q', r, g, l1, l2, h, k⟩ => ?_
  obtain ⟨a, D, od, b, rfl, e, ho, c, hk, q⟩ := h
  refine ⟨a, D, od, b, u, by rw [l1.of_ref], (r a _ e).2, fun d z => ?_, c, ?_, k.now r Rl.bl q⟩
  · subst z
    obtain ⟨fs, z⟩ := ho
    obtain ⟨vs, z2, _⟩ := (r d _ z).2
    exact ⟨vs, z2⟩
  · cases t with
    | tup cs =>
      obtain ⟨tp, ws, rfl, hq, la⟩ := l2.of_tup
      replace hk : (match cvsD cs with | some vs => PySem.W.kitAny X.K (.ref D) vs | none => none) = some b := hk
      cases hc : cvsD cs with
      | none => rw [hc] at hk; cases hk
      | some vs =>
        rw [hc] at hk
        exact .inr ⟨tp, ws, vs, rfl, hq, fun us rv => cvsD_ok hc la rv, hk⟩
    | ref C => exact .inl ⟨_, fun w hw => cvD_ok (d := .ref C) rfl l2 hw, hk⟩
    | ty n => exact .inl ⟨_, fun w hw => cvD_ok (d := .ty n) rfl l2 hw, hk⟩
    | _ => cases hk
end
theorem b_ValueError : bootBuiltins "ValueError" = some (.type "ValueError") := PyProof.Rows.Boot.«ValueError»
end DL

/-! DL, part 4: exceptions of the program with an own __init__: made and raised, their fields read. -/
namespace DL
open PySem PySem.Spec PyProof.Rows L2

/-! ### B.__init__(self, ..), B a class of the program whose __init__ is ValueError's -/
structure XcB (K : PySem.W.Frag) (mg : Str → Option Value) (x : Str) : Prop where
  m : mg x = some (.ref (adr mg x))
  sg : PySem.W.specialIn K (.ref (adr mg x)) "__getattribute__" = some (some (.builtin "type.__getattribute__"))
  ty : PySem.W.typeIn K (.ref (adr mg x)) = some (.type "type")
  rd : PySem.W.readsIn K (adr mg x) (.type "type") = true
  fd : PySem.W.findCls K (.ref (adr mg x)) (.type "type") "__init__" = some (.val (.builtin "ValueError.__init__"))
section
variable {X : Cx} {e : Expr} {es : List Expr} {ta : TA} {p1 p2 pos : Pos} {B : Str}
theorem pe_binit {pl : Sem Bool} (F : XcB X.K X.mg B) (hg : Gl X B) (ha : PA X (e :: es) ta) (hdb : (B == ("__debug__" : Str)) = false)
    (hc : eval (.Call (.Attribute (.Name B p1) "__init__" p2) (e :: es) [] pos) X.env = (do
      let ov ← eval (.Name B p1) X.env
      standAt p2.atName
      let (f, first) ← holding [ov] (getMethod ov "__init__" pl)
      callWith pos f first (backTo pos (starEach (e :: es) X.env)) (backToKw pos (keywordEach [] X.env))))
    (he : starEach (e :: es) X.env = (false, eval e X.env) :: starEach es X.env) (hpl : (backTo pos (starEach es X.env)).any (·.1) = false) :
    PE X (.Call (.Attribute (.Name B p1) "__init__" p2) (e :: es) [] pos) (tVeI X.K ta) := by
  refine ⟨fun pins s σ H Q I h => ?_⟩
  refine PySem.W.methodCall_KW (ld_glob I hg F.m ?_ hdb) hc
  obtain ⟨m, fr⟩ := I.fr
  refine PySem.W.method_of_cls fr I.ok.mod.kin F.sg (PySem.W.cls_val fr I.ok.mod.kin F.ty F.rd F.fd (by decide +kernel) ?_)
  show wpAny _ _ (callWith pos (Value.builtin "ValueError.__init__") [] (backTo pos (starEach (e :: es) X.env)) []) _ _ _
  refine PyProof.Rows.callWith_method1 (thn (ha.run pos pins _ σ H _ (I.tok _) h) fun us s1 ⟨vs, H1, I1, r1, a, C, ws, ev, hl, T, ea, q⟩ => ?_) he hpl
  subst ev
  cases r1 with
  | @cons _ u0 _ ur ra rw' =>
    obtain rfl : u0 = Value.ref a := ra
    have hlen : ur.length ≤ sizeLine := by
      rw [← Paired.length rw', sizeLine_eq]
      omega
    exact oinit_ok T I1 ea hlen fun s' J => ⟨.non, H1, J, rfl, q⟩
end

/-- the j-th statement of a class's body -/
def clsDef (s : Stmt) (j : Nat) : Stmt := match s with
  | .ClassDef _ _ _ body _ _ _ _ _ _ _ => body.getD j (.Pass ⟨0, 0, 0, 0⟩)
  | s => s
/-! ### __init__ of two fields, of one -/
def spI2 (C : Addr) (f g : Str) : Sp := fun vs H Q _ => ∃ a x y, vs = [V.ref a, x, y] ∧ H a = some (exo a C none) ∧ ∀ dx, H dx = none → dx ≠ a → Q .non (upd (upd (upd H dx (exd dx [(f, x)])) a (exo a C (some dx))) dx (exd dx [(g, y), (f, x)]))
def spI1 (C : Addr) (f : Str) : Sp := fun vs H Q _ => ∃ a x, vs = [V.ref a, x] ∧ H a = some (exo a C none) ∧ ∀ dx, H dx = none → dx ≠ a → Q .non (upd (upd H dx (exd dx [(f, x)])) a (exo a C (some dx)))
theorem i2_read {K : PySem.W.Frag} {C : Addr} {f g : Str} {σ : L2.St} {H : Hp} {a : Addr} {x y : V} {D : Ends} (T : OexC K C) (n1 : PySem.W.findIn K (.ref C) f = some none) (n2 : PySem.W.findIn K (.ref C) g = some none) (hσ : σ = [some (.ref a), some x, some y]) (ea : H a = some (exo a C none))
    (q : ∀ dx, H dx = none → dx ≠ a → D.nx σ (upd (upd (upd H dx (exd dx [(f, x)])) a (exo a C (some dx))) dx (exd dx [(g, y), (f, x)]))) :
    tSeq (tDrop (tVeI K (tCons (tVar 0) (tCons (tVar 1) (tCons (tVar 2) tNil))))) (tSeq (tOst K f (tVar 0) (tVar 1)) (tOst K g (tVar 0) (tVar 2))) D σ H := by
  subst hσ
  refine ⟨.ref a, rfl, x, rfl, y, rfl, a, C, [x, y], rfl, (by show 2 ≤ 1000; decide), T, ea, ?_⟩
  refine ⟨x, rfl, .ref a, rfl, a, C, rfl, T, n1, .inl ⟨ea, fun dx nd ne => ?_⟩⟩
  exact ⟨y, rfl, .ref a, rfl, a, C, rfl, T, n2, .inr ⟨dx, _, upd_same, by rw [upd_ne ne, upd_same], by show 1 ≤ 900; decide, by
    rw [show upd (upd (upd H dx (exd dx [(f, x)])) a (exo a C (some dx))) dx (exd dx ((g, y) :: [(f, x)])) = upd (upd (upd H dx (exd dx [(f, x)])) a (exo a C (some dx))) dx (exd dx [(g, y), (f, x)]) from rfl]
    exact q dx nd ne⟩⟩
theorem i1_read {K : PySem.W.Frag} {C : Addr} {f : Str} {σ : L2.St} {H : Hp} {a : Addr} {x : V} {D : Ends} (T : OexC K C) (n1 : PySem.W.findIn K (.ref C) f = some none) (hσ : σ = [some (.ref a), some x]) (ea : H a = some (exo a C none))
    (q : ∀ dx, H dx = none → dx ≠ a → D.nx σ (upd (upd H dx (exd dx [(f, x)])) a (exo a C (some dx)))) :
    tSeq (tDrop (tVeI K (tCons (tVar 0) (tCons (tVar 1) tNil)))) (tOst K f (tVar 0) (tVar 1)) D σ H := by
  subst hσ
  refine ⟨.ref a, rfl, x, rfl, a, C, [x], rfl, (by show 1 ≤ 1000; decide), T, ea, ?_⟩
  exact ⟨x, rfl, .ref a, rfl, a, C, rfl, T, n1, .inl ⟨ea, fun dx nd ne => q dx nd ne⟩⟩
/-- the class by its name, its __init__ kept -/
structure XcO (K : PySem.W.Frag) (P : Program) (w : World) (mg : Str → Option Value) (base : Heap) (x : Str) (ps : List Str) (sp : Addr → Sp) : Prop where
  m : mg x = some (.ref (adr mg x))
  o : OexC K (adr mg x)
  ex : ∃ (fI : Addr) (fd : FuncData), PySem.W.findIn K (.ref (adr mg x)) "__init__" = some (some (.ref fI)) ∧ PySem.W.typeIn K (.ref fI) = some (.type "function") ∧ Binds K fd ps [] ∧ FnOk P w K mg base CX0 1 fI fd ps (sp (adr mg x))
section
variable {X : Cx} {C : Ct} {E : XKD} {K : PySem.W.Frag} {P : Program} {w : World} {base : Heap} {mg : Str → Option Value} {k : Nat} {e : Expr} {es : List Expr} {t : TDA} {x : Str} {ps : List Str} {p pos pos' : Pos}
def dRaise2 (E : XKD) (c : Value) (f g : Str) (t : TDA) : TDS := fun _ e S => t e S fun ds S1 => ∃ y z, ds = [y, z] ∧ ∀ d, S1 d = none → E c (some d) (sput S1 d (.xd [(g, z), (f, y)]))
def dRaise1 (E : XKD) (c : Value) (f : Str) (t : TDA) : TDS := fun _ e S => t e S fun ds S1 => ∃ y, ds = [y] ∧ ∀ d, S1 d = none → E c (some d) (sput S1 d (.xd [(f, y)]))
theorem del_upd {H : Hp} {a d : Addr} {o u v : HO} (n : H a = none) (ne : d ≠ a) (H2 : Hp) (h : ∀ b, b ≠ a → b ≠ d → H2 b = H b) : upd (del H2 a) d o = upd H d o := by
  funext b
  by_cases hb : b = d
  · rw [hb, upd_same, upd_same]
  · rw [upd_ne hb, upd_ne hb]
    by_cases ha : b = a
    · rw [ha, del_same, n]
    · rw [del_ne ha, h b ha hb]
theorem ds_raise2 {f g : Str} (F : XcO K P w mg base x ps (fun C => spI2 C f g)) (eK : X.K = K) (eP : X.prog = P) (ew : X.w = w) (em : X.mg = mg) (eb : X.base = base) (hr : Rm k X.A) (hk : 2 ≤ k) (hc : X.calm = true) (hx : XOk X C E) (hg : Gl X x) (ha : DA X C (e :: es) t)
    (hdb : (x == ("__debug__" : Str)) = false := by decide) (he : starEach (e :: es) X.env = (false, eval e X.env) :: starEach es X.env := by rfl) (hpl : (backTo pos' (starEach es X.env)).any (·.1) = false := by rfl) :
    DS X C (.Raise (some (.Call (.Name x p) (e :: es) [] pos')) none pos) (dRaise2 E (.ref (adr mg x)) f g t) := by
  subst eK eP ew em eb
  obtain ⟨fI, fd, iC, tI, hb, F1⟩ := F.ex
  refine ⟨PS.imp (ps_raise hc hx (pmk_oex F.o iC tI F1 (hr.room.mono hk) hb .nil (fun _ _ _ _ _ _ _ h => h.elim) hg F.m ha.pa hdb he hpl)) fun D σ H ⟨G, e, S, D', at', h, k⟩ => ⟨G, e, S, _, at', h, fun ds S1 vs H1 t1 r1 l1 h1 => ?_⟩⟩
  obtain ⟨y, z, rfl, q⟩ := h1
  obtain ⟨v, r, rfl, ly, l1⟩ := l1.of_cons
  obtain ⟨u, r, rfl, lz, l1⟩ := l1.of_cons
  cases l1.of_nil
  refine ⟨by show 2 ≤ 1000; decide, fun a na => ⟨a, v, u, rfl, upd_same, fun dx nd ne => ⟨rfl, dx, [(g, u), (f, v)], by rw [upd_ne ne.symm, upd_same], upd_same, by rwa [upd_ne ne] at nd, ?_⟩⟩⟩
  have nd1 : H1 dx = none := by rwa [upd_ne ne] at nd
  have a1 := at'.next t1 r1
  rw [del_upd (u := .tup []) (v := .tup []) na ne _ fun b hb hd => by rw [upd_ne hd, upd_ne hb, upd_ne hd, upd_ne hb]]
  have kp : Keep X.K H1 (nfz G S1) (upd H1 dx (.xd [(g, u), (f, v)])) (nfz G (sput S1 dx (.xd [(g, z), (f, y)]))) := (Keep.new nd1).newCell nd1
  obtain ⟨r2, t2, _⟩ := r1.newCell (o := .xd [(g, u), (f, v)]) (c := .xd [(g, z), (f, y)]) a1.g nd1 ⟨_, upd_same, u, _, rfl, Rl.keep kp _ _ lz, v, _, rfl, Rl.keep kp _ _ ly, rfl⟩
  exact ⟨G, _, (a1.next t2 r2).c, r2, q dx (r1.none_of nd1)⟩
theorem ds_raise1 {f : Str} (F : XcO K P w mg base x ps (fun C => spI1 C f)) (eK : X.K = K) (eP : X.prog = P) (ew : X.w = w) (em : X.mg = mg) (eb : X.base = base) (hr : Rm k X.A) (hk : 2 ≤ k) (hc : X.calm = true) (hx : XOk X C E) (hg : Gl X x) (ha : DA X C (e :: es) t)
    (hdb : (x == ("__debug__" : Str)) = false := by decide) (he : starEach (e :: es) X.env = (false, eval e X.env) :: starEach es X.env := by rfl) (hpl : (backTo pos' (starEach es X.env)).any (·.1) = false := by rfl) :
    DS X C (.Raise (some (.Call (.Name x p) (e :: es) [] pos')) none pos) (dRaise1 E (.ref (adr mg x)) f t) := by
  subst eK eP ew em eb
  obtain ⟨fI, fd, iC, tI, hb, F1⟩ := F.ex
  refine ⟨PS.imp (ps_raise hc hx (pmk_oex F.o iC tI F1 (hr.room.mono hk) hb .nil (fun _ _ _ _ _ _ _ h => h.elim) hg F.m ha.pa hdb he hpl)) fun D σ H ⟨G, e, S, D', at', h, k⟩ => ⟨G, e, S, _, at', h, fun ds S1 vs H1 t1 r1 l1 h1 => ?_⟩⟩
  obtain ⟨y, rfl, q⟩ := h1
  obtain ⟨v, r, rfl, ly, l1⟩ := l1.of_cons
  cases l1.of_nil
  refine ⟨by show 1 ≤ 1000; decide, fun a na => ⟨a, v, rfl, upd_same, fun dx nd ne => ⟨rfl, dx, [(f, v)], upd_same, by rw [upd_ne ne, upd_same], by rwa [upd_ne ne] at nd, ?_⟩⟩⟩
  have nd1 : H1 dx = none := by rwa [upd_ne ne] at nd
  have a1 := at'.next t1 r1
  rw [del_upd (u := .tup []) (v := .tup []) na ne _ fun b hb hd => by rw [upd_ne hb, upd_ne hd, upd_ne hb]]
  have kp : Keep X.K H1 (nfz G S1) (upd H1 dx (.xd [(f, v)])) (nfz G (sput S1 dx (.xd [(f, y)]))) := (Keep.new nd1).newCell nd1
  obtain ⟨r2, t2, _⟩ := r1.newCell (o := .xd [(f, v)]) (c := .xd [(f, y)]) a1.g nd1 ⟨_, upd_same, v, _, rfl, Rl.keep kp _ _ ly, rfl⟩
  exact ⟨G, _, (a1.next t2 r2).c, r2, q dx (r1.none_of nd1)⟩

/-! ### e.f, e a caught exception -/
structure XcF (K : PySem.W.Frag) (C : Addr) (f : Str) : Prop where
  ga : PySem.W.findIn K (.ref C) "__getattribute__" = some (some (.builtin "BaseException.__getattribute__"))
  gg : PySem.W.findIn K (.ref C) "__getattr__" = some none
  exC : PySem.W.subIn K (.ref C) (.type "BaseException") = some true
  hdC : PySem.W.hasDictIn K C = true
  no : PySem.W.findIn K (.ref C) f = some none
def dXf (K : PySem.W.Frag) (f : Str) (t : TDE) : TDE := fun e S Q => t e S fun d S1 => ∃ a D dd fs x, d = .ref a ∧ S1 a = some (.exc (.ref D) (some dd)) ∧ S1 dd = some (.xd fs) ∧ XcF K D f ∧ fs.lookup f = some x ∧ Q x S1
theorem rlF_look {K : PySem.W.Frag} {H : Hp} {nf : Addr → Prop} {f : Str} : ∀ {fs : List (Str × D)} {vs : List (Str × V)} {x : D}, RlF K H nf fs vs → fs.lookup f = some x → ∃ v, vs.lookup f = some v ∧ Rl K H nf x v
  | [], vs, x, h, e => nomatch e
  | (g, y) :: fs, vs, x, h, e => by
    obtain ⟨v, r, rfl, h1, h2⟩ := h
    by_cases hg : (f == g) = true
    · simp only [List.lookup, hg] at e ⊢
      cases e
      exact ⟨v, rfl, h1⟩
    · have hg := Bool.eq_false_iff.mpr hg
      simp only [List.lookup, hg] at e ⊢
      exact rlF_look h2 e
theorem de_xf {f : Str} {te : TDE} (eK : X.K = K) (he : DE X C e te) (hb : attributeBase e f X.env (eval e X.env) = eval e X.env := by rfl) : DE X C (.Attribute e f pos) (dXf K f te) := by
  subst eK
  refine ⟨⟨fun pins s σ H Q I ⟨G, en, S, Q', at', h, k⟩ => ?_⟩⟩
  refine attr_of hb (thn (he.pe.run pins s σ H (fun v H1 => ∃ (a D dd : Addr) (fs : List (Str × V)) (y : V), v = .ref a ∧ H1 a = some (ExV (.ref D) (some dd) a) ∧ H1 dd = some (.xd fs) ∧ XcF X.K D f ∧ fs.lookup f = some y ∧ Q y H1) I ⟨G, en, S, _, at', h, fun d S1 v H1 t1 r1 l1 q => ?_⟩) fun u s1 hh => ?_)
  · obtain ⟨a, D, dd, fs, x, rfl, e1, e2, F, lk, q⟩ := q
    obtain ⟨vs, e3, rf⟩ := (r1 dd _ e2).2
    obtain ⟨y, ly, rl⟩ := rlF_look rf lk
    exact ⟨a, D, dd, vs, y, by rw [l1.of_ref], (r1 a _ e1).2, e3, F, ly, k _ _ _ _ t1 r1 rl q⟩
  · obtain ⟨v, H1, I1, rv, a, D, dd, fs, y, rfl, ea, ed, F, lk, q⟩ := hh
    obtain rfl : u = Value.ref a := rv
    have x : ObjOk X.prog X.w H1 s1.heap a (.ext fun h => ∃ oe vs, h.get? a = some oe ∧ Zc (.ref D) (some dd) oe ∧ oe.data = .fields vs) := I1.hok a _ ea
    obtain ⟨⟨oe, vs, hoe, hz, hdt⟩, _⟩ := x
    have hx : ObjOk X.prog X.w H1 s1.heap dd (.xd fs) := I1.hok dd _ ed
    obtain ⟨mA, hns, hr⟩ := hx
    obtain ⟨od, ho, hl⟩ := lookIn_ns hns
    obtain ⟨w, hw, rw'⟩ := RelO.some_of (v := y) (o := mA f) (by rw [← lk]; exact hr f)
    have J : PySem.W.InstAt s1.heap a oe D (some od) := ⟨hoe, hz.1, by unfold PySem.W.notCls; rw [hdt] <;> rfl, by rw [hz.2]; exact ho⟩
    exact HandSPX.exc_get I1.kIn J F.ga F.gg F.exC (PySem.W.findObj_own F.hdC F.no rfl (by rw [hl, hw])) (handed_of rw') ⟨y, H1, I1.tok _, rw', q⟩
end
end DL

/-! DL, part 5: defs with defaults that are ints. -/
namespace DL
open PySem PySem.Spec PyProof.Rows L2
/-- a def called without its last arguments, whose defaults are these ints -/
structure Fcd (P : Program) (w : World) (K : PySem.W.Frag) (mg : Str → Option Value) (base : Heap) (k : Nat) (x : Str) (ps : List Str) (ns : List Int) (sp : SpD) : Prop where
  ex : ∃ (f : Addr) (fd : FuncData), mg x = some (.ref f) ∧ PySem.W.keepIn K (.ref f) = true ∧ (∃ ds, Vals (ns.map V.int) ds ∧ Binds K fd ps ds) ∧ FnD P w K mg base k f fd ps sp
theorem Fcd.fc {P : Program} {w : World} {K : PySem.W.Frag} {mg : Str → Option Value} {base : Heap} {k : Nat} {x : Str} {ps : List Str} {sp : SpD} (F : Fcd P w K mg base k x ps [] sp) : Fc P w K mg base k x ps sp := by
  obtain ⟨f, fd, hm, hk, ⟨ds, hv, hb⟩, F⟩ := F.ex
  cases hv
  exact ⟨f, fd, hm, hk, hb, F⟩
section
variable {X : Cx} {C : Ct} {k : Nat} {x : Str} {ps : List Str} {ns : List Int} {sp : SpD} {E : XKD} {p pos : Pos} {a : Expr} {es : List Expr} {t : TDA}
def dCallD (ns : List Int) (sp : SpD) (E : XKD) (t : TDA) : TDE := fun e S Q => t e S fun ds S1 => sp (ds ++ ns.map D.int) S1 Q E
theorem de_callD (F : Fcd X.prog X.w X.K X.mg X.base k x ps ns sp) (hr : Rm k X.A) (hx : XOk X C E) (hg : Gl X x) (ha : DA X C (a :: es) t)
    (hdb : (x == ("__debug__" : Str)) = false := by decide) (he : starEach (a :: es) X.env = (false, eval a X.env) :: starEach es X.env := by rfl) (hpl : (backTo pos (starEach es X.env)).any (·.1) = false := by rfl) :
    DE X C (.Call (.Name x p) (a :: es) [] pos) (dCallD ns sp E t) := by
  obtain ⟨f, fd, hm, hk, ⟨dvs, hv, hb⟩, F⟩ := F.ex
  refine ⟨⟨fun pins s σ H Q I ⟨G, e, S, Q', at', h, k⟩ => ?_⟩⟩
  refine wpAny_Call_Name_kw (ld_glob I hg hm ?_ hdb)
  refine PySem.W.callWith_K (h₀ := X.base) I.ok.mod.kin hk (thn (ha.pa.run pos pins s σ H (fun vs H1 => LSp X.K sp (vs ++ ns.map V.int) H1 Q (EL X.K C E)) I ⟨G, e, S, _, at', h, fun ds S1 vs H1 t1 r1 l1 h1 => lsp_of (at'.next t1 r1) (RlA.app l1 (RlA.ints ns)) h1 (k.tr t1)⟩) fun us s1 ⟨vs, H1, I1, r, q⟩ => ⟨I1.kIn, ?_⟩) he hpl
  have r2 : Vals (vs ++ ns.map V.int) (us ++ dvs) := r.append hv
  have hl : (us ++ dvs).length = ps.length := by
    obtain ⟨G, S, ds, Q', E', rep, g, l, hs, _⟩ := q
    rw [← r2.length, ← l.length]; exact F.len _ _ _ _ hs
  have hx' := passes_call hx fun _ _ _ _ h => h
  refine wpAny_call (codeAny_mono (F.run X.A X.stack s1 H1 ⟨us, []⟩ (us ++ dvs) (vs ++ ns.map V.int) Q _ hr I1.env0 (hb s1 us I1.kIn hl) r2 q) fun z s' hq => ?_)
  cases z with
  | error e => exact hx' pins σ H1 s1 e s' I1 hq
  | ok fl =>
    cases fl with
    | ret u => exact I1.after hq
    | next => exact False.elim hq
    | brk => exact False.elim hq
    | cont => exact False.elim hq
end
section
variable {P : Program} {w : World} {K : PySem.W.Frag} {mg : Str → Option Value} {base : Heap}
/-- a def with defaults, as K has it -/
abbrev FunI (K : PySem.W.Frag) (x : Str) (st : Stmt) (ns : List Int) (f : Addr) (fd : FuncData) : Prop := FunD K x x (defArgs st) (defBody st) (defScope st) (ns.map V.int) [] f fd
theorem FnD.ofI {x : Str} {st : Stmt} {ns : List Int} {f : Addr} {fd : FuncData} {N ps : List Str} {k : Nat} {sp : SpD} {t : XKD → TDS} (F : FunI K x st ns f fd) (Sc : FnScope N ps (defScope st)) (len : ∀ ds S Q E, sp ds S Q E → ds.length = ps.length)
    (hbody : ∀ (X : Cx) (C : Ct) (E' : XKD) (cdv : Value) (A : Around) (outer : List Env) (s : Shared) (H : Hp) (E : XK), X = cxOf (L2.CX P w) P w K mg base N x (defScope st) f cdv A outer s H E → Rm k X.A → XOk X C E' → PassesOwn (model X.prog X.w) X.A X.env X.xe → X.calm = true →
      DSs X C (defBody st) (t E'))
    (hsp : ∀ ds S Q E', sp ds S Q E' → t (FinX E') { nx := fun _ S' => Fin Q .non S', rt := Fin Q } (startD N ds) S) : FnD P w K mg base (k + 1) f fd ps sp := by
  obtain ⟨oc, od, dV, kV, doc, pm, an, cdv, ct, osl, rfl, lk, hcd, _, _⟩ := F.ex
  exact FnD.ofG lk hcd Sc len hbody hsp
end
theorem funI_mk {K : PySem.W.Frag} {x : Str} {st : Stmt} {n : Int} {f T : Addr} {oc : Value} {od an : Option Addr} {osl slT : Array (Option Value)} {kV doc pm cdv ct : Value} {tk : Tok} {m : Nat} (l : K.lookup f = some ⟨oc, od, .func (PySem.W.fnOf x x (defArgs st) (defBody st) (defScope st) (.ref T) kV doc pm an cdv ct), osl⟩)
    (lT : K.lookup T = some ⟨.type "tuple", none, .seq #[.int n tk] m, slT⟩) (c : PySem.W.codeIn K cdv x = true) (k : PySem.W.keepIn K (.ref f) = true) : FunI K x st [n] f (PySem.W.fnOf x x (defArgs st) (defBody st) (defScope st) (.ref T) kV doc pm an cdv ct) :=
  ⟨⟨oc, od, .ref T, kV, doc, pm, an, cdv, ct, osl, rfl, l, c, .inr ⟨List.cons_ne_nil _ _, T, _, [.int n tk], m, rfl, lT, rfl, .cons ⟨_, rfl⟩ .nil⟩, .inl rfl⟩, k⟩
end DL

/-! DL, part 6: range of three; chains of any length as tests. -/
namespace DL
open PySem PySem.Spec PyProof.Rows L2
/-- a + 0 c, a + 1 c, .. -/
def rng3 (a c : Int) (n : Nat) : List Int := (List.range n).map fun i => a + (i : Nat) * c
theorem rng3_len {a c : Int} {n : Nat} : (rng3 a c n).length = n := by simp [rng3]
def szR (i j c : Int) : Nat := (Builtin.Range.rangeSize i j c).toNat
section
variable {X : Cx} {C : Ct}
theorem walkd_rng3 {K : PySem.W.Frag} {G : Addr → Prop} {S : Sto} {H : Hp} {a c : Int} {n : Nat} : WalkD K G (Itc a c n) ((rng3 a c n).map D.int) (fun _ => True) S H := fun G2 S2 H2 sub t r2 _ => by
  have hl : ((rng3 a c n).map D.int).length = n := by rw [List.length_map, rng3_len]
  refine ⟨by rw [hl]; exact Nat.le_refl _, fun i d e => ?_⟩
  have hi : i < n := by rw [← hl]; exact (List.getElem?_eq_some_iff.mp e).1
  refine ⟨hi, fun x H3 y => ?_⟩
  obtain ⟨rfl, rfl⟩ := y
  refine ⟨Tr.refl, r2, ?_⟩
  have : d = .int (a + (i : Nat) * c) := by
    simp only [rng3, List.getElem?_map, List.getElem?_range hi] at e
    exact (Option.some.inj e).symm
  subst this
  exact Rl.int
theorem rgc2 {i j : Int} (h1 : -(2 ^ 40) ≤ i) (h2 : i < 2 ^ 40) (h3 : -(2 ^ 40) ≤ j) (h4 : j < 2 ^ 40) : RgC i j 2 (szR i j 2) := by
  have e : Builtin.Range.rangeSize i j 2 = if i < j then (j - i - 1) / 2 + 1 else 0 := by
    unfold Builtin.Range.rangeSize
    rw [if_pos (by decide)]
  have e2 : Builtin.Range.rangeSize i j 2 = ((szR i j 2 : Nat) : Int) := by
    unfold szR
    rw [e]
    split <;> omega
  refine ⟨by decide, by decide, ?_, e2⟩
  unfold Builtin.Range.small
  rw [e]
  simp only [Builtin.Range.rangeFitsLong, Bool.and_eq_true, Bool.or_eq_true, decide_eq_true_eq, beq_iff_eq, show (2 : Int) > 0 by decide, if_true]
  split <;> omega
/-- range(i, j, 2) -/
def iR3 (t u v : TDE) : TDI := fun e S Q => t e S fun d1 S1 => u e S1 fun d2 S2 => v e S2 fun d3 S3 => match d1 with
  | .int i => (match d2 with
    | .int j => (match d3 with
      | .int c => (c = 2 ∧ -(2 ^ 40) ≤ i ∧ i < 2 ^ 40 ∧ -(2 ^ 40) ≤ j ∧ j < 2 ^ 40) ∧ Q ((rng3 i 2 (szR i j 2)).map D.int) (fun _ => True) S3
      | _ => False)
    | _ => False)
  | _ => False
theorem di_r3 {tg a b c : Expr} {t u v : TDE} {p pos : Pos} (hg : Gl X "range") (hm : X.mg "range" = none) (ha : DE X C a t) (hb : DE X C b u) (hc : DE X C c v)
    (h1 : starEach [a, b, c] X.env = (false, eval a X.env) :: starEach [b, c] X.env := by rfl) (h2 : starEach [b, c] X.env = (false, eval b X.env) :: starEach [c] X.env := by rfl) (h3 : starEach [c] X.env = (false, eval c X.env) :: starEach [] X.env := by rfl)
    (hpl : (backTo pos (starEach [b, c] X.env)).any (·.1) = false := by rfl) : DI X C tg (.Call (.Name "range" p) [a, b, c] [] pos) (iR3 t u v) :=
  ⟨PI.imp (pi_range3 hg hm (pa_cons ha.pe (pa_cons hb.pe (pa_cons hc.pe pa_nil h3) h2) h1) h1 hpl) fun σ H R ⟨G, e, S, Q', at', h, k⟩ => ⟨G, e, S, _, at', h, fun d S1 v H1 t1 r1 l1 h1 => ⟨G, e, S1, _, at'.next t1 r1, h1, fun d2 S2 v2 H2 t2 r2 l2 h2 => ⟨G, e, S2, _, (at'.next t1 r1).next t2 r2, h2, fun d3 S3 v3 H3 t3 r3 l3 h3 => by
    cases d with
    | int i => cases d2 with
      | int j => cases d3 with
        | int c =>
          obtain ⟨⟨rfl, b1, b2, b3, b4⟩, q⟩ := h3
          exact ⟨i, j, 2, szR i j 2, by rw [l1.of_int, l2.of_int, l3.of_int], rgc2 b1 b2 b3 b4, k _ _ S3 _ H3 (t1.trans (t2.trans t3)) r3 walkd_rng3 q⟩
        | _ => exact False.elim h3
      | _ => exact False.elim h3
    | _ => exact False.elim h3⟩⟩⟩⟩
/-! ### chains as tests -/
/-- a chain's rest; what stands left of it is d -/
structure DCh (X : Cx) (C : Ct) (pos : Pos) (ops : List CmpOp) (es : List Expr) (t : D → TDT) : Prop where
  run : ∀ (pins : List (Addr × Obj)) (s : Shared) (σ : L2.St) (H : Hp) (v : V) (u : Value) (Q : Bool → Hp → Prop), L2.Inv X pins σ H s → RelV v u →
    (∃ G d e S Q', At X.K C G e S σ H ∧ Rl X.K H (nfz G S) d v ∧ t d e S Q' ∧ ∀ b S' H', Tr S H S' H' → RepS X.K G S' H' → Q' b S' → Q b H') →
    wpAny (model X.prog X.w) X.A (testChain pos u ops (evalEach es X.env)) (TP X pins σ Q) X.xe s
def dLink (r : RD2) (tb : TDE) (k : D → TDT) : D → TDT := fun x e S Q => tb e S fun y S1 => r x y S1 fun z S2 => match z with
  | .bl true => k y e S2 Q
  | .bl false => Q false S2
  | _ => False
def dLast (r : RD2) (tb : TDE) : D → TDT := fun x e S Q => tb e S fun y S1 => r x y S1 fun z S2 => match z with
  | .bl b => Q b S2
  | _ => False
variable {pos : Pos} {op op' : CmpOp} {ops : List CmpOp} {a b b' : Expr} {es : List Expr} {r : RD2} {ta tb : TDE} {kk : D → TDT}
theorem dch_last (ho : OpR X (compareOp op) (LR2 X.K r)) (hb : DE X C b tb) : DCh X C pos [op] [b] (dLast r tb) :=
  ⟨fun pins s σ H v u Q I rv ⟨G, d, e, S, Q', at', l, h, k⟩ => test_last (thn (hb.pe.run pins s σ H _ I ⟨G, e, S, _, at', h, fun d2 S2 v2 H2 t2 r2 l2 h2 =>
      (⟨G, d, d2, S2, _, r2, (at'.next t2 r2).g, l.tr at'.rep t2, l2, h2, dTst_aft fun c S' H' t3 r3 q => k c S' H' (t2.trans t3) r3 q⟩ : LR2 X.K r v v2 H2 _)⟩) fun u2 s2 ⟨y, H2, I2, ry, q2⟩ =>
    thn (ho pins s2 σ H2 v y u u2 _ I2 rv ry q2) fun c s3 ⟨z, H3, I3, r3, k2, e2, q3⟩ => by
      subst e2
      cases r3
      exact wpAny_truthy_bool ⟨H3, I3, q3⟩)⟩
theorem dch_link (ho : OpR X (compareOp op) (LR2 X.K r)) (hb : DE X C b tb) (hk : DCh X C pos (op' :: ops) (b' :: es) kk) : DCh X C pos (op :: op' :: ops) (b :: b' :: es) (dLink r tb kk) :=
  ⟨fun pins s σ H v u Q I rv ⟨G, d, e, S, Q', at', l, h, k⟩ => test_link (thn (hb.pe.run pins s σ H (fun y H2 => LR2 X.K r v y H2 fun z H3 => ∃ c, z = .bl c ∧ if c = true then (∃ G d e S Q', At X.K C G e S σ H3 ∧ Rl X.K H3 (nfz G S) d y ∧ kk d e S Q' ∧ ∀ b S' H', Tr S H3 S' H' → RepS X.K G S' H' → Q' b S' → Q b H') else Q false H3) I ⟨G, e, S, _, at', h, fun d2 S2 v2 H2 t2 r2 l2 h2 =>
      ⟨G, d, d2, S2, _, r2, (at'.next t2 r2).g, l.tr at'.rep t2, l2, h2, fun d3 S3 v3 H3 t3 r3 l3 q3 => by
        cases d3 with
        | bl c =>
          refine ⟨c, l3.of_bl, ?_⟩
          cases c with
          | false => exact iteF (k false S3 H3 (t2.trans t3) r3 q3)
          | true => exact iteT ⟨G, d2, e, S3, Q', (at'.next t2 r2).next t3 r3, l2.tr r2 t3, q3, fun b S' H' t4 r4 q4 => k b S' H' (t2.trans (t3.trans t4)) r4 q4⟩
        | _ => exact False.elim q3⟩⟩) fun u2 s2 ⟨y, H2, I2, ry, q2⟩ =>
    thn (ho pins s2 σ H2 v y u u2 _ I2 rv ry q2) fun c s3 ⟨z, H3, I3, r3, k2, e2, q3⟩ => by
      subst e2
      cases r3
      refine wpAny_truthy_bool ?_
      cases k2 with
      | false => exact ite_ff ⟨H3, I3, q3⟩
      | true => exact ite_tt (hk.run pins s3 σ H3 y u2 Q I3 ry q3))⟩
def dChn (ta : TDE) (k : D → TDT) : TDT := fun e S Q => ta e S fun x S1 => k x e S1 Q
theorem dt_chainN {op1 op2 : CmpOp} {b1 b2 : Expr} (ha : DE X C a ta) (hk : DCh X C pos (op1 :: op2 :: ops) (b1 :: b2 :: es) kk) (hm : lastMarks (op1 :: op2 :: ops) (b1 :: b2 :: es) = false := by with_unfolding_all rfl) : DT X C (.Compare a (op1 :: op2 :: ops) (b1 :: b2 :: es) pos) (dChn ta kk) :=
  ⟨⟨fun pins s σ H Q I ⟨G, e, S, Q', at', h, k⟩ => isTrue_chain (thn (ha.pe.run pins s σ H (fun x H1 => ∃ G d e S Q', At X.K C G e S σ H1 ∧ Rl X.K H1 (nfz G S) d x ∧ kk d e S Q' ∧ ∀ b S' H', Tr S H1 S' H' → RepS X.K G S' H' → Q' b S' → Q b H') I ⟨G, e, S, _, at', h, fun d S1 v H1 t1 r1 l1 h1 =>
      ⟨G, d, e, S1, Q', at'.next t1 r1, l1, h1, fun b S' H' t2 r2 q2 => k b S' H' (t1.trans t2) r2 q2⟩⟩) fun u s1 ⟨x, H1, I1, rx, q1⟩ => hk.run pins s1 σ H1 x u Q I1 rx q1) hm⟩⟩
end
end DL

/-! DL, part 7: sorted of a list of tuples. -/
namespace DL
open PySem PySem.Spec PyProof.Rows L2
/-- sorted of data -/
def srtD (xs : List D) : List D := xs.mergeSort (PySem.W.dataLe false toP)
structure SrtOk (xs : List D) : Prop where
  al : PySem.W.AllAlike (xs.map toP)
  kd : PySem.W.Sortable (xs.map toP)
  sh : ∀ x ∈ xs, shp 60 x = true
def rSortDat (K : PySem.W.Frag) : List V → Hp → VK → Prop := fun vs H Q => ∃ (a : Addr) (xs : List V) (ds : List D) (nf : Addr → Prop), vs = [V.ref a] ∧ SqL K H a xs ∧ RlA K H nf ds xs ∧ SrtOk ds ∧
  ∀ out p, RlA K H nf (srtD ds) out → H p = none → Q (.ref p) (upd H p (.lst out))
section
variable {K : PySem.W.Frag} {H : Hp} {nf : Addr → Prop}
/-- the value u is the data d -/
def RvD (K : PySem.W.Frag) (H : Hp) (nf : Addr → Prop) (u : Value) (d : D) : Prop := ∃ v, RelV v u ∧ Rl K H nf d v
theorem each_rv : ∀ {ds : List D} {xs : List V} {us : List Value}, RlA K H nf ds xs → Vals xs us → PySem.W.EachIs (RvD K H nf) us ds
  | [], xs, us, h, r => by
    rw [h.of_nil] at r
    cases r
    exact .nil
  | d :: ds, xs, us, h, r => by
    obtain ⟨v, t, rfl, h1, h2⟩ := h.of_cons
    cases r with
    | cons r1 r2 => exact .cons ⟨v, r1, h1⟩ (each_rv h2 r2)
theorem rv_each : ∀ {ds : List D} {us : List Value}, PySem.W.EachIs (RvD K H nf) us ds → ∃ xs, Vals xs us ∧ RlA K H nf ds xs
  | _, _, .nil => ⟨[], .nil, RlA.nil⟩
  | _, _, .cons ⟨v, r1, h1⟩ t => by
    obtain ⟨xs, r2, h2⟩ := rv_each t
    exact ⟨v :: xs, .cons r1 r2, RlA.cons h1 h2⟩
end
theorem each_imp {α β : Type} {R R' : α → β → Prop} : ∀ {as : List α} {bs : List β}, PySem.W.EachIs R as bs → (∀ a b, b ∈ bs → R a b → R' a b) → PySem.W.EachIs R' as bs
  | _, _, .nil, _ => .nil
  | _, _, .cons h t, k => .cons (k _ _ List.mem_cons_self h) (each_imp t fun a b hb => k a b (List.mem_cons_of_mem _ hb))
section
variable {X : Cx}
theorem cr_sortedDat (hu : X.A.units + 65 < cLine) : CallR X (.builtin "sorted") (rSortDat X.K) := by
  intro pins s σ H vs us Q I r h
  obtain ⟨a, xs, ds, nf, rfl, hs, hr, ok, q⟩ := h
  obtain ⟨its, rv, hl, hz⟩ := I.list hs
  rw [Vals.ref1 r]
  have e := each_rv hr rv
  have hlen : ds.length ≤ sizeLine := by rw [hr.length]; exact hz
  refine PySem.W.sorted_data (enc := toP) (bs := ds) (R := RvD X.K H nf) hl.isList e (each_imp e fun u d hd ⟨v, r1, h1⟩ => ?_) ok.al ok.kd hlen (fun d hd => ?_) fun out ho hR => ?_
  · exact Dp.reads I (toP d) v u (Rl.dp 60 d v (ok.sh d hd) h1) r1
  · have := (shp_ok 60 d (ok.sh d hd)).2
    omega
  · obtain ⟨xs', rv', hr'⟩ := rv_each hR
    obtain ⟨ep, he'⟩ := PyProof.Rows.sortedAll_at s.heap its out.toArray
    have hlen2 : xs'.length ≤ sizeLine := by rw [rv'.length, ho]; exact hlen
    exact ⟨.ref _, upd H (s.heap.objs.size + 1) (.lst xs'), I.laid (t' := s.toks) (fun _ _ => PyProof.Rows.sortedAll_old) (Nat.le_succ _) ⟨hlen2, out, ep, rv', he'⟩, rfl, q _ _ hr' (I.hok.fresh (Nat.le_succ _))⟩
/-- sorted(a list of tuples) -/
def sortDR (c : Bool) : D → Sto → KD → Prop := fun d S Q => ∃ xs, asL S d = some xs ∧ SrtOk xs ∧ mkL c (srtD xs) S Q
theorem cr_sortT (c : Bool) (hu : X.A.units + 65 < cLine) : CallR X (.builtin "sorted") (LRL X.K (one (sortDR c))) := cr_one (cr_sortedDat hu) fun v H Q ⟨G, d, S, Q', r, g, l, ⟨xs, e, ok, q⟩, k⟩ => by
  obtain ⟨a, vs, rfl, h1, h2⟩ := of_asL r e l
  exact ⟨a, vs, xs, _, rfl, h1, h2, ok, fun out p h3 n => mkL_ok r g h3 n q k⟩
end
/-! rows of ints -/
theorem toP_tpk {ns : List Int} : toP (.tpk ns) = .tuple (ns.map PyData.int) := toP_T rfl
def leI (a b : List Int) : Bool := !decide (b < a)
theorem dataLe_tpk (a b : List Int) : PySem.W.dataLe false toP (.tpk a) (.tpk b) = leI a b := by
  rw [PySem.W.dataLe_eq]
  show (!PySem.W.dataLt (toP (.tpk b)) (toP (.tpk a))) = _
  rw [toP_tpk, toP_tpk, PySem.W.dataLt_tuple]
  exact congrArg (!·) (PySem.W.dataLt_ints b a)
def srtR (rs : List (List Int)) : List (List Int) := rs.mergeSort leI
theorem srtD_tpk (rs : List (List Int)) : srtD (rs.map D.tpk) = (srtR rs).map D.tpk :=
  (List.map_mergeSort (f := D.tpk) (l := rs) (r := leI) (s := PySem.W.dataLe false toP) fun a _ b _ => (dataLe_tpk a b).symm).symm
theorem srtOk_tpk {rs : List (List Int)} (h : ∀ r ∈ rs, r ≠ []) : SrtOk (rs.map D.tpk) where
  al := by
    intro d hd d' hd'
    simp only [List.map_map, List.mem_map] at hd hd'
    obtain ⟨r, _, rfl⟩ := hd
    obtain ⟨r', _, rfl⟩ := hd'
    show PySem.W.alike (toP (.tpk r)) (toP (.tpk r')) = true
    rw [toP_tpk, toP_tpk]
    show PySem.W.alike (.tuple _) (.tuple _) = true
    rw [PySem.W.alike]
    exact PySem.W.alike_ints r r'
  kd := .inl fun d hd => by
    simp only [List.map_map, List.mem_map] at hd
    obtain ⟨r, hr, rfl⟩ := hd
    cases r with
    | nil => exact absurd rfl (h _ hr)
    | cons x t => exact ⟨.int x, t.map PyData.int, by show toP (.tpk (x :: t)) = _; rw [toP_tpk]; rfl⟩
  sh := fun x hx => by
    obtain ⟨r, _, rfl⟩ := List.mem_map.mp hx
    exact shp_T (n := 59) rfl
end DL

/-! DL, part 8: dicts whose keys are tuples of ints. -/
namespace DL
open PySem PySem.Spec PyProof.Rows L2
theorem intsD_map : ∀ {xs : List D} {ns : List Int}, intsD xs = some ns → xs = ns.map D.int
  | [], ns, h => by cases h; rfl
  | x :: xs, ns, h => by
    cases x with
    | int i =>
      cases q : intsD xs with
      | none => simp [intsD, q] at h
      | some r =>
        simp only [intsD, q, Option.map_some, Option.some.injEq] at h
        rw [← h, intsD_map q]; rfl
    | _ => cases h
theorem intsD_ints : ∀ {ns : List Int}, intsD (ns.map D.int) = some ns
  | [] => rfl
  | n :: ns => by rw [List.map_cons, intsD, intsD_ints]; rfl
theorem keyI_T {d : D} {ns : List Int} (h : keyI d = some ns) : asT d = some (ns.map D.int) := by
  cases d with
  | tpk ms => cases h; rfl
  | tup xs => rw [intsD_map h]; rfl
  | _ => cases h
/-- what the dict has at the key -/
def getK (kvs : List (D × D)) (ks : List Int) : Option D := (kvs.find? fun p => decide (keyI p.1 = some ks)).map (·.2)
def hasK (kvs : List (D × D)) (ks : List Int) : Bool := kvs.any fun p => decide (keyI p.1 = some ks)
def setK (kvs : List (D × D)) (ks : List Int) (k v : D) : List (D × D) := if hasK kvs ks then kvs.map fun p => if keyI p.1 = some ks then (p.1, v) else p else kvs ++ [(k, v)]
def dropKey (kvs : List (D × D)) (ks : List Int) : List (D × D) := kvs.filter fun p => !decide (keyI p.1 = some ks)
def keysK (kvs : List (D × D)) : List D := kvs.map (·.1)
/-- the keys' ints, each once -/
abbrev Rx : (List Int × Addr × V) → (List Int × Addr × Value) → Prop := fun x y => x.1 = y.1 ∧ x.2.1 = y.2.1 ∧ RelV x.2.2 y.2.2
section
variable {K : PySem.W.Frag} {H : Hp} {nf : Addr → Prop}
theorem RlD.length : ∀ {kvs : List (D × D)} {xs : List (List Int × Addr × V)}, RlD K H nf kvs xs → kvs.length = xs.length
  | [], xs, h => by rw [show xs = [] from h]; rfl
  | p :: r, xs, h => by
    obtain ⟨ks, b, v, t, rfl, _, _, _, h3⟩ := h
    simp [RlD.length h3]
theorem sq_key {d : D} {ks : List Int} {b : Addr} (h0 : keyI d = some ks) (h1 : Rl K H nf d (.ref b)) : SqT K H b (ks.map V.int) := by
  cases d with
  | tpk ns =>
    cases h0
    obtain ⟨a, e, h⟩ := h1.of_tpk
    cases e
    exact h.sq
  | tup xs =>
    rw [intsD_map h0] at h1
    obtain ⟨a, vs, e, h2, h3⟩ := h1.of_tup
    cases e
    rw [h3.of_ints] at h2
    exact h2
  | _ => cases h0
theorem RlD.sq : ∀ {kvs : List (D × D)} {xs : List (List Int × Addr × V)}, RlD K H nf kvs xs → ∀ x ∈ xs, SqT K H x.2.1 (x.1.map V.int)
  | [], xs, h => by rw [show xs = [] from h]; exact fun _ z => nomatch z
  | p :: r, xs, h => by
    obtain ⟨ks, b, v, t, rfl, h0, h1, h2, h3⟩ := h
    intro x hx
    rcases List.mem_cons.mp hx with rfl | hx
    · exact sq_key h0 h1
    · exact RlD.sq h3 x hx
theorem RlD.get : ∀ {kvs : List (D × D)} {xs : List (List Int × Addr × V)} {ks : List Int}, RlD K H nf kvs xs → (∀ d, getK kvs ks = some d → ∃ v, (xs.find? fun x => decide (x.1 = ks)).map (·.2.2) = some v ∧ Rl K H nf d v) ∧ (getK kvs ks = none → xs.find? (fun x => decide (x.1 = ks)) = none)
  | [], xs, ks, h => by
    rw [show xs = [] from h]
    exact ⟨(fun d z => nomatch z), fun _ => rfl⟩
  | p :: r, xs, ks, h => by
    obtain ⟨k, b, v, t, rfl, h0, h1, h2, h3⟩ := h
    by_cases e : k = ks
    · subst e
      have g : getK (p :: r) k = some p.2 := by unfold getK; rw [List.find?_cons, decide_eq_true h0]; rfl
      rw [g]
      refine ⟨fun d z => ?_, (fun z => nomatch z)⟩
      cases z
      exact ⟨v, by rw [List.find?_cons, decide_eq_true rfl]; rfl, h2⟩
    · have g : getK (p :: r) ks = getK r ks := by
        unfold getK
        rw [List.find?_cons, decide_eq_false (by rw [h0]; exact fun z => e (Option.some.inj z))]
      have g2 : (((k, b, v) :: t).find? fun x => decide (x.1 = ks)) = t.find? fun x => decide (x.1 = ks) := by rw [List.find?_cons, decide_eq_false e]
      rw [g, g2]
      exact RlD.get h3
theorem RlD.has : ∀ {kvs : List (D × D)} {xs : List (List Int × Addr × V)} {ks : List Int}, RlD K H nf kvs xs → hasK kvs ks = (getK kvs ks).isSome ∧ hasK kvs ks = (xs.any fun x => decide (x.1 = ks))
  | [], xs, ks, h => by rw [show xs = [] from h]; exact ⟨rfl, rfl⟩
  | p :: r, xs, ks, h => by
    obtain ⟨k, b, v, t, rfl, h0, h1, h2, h3⟩ := h
    obtain ⟨a1, a2⟩ := RlD.has (ks := ks) h3
    by_cases e : k = ks
    · subst e
      have c : decide (keyI p.1 = some k) = true := decide_eq_true h0
      unfold hasK getK
      rw [List.any_cons, List.find?_cons, List.any_cons, c, decide_eq_true rfl]
      exact ⟨rfl, rfl⟩
    · have c : decide (keyI p.1 = some ks) = false := decide_eq_false (by rw [h0]; exact fun z => e (Option.some.inj z))
      unfold hasK getK at *
      rw [List.any_cons, List.find?_cons, List.any_cons, c, decide_eq_false e]
      exact ⟨a1, a2⟩
/-- the entries with a value stored, the key's own tuple staying where it stood -/
def putX (xs : List (List Int × Addr × V)) (ks : List Int) (b : Addr) (v : V) : List (List Int × Addr × V) := if (xs.any fun x => decide (x.1 = ks)) then xs.map fun x => if x.1 = ks then (x.1, x.2.1, v) else x else xs ++ [(ks, b, v)]
theorem RlD.map {ks : List Int} {d : D} {v : V} (l : Rl K H nf d v) : ∀ {kvs : List (D × D)} {xs : List (List Int × Addr × V)}, RlD K H nf kvs xs → RlD K H nf (kvs.map fun p => if keyI p.1 = some ks then (p.1, d) else p) (xs.map fun x => if x.1 = ks then (x.1, x.2.1, v) else x)
  | [], xs, h => by rw [show xs = [] from h]; rfl
  | p :: r, xs, h => by
    obtain ⟨k, b, u, t, rfl, h0, h1, h2, h3⟩ := h
    have ih := RlD.map (ks := ks) l h3
    rw [List.map_cons, List.map_cons]
    by_cases e : k = ks
    · subst e
      rw [if_pos h0, if_pos rfl]
      exact ⟨k, b, v, _, rfl, h0, h1, l, ih⟩
    · rw [if_neg (by rw [h0]; exact fun z => e (Option.some.inj z)), if_neg e]
      exact ⟨k, b, u, _, rfl, h0, h1, h2, ih⟩
theorem RlD.snoc {ks : List Int} {k d : D} {b : Addr} {v : V} (hk : keyI k = some ks) (l1 : Rl K H nf k (.ref b)) (l : Rl K H nf d v) : ∀ {kvs : List (D × D)} {xs : List (List Int × Addr × V)}, RlD K H nf kvs xs → RlD K H nf (kvs ++ [(k, d)]) (xs ++ [(ks, b, v)])
  | [], xs, h => by rw [show xs = [] from h]; exact ⟨ks, b, v, [], rfl, hk, l1, l, rfl⟩
  | p :: r, xs, h => by
    obtain ⟨k', b', u, t, rfl, h0, h1, h2, h3⟩ := h
    exact ⟨k', b', u, _, rfl, h0, h1, h2, RlD.snoc hk l1 l h3⟩
theorem RlD.put {ks : List Int} {k d : D} {b : Addr} {v : V} (hk : keyI k = some ks) (l1 : Rl K H nf k (.ref b)) (l : Rl K H nf d v) {kvs : List (D × D)} {xs : List (List Int × Addr × V)} (h : RlD K H nf kvs xs) : RlD K H nf (setK kvs ks k d) (putX xs ks b v) := by
  unfold setK putX
  rw [← (RlD.has (ks := ks) h).2]
  split
  · exact h.map l
  · exact h.snoc hk l1 l
theorem RlD.drop {ks : List Int} : ∀ {kvs : List (D × D)} {xs : List (List Int × Addr × V)}, RlD K H nf kvs xs → RlD K H nf (dropKey kvs ks) (xs.filter fun x => !decide (x.1 = ks))
  | [], xs, h => by rw [show xs = [] from h]; rfl
  | p :: r, xs, h => by
    obtain ⟨k', b', u, t, rfl, h0, h1, h2, h3⟩ := h
    have ih := RlD.drop (ks := ks) h3
    unfold dropKey at *
    rw [List.filter_cons, List.filter_cons]
    by_cases e : k' = ks
    · subst e
      rw [decide_eq_true h0, decide_eq_true rfl]
      exact ih
    · rw [decide_eq_false (by rw [h0]; exact fun z => e (Option.some.inj z)), decide_eq_false e]
      exact ⟨k', b', u, _, rfl, h0, h1, h2, ih⟩
end
/-! ### the rules of the layer below -/
abbrev tkI (P : Program) (w : World) := tupleKind (intKind P w)
theorem items_int {P : Program} {w : World} : ∀ {ks : List Int} {us : List Value}, Vals (ks.map V.int) us → ItemsAre (intKind P w) ks us
  | [], _, r => by rw [List.map_nil] at r; cases r; exact .nil
  | k :: ks, _, r => by
    rw [List.map_cons] at r
    cases r with
    | cons h t =>
      obtain ⟨tk, rfl⟩ := h
      refine .cons ?_ (items_int t)
      show Value.isInt k (.int k tk) = true
      simp [Value.isInt]
section
variable {X : Cx} {pins : List (Addr × Obj)} {σ : L2.St} {H : Hp} {s : Shared} {a b : Addr} {A : Around} {E : Value → Shared → Prop}
theorem key_at (I : L2.Inv X pins σ H s) {ks : List Int} (h : SqT X.K H b (ks.map V.int)) : (tkI X.prog X.w).is s.heap ks b := by
  obtain ⟨its, r, ⟨⟨cls, dd, data, sl⟩, ho, hc, n, hd⟩, hs⟩ := I.tuple h
  exact ⟨_, its.toArray, n, ho, hc, hd, items_int r⟩
/-- how the dict stands -/
structure DStd (P : Program) (w : World) (h : Heap) (a : Addr) (xs : List (List Int × Addr × V)) (ys : List (List Int × Addr × Value)) : Prop where
  big : xs.length ≤ sizeLine
  sys : (a == sysModules) = false
  rel : Paired Rx xs ys
  dict : h.DictOfH (tkI P w) a ys
theorem rx_keys : ∀ {xs : List (List Int × Addr × V)} {ys : List (List Int × Addr × Value)}, Paired Rx xs ys → ys.map (·.1) = xs.map (·.1)
  | _, _, .nil => rfl
  | _, _, .cons h t => by rw [List.map_cons, List.map_cons, rx_keys t, h.1]
theorem rx_mem : ∀ {xs : List (List Int × Addr × V)} {ys : List (List Int × Addr × Value)}, Paired Rx xs ys → ∀ y ∈ ys, ∃ x ∈ xs, Rx x y
  | _, _, .nil => fun _ h => nomatch h
  | _, _, .cons h t => fun y hy => by
    rcases List.mem_cons.mp hy with rfl | hy
    · exact ⟨_, List.mem_cons_self, h⟩
    · obtain ⟨x, hx, r⟩ := rx_mem t y hy
      exact ⟨x, List.mem_cons_of_mem _ hx, r⟩
theorem dstd_at (I : L2.Inv X pins σ H s) {xs : List (List Int × Addr × V)} (e : H a = some (DcO a xs)) (hk : ∀ x ∈ xs, SqT X.K H x.2.1 (x.1.map V.int)) : ∃ ys, DStd X.prog X.w s.heap a xs ys := by
  obtain ⟨⟨h1, h2, h3, ys, o, es, ep, h4, h5, h6, h7, h8⟩, _, _⟩ := (show ObjOk X.prog X.w H s.heap a (DcO a xs) from I.hok a _ e)
  refine ⟨ys, h1, h2, h4, o, es, ep, h5, h6, h7, h8 X.prog X.w, fun y hy => ?_, by rw [rx_keys h4]; exact h3⟩
  obtain ⟨x, hx, r1, r2, _⟩ := rx_mem h4 y hy
  rw [← r1, ← r2]
  exact key_at I (hk x hx)
theorem dste_at (I : L2.Inv X pins σ H s) {z : Pin} (e : H a = some (DcE a z)) (hk : ∀ x ∈ z.xs, SqT X.K H x.2.1 (x.1.map V.int)) : ∃ ys, DStd X.prog X.w s.heap a z.xs ys := by
  obtain ⟨⟨h1, h2, h3, ys, h4, h5, h6, h7, h8⟩, _, _⟩ := (show ObjOk X.prog X.w H s.heap a (DcE a z) from I.hok a _ e)
  refine ⟨ys, h1, h2, h4, z.o, z.es, z.ep, h5, h6, h7, h8 X.prog X.w, fun y hy => ?_, by rw [rx_keys h4]; exact h3⟩
  obtain ⟨x, hx, r1, r2, _⟩ := rx_mem h4 y hy
  rw [← r1, ← r2]
  exact key_at I (hk x hx)
theorem ent_eq {P P' : Program} {w w' : World} (x : List Int × Addr × Value) : entryOfKey (tkI P w) x = entryOfKey (tkI P' w') x := rfl
/-- it stands so: it is the thing in the heap -/
theorem dco_of {P : Program} {w : World} {H' : Hp} {h : Heap} {xs : List (List Int × Addr × V)} {ys : List (List Int × Addr × Value)} (z : DStd P w h a xs ys) : ObjOk P w H' h a (DcO a xs) := by
  obtain ⟨z1, z2, z3, o, es, ep, h5, h6, h7, h8, _, h10⟩ := z
  refine ⟨⟨z1, z2, by rw [← rx_keys z3]; exact h10, ys, o, es, ep, z3, h5, h6, h7, fun P' w' => ?_⟩, ⟨o, h5⟩, fun h1 h2 => ?_⟩
  · rw [h8]; exact List.map_congr_left fun x _ => ent_eq x
  · rintro ⟨a1, a2, a3, ys, o, es, ep, a4, a5, a6, a7, a8⟩ k
    exact ⟨a1, a2, a3, ys, o, es, ep, a4, k o a5, a6, a7, a8⟩
theorem rx_at : ∀ {xs : List (List Int × Addr × V)} {ys : List (List Int × Addr × Value)} (ks : List Int), Paired Rx xs ys → (∀ v, (xs.find? fun x => decide (x.1 = ks)).map (·.2.2) = some v → ∃ p, atKey ys ks = some p ∧ RelV v p.2) ∧ (xs.find? (fun x => decide (x.1 = ks)) = none → atKey ys ks = none) ∧ (xs.any fun x => decide (x.1 = ks)) = (atKey ys ks).isSome
  | _, _, ks, .nil => ⟨(fun v h => nomatch h), (fun _ => rfl), rfl⟩
  | x :: xs, y :: ys, ks, .cons h t => by
    obtain ⟨i1, i2, i3⟩ := rx_at ks t
    by_cases e : x.1 = ks
    · have e' : y.1 = ks := h.1.symm.trans e
      have g : atKey (y :: ys) ks = some y.2 := by unfold atKey; rw [List.find?_cons, decide_eq_true e']; rfl
      rw [g, List.find?_cons, decide_eq_true e, List.any_cons, decide_eq_true e]
      exact ⟨(fun v z => ⟨_, rfl, by cases z; exact h.2.2⟩), (fun z => nomatch z), rfl⟩
    · have e' : ¬ y.1 = ks := fun z => e (h.1.trans z)
      have g : atKey (y :: ys) ks = atKey ys ks := by unfold atKey; rw [List.find?_cons, decide_eq_false e']
      rw [g, List.find?_cons, decide_eq_false e, List.any_cons, decide_eq_false e, Bool.false_or]
      exact ⟨i1, i2, i3⟩
theorem rx_map {ks : List Int} {v : V} {u : Value} (rv : RelV v u) {xs : List (List Int × Addr × V)} {ys : List (List Int × Addr × Value)} (h : Paired Rx xs ys) : Paired Rx (xs.map fun x => if x.1 = ks then (x.1, x.2.1, v) else x) (ys.map (putAt ks u)) := by
  induction h with
  | nil => exact .nil
  | @cons x y xs ys h t ih =>
    rw [List.map_cons, List.map_cons]
    refine .cons ?_ ih
    unfold putAt
    by_cases e : x.1 = ks
    · rw [if_pos e, if_pos (h.1.symm.trans e)]; exact ⟨h.1, h.2.1, rv⟩
    · rw [if_neg e, if_neg (fun z => e (h.1.trans z))]; exact h
theorem rx_put {ks : List Int} {v : V} {u : Value} (rv : RelV v u) {xs : List (List Int × Addr × V)} {ys : List (List Int × Addr × Value)} (h : Paired Rx xs ys) : Paired Rx (putX xs ks b v) (storedH ys ks b u) := by
  unfold putX storedH
  rw [(rx_at ks h).2.2]
  split
  · exact rx_map rv h
  · exact Paired.snoc h ⟨rfl, rfl, rv⟩
theorem rx_drop {ks : List Int} {xs : List (List Int × Addr × V)} {ys : List (List Int × Addr × Value)} (h : Paired Rx xs ys) : Paired Rx (xs.filter fun x => !decide (x.1 = ks)) (withoutH ys ks) := by
  unfold withoutH
  induction h with
  | nil => exact .nil
  | @cons x y xs ys h t ih =>
    rw [List.filter_cons, List.filter_cons]
    by_cases e : x.1 = ks
    · have e' : y.1 = ks := h.1.symm.trans e
      simpa [e, e'] using ih
    · have e' : ¬ y.1 = ks := fun z => e (h.1.trans z)
      simpa [e, e'] using Paired.cons h ih
theorem putX_len {xs : List (List Int × Addr × V)} {ks : List Int} {v : V} : (putX xs ks b v).length ≤ xs.length + 1 := by
  unfold putX; split
  · rw [List.length_map]; omega
  · rw [List.length_append]; exact Nat.le_refl _
end
/-- what the dict at a has at the key at b -/
def DcAt (H : Hp) (a : Addr) (xs : List (List Int × Addr × V)) : Prop := H a = some (DcO a xs) ∨ ∃ z : Pin, H a = some (DcE a z) ∧ z.xs = xs
def KGet (K : PySem.W.Frag) (H : Hp) (a b : Addr) (o : Option V) : Prop := ∃ xs ks, DcAt H a xs ∧ (∀ x ∈ xs, SqT K H x.2.1 (x.1.map V.int)) ∧ SqT K H b (ks.map V.int) ∧
  (∀ v, o = some v → (xs.find? fun x => decide (x.1 = ks)).map (·.2.2) = some v) ∧ (o = none → xs.find? (fun x => decide (x.1 = ks)) = none)
def KPut (K : PySem.W.Frag) (H : Hp) (a b : Addr) (v : V) (H' : Hp) : Prop := ∃ xs ks, H a = some (DcO a xs) ∧ (∀ x ∈ xs, SqT K H x.2.1 (x.1.map V.int)) ∧ SqT K H b (ks.map V.int) ∧ xs.length < sizeLine ∧ H' = upd H a (DcO a (putX xs ks b v))
section
variable {X : Cx} {pins : List (Addr × Obj)} {σ : L2.St} {H : Hp} {s : Shared} {a b : Addr} {A : Around} {E : Value → Shared → Prop} {o : Option V} {v d : V} {r : Value}
theorem kget_at (I : L2.Inv X pins σ H s) (g : KGet X.K H a b o) : ∃ xs ys ks, DStd X.prog X.w s.heap a xs ys ∧ (tkI X.prog X.w).is s.heap ks b ∧ (∀ v, o = some v → ∃ p, atKey ys ks = some p ∧ RelV v p.2) ∧ (o = none → atKey ys ks = none) := by
  obtain ⟨xs, ks, e, hk, hb, h1, h2⟩ := g
  obtain ⟨ys, z⟩ : ∃ ys, DStd X.prog X.w s.heap a xs ys := by
    rcases e with e | ⟨z, e, rfl⟩
    · exact dstd_at I e hk
    · exact dste_at I e hk
  obtain ⟨r1, r2, _⟩ := rx_at ks z.rel
  exact ⟨xs, ys, ks, z, key_at I hb, fun v e => r1 v (h1 v e), fun e => r2 (h2 e)⟩
theorem kget_type (I : L2.Inv X pins σ H s) (g : KGet X.K H a b o) : s.TypeIs (.ref a) "dict" := by
  obtain ⟨xs, ys, ks, z, _⟩ := kget_at I g
  exact z.dict.typeIs
theorem k_getItem {Q : Value → Shared → Prop} (hu : A.units + 1 < cLine) (I : L2.Inv X pins σ H s) (g : KGet X.K H a b (some v)) (h : ∀ w' s', L2.Inv X pins σ H s' → RelV v w' → Q w' s') :
    wpAny (model X.prog X.w) A (getItem (.ref a) (.ref b)) Q E s := by
  obtain ⟨xs, ys, ks, z, hk, h1, _⟩ := kget_at I g
  obtain ⟨p, hp, rp⟩ := h1 v rfl
  exact wpAny_getItem_heap (tupleKind_room_in1 hu) hk z.dict hp (h p.2 _ (I.tok _) rp)
theorem kget_some (I : L2.Inv X pins σ H s) (g : KGet X.K H a b o) : ∃ xs ys ks, DStd X.prog X.w s.heap a xs ys ∧ (tkI X.prog X.w).is s.heap ks b ∧ o.isSome = (atKey ys ks).isSome := by
  obtain ⟨xs, ys, ks, z, hk, h1, h2⟩ := kget_at I g
  refine ⟨xs, ys, ks, z, hk, ?_⟩
  cases o with
  | none => rw [h2 rfl]; rfl
  | some v => obtain ⟨p, hp, _⟩ := h1 v rfl; rw [hp]; rfl
theorem k_in {Q : Value → Shared → Prop} (hu : A.units + 1 < cLine) (I : L2.Inv X pins σ H s) (g : KGet X.K H a b o) (h : ∀ s', L2.Inv X pins σ H s' → Q (.bool o.isSome) s') :
    wpAny (model X.prog X.w) A (compareOp .In (.ref b) (.ref a)) Q E s := by
  obtain ⟨xs, ys, ks, z, hk, e⟩ := kget_some I g
  refine wpAny_in_heap (tupleKind_room_in1 hu) hk z.sys z.dict ?_
  rw [← e]
  exact h _ (I.tok _)
theorem k_notIn {Q : Value → Shared → Prop} (hu : A.units + 1 < cLine) (I : L2.Inv X pins σ H s) (g : KGet X.K H a b o) (h : ∀ s', L2.Inv X pins σ H s' → Q (.bool (!o.isSome)) s') :
    wpAny (model X.prog X.w) A (compareOp .NotIn (.ref b) (.ref a)) Q E s := by
  obtain ⟨xs, ys, ks, z, hk, e⟩ := kget_some I g
  refine wpAny_notIn_heap (tupleKind_room_in1 hu) hk z.sys z.dict ?_
  rw [← e]
  exact h _ (I.tok _)
theorem kd_write {h' : Heap} {t' : Nat} {xs xs' : List (List Int × Addr × V)} {ys' : List (List Int × Addr × Value)} (I : L2.Inv X pins σ H s) (e : H a = some (DcO a xs)) (hs : Heap.SameBut a s.heap h') (z : DStd X.prog X.w h' a xs' ys') :
    L2.Inv X pins σ (upd H a (DcO a xs')) { s with heap := h', toks := t' } :=
  d_write I (by rw [e]; exact True.intro) hs (let ⟨q, _, _, hq, _⟩ := z.dict; ⟨q, hq⟩) (dco_of z)
theorem k_setItem {H' : Hp} {Q : Unit → Shared → Prop} (hu : A.units + 1 < cLine) (I : L2.Inv X pins σ H s) (g : KPut X.K H a b v H') (rv : RelV v r) (h : ∀ s', L2.Inv X pins σ H' s' → Q () s') :
    wpAny (model X.prog X.w) A (setItem (.ref a) (.ref b) r) Q E s := by
  obtain ⟨xs, ks, e, hk, hb, hl, rfl⟩ := g
  obtain ⟨ys, z⟩ := dstd_at I e hk
  have hz : ys.length ≤ sizeLine := by rw [← Paired.length z.rel]; exact z.big
  refine wpAny_setItem_heap (hsz := hz) (tupleKind_room_in1 hu) (key_at I hb) z.dict fun h' dd' hs => h _ ?_
  exact kd_write I e hs ⟨by have := putX_len (xs := xs) (ks := ks) (b := b) (v := v); omega, z.sys, rx_put rv z.rel, dd'⟩
theorem k_get1 {Q : Value → Shared → Prop} (hu : A.units + 1 < cLine) (I : L2.Inv X pins σ H s) (g : KGet X.K H a b o) (h : ∀ w' s', L2.Inv X pins σ H s' → RelV (o.getD .non) w' → Q w' s') :
    wpAny (model X.prog X.w) A (call (.builtin "dict.get") [.ref a, .ref b]) Q E s := by
  obtain ⟨xs, ys, ks, z, hk, h1, h2⟩ := kget_at I g
  refine call_meetsIn PySem.F.slot_dict_get z.dict.typeIs PySem.F.entry_dict_get (PySem.F.args_dict_get_2 _ _) (meetsH_dict_get (tkI X.prog X.w) a b z.sys) ⟨tupleKind_room_in1 hu, ks, ys, hk, z.dict, h _ _ (I.tok _) ?_⟩
  cases o with
  | none => rw [h2 rfl]; rfl
  | some v => obtain ⟨p, hp, rp⟩ := h1 v rfl; rw [hp]; exact rp
theorem k_get2 {Q : Value → Shared → Prop} (hu : A.units + 1 < cLine) (I : L2.Inv X pins σ H s) (g : KGet X.K H a b o) (rd : RelV d r) (h : ∀ w' s', L2.Inv X pins σ H s' → RelV (o.getD d) w' → Q w' s') :
    wpAny (model X.prog X.w) A (call (.builtin "dict.get") [.ref a, .ref b, r]) Q E s := by
  obtain ⟨xs, ys, ks, z, hk, h1, h2⟩ := kget_at I g
  refine call_meetsIn PySem.F.slot_dict_get z.dict.typeIs PySem.F.entry_dict_get (PySem.F.args_dict_get_3 _ _ _) (meetsH_dict_get_default (tkI X.prog X.w) a b z.sys r) ⟨tupleKind_room_in1 hu, ks, ys, hk, z.dict, h _ _ (I.tok _) ?_⟩
  cases o with
  | none => rw [h2 rfl]; exact rd
  | some v => obtain ⟨p, hp, rp⟩ := h1 v rfl; rw [hp]; exact rp
theorem k_pop1 {xs : List (List Int × Addr × V)} {ks : List Int} {Q : Value → Shared → Prop} (hu : A.units + 1 < cLine) (I : L2.Inv X pins σ H s) (e : H a = some (DcO a xs)) (hk : ∀ x ∈ xs, SqT X.K H x.2.1 (x.1.map V.int)) (hb : SqT X.K H b (ks.map V.int)) (hv : (xs.find? fun x => decide (x.1 = ks)).map (·.2.2) = some v)
    (h : ∀ w' s', L2.Inv X pins σ (upd H a (DcO a (xs.filter fun x => !decide (x.1 = ks)))) s' → RelV v w' → Q w' s') :
    wpAny (model X.prog X.w) A (call (.builtin "dict.pop") [.ref a, .ref b]) Q E s := by
  obtain ⟨ys, z⟩ := dstd_at I e hk
  obtain ⟨p, hp, rp⟩ := (rx_at ks z.rel).1 v hv
  have hz : ys.length ≤ sizeLine := by rw [← Paired.length z.rel]; exact z.big
  refine call_pop_heap (more := []) (hsz := hz) (.inl rfl) (PySem.F.args_dict_pop_2 _ _) (tupleKind_room_in1 hu) (key_at I hb) z.sys z.dict hp fun h' dd' hs => h _ _ ?_ rp
  exact kd_write I e hs ⟨Nat.le_trans (List.length_filter_le _ _) z.big, z.sys, rx_drop z.rel, dd'⟩
end
end DL

/-! DL, part 9: dicts by tuples of ints, as they are written. -/
namespace DL
open PySem PySem.Spec PyProof.Rows L2
section
variable {X : Cx} {C : Ct} {pos : Pos}
/-! {} -/
def tNewD : TE := fun _ H Q => ∀ p, H p = none → Q (.ref p) (upd H p (DcO p []))
theorem dco_new {P : Program} {w : World} {H : Hp} (h : Heap) (hb : sysModules < h.objs.size) : ObjOk P w H (h.push { cls := .type "dict", data := .dict #[] }) h.objs.size (DcO h.objs.size []) :=
  dco_of (P := P) (w := w) (ys := []) ⟨Nat.zero_le _, beq_eq_false_iff_ne.mpr (Ne.symm (Nat.ne_of_lt hb)), .nil, Heap.DictOfH.new h⟩
theorem pe_newD : PE X (.Dict [] [] pos) tNewD := ⟨fun pins s σ H Q I h =>
  wpAny_Dict_empty ⟨.ref s.heap.objs.size, _, I.laid (a := s.heap.objs.size) (o := DcO s.heap.objs.size []) (t' := s.toks) (fun _ _ q => Heap.get?_push_of_some _ q) (Nat.le_refl _) (dco_new s.heap I.big), rfl, h _ (I.hok.fresh (Nat.le_refl _))⟩⟩
def dNewD : TDE := fun _ S Q => ∀ p, S p = none → Q (.ref p) (sput S p (.dct []))
theorem de_newD : DE X C (.Dict [] [] pos) dNewD := ⟨PE.imp pe_newD fun σ H Q ⟨G, e, S, Q', at', h, k⟩ p n => by
  obtain ⟨r', t, _⟩ := at'.rep.newCell (o := DcO p []) (c := .dct []) at'.g n ⟨[], upd_same, rfl⟩
  exact k _ _ _ _ t r' Rl.ref (h p (at'.rep.none_of n))⟩
/-! {k: v} -/
def tDisp1 (K : PySem.W.Frag) (tk tv : TE) : TE := fun σ H Q => ∀ p, H p = none → tk σ (upd H p (DcO p [])) fun x H1 => tv σ H1 fun v H2 => H2 p = some (DcO p []) ∧ ∃ b ks, x = .ref b ∧ SqT K H2 b (ks.map V.int) ∧ Q (.ref p) (upd H2 p (DcO p [(ks, b, v)]))
theorem pe_disp1 {k v : Expr} {tk tv : TE} (hu : X.A.units < cLine) (hk : PE X k tk) (hv : PE X v tv) : PE X (.Dict [some k] [v] pos) (tDisp1 X.K tk tv) := by
  refine ⟨fun pins s σ H Q I q => ?_⟩
  have hn := I.hok.fresh (Nat.le_refl s.heap.objs.size)
  have I1 := I.laid (a := s.heap.objs.size) (o := DcO s.heap.objs.size []) (h' := s.heap.push { cls := .type "dict", data := .dict #[] }) (t' := s.toks) (fun _ _ q => Heap.get?_push_of_some _ q) (Nat.le_refl _) (dco_new s.heap I.big)
  have hl := pairTrees_length [some k] [v] X.env pos rfl rfl
  rw [arm_eval_Dict, zip_pairTrees [some k] [v] X.env pos rfl rfl, dictDisplay_pairs _ (by intro z; rw [z] at hl; simp at hl) (by rw [hl]; show 1 < 17; decide)]
  refine wpAny_bind (wpAny_standAt (wpAny_bind (wpAny_subDictH (knd := tkI X.prog X.w) (Q := fun d s' => wpAny (model X.prog X.w) X.A (pure (Value.ref d)) _ X.xe s') hu (by rw [hl]; show 1 ≤ 15; decide)
    (pairTrees_cons_walk (thn (hk.run pins _ σ _ _ I1 (q _ hn)) fun u s2 ⟨x, H1, I2, rx, q1⟩ => thn (hv.run pins s2 σ H1 _ I2 q1) fun w2 s3 ⟨y, H2, I3, ry, e, b, ks, ex, hb, q2⟩ => pairTrees_nil_walk ?_)))))
  subst ex
  obtain rfl : u = Value.ref b := rx
  obtain ⟨ys, z⟩ := dstd_at I3 e fun _ h => nomatch h
  cases z.rel
  refine ⟨[(ks, b, w2)], ⟨rfl, rfl, key_at I3 hb, trivial⟩, z.dict, fun h' tk dd' hs => wpAny_pure ⟨.ref _, _, kd_write (xs' := [(ks, b, y)]) (ys' := [(ks, b, w2)]) I3 e hs ⟨le_sz (show 1 ≤ 16777216 by decide), z.sys, .cons ⟨rfl, rfl, ry⟩ .nil, dd'⟩, rfl, q2⟩⟩
def dDisp1 (tk tv : TDE) : TDE := fun e S Q => ∀ p, S p = none → tk e (sput S p (.dct [])) fun k S1 => tv e S1 fun v S2 => S2 p = some (.dct []) ∧ ∃ ks, keyI k = some ks ∧ Q (.ref p) (sput S2 p (.dct [(k, v)]))
theorem ne_tup_dco {H : Hp} {a : Addr} {xs : List (List Int × Addr × V)} (e : H a = some (DcO a xs)) : (∀ v, H a ≠ some (.tup v)) ∧ ∀ o u, H a ≠ some (.frz o u) :=
  ⟨(fun v z => by rw [e] at z; unfold DcO at z; cases z), (fun o u z => by rw [e] at z; unfold DcO at z; cases z)⟩
theorem key_ref {K : PySem.W.Frag} {H : Hp} {nf : Addr → Prop} {d : D} {ks : List Int} {v : V} (h0 : keyI d = some ks) (l : Rl K H nf d v) : ∃ b, v = .ref b := by
  cases d with
  | tpk ns => obtain ⟨a, rfl, _⟩ := l.of_tpk; exact ⟨a, rfl⟩
  | tup xs => obtain ⟨a, _, rfl, _⟩ := l.of_tup; exact ⟨a, rfl⟩
  | _ => cases h0
theorem de_disp1 {k v : Expr} {tk tv : TDE} (hu : X.A.units < cLine) (hk : DE X C k tk) (hv : DE X C v tv) : DE X C (.Dict [some k] [v] pos) (dDisp1 tk tv) :=
  ⟨PE.imp (pe_disp1 hu hk.pe hv.pe) fun σ H Q ⟨G, e, S, Q', at', h, kk⟩ p n => by
    obtain ⟨r', t, _⟩ := at'.rep.newCell (o := DcO p []) (c := .dct []) at'.g n ⟨[], upd_same, rfl⟩
    refine ⟨G, e, _, _, at'.next t r', h p (at'.rep.none_of n), fun d S1 v1 H1 t1 r1 l1 h1 => ⟨G, e, S1, _, (at'.next t r').next t1 r1, h1, fun d2 S2 v2 H2 t2 r2 l2 h2 => ?_⟩⟩
    obtain ⟨hp, ks, hk', q⟩ := h2
    obtain ⟨xs, e2, rd⟩ := (r2 p _ hp).2
    cases (show xs = [] from rd)
    have l1' := l1.tr r1 t2
    obtain ⟨b, rfl⟩ := key_ref hk' l1'
    obtain ⟨m1, m2⟩ := ne_tup_dco e2
    obtain ⟨r3, t3⟩ := r2.put (o := DcO p [(ks, b, v2)]) (c' := .dct [(d, d2)]) hp m1 m2 fun kp => ⟨_, upd_same, ks, b, v2, [], rfl, hk', Rl.keep kp _ _ l1', Rl.keep kp _ _ l2, rfl⟩
    exact ⟨e2, b, ks, rfl, sq_key hk' l1', kk _ _ _ _ (t.trans (t1.trans (t2.trans t3))) r3 Rl.ref q⟩⟩
/-! what a dict has -/
theorem kgetD {K : PySem.W.Frag} {G : Addr → Prop} {S : Sto} {H : Hp} {a : Addr} {kvs : List (D × D)} {k : D} {ks : List Int} {u : V} (r : RepS K G S H) (hs : S a = some (.dct kvs)) (hk : keyI k = some ks) (lk : Rl K H (nfz G S) k u) :
    ∃ b, u = .ref b ∧ ∃ o, KGet K H a b o ∧ o.isSome = hasK kvs ks ∧ (∀ d, getK kvs ks = some d → ∃ v, o = some v ∧ Rl K H (nfz G S) d v) ∧ (getK kvs ks = none → o = none) := by
  obtain ⟨b, rfl⟩ := key_ref hk lk
  obtain ⟨xs, e, rd⟩ := (r a _ hs).2
  obtain ⟨g1, g2⟩ := rd.get (ks := ks)
  obtain ⟨hh, _⟩ := rd.has (ks := ks)
  refine ⟨b, rfl, ?_⟩
  cases hg : getK kvs ks with
  | none =>
    rw [hg] at hh
    exact ⟨none, ⟨xs, ks, .inl e, rd.sq, sq_key hk lk, (fun v z => nomatch z), fun _ => g2 hg⟩, hh.symm, (fun d z => nomatch z), fun _ => rfl⟩
  | some d =>
    rw [hg] at hh
    obtain ⟨v, h1, h2⟩ := g1 d hg
    exact ⟨some v, ⟨xs, ks, .inl e, rd.sq, sq_key hk lk, (fun v' z => by cases z; exact h1), (fun z => nomatch z)⟩, hh.symm, (fun d' z => by cases z; exact ⟨v, rfl, h2⟩), fun z => nomatch z⟩
def inKR (neg : Bool) : RD2 := fun x y S Q => ∃ a kvs ks, y = .ref a ∧ S a = some (.dct kvs) ∧ keyI x = some ks ∧ Q (.bl (if neg then !hasK kvs ks else hasK kvs ks)) S
theorem or_inK (hu : X.A.units + 65 < cLine) : OpR X (compareOp .In) (LR2 X.K (inKR false)) := by
  intro pins s σ H x y v u Q I rx ry h
  obtain ⟨G, d1, d2, S, Q', r, g, l1, l2, ⟨a, kvs, ks, rfl, hs, hk, q⟩, k⟩ := h
  obtain rfl := l2.of_ref
  obtain rfl : u = Value.ref a := ry
  obtain ⟨b, rfl, o, kg, ho, _, _⟩ := kgetD r hs hk l1
  obtain rfl : v = Value.ref b := rx
  exact k_in (by omega) I kg fun s' I' => ⟨.bl o.isSome, H, I', rfl, by rw [ho]; exact k.now r Rl.bl q⟩
theorem or_notinK (hu : X.A.units + 65 < cLine) : OpR X (compareOp .NotIn) (LR2 X.K (inKR true)) := by
  intro pins s σ H x y v u Q I rx ry h
  obtain ⟨G, d1, d2, S, Q', r, g, l1, l2, ⟨a, kvs, ks, rfl, hs, hk, q⟩, k⟩ := h
  obtain rfl := l2.of_ref
  obtain rfl : u = Value.ref a := ry
  obtain ⟨b, rfl, o, kg, ho, _, _⟩ := kgetD r hs hk l1
  obtain rfl : v = Value.ref b := rx
  exact k_notIn (by omega) I kg fun s' I' => ⟨.bl (!o.isSome), H, I', rfl, by rw [ho]; exact k.now r Rl.bl q⟩
/-! d[k] -/
def tKGet (K : PySem.W.Frag) (td ty : TE) : TE := fun σ H Q => td σ H fun x H1 => ty σ H1 fun y H2 => ∃ a b v, x = .ref a ∧ y = .ref b ∧ KGet K H2 a b (some v) ∧ Q v H2
theorem pe_kget {o i : Expr} {td ty : TE} (hu : X.A.units + 1 < cLine) (ho : PE X o td) (hi : PE X i ty) (hs : NoSl i) : PE X (.Subscript o i pos) (tKGet X.K td ty) := by
  refine ⟨fun pins s σ H Q I h => ?_⟩
  refine subD_of PySem.F.slot_dict_getitem.lookup hs (thn (ho.run pins s σ H _ I h) fun u s1 ⟨x, H1, I1, rx, q1⟩ => thn (hi.run pins s1 σ H1 _ I1 q1) fun iv s2 ⟨y, H2, I2, ry, a, b, v, ex, ey, g, q2⟩ => ?_)
  subst ex ey
  obtain rfl : u = Value.ref a := rx
  obtain rfl : iv = Value.ref b := ry
  exact ⟨kget_type I2 g, k_getItem hu I2 g fun w' s3 I3 rw' => ⟨v, H2, I3, rw', q2⟩⟩
def dKGet (td tk : TDE) : TDE := fun e S Q => td e S fun d S1 => tk e S1 fun k S2 => ∃ a kvs ks v, d = .ref a ∧ S2 a = some (.dct kvs) ∧ keyI k = some ks ∧ getK kvs ks = some v ∧ Q v S2
theorem de_kget {o i : Expr} {td tk : TDE} (hu : X.A.units + 65 < cLine) (ho : DE X C o td) (hi : DE X C i tk) (hs : NoSl i := by exact fun _ _ => rfl) : DE X C (.Subscript o i pos) (dKGet td tk) :=
  ⟨PE.imp (pe_kget (by omega) ho.pe hi.pe hs) fun σ H Q ⟨G, e, S, Q', at', h, k⟩ => ⟨G, e, S, _, at', h, fun d S1 v1 H1 t1 r1 l1 h1 => ⟨G, e, S1, _, at'.next t1 r1, h1, fun d2 S2 v2 H2 t2 r2 l2 h2 => by
    obtain ⟨a, kvs, ks, v, rfl, hs, hk, hg, q⟩ := h2
    obtain rfl := l1.of_ref
    obtain ⟨b, rfl, o, kg, _, h4, _⟩ := kgetD r2 hs hk l2
    obtain ⟨u, rfl, l3⟩ := h4 v hg
    exact ⟨a, b, u, rfl, rfl, kg, k _ _ _ _ (t1.trans t2) r2 l3 q⟩⟩⟩⟩
/-! d[k] = v -/
def setKR : RD3 := fun o i v S Q => ∃ a kvs ks, o = .ref a ∧ S a = some (.dct kvs) ∧ keyI i = some ks ∧ kvs.length ≤ 1000000 ∧ Q (sput S a (.dct (setK kvs ks i v)))
theorem sr_dct (hu : X.A.units + 65 < cLine) : PSet X (LR3 X.K setKR) := by
  intro pins s σ H o i v ov iv u Q I ro ri rv h
  obtain ⟨G, d1, d2, d3, S, Q', r, g, l1, l2, l3, ⟨a, kvs, ks, rfl, hs, hk, hl, q⟩, k⟩ := h
  obtain rfl := l1.of_ref
  obtain rfl : ov = Value.ref a := ro
  obtain ⟨b, rfl⟩ := key_ref hk l2
  obtain rfl : iv = Value.ref b := ri
  obtain ⟨xs, e, rd⟩ := (r a _ hs).2
  obtain ⟨m1, m2⟩ := ne_tup_dco e
  obtain ⟨r2, t2⟩ := r.put (o := DcO a (putX xs ks b v)) (c' := .dct (setK kvs ks d2 d3)) hs m1 m2 fun kp => ⟨_, upd_same, RlD.keep kp (rd.put hk l2 l3)⟩
  refine k_setItem (by omega) I ⟨xs, ks, e, rd.sq, sq_key hk l2, ?_, rfl⟩ rv fun s' I' => ⟨_, I', k _ _ t2 r2 q⟩
  rw [← rd.length]
  exact lt_sz (by omega)
/-! methods -/
theorem kd_type {pins : List (Addr × Obj)} {σ : L2.St} {H : Hp} {s : Shared} {a : Addr} {xs : List (List Int × Addr × V)} (I : L2.Inv X pins σ H s) (e : H a = some (DcO a xs)) : s.TypeIs (.ref a) "dict" ∧ (∀ b, Value.ref a = .ref b → ∃ ob, s.heap.get? b = some ob ∧ ob.dict = none) := by
  obtain ⟨⟨_, _, _, ys, o, es, ep, _, h5, h6, h7, _⟩, _, _⟩ := (show ObjOk X.prog X.w H s.heap a (DcO a xs) from I.hok a _ e)
  exact ⟨⟨o, h5, h6.1⟩, fun b q => by cases q; exact ⟨o, h5, h6.2.1⟩⟩
def isDc (H : Hp) (a : Addr) : Prop := ∃ xs, H a = some (DcO a xs)
def tKGet1 (K : PySem.W.Frag) (td ty : TE) : TE := fun σ H Q => td σ H fun x H1 => ∃ a, x = .ref a ∧ isDc H1 a ∧ ty σ H1 fun y H2 => ∃ b o, y = .ref b ∧ KGet K H2 a b o ∧ Q (o.getD .non) H2
def tKGet2 (K : PySem.W.Frag) (td ty tx : TE) : TE := fun σ H Q => td σ H fun x H1 => ∃ a, x = .ref a ∧ isDc H1 a ∧ ty σ H1 fun y H2 => tx σ H2 fun z H3 => ∃ b o, y = .ref b ∧ KGet K H3 a b o ∧ Q (o.getD z) H3
def tKPop (K : PySem.W.Frag) (td ty : TE) : TE := fun σ H Q => td σ H fun x H1 => ∃ a, x = .ref a ∧ isDc H1 a ∧ ty σ H1 fun y H2 => ∃ xs ks b v, y = .ref b ∧ H2 a = some (DcO a xs) ∧ (∀ x ∈ xs, SqT K H2 x.2.1 (x.1.map V.int)) ∧ SqT K H2 b (ks.map V.int) ∧ (xs.find? fun x => decide (x.1 = ks)).map (·.2.2) = some v ∧ Q v (upd H2 a (DcO a (xs.filter fun x => !decide (x.1 = ks))))
variable {o e f : Expr} {apos cpos : Pos}
theorem pe_kget1 {td ty : TE} (hu : X.A.units + 1 < cLine) (ho : PE X o td) (he : PE X e ty) (m : M1 X o "get" apos e cpos) : PE X (.Call (.Attribute o "get" apos) [e] [] cpos) (tKGet1 X.K td ty) := by
  refine ⟨fun pins s σ H Q I h => ?_⟩
  refine wpAny_Call_method m.base m.few m.line PySem.F.plainAttrs_dict PySem.F.slot_dict_get PySem.F.type_dict_get (thn (ho.run pins s σ H _ I h) fun u s1 ⟨x, H1, I1, rx, a, ex, ⟨xs, ed⟩, q1⟩ => ?_)
  subst ex
  obtain rfl : u = Value.ref a := rx
  obtain ⟨t1, t2⟩ := kd_type I1 ed
  refine ⟨t1, t2, ?_⟩
  rw [m.trees]
  refine Calls.callWith_builtin rfl (Calls.evalArgs_plain (Calls.spliced_cons (thn (he.run pins s1 σ H1 _ I1 q1) fun iv s2 ⟨y, H2, I2, ry, b, ov, ey, g, q2⟩ => Calls.spliced_nil ?_)))
  subst ey
  obtain rfl : iv = Value.ref b := ry
  exact k_get1 hu I2 g fun w' s3 I3 rw' => ⟨_, H2, I3, rw', q2⟩
theorem pe_kget2 {td ty tx : TE} (hu : X.A.units + 1 < cLine) (ho : PE X o td) (he : PE X e ty) (hf : PE X f tx) (m : M2 X o "get" apos e f cpos) : PE X (.Call (.Attribute o "get" apos) [e, f] [] cpos) (tKGet2 X.K td ty tx) := by
  refine ⟨fun pins s σ H Q I h => ?_⟩
  refine wpAny_Call_method m.base m.few m.line PySem.F.plainAttrs_dict PySem.F.slot_dict_get PySem.F.type_dict_get (thn (ho.run pins s σ H _ I h) fun u s1 ⟨x, H1, I1, rx, a, ex, ⟨xs, ed⟩, q1⟩ => ?_)
  subst ex
  obtain rfl : u = Value.ref a := rx
  obtain ⟨t1, t2⟩ := kd_type I1 ed
  refine ⟨t1, t2, ?_⟩
  rw [m.trees]
  refine Calls.callWith_builtin rfl (Calls.evalArgs_plain (Calls.spliced_cons (thn (he.run pins s1 σ H1 _ I1 q1) fun iv s2 ⟨y, H2, I2, ry, q2⟩ =>
    Calls.spliced_cons (thn (hf.run pins s2 σ H2 _ I2 q2) fun fv s3 ⟨z, H3, I3, rz, b, ov, ey, g, q3⟩ => Calls.spliced_nil ?_))))
  subst ey
  obtain rfl : iv = Value.ref b := ry
  exact k_get2 hu I3 g rz fun w' s4 I4 rw' => ⟨_, H3, I4, rw', q3⟩
theorem pe_kpop {td ty : TE} (hu : X.A.units + 1 < cLine) (ho : PE X o td) (he : PE X e ty) (m : M1 X o "pop" apos e cpos) : PE X (.Call (.Attribute o "pop" apos) [e] [] cpos) (tKPop X.K td ty) := by
  refine ⟨fun pins s σ H Q I h => ?_⟩
  refine wpAny_Call_method m.base m.few m.line PySem.F.plainAttrs_dict PySem.F.slot_dict_pop PySem.F.type_dict_pop (thn (ho.run pins s σ H _ I h) fun u s1 ⟨x, H1, I1, rx, a, ex, ⟨xs0, ed⟩, q1⟩ => ?_)
  subst ex
  obtain rfl : u = Value.ref a := rx
  obtain ⟨t1, t2⟩ := kd_type I1 ed
  refine ⟨t1, t2, ?_⟩
  rw [m.trees]
  refine Calls.callWith_builtin rfl (Calls.evalArgs_plain (Calls.spliced_cons (thn (he.run pins s1 σ H1 _ I1 q1) fun iv s2 ⟨y, H2, I2, ry, xs, ks, b, v, ey, e2, hx, hb, hv, q2⟩ => Calls.spliced_nil ?_)))
  subst ey
  obtain rfl : iv = Value.ref b := ry
  exact k_pop1 hu I2 e2 hx hb hv fun w' s3 I3 rw' => ⟨v, _, I3, rw', q2⟩
def dKGet1 (td tk : TDE) : TDE := fun e S Q => td e S fun d S1 => ∃ a kvs0, d = .ref a ∧ S1 a = some (.dct kvs0) ∧ tk e S1 fun k S2 => ∃ kvs ks, S2 a = some (.dct kvs) ∧ keyI k = some ks ∧ Q ((getK kvs ks).getD .non) S2
def dKGet2 (td tk tx : TDE) : TDE := fun e S Q => td e S fun d S1 => ∃ a kvs0, d = .ref a ∧ S1 a = some (.dct kvs0) ∧ tk e S1 fun k S2 => tx e S2 fun x S3 => ∃ kvs ks, S3 a = some (.dct kvs) ∧ keyI k = some ks ∧ Q ((getK kvs ks).getD x) S3
def dKPop (td tk : TDE) : TDE := fun e S Q => td e S fun d S1 => ∃ a kvs0, d = .ref a ∧ S1 a = some (.dct kvs0) ∧ tk e S1 fun k S2 => ∃ kvs ks v, S2 a = some (.dct kvs) ∧ keyI k = some ks ∧ getK kvs ks = some v ∧ Q v (sput S2 a (.dct (dropKey kvs ks)))
theorem de_kget1 {td tk : TDE} (hu : X.A.units + 65 < cLine) (ho : DE X C o td) (he : DE X C e tk) (m : M1 X o "get" apos e cpos := by exact ⟨by rfl, by rfl, by rfl, by rfl⟩) : DE X C (.Call (.Attribute o "get" apos) [e] [] cpos) (dKGet1 td tk) :=
  ⟨PE.imp (pe_kget1 (by omega) ho.pe he.pe m) fun σ H Q ⟨G, en, S, Q', at', h, k⟩ => ⟨G, en, S, _, at', h, fun d S1 v1 H1 t1 r1 l1 h1 => by
    obtain ⟨a, kvs0, rfl, hs, h1⟩ := h1
    obtain rfl := l1.of_ref
    obtain ⟨xs, e0, _⟩ := (r1 a _ hs).2
    refine ⟨a, rfl, ⟨xs, e0⟩, G, en, S1, _, at'.next t1 r1, h1, fun d2 S2 v2 H2 t2 r2 l2 h2 => ?_⟩
    obtain ⟨kvs, ks, hs2, hk, q⟩ := h2
    obtain ⟨b, rfl, ov, kg, _, g1, g2⟩ := kgetD r2 hs2 hk l2
    refine ⟨b, ov, rfl, kg, ?_⟩
    cases hg : getK kvs ks with
    | none => rw [hg] at q; rw [g2 hg]; exact k _ _ _ _ (t1.trans t2) r2 Rl.non q
    | some d =>
      rw [hg] at q
      obtain ⟨v, rfl, l3⟩ := g1 d hg
      exact k _ _ _ _ (t1.trans t2) r2 l3 q⟩⟩
theorem de_kget2 {td tk tx : TDE} (hu : X.A.units + 65 < cLine) (ho : DE X C o td) (he : DE X C e tk) (hf : DE X C f tx) (m : M2 X o "get" apos e f cpos := by exact ⟨by rfl, by rfl, by rfl, by rfl⟩) : DE X C (.Call (.Attribute o "get" apos) [e, f] [] cpos) (dKGet2 td tk tx) :=
  ⟨PE.imp (pe_kget2 (by omega) ho.pe he.pe hf.pe m) fun σ H Q ⟨G, en, S, Q', at', h, k⟩ => ⟨G, en, S, _, at', h, fun d S1 v1 H1 t1 r1 l1 h1 => by
    obtain ⟨a, kvs0, rfl, hs, h1⟩ := h1
    obtain rfl := l1.of_ref
    obtain ⟨xs, e0, _⟩ := (r1 a _ hs).2
    refine ⟨a, rfl, ⟨xs, e0⟩, G, en, S1, _, at'.next t1 r1, h1, fun d2 S2 v2 H2 t2 r2 l2 h2 => ⟨G, en, S2, _, (at'.next t1 r1).next t2 r2, h2, fun d3 S3 v3 H3 t3 r3 l3 h3 => ?_⟩⟩
    obtain ⟨kvs, ks, hs2, hk, q⟩ := h3
    obtain ⟨b, rfl, ov, kg, _, g1, g2⟩ := kgetD r3 hs2 hk (l2.tr r2 t3)
    refine ⟨b, ov, rfl, kg, ?_⟩
    cases hg : getK kvs ks with
    | none => rw [hg] at q; rw [g2 hg]; exact k _ _ _ _ (t1.trans (t2.trans t3)) r3 l3 q
    | some d =>
      rw [hg] at q
      obtain ⟨v, rfl, l4⟩ := g1 d hg
      exact k _ _ _ _ (t1.trans (t2.trans t3)) r3 l4 q⟩⟩
theorem de_kpop {td tk : TDE} (hu : X.A.units + 65 < cLine) (ho : DE X C o td) (he : DE X C e tk) (m : M1 X o "pop" apos e cpos := by exact ⟨by rfl, by rfl, by rfl, by rfl⟩) : DE X C (.Call (.Attribute o "pop" apos) [e] [] cpos) (dKPop td tk) :=
  ⟨PE.imp (pe_kpop (by omega) ho.pe he.pe m) fun σ H Q ⟨G, en, S, Q', at', h, k⟩ => ⟨G, en, S, _, at', h, fun d S1 v1 H1 t1 r1 l1 h1 => by
    obtain ⟨a, kvs0, rfl, hs, h1⟩ := h1
    obtain rfl := l1.of_ref
    obtain ⟨xs, e0, _⟩ := (r1 a _ hs).2
    refine ⟨a, rfl, ⟨xs, e0⟩, G, en, S1, _, at'.next t1 r1, h1, fun d2 S2 v2 H2 t2 r2 l2 h2 => ?_⟩
    obtain ⟨kvs, ks, v, hs2, hk, hg, q⟩ := h2
    obtain ⟨b, rfl⟩ := key_ref hk l2
    obtain ⟨ys, e2, rd⟩ := (r2 a _ hs2).2
    obtain ⟨u, hu1, hu2⟩ := (rd.get (ks := ks)).1 v hg
    obtain ⟨m1, m2⟩ := ne_tup_dco e2
    obtain ⟨r3, t3⟩ := r2.put (o := DcO a (ys.filter fun x => !decide (x.1 = ks))) (c' := .dct (dropKey kvs ks)) hs2 m1 m2 fun kp => ⟨_, upd_same, RlD.keep kp rd.drop⟩
    exact ⟨ys, ks, b, u, rfl, e2, rd.sq, sq_key hk l2, hu1, k _ _ _ _ (t1.trans (t2.trans t3)) r3 (hu2.tr r2 t3) q⟩⟩⟩
end
end DL

/-! DL, part M1: sorted of a dict by tuples, of its items. -/
namespace DL
open PySem PySem.Spec PyProof.Rows L2
/-! a heap that holds more -/
section
variable {K : PySem.W.Frag} {H H' : Hp} {nf : Addr → Prop} {G : Addr → Prop} {S : Sto}
theorem Keep.ext (g : ∀ b o, H b = some o → H' b = some o) : Keep K H nf H' nf := ⟨fun _ _ h => g _ _ h, fun _ _ _ h => g _ _ h, fun _ _ h n => ⟨g _ _ h, n⟩⟩
theorem RepS.ext (r : RepS K G S H) (g : ∀ b o, H b = some o → H' b = some o) : RepS K G S H' := fun a c h => by
  obtain ⟨n, e⟩ := r a c h
  obtain ⟨o, ho⟩ := r.some_heap h
  exact ⟨n, e.keep (Keep.ext g) ((g _ _ ho).trans ho.symm)⟩
theorem Tr.ext (g : ∀ b o, H b = some o → H' b = some o) : Tr S H S H' := fun a o h h' => ⟨g _ _ h', h⟩
end
mutual
def noLst : PyData → Bool
  | .list _ => false
  | .dict _ => false
  | .tuple xs => noLsts xs
  | _ => true
def noLsts : List PyData → Bool
  | [] => true
  | x :: xs => noLst x && noLsts xs
end
mutual
theorem reads_nil {h : Heap} : ∀ (d : PyData) (v : Value) (as : List Addr), noLst d = true → Reads h v d as → as = []
  | .none, _, _, _, r => by cases r; rfl
  | .bool _, _, _, _, r => by cases r; rfl
  | .int _, _, _, _, r => by cases r; rfl
  | .str _, _, _, _, r => by cases r; rfl
  | .tuple xs, _, _, n, r => by
    cases r with
    | tuple h1 h2 h3 h4 => exact readsAll_nil xs _ _ (by simpa [noLst] using n) h4
  | .list _, _, _, n, _ => by simp [noLst] at n
  | .dict _, _, _, n, _ => by simp [noLst] at n
theorem readsAll_nil {h : Heap} : ∀ (ds : List PyData) (vs : List Value) (as : List Addr), noLsts ds = true → ReadsAll h vs ds as → as = []
  | [], _, _, _, r => by cases r; rfl
  | d :: ds, _, _, n, r => by
    cases r with
    | cons h1 h2 =>
      have n : noLst d = true ∧ noLsts ds = true := by simpa [noLsts] using n
      rw [reads_nil d _ _ n.1 h1, readsAll_nil ds _ _ n.2 h2]; rfl
end
def prD (p : D × D) : D := .tup [p.1, p.2]
theorem pget {α β : Type} {F : α → β → Prop} : ∀ {l₁ : List α} {l₂ : List β} {j : Nat} {x : β}, Paired F l₁ l₂ → l₂[j]? = some x → ∃ y, l₁[j]? = some y ∧ F y x
  | _, _, _, _, .nil, h => by simp at h
  | _, _, 0, _, .cons h _, e => ⟨_, rfl, by simp at e; subst e; exact h⟩
  | _, _, j + 1, _, .cons _ t, e => by simpa using pget (j := j) t (by simpa using e)
theorem RlD.nth {K : PySem.W.Frag} {H : Hp} {nf : Addr → Prop} : ∀ {kvs : List (D × D)} {xs : List (List Int × Addr × V)} {j : Nat} {x : List Int × Addr × V}, RlD K H nf kvs xs → xs[j]? = some x → ∃ p, kvs[j]? = some p ∧ keyI p.1 = some x.1 ∧ Rl K H nf p.1 (.ref x.2.1) ∧ Rl K H nf p.2 x.2.2
  | [], xs, j, x, h, e => by rw [show xs = [] from h] at e; simp at e
  | p :: r, xs, j, x, h, e => by
    obtain ⟨ks, b, v, t, rfl, h0, h1, h2, h3⟩ := h
    cases j with
    | zero => simp at e; subst e; exact ⟨p, rfl, h0, h1, h2⟩
    | succ j => simpa using RlD.nth (j := j) h3 (by simpa using e)
theorem each_zip : ∀ {as : List Addr} {kvs : List (D × D)}, as.length = kvs.length → PySem.W.EachIs (fun (v : Value) (b : Addr × D × D) => v = .ref b.1) (as.map Value.ref) (as.zip kvs)
  | [], [], _ => .nil
  | a :: as, k :: kvs, h => .cons rfl (each_zip (by simpa using h))
  | [], _ :: _, h => by simp at h
  | _ :: _, [], h => by simp at h
theorem each_map_eq : ∀ {out : List Value} {bs : List (Addr × D × D)}, PySem.W.EachIs (fun (v : Value) (b : Addr × D × D) => v = .ref b.1) out bs → out = bs.map fun b => Value.ref b.1
  | _, _, .nil => rfl
  | _, _, .cons h t => by rw [List.map_cons, h, each_map_eq t]
theorem rla_items {K : PySem.W.Frag} {H : Hp} {nf : Addr → Prop} : ∀ {bs : List (Addr × D × D)}, (∀ b ∈ bs, Rl K H nf (prD b.2) (.ref b.1)) → RlA K H nf (bs.map fun b => prD b.2) (bs.map fun b => V.ref b.1)
  | [], _ => RlA.nil
  | b :: bs, h => RlA.cons (h b List.mem_cons_self) (rla_items fun c hc => h c (List.mem_cons_of_mem _ hc))
theorem takeT2 {X : Cx} {pins : List (Addr × Obj)} {σ : L2.St} {H0 : Hp} {s : Shared} {h' : Heap} {tk : Nat} {P : Addr → List V → Prop} (I0 : L2.Inv X pins σ H0 s) : ∀ (L : List Addr) (H1 : Hp), L2.Inv X pins σ H1 { s with heap := h', toks := tk } → L.Nodup →
    (∀ a ∈ L, s.heap.objs.size ≤ a ∧ H1 a = none ∧ ∃ vs, P a vs ∧ ∀ H2, ObjOk X.prog X.w H2 h' a (.tup vs)) →
    ∃ H2, L2.Inv X pins σ H2 { s with heap := h', toks := tk } ∧ (∀ b o, H1 b = some o → H2 b = some o) ∧ (∀ b, b ∉ L → H1 b = none → H2 b = none) ∧ ∀ a ∈ L, ∃ vs, P a vs ∧ H2 a = some (.tup vs)
  | [], H1, I1, _, _ => ⟨H1, I1, fun _ _ e => e, fun _ _ e => e, fun _ h => nomatch h⟩
  | a :: L, H1, I1, hn, h => by
    obtain ⟨hb, hnone, vs, hP, ok⟩ := h a (List.mem_cons_self ..)
    have I2 : L2.Inv X pins σ (upd H1 a (.tup vs)) { s with heap := h', toks := tk } := I1.take (h' := h') (t' := tk) (fun b ob _ e => e) (I0.fpOk hb hnone) (ok _)
    rw [List.nodup_cons] at hn
    obtain ⟨H2, I3, g, g2, q⟩ := takeT2 I0 L (upd H1 a (.tup vs)) I2 hn.2 fun c hc => by
      obtain ⟨c1, c2, c3⟩ := h c (List.mem_cons_of_mem _ hc)
      exact ⟨c1, by rw [upd_ne (fun z => hn.1 (by rw [← z]; exact hc))]; exact c2, c3⟩
    refine ⟨H2, I3, fun b o e => g b o (by rw [upd_ne (ne_of_none e hnone)]; exact e), fun b hb2 e => ?_, fun c hc => ?_⟩
    · rw [List.mem_cons, not_or] at hb2
      exact g2 b hb2.2 (by rw [upd_ne hb2.1]; exact e)
    rcases List.mem_cons.mp hc with rfl | hc
    · exact ⟨vs, hP, g _ _ upd_same⟩
    · exact q c hc
def rSortItems (K : PySem.W.Frag) : List V → Hp → VK → Prop := fun vs H Q => ∃ (p a : Addr) (xs : List (List Int × Addr × V)) (kvs : List (D × D)) (nf : Addr → Prop), vs = [.ref p] ∧ H p = some (L2.DX.itemsO p a) ∧ H a = some (DcO a xs) ∧ RlD K H nf kvs xs ∧ SrtOk (kvs.map prD) ∧ noLsts (toPs (kvs.map prD)) = true ∧
  ∀ (H1 : Hp) (l : Addr) (out : List V), (∀ b o, H b = some o → H1 b = some o) → H l = none → H1 l = none → RlA K H1 nf (srtD (kvs.map prD)) out → Q (.ref l) (upd H1 l (.lst out))
theorem noLsts_mem : ∀ {ds : List PyData} {d : PyData}, noLsts ds = true → d ∈ ds → noLst d = true
  | [], _, _, h => nomatch h
  | x :: xs, d, n, h => by
    have n : noLst x = true ∧ noLsts xs = true := by simpa [noLsts] using n
    rcases List.mem_cons.mp h with rfl | h
    · exact n.1
    · exact noLsts_mem n.2 h
theorem cr_sortItems {X : Cx} (hc : X.calm = true) (hu : X.A.units + 65 < cLine) : CallR X (.builtin "sorted") (rSortItems X.K) := by
  intro pins s σ H vs us Q I r h
  obtain ⟨p, a, xs, kvs, nf, rfl, hp, ha, rd, ok, nl, q⟩ := h
  obtain rfl := Vals.ref1 r
  have view : s.heap.IsItemsView p a := (show ObjOk X.prog X.w H s.heap p (L2.DX.itemsO p a) from I.hok p _ hp).1
  obtain ⟨ys, z1, z2, rel, o, es, ep, ho, hx, hdat, hes, his, hn⟩ := dstd_at I ha rd.sq
  have l1 : xs.length = ys.length := Paired.length rel
  have l2 : es.size = ys.length := size_of_entries hes
  have l3 := rd.length
  have hh : X.A.handled = none := I.ok.hd hc
  refine DT.sortedI (es := es) (ep := ep) hh view ⟨o, ho, hx, hdat⟩ (by omega) fun h' tk as hk hlt hl hG => ?_
  have lak : as.length = kvs.length := by omega
  have nd : as.Nodup := List.Pairwise.imp (fun h => Nat.ne_of_lt h) hG.rise
  -- the pairs that were made
  have pr : ∀ (j : Nat) (b : Addr), as[j]? = some b → ∃ (kv : D × D) (kq : Addr) (v : V) (u : Value), kvs[j]? = some kv ∧ Rl X.K H nf kv.1 (.ref kq) ∧ Rl X.K H nf kv.2 v ∧ RelV v u ∧ h'.get? b = some { cls := .type "tuple", data := .seq #[Value.ref kq, u] } := by
    intro j b hj
    obtain ⟨en, he, hg⟩ := hG.pairs j b hj
    rw [entry_at hes j] at he
    cases hyj : ys[j]? with
    | none => rw [hyj] at he; exact nomatch (show (none : Option DictEntry) = some en from he)
    | some y =>
      rw [hyj] at he
      have een : entryOfKey (tkI X.prog X.w) y = en := Option.some.inj he
      obtain ⟨x, hxj, r1, r2, r3⟩ := pget rel hyj
      obtain ⟨kv, hkv, _, g1, g2⟩ := rd.nth hxj
      refine ⟨kv, x.2.1, x.2.2, y.2.2, hkv, g1, g2, r3, ?_⟩
      rw [hg, ← een, r2]
      all_goals rfl
  have hob : (h'.push { cls := .type "list", data := .seq (as.map Value.ref).toArray }).get? h'.objs.size = some (seqObj "list" (as.map Value.ref).toArray 0) := Heap.get?_push_size _ rfl
  have kb : ∀ b o, s.heap.get? b = some o → (h'.push { cls := .type "list", data := .seq (as.map Value.ref).toArray }).get? b = some o := fun b o e => Heap.get?_push_of_some _ (hk b o e)
  have ne0 : ∀ b o, h'.get? b = some o → b ≠ h'.objs.size := fun b o e => Nat.ne_of_lt (Heap.lt_size e)
  generalize hh2 : h'.push { cls := .type "list", data := .seq (as.map Value.ref).toArray } = h2 at hob kb ⊢
  have ka : ∀ b o, h'.get? b = some o → h2.get? b = some o := fun b o e => by rw [← hh2]; exact Heap.get?_push_of_some _ e
  have emap : (as.zip kvs).map (fun b => prD b.2) = kvs.map prD := by
    have m2 : (as.zip kvs).map (·.2) = kvs := List.map_snd_zip (by omega)
    rw [← m2, List.map_map, m2]; rfl
  have enc : (as.zip kvs).map (fun b => toP (prD b.2)) = (kvs.map prD).map toP := by rw [← emap, List.map_map]; rfl
  have zi : ∀ b ∈ as.zip kvs, ∃ j : Nat, as[j]? = some b.1 ∧ kvs[j]? = some b.2 := fun b hb => by
    obtain ⟨j, hj⟩ := List.mem_iff_getElem?.mp hb
    exact ⟨j, List.getElem?_zip_eq_some.mp hj⟩
  have rds : ∀ b ∈ as.zip kvs, ∃ cs, Reads h2 (.ref b.1) (toP (prD b.2)) cs ∧ h'.objs.size ∉ cs := fun b hb => by
    obtain ⟨j, j1, j2⟩ := zi b hb
    obtain ⟨kv, kq, v, u, hkv, g1, g2, r3, hg⟩ := pr j _ j1
    obtain rfl : kv = b.2 := Option.some.inj (hkv.symm.trans j2)
    have mem : prD b.2 ∈ kvs.map prD := List.mem_map.mpr ⟨_, List.mem_of_getElem? j2, rfl⟩
    have sh := ok.sh _ mem
    have sh2 : shp 59 b.2.1 = true ∧ shp 59 b.2.2 = true := by
      have : (shp 59 b.2.1 && (shp 59 b.2.2 && true)) = true := sh
      simpa using this
    obtain ⟨c1, e1⟩ := Dp.reads I (toP b.2.1) _ _ (Rl.dp 59 _ _ sh2.1 g1) (rfl : RelV (.ref kq) (.ref kq))
    obtain ⟨c2, e2⟩ := Dp.reads I (toP b.2.2) _ _ (Rl.dp 59 _ _ sh2.2 g2) r3
    have e1' := PyProof.Rows.Reads.keeps kb e1
    have e2' := PyProof.Rows.Reads.keeps kb e2
    have rr : Reads h2 (.ref b.1) (toP (prD b.2)) (c1 ++ (c2 ++ [])) := .tuple (ka _ _ hg) rfl rfl (.cons e1' (.cons e2' .nil))
    refine ⟨_, rr, ?_⟩
    have nlb : noLst (toP (prD b.2)) = true := noLsts_mem nl (by rw [toPs_map]; exact List.mem_map.mpr ⟨_, mem, rfl⟩)
    rw [reads_nil _ _ _ nlb rr]
    exact fun z => nomatch z
  refine PySem.W.list_sort_data (s := { s with heap := h2, toks := tk }) (enc := fun b => toP (prD b.2)) (bs := as.zip kvs) (R := fun v b => v = .ref b.1) hob (each_zip lak) (each_imp (each_zip lak) fun v b hb e => by rw [e]; exact rds b hb)
    (by rw [enc]; exact ok.al) (by rw [enc]; exact ok.kd) (by rw [List.length_zip]; omega) (fun b hb => ?_) fun out lo hR => ?_
  · obtain ⟨j, j1, j2⟩ := zi b hb
    have := (shp_ok 60 _ (ok.sh _ (List.mem_map.mpr ⟨_, List.mem_of_getElem? j2, rfl⟩))).2
    show X.A.units + 1 + 1 + _ < cLine
    omega
  · have eo := each_map_eq hR
    have sm : (as.zip kvs).mergeSort (PySem.W.dataLe false fun b => toP (prD b.2)) |>.Perm (as.zip kvs) := List.mergeSort_perm _ _
    have es2 : srtD (kvs.map prD) = ((as.zip kvs).mergeSort (PySem.W.dataLe false fun b => toP (prD b.2))).map fun b => prD b.2 := by
      rw [← emap]
      exact (List.map_mergeSort (f := fun b : Addr × D × D => prD b.2) (l := as.zip kvs) (r := PySem.W.dataLe false fun b => toP (prD b.2)) (s := PySem.W.dataLe false toP) fun _ _ _ _ => rfl).symm
    generalize hzs : (as.zip kvs).mergeSort (PySem.W.dataLe false fun b => toP (prD b.2)) = zs at eo sm es2
    have kF : ∀ b o, b ≠ h'.objs.size → h2.get? b = some o → (sortedHeap h2 h'.objs.size (as.map Value.ref) (List.toArray out)).get? b = some o := fun b o hb e => (PyProof.Rows.sortedHeap_old hb (Heap.lt_size e)).trans e
    have kS : ∀ b o, s.heap.get? b = some o → (sortedHeap h2 h'.objs.size (as.map Value.ref) (List.toArray out)).get? b = some o := fun b o e => kF b o (ne0 _ _ (hk b o e)) (kb b o e)
    obtain ⟨eF, heF⟩ := PyProof.Rows.sortedHeap_at (vs := as.map Value.ref) (out := List.toArray out) hob
    have I1 : L2.Inv X pins σ H { s with heap := sortedHeap h2 h'.objs.size (as.map Value.ref) (List.toArray out), toks := tk } := I.kept (t' := tk) kS
    have hn0 : H h'.objs.size = none := I.hok.fresh (Nat.le_of_lt hlt)
    obtain ⟨H2, I3, g, g2, qt⟩ := takeT2 (P := fun b vs => ∃ (j : Nat) (kv : D × D) (kq : Addr) (v : V), as[j]? = some b ∧ kvs[j]? = some kv ∧ vs = [.ref kq, v] ∧ Rl X.K H nf kv.1 (.ref kq) ∧ Rl X.K H nf kv.2 v) I as _ I1 nd fun b hb => by
      obtain ⟨j, hj⟩ := List.mem_iff_getElem?.mp hb
      obtain ⟨kv, kq, v, u, hkv, g1, g2, r3, hg⟩ := pr j b hj
      have hbl : s.heap.objs.size ≤ b := Nat.le_of_lt (hG.above b hb)
      exact ⟨hbl, I.hok.fresh hbl, [.ref kq, v], ⟨j, kv, kq, v, hj, hkv, rfl, g1, g2⟩, fun H3 => ⟨le_sz (show 2 ≤ 16777216 by decide), [Value.ref kq, u], .cons rfl (.cons r3 .nil), ⟨_, kF _ _ (ne0 _ _ hg) (ka _ _ hg), rfl, 0, rfl⟩⟩⟩
    have rl : ∀ b ∈ zs, Rl X.K H2 nf (prD b.2) (.ref b.1) := fun b hb => by
      obtain ⟨i, i1, i2⟩ := zi b (sm.mem_iff.mp hb)
      obtain ⟨vs, ⟨j, kv, kq, v, j1, j2, ev, g1, g2⟩, hH⟩ := qt b.1 (List.mem_of_getElem? i1)
      have eij : i = j := (List.getElem?_inj (List.getElem?_eq_some_iff.mp i1).1 nd).mp (i1.trans j1.symm)
      subst eij
      obtain rfl : kv = b.2 := Option.some.inj (j2.symm.trans i2)
      rw [ev] at hH
      exact Rl.tup (.inl (.inl hH)) (RlA.cons (Rl.keep (Keep.ext g) _ _ g1) (RlA.cons (Rl.keep (Keep.ext g) _ _ g2) RlA.nil))
    have nl0 : h'.objs.size ∉ as := fun z => Nat.lt_irrefl _ (hG.there z)
    have n2 := g2 _ nl0 hn0
    have rla : RlA X.K H2 nf (srtD (kvs.map prD)) (zs.map fun b => V.ref b.1) := by rw [es2]; exact rla_items rl
    have rv : Vals (zs.map fun z => V.ref z.1) out := by
      rw [eo]
      exact vals_maps (fun z : Addr × D × D => V.ref z.1) (fun z => Value.ref z.1) zs fun _ _ => rfl
    have hlen : (zs.map fun z => V.ref z.1).length ≤ sizeLine := by
      rw [List.length_map, sm.length_eq, List.length_zip]; omega
    have I4 : L2.Inv X pins σ (upd H2 h'.objs.size (.lst (zs.map fun z => V.ref z.1))) { s with heap := sortedHeap h2 h'.objs.size (as.map Value.ref) (List.toArray out), toks := tk } :=
      I3.take (h' := sortedHeap h2 h'.objs.size (as.map Value.ref) (List.toArray out)) (t' := tk) (fun b ob _ e => e) (I.fpOk (Nat.le_of_lt hlt) n2) ⟨hlen, out, eF, rv, heF⟩
    exact ⟨.ref h'.objs.size, _, I4, rfl, q H2 h'.objs.size _ g hn0 n2 rla⟩
end DL

/-! DL, part M2: d.items() listed, sorted. -/
namespace DL
open PySem PySem.Spec PyProof.Rows L2
def rListItems (K : PySem.W.Frag) : List V → Hp → VK → Prop := fun vs H Q => ∃ (p a : Addr) (xs : List (List Int × Addr × V)) (kvs : List (D × D)) (nf : Addr → Prop), vs = [.ref p] ∧ H p = some (L2.DX.itemsO p a) ∧ H a = some (DcO a xs) ∧ RlD K H nf kvs xs ∧
  ∀ (H1 : Hp) (l : Addr) (out : List V), (∀ b o, H b = some o → H1 b = some o) → H l = none → H1 l = none → RlA K H1 nf (kvs.map prD) out → Q (.ref l) (upd H1 l (.lst out))
theorem cr_listItems {X : Cx} (hc : X.calm = true) : CallR X (.type "list") (rListItems X.K) := by
  intro pins s σ H vs us Q I r h
  obtain ⟨p, a, xs, kvs, nf, rfl, hp, ha, rd, q⟩ := h
  obtain rfl := Vals.ref1 r
  have view : s.heap.IsItemsView p a := (show ObjOk X.prog X.w H s.heap p (L2.DX.itemsO p a) from I.hok p _ hp).1
  obtain ⟨ys, z1, z2, rel, o, es, ep, ho, hx, hdat, hes, his, hn⟩ := dstd_at I ha rd.sq
  have l1 : xs.length = ys.length := Paired.length rel
  have l2 : es.size = ys.length := size_of_entries hes
  have l3 := rd.length
  have hh : X.A.handled = none := I.ok.hd hc
  refine PySem.W.dil_call (es := es) (ep := ep) hh view ⟨o, ho, hx, hdat⟩ (by omega) fun h' tk acc c as hk hS hl hG hacc => ?_
  have lak : as.length = kvs.length := by omega
  have nd : as.Nodup := List.Pairwise.imp (fun h => Nat.ne_of_lt h) hG.rise
  have pr : ∀ (j : Nat) (b : Addr), as[j]? = some b → ∃ (kv : D × D) (kq : Addr) (v : V) (u : Value), kvs[j]? = some kv ∧ Rl X.K H nf kv.1 (.ref kq) ∧ Rl X.K H nf kv.2 v ∧ RelV v u ∧ h'.get? b = some { cls := .type "tuple", data := .seq #[Value.ref kq, u] } := by
    intro j b hj
    obtain ⟨hjs, hg⟩ := hG.pairs j b hj
    have he : es[j]? = some es[j] := Array.getElem?_eq_getElem hjs
    rw [entry_at hes j] at he
    cases hyj : ys[j]? with
    | none => rw [hyj] at he; exact nomatch (show (none : Option DictEntry) = some _ from he)
    | some y =>
      rw [hyj] at he
      have een : entryOfKey (tkI X.prog X.w) y = es[j] := Option.some.inj he
      obtain ⟨x, hxj, r1, r2, r3⟩ := pget rel hyj
      obtain ⟨kv, hkv, _, g1, g2⟩ := rd.nth hxj
      refine ⟨kv, x.2.1, x.2.2, y.2.2, hkv, g1, g2, r3, ?_⟩
      rw [hg, ← een, r2]
      all_goals rfl
  have I1 : L2.Inv X pins σ H { s with heap := h', toks := tk } := I.kept (t' := tk) hk
  obtain ⟨H2, I3, g, g2, qt⟩ := takeT2 (P := fun b vs => ∃ (j : Nat) (kv : D × D) (kq : Addr) (v : V), as[j]? = some b ∧ kvs[j]? = some kv ∧ vs = [.ref kq, v] ∧ Rl X.K H nf kv.1 (.ref kq) ∧ Rl X.K H nf kv.2 v) I as _ I1 nd fun b hb => by
    obtain ⟨j, hj⟩ := List.mem_iff_getElem?.mp hb
    obtain ⟨kv, kq, v, u, hkv, g1, g2, r3, hg⟩ := pr j b hj
    have hbl : s.heap.objs.size ≤ b := Nat.le_of_lt (hG.above b hb)
    exact ⟨hbl, I.hok.fresh hbl, [.ref kq, v], ⟨j, kv, kq, v, hj, hkv, rfl, g1, g2⟩, fun H3 => ⟨le_sz (show 2 ≤ 16777216 by decide), [Value.ref kq, u], .cons rfl (.cons r3 .nil), ⟨_, hg, rfl, 0, rfl⟩⟩⟩
  have zi : ∀ b ∈ as.zip kvs, ∃ j : Nat, as[j]? = some b.1 ∧ kvs[j]? = some b.2 := fun b hb => by
    obtain ⟨j, hj⟩ := List.mem_iff_getElem?.mp hb
    exact ⟨j, List.getElem?_zip_eq_some.mp hj⟩
  have rl : ∀ b ∈ as.zip kvs, Rl X.K H2 nf (prD b.2) (.ref b.1) := fun b hb => by
    obtain ⟨i, i1, i2⟩ := zi b hb
    obtain ⟨vs, ⟨j, kv, kq, v, j1, j2, ev, g1, g2⟩, hH⟩ := qt b.1 (List.mem_of_getElem? i1)
    have eij : i = j := (List.getElem?_inj (List.getElem?_eq_some_iff.mp i1).1 nd).mp (i1.trans j1.symm)
    subst eij
    obtain rfl : kv = b.2 := Option.some.inj (j2.symm.trans i2)
    rw [ev] at hH
    exact Rl.tup (.inl (.inl hH)) (RlA.cons (Rl.keep (Keep.ext g) _ _ g1) (RlA.cons (Rl.keep (Keep.ext g) _ _ g2) RlA.nil))
  have nl0 : s.heap.objs.size ∉ as := fun z => Nat.lt_irrefl _ (hG.above _ z)
  have hn0 : H s.heap.objs.size = none := I.hok.fresh (Nat.le_refl _)
  have n2 := g2 _ nl0 hn0
  have e1 : (as.zip kvs).map (fun b => prD b.2) = kvs.map prD := by
    have m2 : (as.zip kvs).map (·.2) = kvs := List.map_snd_zip (by omega)
    rw [← m2, List.map_map, m2]; rfl
  have e2 : (as.zip kvs).map (fun b => V.ref b.1) = as.map V.ref := by
    have m2 : (as.zip kvs).map (·.1) = as := List.map_fst_zip (by omega)
    conv => rhs; rw [← m2]
    rw [List.map_map]; rfl
  have rla : RlA X.K H2 nf (kvs.map prD) (as.map V.ref) := by rw [← e1, ← e2]; exact rla_items rl
  have rv : Vals (as.map V.ref) acc.toList := by rw [hacc]; exact vals_refs _
  have I4 : L2.Inv X pins σ (upd H2 s.heap.objs.size (.lst (as.map V.ref))) { s with heap := h', toks := tk } :=
    I3.take (h' := h') (t' := tk) (fun b ob _ e => e) (I.fpOk (Nat.le_refl _) n2) ⟨by rw [List.length_map]; omega, acc.toList, c, rv, by rw [Array.toArray_toList]; exact hS⟩
  exact ⟨.ref s.heap.objs.size, _, I4, rfl, q H2 s.heap.objs.size _ g hn0 n2 rla⟩
section
variable {X : Cx} {C : Ct} {o : Expr} {apos cpos pos p : Pos}
/-! d.items() -/
def tItems (K : PySem.W.Frag) (td : TE) : TE := fun σ H Q => td σ H fun x H1 => ∃ a xs, x = .ref a ∧ H1 a = some (DcO a xs) ∧ (∀ x ∈ xs, SqT K H1 x.2.1 (x.1.map V.int)) ∧ ∀ p, H1 p = none → Q (.ref p) (upd H1 p (L2.DX.itemsO p a))
theorem pe_items {td : TE} (ho : PE X o td)
    (hbase : attributeBase o "items" X.env (eval o X.env) = eval o X.env) (hline : (apos.endLine == cpos.line) = true) : PE X (.Call (.Attribute o "items" apos) [] [] cpos) (tItems X.K td) := by
  refine ⟨fun pins s σ H Q I h => ?_⟩
  refine wpAny_Call_method0_late hbase hline (thn (ho.run pins s σ H _ I h) fun v s1 ⟨x, H1, I1, r1, a, xs, ex, ed, sq, q1⟩ => ?_)
  subst ex
  obtain rfl : v = Value.ref a := r1
  obtain ⟨t1, t2⟩ := kd_type I1 ed
  obtain ⟨ys, z1, z2, rel, o, es, ep, ho, hx, hdat, hes, his, hn⟩ := dstd_at I1 ed sq
  refine ⟨"dict", "dict.items", PySem.F.plainAttrs_dict, PySem.F.slot_dict_items, PySem.F.type_dict_items, t1, t2, Calls.callWith_builtin rfl (PySem.evalArgs_none ?_)⟩
  refine DT.callItems (es := es) (ep := ep) z2 ⟨o, ho, hx, hdat⟩ ?_
  have hf : H1 s1.heap.objs.size = none := I1.hok.fresh (Nat.le_refl _)
  exact ⟨.ref s1.heap.objs.size, upd H1 s1.heap.objs.size (L2.DX.itemsO s1.heap.objs.size a), I1.laid (t' := s1.toks) (fun b u e => Heap.get?_push_of_some _ e) (Nat.le_refl _) (L2.DX.itemsO_ok (Heap.get?_push_size _ rfl)), rfl, q1 _ hf⟩
def dSrtItems (c : Bool) (td : TDE) : TDE := fun e S Q => td e S fun d S1 => ∃ a kvs, d = .ref a ∧ S1 a = some (.dct kvs) ∧ SrtOk (kvs.map prD) ∧ noLsts (toPs (kvs.map prD)) = true ∧ mkL c (srtD (kvs.map prD)) S1 Q
def dLstItems (c : Bool) (td : TDE) : TDE := fun e S Q => td e S fun d S1 => ∃ a kvs, d = .ref a ∧ S1 a = some (.dct kvs) ∧ mkL c (kvs.map prD) S1 Q
theorem de_srtItems (c : Bool) {td : TDE} (hcm : X.calm = true) (hu : X.A.units + 65 < cLine) (hg : Gl X "sorted") (hm : X.mg "sorted" = none) (ho : DE X C o td)
    (hbase : attributeBase o "items" X.env (eval o X.env) = eval o X.env := by rfl) (hline : (apos.endLine == cpos.line) = true := by rfl)
    (h2 : starEach [.Call (.Attribute o "items" apos) [] [] cpos] X.env = (false, eval (.Call (.Attribute o "items" apos) [] [] cpos) X.env) :: starEach [] X.env := by rfl) :
    DE X C (.Call (.Name "sorted" p) [.Call (.Attribute o "items" apos) [] [] cpos] [] pos) (dSrtItems c td) :=
  ⟨PE.imp (pe_callB (cr_sortItems hcm hu) hg hm b_sorted (pa_cons (pe_items ho.pe hbase hline) pa_nil h2) (by decide) (by decide) h2 (by rfl)) fun σ H Q ⟨G, e, S, Q', at', h, k⟩ => by
    refine ⟨G, e, S, _, at', h, fun d S1 v H1 t1 r1 l1 h1 => ?_⟩
    obtain ⟨a, kvs, rfl, hs, ok, nl, q⟩ := h1
    obtain rfl := l1.of_ref
    obtain ⟨xs, e2, rd⟩ := (r1 a _ hs).2
    refine ⟨a, xs, rfl, e2, rd.sq, fun p np => ?_⟩
    have ext0 : ∀ b o, H1 b = some o → upd H1 p (L2.DX.itemsO p a) b = some o := fun b o z => (upd_ne (ne_of_none z np)).trans z
    refine ⟨p, a, xs, kvs, nfz G S1, rfl, upd_same, ext0 _ _ e2, RlD.keep (Keep.ext ext0) rd, ok, nl, fun H2 l out g n0 n1 rl => ?_⟩
    have ex : ∀ b o, H1 b = some o → H2 b = some o := fun b o z => g _ _ (ext0 b o z)
    have g1 : GOk G H1 := (at'.next t1 r1).g
    have r2 := r1.ext ex
    exact mkL_ok r2 (g1.tr r1 (Tr.ext ex)) rl n1 q (k.tr (t1.trans (Tr.ext ex)))⟩
theorem de_lstItems (c : Bool) {td : TDE} (hcm : X.calm = true) (hg : Gl X "list") (hm : X.mg "list" = none) (ho : DE X C o td)
    (hbase : attributeBase o "items" X.env (eval o X.env) = eval o X.env := by rfl) (hline : (apos.endLine == cpos.line) = true := by rfl)
    (h2 : starEach [.Call (.Attribute o "items" apos) [] [] cpos] X.env = (false, eval (.Call (.Attribute o "items" apos) [] [] cpos) X.env) :: starEach [] X.env := by rfl) :
    DE X C (.Call (.Name "list" p) [.Call (.Attribute o "items" apos) [] [] cpos] [] pos) (dLstItems c td) :=
  ⟨PE.imp (pe_callTy (cr_listItems hcm) hg hm (by decide +kernel : bootBuiltins "list" = some (.type "list")) (pa_cons (pe_items ho.pe hbase hline) pa_nil h2) (by decide) (by decide) h2 (by rfl)) fun σ H Q ⟨G, e, S, Q', at', h, k⟩ => by
    refine ⟨G, e, S, _, at', h, fun d S1 v H1 t1 r1 l1 h1 => ?_⟩
    obtain ⟨a, kvs, rfl, hs, q⟩ := h1
    obtain rfl := l1.of_ref
    obtain ⟨xs, e2, rd⟩ := (r1 a _ hs).2
    refine ⟨a, xs, rfl, e2, rd.sq, fun p np => ?_⟩
    have ext0 : ∀ b o, H1 b = some o → upd H1 p (L2.DX.itemsO p a) b = some o := fun b o z => (upd_ne (ne_of_none z np)).trans z
    refine ⟨p, a, xs, kvs, nfz G S1, rfl, upd_same, ext0 _ _ e2, RlD.keep (Keep.ext ext0) rd, fun H2 l out g n0 n1 rl => ?_⟩
    have ex : ∀ b o, H1 b = some o → H2 b = some o := fun b o z => g _ _ (ext0 b o z)
    have g1 : GOk G H1 := (at'.next t1 r1).g
    have r2 := r1.ext ex
    exact mkL_ok r2 (g1.tr r1 (Tr.ext ex)) rl n1 q (k.tr (t1.trans (Tr.ext ex)))⟩
end
/-! pairs of a row of ints and an int -/
theorem noLsts_ints : ∀ ns : List Int, noLsts (ns.map PyData.int) = true
  | [] => rfl
  | n :: r => by
    have := noLsts_ints r
    simpa [noLsts, noLst] using this
theorem toP_keyI {d : D} {ks : List Int} (h : keyI d = some ks) : toP d = .tuple (ks.map PyData.int) := toP_T (keyI_T h)
theorem toP_pr {d : D} {ks : List Int} {n : Int} (h : keyI d = some ks) : toP (prD (d, .int n)) = .tuple [.tuple (ks.map PyData.int), .int n] := by
  show PyData.tuple [toP d, .int n] = _
  rw [toP_keyI h]
theorem srtOk_pr {kvs : List (D × D)} (h : ∀ p ∈ kvs, ∃ ks n, keyI p.1 = some ks ∧ p.2 = .int n) : SrtOk (kvs.map prD) where
  al := by
    intro d hd d' hd'
    simp only [List.map_map, List.mem_map] at hd hd'
    obtain ⟨⟨a, b⟩, m1, rfl⟩ := hd
    obtain ⟨⟨a', b'⟩, m2, rfl⟩ := hd'
    obtain ⟨ks, n, e1, e2⟩ := h _ m1
    obtain ⟨ks', n', e1', e2'⟩ := h _ m2
    simp only at e1 e2 e1' e2'
    subst e2 e2'
    show PySem.W.alike (toP (prD (a, .int n))) (toP (prD (a', .int n'))) = true
    rw [toP_pr e1, toP_pr e1']
    have := PySem.W.alike_ints ks ks'
    simp [PySem.W.alike, PySem.W.alikeAll, this]
  kd := .inl fun d hd => by
    simp only [List.map_map, List.mem_map] at hd
    obtain ⟨⟨a, b⟩, m1, rfl⟩ := hd
    obtain ⟨ks, n, e1, e2⟩ := h _ m1
    simp only at e1 e2
    subst e2
    exact ⟨_, _, toP_pr e1⟩
  sh := fun x hx => by
    obtain ⟨⟨a, b⟩, m1, rfl⟩ := List.mem_map.mp hx
    obtain ⟨ks, n, e1, e2⟩ := h _ m1
    simp only at e1 e2
    subst e2
    have : shp 59 a = true := shp_T (n := 58) (keyI_T e1)
    show (shp 59 a && (shp 59 (.int n) && true)) = true
    rw [this]; rfl
theorem noLsts_pr : ∀ {kvs : List (D × D)}, (∀ p ∈ kvs, ∃ ks n, keyI p.1 = some ks ∧ p.2 = .int n) → noLsts (toPs (kvs.map prD)) = true
  | [], _ => rfl
  | (a, b) :: r, h => by
    obtain ⟨ks, n, e1, e2⟩ := h _ List.mem_cons_self
    simp only at e1 e2
    subst e2
    have := noLsts_pr (kvs := r) fun p hp => h p (List.mem_cons_of_mem _ hp)
    show (noLst (toP (prD (a, .int n))) && noLsts (toPs (r.map prD))) = true
    rw [this, toP_pr e1]
    have := noLsts_ints ks
    simp [noLst, noLsts, this]
end DL

/-! DL, part M3: x in range(n); the keys of a dict by tuples, listed and sorted. -/
namespace DL
open PySem PySem.Spec PyProof.Rows L2
section
variable {X : Cx} {C : Ct} {pos p : Pos} {a b : Expr} {ta tb : TDE}
theorem cr_range1 : CallR X (.type "range") (fun vs H Q => ∃ i, vs = [V.int i] ∧ ∀ p, H p = none → Q (.ref p) (upd H p (.rng 0 i))) := by
  intro pins s σ H vs us Q I r h
  obtain ⟨i, rfl, q⟩ := h
  obtain ⟨u1, rfl, ri⟩ := vals1 r
  obtain ⟨t, rfl⟩ := ri
  refine call_range_1 ⟨.ref s.heap.objs.size, upd H s.heap.objs.size (.rng 0 i), I.laid (t' := s.toks + 1 + 1) (fun b o e => Heap.get?_push_of_some _ e) (Nat.le_refl _) ?_, rfl, q _ (I.hok.fresh (Nat.le_refl _))⟩
  exact ⟨s.toks, t, s.toks + 1, Heap.get?_push_size _ rfl⟩
theorem op_notin_rng : OpR X (compareOp .NotIn) (fun x y H Q => ∃ i a lo hi, x = V.int i ∧ y = V.ref a ∧ H a = some (.rng lo hi) ∧ Q (.bl (!decide (lo ≤ i ∧ i < hi))) H) := by
  intro pins s σ H x y v u Q I rx ry h
  obtain ⟨i, a, lo, hi, rfl, rfl, ha, q⟩ := h
  obtain ⟨k, rfl⟩ := rx
  obtain rfl : u = Value.ref a := ry
  obtain ⟨t1, t2, t3, ho⟩ := I.hok a _ ha
  show wpAny _ _ (do return Value.bool (!(← contains (Value.ref a) (Value.int i k)))) _ _ s
  refine wpAny_bind (wpAny_contains_slot (T := "range") ⟨_, ho, rfl⟩ PySem.F.slot_range_contains (call_meets PySem.F.slot_range_contains ⟨_, ho, rfl⟩ PySem.F.entry_range_contains (PySem.F.args_range_contains_2 _ _) (q_contains a lo hi i t1 t2 t3 k)
    ⟨ho, wpAny_truthy_bool (wpAny_pure ⟨.bl _, H, I, rfl, ?_⟩)⟩))
  rw [place1]
  exact q
def dNotRg (ta tb : TDE) : TDE := fun e S Q => ta e S fun x S1 => tb e S1 fun y S2 => ∃ i n : Int, x = .int i ∧ y = .int n ∧ Q (.bl (!decide (0 ≤ i ∧ i < n))) S2
theorem notRg_ok {K : PySem.W.Frag} {G : Addr → Prop} {e : En} {S : Sto} {σ : L2.St} {H : Hp} {Q' : KD} {Q : VK} (at' : At K C G e S σ H) (h : dNotRg ta tb e S Q') (k : Aft K G S H Q' Q) :
    tOp (fun x y H Q => ∃ i a lo hi, x = V.int i ∧ y = V.ref a ∧ H a = some (.rng lo hi) ∧ Q (.bl (!decide (lo ≤ i ∧ i < hi))) H) (LE K C ta) (tCB (fun vs H Q => ∃ i, vs = [V.int i] ∧ ∀ p, H p = none → Q (.ref p) (upd H p (.rng 0 i))) (tCons (LE K C tb) tNil)) σ H Q :=
  ⟨G, e, S, _, at', h, fun d1 S1 v1 H1 t1 r1 l1 h1 => ⟨G, e, S1, _, at'.next t1 r1, h1, fun d2 S2 v2 H2 t2 r2 l2 h2 => by
    obtain ⟨i, n, rfl, rfl, q⟩ := h2
    obtain rfl := l1.of_int
    obtain rfl := l2.of_int
    refine ⟨n, rfl, fun p np => ⟨i, p, 0, n, rfl, rfl, upd_same, ?_⟩⟩
    exact k _ _ _ _ (t1.trans (t2.trans (Tr.new np))) (r2.new np) Rl.bl q⟩⟩
theorem de_notRg (hg : Gl X "range") (hm : X.mg "range" = none) (ha : DE X C a ta) (hb : DE X C b tb)
    (h1 : starEach [b] X.env = (false, eval b X.env) :: starEach [] X.env := by rfl) (h2 : behindInMarks .NotIn (.Call (.Name "range" p) [b] [] pos) = false := by rfl) {pos2 : Pos} :
    DE X C (.Compare a [.NotIn] [.Call (.Name "range" p) [b] [] pos] pos2) (dNotRg ta tb) :=
  ⟨PE.imp (pe_cmpR op_notin_rng ha.pe (pe_callTy cr_range1 hg hm (by decide +kernel : bootBuiltins "range" = some (.type "range")) (pa_cons hb.pe pa_nil h1) (by decide) (by decide) h1 (by rfl)) h2) fun σ H Q ⟨G, e, S, Q', at', h, k⟩ => notRg_ok at' h k⟩
theorem dt_notRg (hg : Gl X "range") (hm : X.mg "range" = none) (ha : DE X C a ta) (hb : DE X C b tb)
    (h1 : starEach [b] X.env = (false, eval b X.env) :: starEach [] X.env := by rfl) (h2 : behindInMarks .NotIn (.Call (.Name "range" p) [b] [] pos) = false := by rfl) {pos2 : Pos} :
    DT X C (.Compare a [.NotIn] [.Call (.Name "range" p) [b] [] pos] pos2) (dTst (dNotRg ta tb)) :=
  ⟨PT.imp (pt_cmpR op_notin_rng ha.pe (pe_callTy cr_range1 hg hm (by decide +kernel : bootBuiltins "range" = some (.type "range")) (pa_cons hb.pe pa_nil h1) (by decide) (by decide) h1 (by rfl)) h2) fun σ H Q ⟨G, e, S, Q', at', h, k⟩ => notRg_ok at' h (dTst_aft k)⟩
end
/-! list(d) -/
theorem rla_keys {K : PySem.W.Frag} {H : Hp} {nf : Addr → Prop} : ∀ {kvs : List (D × D)} {xs : List (List Int × Addr × V)}, RlD K H nf kvs xs → RlA K H nf (keysK kvs) (xs.map fun x => V.ref x.2.1)
  | [], xs, h => by rw [show xs = [] from h]; exact RlA.nil
  | p :: r, xs, h => by
    obtain ⟨ks, b, v, t, rfl, _, h1, _, h3⟩ := h
    exact RlA.cons h1 (rla_keys h3)
def rListK (K : PySem.W.Frag) : List V → Hp → VK → Prop := fun vs H Q => ∃ (a : Addr) (xs : List (List Int × Addr × V)), vs = [.ref a] ∧ H a = some (DcO a xs) ∧ (∀ x ∈ xs, SqT K H x.2.1 (x.1.map V.int)) ∧ ∀ l, H l = none → Q (.ref l) (upd H l (.lst (xs.map fun x => V.ref x.2.1)))
/-- the keys' addresses -/
theorem dkeys_at {P : Program} {w : World} {es : Array DictEntry} {ys : List (List Int × Addr × Value)} {acc : Array Value} (hes : ∀ j : Nat, es[j]? = (ys[j]?).map (entryOfKey (tkI P w))) (l2 : es.size = ys.length) (it : ItemsOf (fun i v => ∃ en : DictEntry, es[i]? = some en ∧ v = en.key) acc es.size) : acc.toList = ys.map fun x => Value.ref x.2.1 := by
  have hl : acc.toList.length = ys.length := by rw [Array.length_toList, it.1]; exact l2
  apply List.ext_getElem?
  intro j
  rw [List.getElem?_map]
  cases hj : acc.toList[j]? with
  | none =>
    have h1 := List.getElem?_eq_none_iff.mp hj
    rw [List.getElem?_eq_none (by omega)]
    all_goals rfl
  | some v =>
    obtain ⟨en, hen, hv⟩ := it.2 j v (by rw [← Array.getElem?_toList]; exact hj)
    have qe := hes j
    rw [hen] at qe
    cases hb : ys[j]? with
    | none =>
      rw [hb] at qe
      exact nomatch (show some en = none from qe)
    | some b =>
      rw [hb] at qe
      have e2 : en = entryOfKey (tkI P w) b := Option.some.inj qe
      rw [hv, e2]
      all_goals rfl
theorem rx_refs : ∀ {xs : List (List Int × Addr × V)} {ys : List (List Int × Addr × Value)}, Paired Rx xs ys → ys.map (fun x => Value.ref x.2.1) = xs.map fun x => Value.ref x.2.1
  | _, _, .nil => rfl
  | _, _, .cons h t => by rw [List.map_cons, List.map_cons, rx_refs t, h.2.1]
theorem cr_listK {X : Cx} (hc : X.calm = true) : CallR X (.type "list") (rListK X.K) := by
  intro pins s σ H vs us Q I r h
  obtain ⟨a, xs, rfl, ha, sq, q⟩ := h
  obtain rfl := Vals.ref1 r
  obtain ⟨ys, z1, z2, rel, o, es, ep, ho, hx, hdat, hes, his, hn⟩ := dstd_at I ha sq
  have l1 : xs.length = ys.length := Paired.length rel
  have l2 : es.size = ys.length := size_of_entries hes
  refine PySem.W.kdl_call (kdl_raw z2 hx hdat) (I.ok.hd hc) ho (by omega) fun h' tk acc' c' kp e it => ?_
  have ea : acc'.toList = xs.map fun x => Value.ref x.2.1 := (dkeys_at (entry_at hes) l2 it).trans (rx_refs rel)
  have eb : acc'.toList = (xs.map fun x => x.2.1).map Value.ref := by rw [ea, List.map_map]; all_goals rfl
  have rv : Vals (xs.map fun x => V.ref x.2.1) acc'.toList := by
    rw [eb]
    have := vals_refs (xs.map fun x => x.2.1)
    rw [List.map_map] at this
    exact this
  exact ⟨.ref s.heap.objs.size, _, I.laid (t' := tk) (o := .lst (xs.map fun x => V.ref x.2.1)) kp (Nat.le_refl _) ⟨by rw [List.length_map]; omega, acc'.toList, c', rv, by rw [Array.toArray_toList]; exact e⟩, rfl, q _ (I.hok.fresh (Nat.le_refl _))⟩
/-! sorted(d) -/
section
variable {prog : Program} {w : World} {A : Around} {E : Value → Shared → Prop} {s : Shared} {d : Addr} {es : Array DictEntry} {o : Obj} {ep : Nat}
theorem collectKd {R : List Value → Shared → Prop} {T : String} {r : Addr} {n : Nat} {P : Nat → Value → Prop} {OK : Heap → Prop} (K : PySem.W.KdlSrc prog w T r d n P OK) (hh : A.handled = none) (hok : OK s.heap) (hn : n ≤ sizeLine)
    (h : ∀ (h' : Heap) (tk : Nat) (acc : Array Value), (∀ b o, s.heap.get? b = some o → h'.get? b = some o) → s.heap.objs.size < h'.objs.size → ItemsOf P acc n → R acc.toList { s with heap := h', toks := tk }) :
    wpAny (model prog w) A (collect (.ref r)) R E s := by
  have hlt := K.there _ hok
  unfold collect
  refine wpAny_bind (wpAny_runValue (codeAny_builtin entry_proto_collect' ?_))
  rw [Around.under_plainId PySem.F.plain_proto_collect _]
  show wpAny _ A.in1 (newList [] >>= fun l => again (.builtin "list.__iadd__" ⟨[l, .ref r], []⟩)) _ _ s
  refine wpAny_bind (wpAny_newObj_type ?_)
  refine wpAny_pure ⟨plainId_quiet PySem.F.plain_list_iadd _, codeAny_builtin entry_list_iadd' ?_⟩
  rw [Around.under_plainId PySem.F.plain_list_iadd _]
  have hS₁ : (s.heap.push { cls := .type "list", data := .seq ([] : List Value).toArray }).get? s.heap.objs.size = some { cls := .type "list", data := .seq #[] } := Heap.get?_push_size _ rfl
  have key := PySem.W.kdl_extend (A := A) (s := { s with heap := s.heap.push { cls := .type "list", data := .seq ([] : List Value).toArray } })
    (R := fun (q : Result) (s' : Shared) => ∃ (h' : Heap) (tk : Nat) (acc' : Array Value) (c' : Nat), q = .ok (.ret (.ref s.heap.objs.size)) ∧ s' = { s with heap := h', toks := tk } ∧
      (∀ b o, s.heap.get? b = some o → h'.get? b = some o) ∧ h'.get? s.heap.objs.size = some { cls := .type "list", dict := none, data := .seq acc' c', slots := #[] } ∧ ItemsOf P acc' n)
    K hh (K.keep _ _ hok fun b _ o e => Heap.get?_push_of_some _ e) s.heap.objs.size (Nat.ne_of_gt hlt.1) (Nat.ne_of_gt hlt.2) (.ref s.heap.objs.size) 0 hS₁
    (fun h' tk acc' c' hk hS' hacc => ⟨h', tk, acc', c', rfl, rfl, fun b o e => hk b o (Nat.ne_of_lt (Heap.lt_size e)) (Heap.get?_push_of_some _ e), hS', hacc⟩) hn
  refine wpAny_mono key (fun fin s' x => ?_) fun e s' x => ?_
  · cases fin with
    | done f =>
      obtain ⟨h', tk, acc', c', e, rfl, hk, hS', hacc⟩ := x
      cases e
      exact wpAny_bind (wpAny_load hS' (wpAny_pure (h h' tk acc' hk (Heap.lt_size hS') hacc)))
    | again c₁ =>
      refine ⟨x.1, codeAny_mono x.2 fun q s₂ y => ?_⟩
      obtain ⟨h', tk, acc', c', rfl, rfl, hk, hS', hacc⟩ := y
      exact wpAny_bind (wpAny_load hS' (wpAny_pure (h h' tk acc' hk (Heap.lt_size hS') hacc)))
  · obtain ⟨_, _, _, _, e', _⟩ := x
    cases e'
theorem sortedKd {Q : Value → Shared → Prop} (hh : A.handled = none) (z : (d == sysModules) = false) (ho : s.heap.get? d = some o) (hx : o.ExactDict) (hd : o.data = .dict es ep) (hn : es.size ≤ sizeLine)
    (h : ∀ (h' : Heap) (tk : Nat) (acc : Array Value), (∀ b o, s.heap.get? b = some o → h'.get? b = some o) → s.heap.objs.size < h'.objs.size → ItemsOf (fun i v => ∃ en : DictEntry, es[i]? = some en ∧ v = en.key) acc es.size →
      wpAny (model prog w) A.in1 (call (.builtin "list.sort") [.ref h'.objs.size]) (fun _ s' => Q (.ref h'.objs.size) s') E { s with heap := h'.push { cls := .type "list", data := .seq acc.toList.toArray }, toks := tk }) :
    wpAny (model prog w) A (call (.builtin "sorted") [.ref d]) Q E s := by
  refine PySem.Calls.call_function_entry kind_sorted plain_sorted entry_sorted (args_sorted1 _) ?_
  unfold Builtin.«sorted»
  refine wpAny_bind (m := checkCount "sorted" 1 1 _) (wpAny_pure ?_)
  refine wpAny_bind (collectKd (A := A.in1) (kdl_raw z hx hd) hh ho hn fun h' tk acc hk hlt it => ?_)
  refine wpAny_bind (wpAny_newList ?_ (by rw [Array.length_toList, it.1]; exact hn))
  have hg := h h' tk acc hk hlt it
  refine wpAny_bind (wpAny_holding (wpAny_mono hg (fun _ s' x => ?_) fun _ _ e => e))
  exact wpAny_pure ⟨_, rfl, x⟩
end
def rSortK (K : PySem.W.Frag) : List V → Hp → VK → Prop := fun vs H Q => ∃ (a : Addr) (xs : List (List Int × Addr × V)) (kvs : List (D × D)) (nf : Addr → Prop), vs = [.ref a] ∧ H a = some (DcO a xs) ∧ RlD K H nf kvs xs ∧ SrtOk (keysK kvs) ∧ noLsts (toPs (keysK kvs)) = true ∧
  ∀ out p, RlA K H nf (srtD (keysK kvs)) out → H p = none → Q (.ref p) (upd H p (.lst out))
theorem each_of_zip {R : Value → D → Prop} : ∀ {vs : List Value} {ds : List D}, vs.length = ds.length → (∀ (j : Nat) (v : Value) (d : D), vs[j]? = some v → ds[j]? = some d → R v d) → PySem.W.EachIs R vs ds
  | [], [], _, _ => .nil
  | v :: vs, d :: ds, h, f => .cons (f 0 v d rfl rfl) (each_of_zip (by simpa using h) fun j v d h1 h2 => f (j + 1) v d (by simpa using h1) (by simpa using h2))
  | [], _ :: _, h, _ => by simp at h
  | _ :: _, [], h, _ => by simp at h
theorem cr_sortK {X : Cx} (hc : X.calm = true) (hu : X.A.units + 65 < cLine) : CallR X (.builtin "sorted") (rSortK X.K) := by
  intro pins s σ H vs us Q I r h
  obtain ⟨a, xs, kvs, nf, rfl, ha, rd, ok, nl, q⟩ := h
  obtain rfl := Vals.ref1 r
  obtain ⟨ys, z1, z2, rel, o, es, ep, ho, hx, hdat, hes, his, hn⟩ := dstd_at I ha rd.sq
  have l1 : xs.length = ys.length := Paired.length rel
  have l2 : es.size = ys.length := size_of_entries hes
  have l3 := rd.length
  have hh : X.A.handled = none := I.ok.hd hc
  refine sortedKd (es := es) (ep := ep) hh z2 ho hx hdat (by omega) fun h' tk acc hk hlt it => ?_
  have ea : acc.toList = xs.map fun x => Value.ref x.2.1 := (dkeys_at (entry_at hes) l2 it).trans (rx_refs rel)
  have lk : (keysK kvs).length = kvs.length := List.length_map ..
  have hob : (h'.push { cls := .type "list", data := .seq acc.toList.toArray }).get? h'.objs.size = some (seqObj "list" acc.toList.toArray 0) := Heap.get?_push_size _ rfl
  have kb : ∀ b o, s.heap.get? b = some o → (h'.push { cls := .type "list", data := .seq acc.toList.toArray }).get? b = some o := fun b o e => Heap.get?_push_of_some _ (hk b o e)
  have ne0 : ∀ b o, h'.get? b = some o → b ≠ h'.objs.size := fun b o e => Nat.ne_of_lt (Heap.lt_size e)
  generalize hh2 : h'.push { cls := .type "list", data := .seq acc.toList.toArray } = h2 at hob kb ⊢
  have er : PySem.W.EachIs (RvD X.K H nf) acc.toList (keysK kvs) := each_of_zip (by rw [ea, List.length_map, lk, l3]) fun j v d h1 h2 => by
    rw [ea, List.getElem?_map] at h1
    cases hj : xs[j]? with
    | none => rw [hj] at h1; cases h1
    | some x =>
      rw [hj] at h1
      obtain rfl : Value.ref x.2.1 = v := Option.some.inj h1
      obtain ⟨p, hp, _, g1, _⟩ := rd.nth hj
      rw [keysK, List.getElem?_map, hp] at h2
      obtain rfl : p.1 = d := Option.some.inj h2
      exact ⟨.ref x.2.1, rfl, g1⟩
  refine PySem.W.list_sort_data (s := { s with heap := h2, toks := tk }) (enc := toP) (bs := keysK kvs) (R := RvD X.K H nf) hob er (each_imp er fun v d hd ⟨u, r1, g1⟩ => ?_)
    ok.al ok.kd (by omega) (fun d hd => ?_) fun out lo hR => ?_
  · obtain ⟨cs, e1⟩ := Dp.reads I (toP d) _ _ (Rl.dp 60 _ _ (ok.sh d hd) g1) r1
    have e1' := PyProof.Rows.Reads.keeps kb e1
    refine ⟨cs, e1', ?_⟩
    rw [reads_nil _ _ _ (noLsts_mem nl (by rw [toPs_map]; exact List.mem_map.mpr ⟨_, hd, rfl⟩)) e1']
    exact fun z => nomatch z
  · have := (shp_ok 60 _ (ok.sh d hd)).2
    show X.A.units + 1 + 1 + _ < cLine
    omega
  · obtain ⟨xs', rv', hr'⟩ := rv_each hR
    obtain ⟨eF, heF⟩ := PyProof.Rows.sortedHeap_at (vs := acc.toList) (out := List.toArray out) hob
    have lx : xs'.length ≤ sizeLine := by rw [rv'.length, lo]; omega
    have kS : ∀ b o, s.heap.get? b = some o → (sortedHeap h2 h'.objs.size acc.toList (List.toArray out)).get? b = some o := fun b o e => (PyProof.Rows.sortedHeap_old (ne0 _ _ (hk b o e)) (Heap.lt_size (kb b o e))).trans (kb b o e)
    exact ⟨.ref h'.objs.size, upd H h'.objs.size (.lst xs'), I.laid (t' := tk) kS (Nat.le_of_lt hlt) ⟨lx, out, eF, rv', heF⟩, rfl, q _ _ hr' (I.hok.fresh (Nat.le_of_lt hlt))⟩
section
variable {X : Cx}
def lstKR (c : Bool) : D → Sto → KD → Prop := fun d S Q => ∃ a kvs, d = .ref a ∧ S a = some (.dct kvs) ∧ mkL c (keysK kvs) S Q
theorem cr_listKD (c : Bool) (hc : X.calm = true) : CallR X (.type "list") (LRL X.K (one (lstKR c))) := cr_one (cr_listK hc) fun v H Q ⟨G, d, S, Q', r, g, l, ⟨a, kvs, e, hs, q⟩, k⟩ => by
  subst e
  obtain rfl := l.of_ref
  obtain ⟨xs, e2, rd⟩ := (r a _ hs).2
  exact ⟨a, xs, rfl, e2, rd.sq, fun p n => mkL_ok r g (rla_keys rd) n q k⟩
def sortKR (c : Bool) : D → Sto → KD → Prop := fun d S Q => ∃ a kvs, d = .ref a ∧ S a = some (.dct kvs) ∧ SrtOk (keysK kvs) ∧ noLsts (toPs (keysK kvs)) = true ∧ mkL c (srtD (keysK kvs)) S Q
theorem cr_sortKD (c : Bool) (hc : X.calm = true) (hu : X.A.units + 65 < cLine) : CallR X (.builtin "sorted") (LRL X.K (one (sortKR c))) := cr_one (cr_sortK hc hu) fun v H Q ⟨G, d, S, Q', r, g, l, ⟨a, kvs, e, hs, ok, nl, q⟩, k⟩ => by
  subst e
  obtain rfl := l.of_ref
  obtain ⟨xs, e2, rd⟩ := (r a _ hs).2
  exact ⟨a, xs, kvs, _, rfl, e2, rd, ok, nl, fun out p h3 n => mkL_ok r g h3 n q k⟩
end
end DL

/-! DL, part M4: repr of a sequence or None. -/
namespace DL
open PySem PySem.Spec PyProof.Rows L2
section
variable {X : Cx}
def rRepN : List V → Hp → VK → Prop := fun vs H Q => vs = [V.non] ∧ Q (.str "None") H
theorem cr_repN : CallR X (.builtin "repr") rRepN := by
  intro pins s σ H vs us Q I r h
  obtain ⟨rfl, q⟩ := h
  obtain ⟨u, rfl, rx⟩ := vals1 r
  cases rx
  exact PySem.P.repr_of_none ⟨.str "None", H, I.tok _, ⟨_, rfl⟩, q⟩
def rprNR : D → Sto → KD → Prop := fun d S Q => match d with
  | .non => Q (.str "None") S
  | d => rprR d S Q
theorem cr_repND (hg : X.A.guards = some []) (hu : X.A.units + 65 < cLine) : CallR X (.builtin "repr") (LRL X.K (one rprNR)) := cr_one (CallR.or cr_repN (cr_repr hg hu)) fun v H Q ⟨G, d, S, Q', r, g, l, h, k⟩ => by
  have go : ∀ d, rprR d S Q' → Rl X.K H (nfz G S) d v → (rRepN [v] H Q ∨ rRepr X.K [v] H Q) := fun d h l => by
    obtain ⟨h0, h1, h2, h3, q⟩ := h
    obtain ⟨a, rfl⟩ := seq_ref h0 l
    have c := shp_ok 64 _ h1
    have s := smi_ok _ h2
    exact Or.inr ⟨a, toP (vw S d), rfl, vw_dp r h1 l, s.2, PyData.hasDict_of_canLay _ c.1, c.2, PyData.shown_fits (B := 13) (by decide) (by decide) (PyData.leavesShort_of_canLay0 13 _ c.1 s.1) h3, k.now r Rl.str q⟩
  cases d with
  | non => exact Or.inl ⟨by rw [l.of_non], k.now r Rl.str h⟩
  | _ => exact go _ h l
end
end DL

/-! DL, part M5: fields of an instance. -/
namespace DL
open PySem PySem.Spec PyProof.Rows L2
def putD (f : Str) (v : D) : List (Str × D) → List (Str × D)
  | [] => [(f, v)]
  | (g, x) :: r => if g = f then (g, v) :: r else (g, x) :: putD f v r
section
variable {K : PySem.W.Frag} {H : Hp} {nf : Addr → Prop}
theorem RlF.look {f : Str} : ∀ {fs : List (Str × D)} {vs : List (Str × V)} {x : D}, RlF K H nf fs vs → fs.lookup f = some x → ∃ v, vs.lookup f = some v ∧ Rl K H nf x v
  | [], _, _, _, h => nomatch h
  | (g, y) :: r, vs, x, h, e => by
    obtain ⟨v, t, rfl, h1, h2⟩ := h
    rw [List.lookup_cons] at e ⊢
    cases z : f == g with
    | true => rw [z] at e; cases e; exact ⟨v, rfl, h1⟩
    | false => rw [z] at e; exact RlF.look h2 e
theorem RlF.len : ∀ {fs : List (Str × D)} {vs : List (Str × V)}, RlF K H nf fs vs → fs.length = vs.length
  | [], vs, h => by rw [show vs = [] from h]; rfl
  | x :: r, vs, h => by
    obtain ⟨v, t, rfl, _, h2⟩ := h
    simp [RlF.len h2]
theorem RlF.putF {f : Str} {d : D} {v : V} (l : Rl K H nf d v) : ∀ {fs : List (Str × D)} {vs : List (Str × V)}, RlF K H nf fs vs → RlF K H nf (putD f d fs) (L2.putF f v vs)
  | [], vs, h => by
    rw [show vs = [] from h]
    exact ⟨v, [], rfl, l, rfl⟩
  | (g, y) :: r, vs, h => by
    obtain ⟨w, t, rfl, h1, h2⟩ := h
    unfold putD L2.putF
    by_cases e : g = f
    · rw [if_pos e, if_pos e]; exact ⟨v, t, rfl, l, h2⟩
    · rw [if_neg e, if_neg e]; exact ⟨w, _, rfl, h1, RlF.putF l h2⟩
end
section
variable {X : Cx} {C : Ct} {o a : Expr} {f : Str} {pos pos' : Pos} {td ta : TDE}
/-- e.f -/
def dFld (K : PySem.W.Frag) (f : Str) (td : TDE) : TDE := fun e S Q => td e S fun d S1 => ∃ a Cc dx fs v, d = .ref a ∧ S1 a = some (.ins Cc dx fs) ∧ Cls K Cc ∧ NoAttr K Cc f ∧ fs.lookup f = some v ∧ Q v S1
theorem de_fld (ho : DE X C o td) (hb : attributeBase o f X.env (eval o X.env) = eval o X.env := by rfl) : DE X C (.Attribute o f pos) (dFld X.K f td) :=
  ⟨PE.imp (pe_fld ho.pe hb) fun σ H Q ⟨G, e, S, Q', at', h, k⟩ => ⟨G, e, S, _, at', h, fun d S1 v H1 t1 r1 l1 h1 => by
    obtain ⟨a, Cc, dx, fs, y, rfl, hs, c, n, lk, q⟩ := h1
    obtain rfl := l1.of_ref
    obtain ⟨vs, e2, rf⟩ := (r1 a _ hs).2
    obtain ⟨w, hw, lw⟩ := rf.look lk
    exact ⟨a, Cc, dx, vs, w, rfl, e2, c, n, hw, k _ _ _ _ t1 r1 lw q⟩⟩⟩
/-- o.f = a -/
def dSFld (K : PySem.W.Frag) (f : Str) (td ta : TDE) : TDS := fun D e S => ta e S fun y S1 => td e S1 fun d S2 => ∃ a Cc dx fs, d = .ref a ∧ S2 a = some (.ins Cc dx fs) ∧ Cls K Cc ∧ NoAttr K Cc f ∧ fs.length < 1000 ∧ D.nx e (sput S2 a (.ins Cc dx (putD f y fs)))
theorem ds_fld (ho : DE X C o td) (ha : DE X C a ta) (hs : swapsWith a (some (.Attribute o f pos')) pos.line X.env = pure false := by rfl) : DS X C (.Assign [.Attribute o f pos'] a pos) (dSFld X.K f td ta) :=
  ⟨PS.imp (ps_fld ho.pe ha.pe hs) fun D σ H ⟨G, e, S, D', at', h, k⟩ => ⟨G, e, S, _, at', h, fun y S1 v H1 t1 r1 l1 h1 => ⟨G, e, S1, _, at'.next t1 r1, h1, fun d S2 u H2 t2 r2 l2 h2 => by
    obtain ⟨a, Cc, dx, fs, rfl, hs, c, n, hl, q⟩ := h2
    obtain rfl := l2.of_ref
    obtain ⟨vs, e2, rf⟩ := (r2 a _ hs).2
    have l1' := l1.tr r1 t2
    obtain ⟨r3, t3⟩ := r2.put (o := .ins Cc dx (L2.putF f v vs)) (c' := .ins Cc dx (putD f y fs)) hs (fun v z => by rw [e2] at z; cases z) (fun o u z => by rw [e2] at z; cases z) fun kp => ⟨_, upd_same, RlF.keep kp (rf.putF l1')⟩
    exact ⟨a, Cc, dx, vs, rfl, e2, c, n, by rw [← rf.len]; exact hl, k.nx _ _ _ _ (t1.trans (t2.trans t3)) (((at'.next t1 r1).next t2 r2).next t3 r3) q⟩⟩⟩⟩
end
end DL

/-! DL, part M6: methods of an instance, instances made. -/
namespace DL
open PySem PySem.Spec PyProof.Rows L2
theorem RlF.lookNone {K : PySem.W.Frag} {H : Hp} {nf : Addr → Prop} {f : Str} : ∀ {fs : List (Str × D)} {vs : List (Str × V)}, RlF K H nf fs vs → fs.lookup f = none → vs.lookup f = none
  | [], vs, h, _ => by rw [show vs = [] from h]; rfl
  | (g, y) :: r, vs, h, e => by
    obtain ⟨v, t, rfl, h1, h2⟩ := h
    rw [List.lookup_cons] at e ⊢
    cases z : f == g with
    | true => rw [z] at e; cases e
    | false => rw [z] at e; exact RlF.lookNone h2 e
structure FcM (P : Program) (w : World) (K : PySem.W.Frag) (mg : Str → Option Value) (base : Heap) (k : Nat) (Cc : Addr) (m : Str) (ps : List Str) (sp : SpD) : Prop where
  ex : ∃ (f : Addr) (fd : FuncData), Meth K Cc m f ∧ Binds K fd ps [] ∧ FnD P w K mg base k f fd ps sp
def dMeth (Cc : Addr) (m : Str) (sp : SpD) (E : XKD) (td : TDE) (t : TDA) : TDE := fun e S Q => td e S fun d S1 => ∃ a dx fs, d = .ref a ∧ S1 a = some (.ins Cc dx fs) ∧ fs.lookup m = none ∧ t e S1 fun ds S2 => sp (.ref a :: ds) S2 Q E
section
variable {X : Cx} {C : Ct} {k : Nat} {Cc : Addr} {m : Str} {ps : List Str} {sp : SpD} {E : XKD} {p pos apos : Pos} {o a : Expr} {es : List Expr} {t : TDA} {td : TDE}
theorem de_meth {pl : Sem Bool} (c : Cls X.K Cc) (F : FcM X.prog X.w X.K X.mg X.base k Cc m ps sp) (hr : Rm k X.A) (hx : XOk X C E) (ho : DE X C o td) (ha : DA X C (a :: es) t)
    (hst : starEach (a :: es) X.env = (false, eval a X.env) :: starEach es X.env := by rfl) (hpl : (backTo pos (starEach es X.env)).any (·.1) = false := by rfl)
    (ht : eval (.Call (.Attribute o m apos) (a :: es) [] pos) X.env = (do
      let ov ← eval o X.env
      standAt apos.atName
      let (f, first) ← holding [ov] (getMethod ov m pl)
      callWith pos f first (backTo pos (starEach (a :: es) X.env)) (backToKw pos (keywordEach [] X.env))) := by rfl) :
    DE X C (.Call (.Attribute o m apos) (a :: es) [] pos) (dMeth Cc m sp E td t) := by
  obtain ⟨f, fd, hm, hb, F⟩ := F.ex
  refine ⟨⟨fun pins s σ H Q I ⟨G, e, S, Q', at', h, k⟩ => ?_⟩⟩
  refine PySem.W.methodCall_KW (pl := pl) (thn (ho.pe.run pins s σ H (fun x H1 => ∃ (y dx : Addr) (fs : List (Str × V)), x = .ref y ∧ H1 y = some (.ins Cc dx fs) ∧ fs.lookup m = none ∧ LA X.K C t σ H1 fun vs H2 => LSp X.K sp (.ref y :: vs) H2 Q (EL X.K C E)) I
    ⟨G, e, S, _, at', h, fun d S1 v H1 t1 r1 l1 h1 => ?_⟩) fun u s1 ⟨x, H1, I1, rx, y, dx, fs, ex, ea, l, q⟩ => ?_) ht
  · obtain ⟨y, dx, fs, rfl, hs, lk, h2⟩ := h1
    obtain rfl := l1.of_ref
    obtain ⟨vs, e2, rf⟩ := (r1 y _ hs).2
    exact ⟨y, dx, vs, rfl, e2, rf.lookNone lk, G, e, S1, _, at'.next t1 r1, h2, fun ds S2 ws H2 t2 r2 l2 h3 => lsp_of ((at'.next t1 r1).next t2 r2) (RlA.cons Rl.ref l2) h3 (k.tr (t1.trans t2))⟩
  · subst ex
    obtain rfl : u = Value.ref y := rx
    refine getmeth_ok I1 ea c hm l ?_
    refine PySem.W.callWith_K (first := [.ref y]) (h₀ := X.base) I.ok.mod.kin hm.kp (thn (ha.pa.run pos pins s1 σ H1 _ I1 q) fun us s2 ⟨vs, H2, I2, r, q2⟩ => ⟨I2.kIn, ?_⟩) hst hpl
    exact call_fnd (us := .ref y :: us) (vs := .ref y :: vs) F hr hb (passes_call hx fun _ _ _ _ h => h) I2 (.cons rfl r) q2
/-! C() -/
structure FcI (P : Program) (w : World) (K : PySem.W.Frag) (mg : Str → Option Value) (base : Heap) (k : Nat) (x : Str) (Cc : Addr) (ps : List Str) (sp : SpD) : Prop where
  ex : ∃ (j : Nat) (f : Addr) (fd : FuncData), k = j + 1 ∧ mg x = some (.ref Cc) ∧ L2.Mk K Cc f ∧ Binds K fd ps [] ∧ FnD P w K mg base j f fd ps sp
def dMake0 (Cc : Addr) (sp : SpD) (E : XKD) : TDE := fun _ S Q => ∀ x dx, S x = none → sp [.ref x] (sput S x (.ins Cc dx [])) (fun v S2 => v = .non ∧ Q (.ref x) S2) E
theorem make_fnd {j : Nat} {f : Addr} {fd : FuncData} {pins : List (Addr × Obj)} {σ : L2.St} {H : Hp} {s : Shared} {Q : VK} {E : XK} (M : L2.Mk X.K Cc f) (F : FnD X.prog X.w X.K X.mg X.base j f fd ps sp) (hr : Rm (j + 1) X.A) (hb : Binds X.K fd ps []) (hx : Passes (L2.CX X.prog X.w) X E)
    (I : L2.Inv X pins σ H s) (h : ∀ x dx, H x = none → H dx = none → dx ≠ x → LSp X.K sp [.ref x] (upd (upd H dx (.own x)) x (.ins Cc dx [])) (fun v H2 => v = .non ∧ Q (.ref x) H2) E) :
    wpAny (model X.prog X.w) X.A (call (.ref Cc) []) (EP X pins σ Q) X.xe s := by
  have hq := h (s.heap.objs.size + 1) s.heap.objs.size (I.hok.fresh (Nat.le_succ _)) (I.hok.fresh (Nat.le_refl _)) (Nat.ne_of_lt (Nat.lt_succ_self _))
  have I2 := Inv.made (C := Cc) I
  have hl : ps.length = 1 := by
    obtain ⟨G, S, ds, Q', E', rep, g, l, hs, _⟩ := hq
    rw [← F.len _ _ _ _ hs]
    have := l.length
    simpa using this
  have bt := hb _ [Value.ref (s.heap.objs.size + 1)] I2.kIn (by rw [List.append_nil, hl]; rfl)
  rw [List.append_nil] at bt
  refine wpAny_call (make_map (f := f) I.kIn M.makes M.init (beq_iff_eq.mp M.fn) (codeAny_mono (F.run _ X.stack _ _ ⟨[Value.ref (s.heap.objs.size + 1)], []⟩ [Value.ref (s.heap.objs.size + 1)] [V.ref (s.heap.objs.size + 1)] _ E ⟨hr.room.make Cc [] [], hr.gd⟩
    (I2.env0.make Cc [] []) bt (.cons rfl .nil) hq) fun r s' hq' => ?_))
  cases r with
  | error e => exact hx pins σ _ _ e s' I2 hq'
  | ok fl =>
    cases fl with
    | ret u =>
      obtain ⟨v, H', I3, rv, ev, q3⟩ := I2.after hq'
      subst ev
      exact ⟨rv, ⟨V.ref (s.heap.objs.size + 1), H', I3, rfl, q3⟩⟩
    | next => exact False.elim hq'
    | brk => exact False.elim hq'
    | cont => exact False.elim hq'
theorem de_make0 {x : Str} (F : FcI X.prog X.w X.K X.mg X.base k x Cc ps sp) (hr : Rm k X.A) (hx : XOk X C E) (hg : Gl X x)
    (hdb : (x == ("__debug__" : Str)) = false := by decide) : DE X C (.Call (.Name x p) [] [] pos) (dMake0 Cc sp E) := by
  obtain ⟨j, f, fd, rfl, hm, M, hb, F⟩ := F.ex
  refine ⟨⟨fun pins s σ H Q I ⟨G, e, S, Q', at', h, k⟩ => ?_⟩⟩
  refine wpAny_Call_Name_kw (ld_glob I hg hm ?_ hdb)
  refine PySem.W.callWith_K0 I.kIn M.kp (make_fnd M F hr hb (passes_call hx fun _ _ _ _ h => h) I fun x dx nx ndx ne => ?_)
  have r1 := at'.rep.new (o := .own x) ndx
  have g1 := at'.g.tr at'.rep (Tr.new (o := .own x) ndx)
  have n1 : upd H dx (.own x) x = none := (upd_ne (Ne.symm ne)).trans nx
  obtain ⟨r2, t2, _⟩ := r1.newCell (o := .ins Cc dx []) (c := .ins Cc dx []) g1 n1 ⟨[], upd_same, rfl⟩
  have tt := (Tr.new (S := S) (o := .own x) ndx).trans t2
  refine lsp_of (at'.next tt r2) (RlA.cons Rl.ref RlA.nil) (h x dx (at'.rep.none_of nx)) fun d S' v H' t r l q => ?_
  obtain ⟨rfl, q⟩ := q
  exact ⟨l.of_non, k _ _ _ _ (tt.trans t) r Rl.ref q⟩
end
end DL

/-! DL, part M7: d.get, what is told as an equation. -/
namespace DL
open PySem PySem.Spec PyProof.Rows L2
section
variable {X : Cx} {C : Ct} {o e : Expr} {apos cpos : Pos}
def dKGet1e (td tk : TDE) : TDE := fun e S Q => td e S fun d S1 => ∃ a kvs0, d = .ref a ∧ S1 a = some (.dct kvs0) ∧ tk e S1 fun k S2 => ∃ kvs ks y, S2 a = some (.dct kvs) ∧ keyI k = some ks ∧ (getK kvs ks).getD .non = y ∧ Q y S2
def dKGet2e (td tk tx : TDE) : TDE := fun e S Q => td e S fun d S1 => ∃ a kvs0, d = .ref a ∧ S1 a = some (.dct kvs0) ∧ tk e S1 fun k S2 => tx e S2 fun x S3 => ∃ kvs ks y, S3 a = some (.dct kvs) ∧ keyI k = some ks ∧ (getK kvs ks).getD x = y ∧ Q y S3
theorem de_kget1e {td tk : TDE} (hu : X.A.units + 65 < cLine) (ho : DE X C o td) (he : DE X C e tk) (m : M1 X o "get" apos e cpos := by exact ⟨by rfl, by rfl, by rfl, by rfl⟩) : DE X C (.Call (.Attribute o "get" apos) [e] [] cpos) (dKGet1e td tk) :=
  ⟨PE.imp (pe_kget1 (by omega) ho.pe he.pe m) fun σ H Q ⟨G, en, S, Q', at', h, k⟩ => ⟨G, en, S, _, at', h, fun d S1 v1 H1 t1 r1 l1 h1 => by
    obtain ⟨a, kvs0, rfl, hs, h1⟩ := h1
    obtain rfl := l1.of_ref
    obtain ⟨xs, e0, _⟩ := (r1 a _ hs).2
    refine ⟨a, rfl, ⟨xs, e0⟩, G, en, S1, _, at'.next t1 r1, h1, fun d2 S2 v2 H2 t2 r2 l2 h2 => ?_⟩
    obtain ⟨kvs, ks, y, hs2, hk, ey, q⟩ := h2
    subst ey
    obtain ⟨b, rfl, ov, kg, _, g1, g2⟩ := kgetD r2 hs2 hk l2
    refine ⟨b, ov, rfl, kg, ?_⟩
    cases hg : getK kvs ks with
    | none => rw [hg] at q; rw [g2 hg]; exact k _ _ _ _ (t1.trans t2) r2 Rl.non q
    | some d =>
      rw [hg] at q
      obtain ⟨v, rfl, l3⟩ := g1 d hg
      exact k _ _ _ _ (t1.trans t2) r2 l3 q⟩⟩
theorem de_kget2e {f : Expr} {td tk tx : TDE} (hu : X.A.units + 65 < cLine) (ho : DE X C o td) (he : DE X C e tk) (hf : DE X C f tx) (m : M2 X o "get" apos e f cpos := by exact ⟨by rfl, by rfl, by rfl, by rfl⟩) : DE X C (.Call (.Attribute o "get" apos) [e, f] [] cpos) (dKGet2e td tk tx) :=
  ⟨PE.imp (pe_kget2 (by omega) ho.pe he.pe hf.pe m) fun σ H Q ⟨G, en, S, Q', at', h, k⟩ => ⟨G, en, S, _, at', h, fun d S1 v1 H1 t1 r1 l1 h1 => by
    obtain ⟨a, kvs0, rfl, hs, h1⟩ := h1
    obtain rfl := l1.of_ref
    obtain ⟨xs, e0, _⟩ := (r1 a _ hs).2
    refine ⟨a, rfl, ⟨xs, e0⟩, G, en, S1, _, at'.next t1 r1, h1, fun d2 S2 v2 H2 t2 r2 l2 h2 => ⟨G, en, S2, _, (at'.next t1 r1).next t2 r2, h2, fun d3 S3 v3 H3 t3 r3 l3 h3 => ?_⟩⟩
    obtain ⟨kvs, ks, y, hs2, hk, ey, q⟩ := h3
    subst ey
    obtain ⟨b, rfl, ov, kg, _, g1, g2⟩ := kgetD r3 hs2 hk (l2.tr r2 t3)
    refine ⟨b, ov, rfl, kg, ?_⟩
    cases hg : getK kvs ks with
    | none => rw [hg] at q; rw [g2 hg]; exact k _ _ _ _ (t1.trans (t2.trans t3)) r3 l3 q
    | some d =>
      rw [hg] at q
      obtain ⟨v, rfl, l4⟩ := g1 d hg
      exact k _ _ _ _ (t1.trans (t2.trans t3)) r3 l4 q⟩⟩
variable {a : Expr} {f : Str} {pos pos' : Pos} {td ta : TDE} {K : PySem.W.Frag}
theorem de_fldK (hK : X.K = K) (ho : DE X C o td) (hb : attributeBase o f X.env (eval o X.env) = eval o X.env := by rfl) : DE X C (.Attribute o f pos) (dFld K f td) := by
  subst hK; exact de_fld ho hb
theorem ds_fldK (hK : X.K = K) (ho : DE X C o td) (ha : DE X C a ta) (hs : swapsWith a (some (.Attribute o f pos')) pos.line X.env = pure false := by rfl) : DS X C (.Assign [.Attribute o f pos'] a pos) (dSFld K f td ta) := by
  subst hK; exact ds_fld ho ha hs
end
end DL

/-! DL, part M8: x in a tuple whose items are data of any depth. -/
namespace DL
open PySem PySem.Spec PyProof.Rows L2
section
variable {X : Cx}
def inTR (neg : Bool) : RD2 := fun x y S Q => ∃ xs b, y = .tup xs ∧ shp 64 x = true ∧ shp 64 (.tup xs) = true ∧ (xs.any fun z => deq z x) = b ∧ Q (.bl (if neg then !b else b)) S
theorem or_inT (hu : X.A.units + 65 < cLine) : OpR X (compareOp .In) (LR2 X.K (inTR false)) := by
  intro pins s σ H x y v u Q I rx ry h
  obtain ⟨G, d1, d2, S, Q', r, g, l1, l2, ⟨xs, b, rfl, s1, s2, eb, q⟩, k⟩ := h
  subst eb
  obtain ⟨as, r1⟩ := Dp.reads I (toP d1) x v (Rl.dp 64 _ _ s1 l1) rx
  obtain ⟨bs, r2⟩ := Dp.reads I (toP (.tup xs)) y u (Rl.dp 64 _ _ s2 l2) ry
  have sd := shaped_of s1
  have se := shaped_of s2
  have hp := any_toP d1 xs
  exact SeqAt.in_tuple_reads (xs := toPs xs) r2 r1 (SeqAt.canLay_of_shaped se) (SeqAt.canLay_of_shaped sd) (room_in_shaped sd hu) ⟨.bl _, H, I, rfl, by rw [hp]; exact k.now r Rl.bl q⟩
theorem or_notinT (hu : X.A.units + 65 < cLine) : OpR X (compareOp .NotIn) (LR2 X.K (inTR true)) := by
  intro pins s σ H x y v u Q I rx ry h
  obtain ⟨G, d1, d2, S, Q', r, g, l1, l2, ⟨xs, b, rfl, s1, s2, eb, q⟩, k⟩ := h
  subst eb
  obtain ⟨as, r1⟩ := Dp.reads I (toP d1) x v (Rl.dp 64 _ _ s1 l1) rx
  obtain ⟨bs, r2⟩ := Dp.reads I (toP (.tup xs)) y u (Rl.dp 64 _ _ s2 l2) ry
  have sd := shaped_of s1
  have se := shaped_of s2
  have hp := any_toP d1 xs
  exact SeqAt.notIn_tuple_reads (xs := toPs xs) r2 r1 (SeqAt.canLay_of_shaped se) (SeqAt.canLay_of_shaped sd) (room_in_shaped sd hu) ⟨.bl _, H, I, rfl, by rw [hp]; exact k.now r Rl.bl q⟩
end
end DL

/-! DL, part M9: < of rows of ints. -/
namespace DL
open PySem PySem.Spec PyProof.Rows L2
section
variable {X : Cx}
def ltTR : RD2 := fun x y S Q => ∃ (ns ms : List Int), asT x = some (ns.map D.int) ∧ asT y = some (ms.map D.int) ∧ Q (.bl (decide (ns < ms))) S
theorem or_ltT (hu : X.A.units + 64 < cLine) : OpR X (compareOp .Lt) (LR2 X.K ltTR) := by
  intro pins s σ H x y v u Q I rx ry h
  obtain ⟨G, d1, d2, S, Q', r, g, l1, l2, ⟨ns, ms, h1, h2, q⟩, k⟩ := h
  have s1 : shp 64 d1 = true := shp_T (n := 63) h1
  have s2 : shp 64 d2 = true := shp_T (n := 63) h2
  obtain ⟨as, r1⟩ := Dp.reads I (toP d1) x v (Rl.dp 64 _ _ s1 l1) rx
  obtain ⟨bs, r2⟩ := Dp.reads I (toP d2) y u (Rl.dp 64 _ _ s2 l2) ry
  have sd := shaped_of s1
  simp only [PySem.SeqAt.shaped, Bool.and_eq_true, decide_eq_true_eq] at sd
  have dp := sd.2
  have lt : PySem.W.dataLt (toP d1) (toP d2) = decide (ns < ms) := by
    rw [toP_T h1, toP_T h2, PySem.W.dataLt_tuple]
    exact PySem.W.dataLt_ints ns ms
  have al : PySem.W.alike (toP d1) (toP d2) = true := by
    rw [toP_T h1, toP_T h2, PySem.W.alike]
    exact PySem.W.alike_ints ns ms
  refine PySem.W.lt_data r1 r2 al (by rw [toP_T h1]; exact fun z => nomatch z) (by omega) ⟨.bl _, H, I, rfl, ?_⟩
  rw [lt]
  exact k.now r Rl.bl q
end
end DL

/-! DL, part N1: for k in d, d a dict by tuples that stays as it is from here on; d[k] of such a dict. -/
namespace DL
open PySem PySem.Spec PyProof.Rows L2
/-- the keys of the dict at a -/
def Itd (a : Addr) (z : Pin) : It :=
  ⟨fun i H => H a = some (DcE a z) ∧ (∀ x ∈ z.xs, True) ∧ i < z.xs.length, fun i H x H' => H' = H ∧ ∃ e, z.xs[i]? = some e ∧ x = .ref e.2.1, fun i H => H a = some (DcE a z) ∧ z.xs.length ≤ i⟩
theorem turn_dcf {P : Program} {w : World} {K : PySem.W.Frag} {tg : Expr} {a it : Addr} {z : Pin} : L2.Turn P w K tg (Itd a z) [it] it (fun i h => h.IsKeyIter it a i z.xs.length z.ep) where
  mem := by simp
  obj := fun i h st b hb => by
    have e : b = it := by simpa using hb
    subst e
    obtain ⟨oi, e, c, dd⟩ := st
    exact ⟨oi, e, fun v z => by rw [dd] at z; cases z⟩
  keep := fun i h h' st k => st.at fun oi e => k it (by simp) oi e
  item := by
    intro X hP hw hK hc i pins s σ H E I hf st hg
    subst hP hw hK
    obtain ⟨hd, _, hi⟩ := hg
    obtain ⟨f0, f1, f2, f3, f4, f5⟩ := hf it (by simp)
    obtain ⟨⟨h1, h2, h3, ys, h4, h5, h6, h7, h8⟩, _, _⟩ := (show ObjOk X.prog X.w H s.heap a (DcE a z) from I.hok a _ hd)
    have l1 : z.xs.length = ys.length := Paired.length h4
    have l2 : z.es.size = ys.length := size_of_entries (h8 X.prog X.w)
    obtain ⟨e, he⟩ : ∃ e, z.xs[i]? = some e := ⟨_, List.getElem?_eq_getElem hi⟩
    obtain ⟨y, hy⟩ : ∃ y, ys[i]? = some y := ⟨_, List.getElem?_eq_getElem (by omega)⟩
    have hen : z.es[i]? = some (entryOfKey (tkI X.prog X.w) y) := by
      have := entry_at (h8 X.prog X.w) i
      rw [hy] at this
      exact this
    have hr : e.2.1 = y.2.1 := by
      obtain ⟨y', hy', r1, r2, _⟩ := paired_get h4 he
      rw [hy] at hy'
      cases hy'
      exact r2
    refine next_key_item st h5 h7 (by omega) hen fun h' st' sb => ?_
    have I1 : L2.Inv X pins σ H { s with heap := h' } := I.turned (t' := s.toks) (fun b ob hb e => (sb.2 b hb).trans e) f0 f1 f3 f4 f5
    obtain ⟨oi, e2, cc, dd⟩ := id st'
    exact ⟨.ref y.2.1, rfl, go_of (s := { s with heap := h' }) e2 cc dd (by decide) ⟨.ref y.2.1, H, I1, rfl, ⟨rfl, e, he, by rw [hr]⟩, st', fun b hb => (hf b hb).1⟩⟩
  done := by
    intro X hP hw hK hc i pins s σ H E I hf st hg
    subst hP hw hK
    obtain ⟨hd, hi⟩ := hg
    obtain ⟨f0, f1, f2, f3, f4, f5⟩ := hf it (by simp)
    obtain ⟨⟨h1, h2, h3, ys, h4, h5, h6, h7, h8⟩, _, _⟩ := (show ObjOk X.prog X.w H s.heap a (DcE a z) from I.hok a _ hd)
    have l1 : z.xs.length = ys.length := Paired.length h4
    have l2 : z.es.size = ys.length := size_of_entries (h8 X.prog X.w)
    exact next_key_end (I.ok.hd hc) st h5 h7 (by omega) hi fun h' eb => ⟨rfl, I.turned (t' := s.toks) (fun b ob hb e => eb b ob hb e) f0 f1 f3 f4 f5⟩
  self := fun A i s Q E st h => by
    refine wpAny_pyIter_slot st.typeIs F.slot_dict_keyiterator_iter (wpAny_call_entry F.slot_dict_keyiterator_iter st.typeIs F.entry_dict_keyiterator_iter ?_ (F.args_dict_keyiterator_iter_1 _))
    show wpAny _ _ (ret (.ref it)) _ _ s
    exact wpAny_pure ⟨_, rfl, "dict_keyiterator", _, st.typeIs, F.slot_dict_keyiterator_next.lookup, h⟩
def iDct (K : PySem.W.Frag) (tl : TE) : TI := fun σ H R => tl σ H fun x H1 => ∃ a xs, x = .ref a ∧ H1 a = some (DcO a xs) ∧ (∀ x ∈ xs, SqT K H1 x.2.1 (x.1.map V.int)) ∧ ∀ z : Pin, z.xs = xs → R (Itd a z) (upd H1 a (DcE a z))
theorem pi_dct {X : Cx} {tg l : Expr} {tl : TE} (hl : PE X l tl) : PI X tg l (iDct X.K tl) := by
  refine ⟨fun pins s σ H R I h => ?_⟩
  refine thn (hl.run pins s σ H _ I h) fun v s1 ⟨x, H1, I1, r1, a, xs, ex, ha, sq, q1⟩ => ?_
  subst ex
  obtain rfl : v = Value.ref a := r1
  obtain ⟨⟨h1, h2, h3, ys, o, es, ep, h4, h5, h6, h7, h8⟩, _, _⟩ := (show ObjOk X.prog X.w H1 s1.heap a (DcO a xs) from I1.hok a _ ha)
  have new : ObjOk X.prog X.w (upd H1 a (DcE a ⟨o, es, ep, xs⟩)) s1.heap a (DcE a ⟨o, es, ep, xs⟩) := by
    refine ⟨⟨h1, h2, h3, ys, h4, h5, h6, h7, h8⟩, ⟨o, h5⟩, fun g1 g2 => ?_⟩
    rintro ⟨a1, a2, a3, ys, a4, a5, a6, a7, a8⟩ k
    exact ⟨a1, a2, a3, ys, a4, k _ a5, a6, a7, a8⟩
  have I2 : L2.Inv X pins σ (upd H1 a (DcE a ⟨o, es, ep, xs⟩)) s1 := d_write (t' := s1.toks) (h' := s1.heap) I1 (by rw [ha]; exact True.intro) (Heap.SameBut.refl _ _) ⟨o, h5⟩ new
  have fp : ∀ b, b ∈ [s1.heap.objs.size] → FpOk X pins (upd H1 a (DcE a ⟨o, es, ep, xs⟩)) b := fun b hb => by
    obtain rfl : b = s1.heap.objs.size := by simpa using hb
    exact I2.fpOk (Nat.le_refl _) (I2.hok.fresh (Nat.le_refl _))
  have l1 : xs.length = ys.length := Paired.length h4
  have l2 : es.size = ys.length := size_of_entries (h8 X.prog X.w)
  have l3 : es.size = xs.length := by omega
  exact iter_keys h2 h5 h6 h7 ⟨s1.heap.objs.size, [s1.heap.objs.size], _, _, _, rfl, I2.kept (t' := s1.toks) fun b o e => Heap.get?_push_of_some _ e, turn_dcf (a := a) (z := ⟨o, es, ep, xs⟩), ⟨_, Heap.get?_push_size _ rfl, rfl, by rw [l3]; rfl⟩, fp, q1 ⟨o, es, ep, xs⟩ rfl⟩
/-- the keys are walked; the dict stays as it is from here on -/
def iK (t : TDE) : TDI := fun e S Q => t e S fun d S' => ∃ a kvs, d = .ref a ∧ S' a = some (.dct kvs) ∧ ∀ z, Q (keysK kvs) (fun S2 => S2 a = some (.dcf z kvs)) (sput S' a (.dcf z kvs))
theorem walkd_dcf {K : PySem.W.Frag} {G : Addr → Prop} {S : Sto} {H : Hp} {a : Addr} {z : Pin} {kvs : List (D × D)} : WalkD K G (Itd a z) (keysK kvs) (fun S2 => S2 a = some (.dcf z kvs)) S H := fun G2 S2 H2 sub t r2 o => by
  obtain ⟨e, rd⟩ := (r2 a _ o).2
  have lk : RlA K H2 (nfz G2 S2) (keysK kvs) (z.xs.map fun x => V.ref x.2.1) := rla_keys rd
  have hl : (keysK kvs).length = z.xs.length := by rw [lk.length, List.length_map]
  refine ⟨⟨e, by omega⟩, fun i d hd => ?_⟩
  have hi : i < z.xs.length := by rw [← hl]; exact (List.getElem?_eq_some_iff.mp hd).1
  refine ⟨⟨e, (fun _ _ => trivial), hi⟩, fun x H3 y => ?_⟩
  obtain ⟨rfl, e2, he, rfl⟩ := y
  obtain ⟨v, hv, lv⟩ := lk.getD hd
  rw [List.getElem?_map, he] at hv
  cases hv
  exact ⟨Tr.refl, r2, lv⟩
section
variable {X : Cx} {C : Ct} {pos : Pos}
theorem di_dct {tg l : Expr} {t : TDE} (hl : DE X C l t) : DI X C tg l (iK t) :=
  ⟨PI.imp (pi_dct hl.pe) fun σ H R ⟨G, e, S, Q', at', h, k⟩ => ⟨G, e, S, _, at', h, fun d S1 v H1 t1 r1 l1 h1 => by
    obtain ⟨a, kvs, rfl, hs, q⟩ := h1
    obtain rfl := l1.of_ref
    obtain ⟨xs, e1, rd⟩ := (r1 a _ hs).2
    refine ⟨a, xs, rfl, e1, rd.sq, fun z hz => ?_⟩
    subst hz
    obtain ⟨r2, t2⟩ := r1.put (o := DcE a z) (c' := .dcf z kvs) hs (fun v w => by rw [e1] at w; cases w) (fun o u w => by rw [e1] at w; cases w) fun kp => ⟨upd_same, RlD.keep kp rd⟩
    exact k _ _ _ _ _ (t1.trans t2) r2 walkd_dcf (q z)⟩⟩
/-! d[k], d staying -/
theorem kgetF {K : PySem.W.Frag} {G : Addr → Prop} {S : Sto} {H : Hp} {a : Addr} {z : Pin} {kvs : List (D × D)} {k : D} {ks : List Int} {u : V} {d : D} (r : RepS K G S H) (hs : S a = some (.dcf z kvs)) (hk : keyI k = some ks) (lk : Rl K H (nfz G S) k u) (hg : getK kvs ks = some d) :
    ∃ b v, u = .ref b ∧ KGet K H a b (some v) ∧ Rl K H (nfz G S) d v := by
  obtain ⟨b, rfl⟩ := key_ref hk lk
  obtain ⟨e, rd⟩ := (r a _ hs).2
  obtain ⟨g1, g2⟩ := rd.get (ks := ks)
  obtain ⟨v, h1, h2⟩ := g1 d hg
  exact ⟨b, v, rfl, ⟨z.xs, ks, .inr ⟨z, e, rfl⟩, rd.sq, sq_key hk lk, (fun v' w => by cases w; exact h1), (fun w => nomatch w)⟩, h2⟩
def dKGetF (td tk : TDE) : TDE := fun e S Q => td e S fun d S1 => tk e S1 fun k S2 => ∃ a z kvs ks v, d = .ref a ∧ S2 a = some (.dcf z kvs) ∧ keyI k = some ks ∧ getK kvs ks = some v ∧ Q v S2
theorem de_kgetF {o i : Expr} {td tk : TDE} (hu : X.A.units + 65 < cLine) (ho : DE X C o td) (hi : DE X C i tk) (hs : NoSl i := by exact fun _ _ => rfl) : DE X C (.Subscript o i pos) (dKGetF td tk) :=
  ⟨PE.imp (pe_kget (by omega) ho.pe hi.pe hs) fun σ H Q ⟨G, e, S, Q', at', h, k⟩ => ⟨G, e, S, _, at', h, fun d S1 v1 H1 t1 r1 l1 h1 => ⟨G, e, S1, _, at'.next t1 r1, h1, fun d2 S2 v2 H2 t2 r2 l2 h2 => by
    obtain ⟨a, z, kvs, ks, v, rfl, hs, hk, hg, q⟩ := h2
    obtain rfl := l1.of_ref
    obtain ⟨b, u, rfl, kg, l3⟩ := kgetF r2 hs hk l2 hg
    exact ⟨a, b, u, rfl, rfl, kg, k _ _ _ _ (t1.trans t2) r2 l3 q⟩⟩⟩⟩
end
end DL

/-! DL, part N2: dict(l) of a list of pairs, their first ones tuples of ints, none twice. -/
namespace DL
open PySem PySem.Spec PyProof.Rows L2
def rDictL (K : PySem.W.Frag) : List V → Hp → VK → Prop := fun vs H Q => ∃ (a : Addr) (ts : List Addr) (xs : List (List Int × Addr × V)), vs = [.ref a] ∧ SqL K H a (ts.map V.ref) ∧ Paired (fun t x => SqT K H t [V.ref x.2.1, x.2.2]) ts xs ∧
  (∀ x ∈ xs, SqT K H x.2.1 (x.1.map V.int)) ∧ (xs.map (·.1)).Nodup ∧ ∀ p, H p = none → Q (.ref p) (upd H p (DcO p xs))
theorem storedAll_nodup {ys : List (List Int × Addr × Value)} (h : (ys.map (·.1)).Nodup) : storedAllH [] ys = ys := by
  have key : ∀ (ps acc : List (List Int × Addr × Value)), ((acc ++ ps).map (·.1)).Nodup → storedAllH acc ps = acc ++ ps := by
    intro ps
    induction ps with
    | nil => intro acc _; rw [List.append_nil]; rfl
    | cons p ps ih =>
      intro acc h
      have e : storedAllH acc (p :: ps) = storedAllH (storedH acc p.1 p.2.1 p.2.2) ps := rfl
      have n : atKey acc p.1 = none := by
        unfold atKey
        rw [Option.map_eq_none_iff, List.find?_eq_none]
        intro x hx hd
        have hd : x.1 = p.1 := of_decide_eq_true hd
        rw [List.map_append, List.map_cons, List.nodup_append] at h
        exact h.2.2 _ (List.mem_map.mpr ⟨x, hx, rfl⟩) _ List.mem_cons_self hd
      rw [e, storedH_new n, ih (acc ++ [(p.1, p.2.1, p.2.2)]) (by rw [List.append_assoc]; exact h), List.append_assoc]; rfl
  have := key ys [] (by simpa using h)
  simpa using this
theorem pairs_ofT {X : Cx} {pins : List (Addr × Obj)} {σ : L2.St} {H : Hp} {s : Shared} (I : L2.Inv X pins σ H s) : ∀ {ts : List Addr} {xs : List (List Int × Addr × V)}, Paired (fun t x => SqT X.K H t [V.ref x.2.1, x.2.2]) ts xs →
    ∃ ys : List (List Int × Addr × Value), Paired Rx xs ys ∧ ys.length = ts.length ∧ ∀ (j : Nat) (y : List Int × Addr × Value), ys[j]? = some y → ∃ t, ts[j]? = some t ∧ PairAt s.heap t (.ref y.2.1) y.2.2
  | _, _, .nil => ⟨[], .nil, rfl, fun j q e => by simp at e⟩
  | _, _, .cons (a := t) (b := x) h tl => by
    obtain ⟨ys, r, hl, hp⟩ := pairs_ofT I tl
    obtain ⟨its, rv, ht, _⟩ := I.tuple h
    obtain ⟨u, y, ei, ru, ry⟩ := vals2 rv
    subst ei
    obtain rfl : u = Value.ref x.2.1 := ru
    refine ⟨(x.1, x.2.1, y) :: ys, .cons ⟨rfl, rfl, ry⟩ r, by rw [List.length_cons, List.length_cons, hl], fun j q e => ?_⟩
    cases j with
    | zero =>
      have e' : (x.1, x.2.1, y) = q := Option.some.inj e
      subst e'
      exact ⟨t, rfl, .inl ht⟩
    | succ j =>
      obtain ⟨b, e1, e2⟩ := hp j q (by simpa using e)
      exact ⟨b, by simpa using e1, e2⟩
theorem cr_dictL {X : Cx} (hc : X.calm = true) (hu : X.A.units + 65 < cLine) : CallR X (.type "dict") (rDictL X.K) := by
  intro pins s σ H vs us Q I r h
  obtain ⟨a, ts, xs, rfl, hq, hp, sq, nd, q⟩ := h
  obtain rfl := Vals.ref1 r
  obtain ⟨its, rv, pl, hz⟩ := I.list hq
  have ei := refs_at rv
  subst ei
  rw [List.length_map] at hz
  obtain ⟨ys, rel, hl, hpr⟩ := pairs_ofT I hp
  have hlx : xs.length = ys.length := Paired.length rel
  obtain ⟨o, n, ho, hcl, hd, hdat⟩ := pl
  have hk : ∀ y ∈ ys, (tkI X.prog X.w).is s.heap y.1 y.2.1 := fun y hy => by
    obtain ⟨x, hx, r1, r2, _⟩ := rx_mem rel y hy
    rw [← r1, ← r2]
    exact key_at I (sq x hx)
  have ndy : (ys.map (·.1)).Nodup := by rw [rx_keys rel]; exact nd
  have pi : PairItems s.heap (ts.map Value.ref).toArray (fun j => (ts[j]?).getD 0) (ys.map fun y => (Value.ref y.2.1, y.2.2)) := by
    refine ⟨by rw [List.size_toArray, List.length_map, List.length_map, hl], fun j k v e => ?_⟩
    rw [List.getElem?_map] at e
    cases hy : ys[j]? with
    | none => rw [hy] at e; cases e
    | some y =>
      rw [hy] at e
      cases e
      obtain ⟨t, e1, e2⟩ := hpr j y hy
      have e3 : (ts[j]?).getD 0 = t := by rw [e1]; rfl
      show (ts.map Value.ref).toArray[j]? = some (Value.ref ((ts[j]?).getD 0)) ∧ PairAt s.heap ((ts[j]?).getD 0) _ _
      rw [e3]
      refine ⟨?_, e2⟩
      rw [List.getElem?_toArray, List.getElem?_map, e1]; rfl
  refine call_dict_pairsH (knd := tkI X.prog X.w) (ps := ys) (PairArg.list a (ts.map Value.ref).toArray (fun j => (ts[j]?).getD 0) (ys.map fun y => (Value.ref y.2.1, y.2.2))) (I.ok.hd hc) (tupleKind_room_in1 (A := X.A.in1) (by show X.A.units + 1 + 1 < cLine; omega))
    ⟨⟨o, n, ho, hcl, hd, hdat⟩, pi⟩ ⟨by rw [List.length_map], fun i key v e => ?_⟩ (fun h' hk' x hx => ?_) (by rw [List.length_map]; omega) fun h' tk hd' kp => ?_
  · have e : (ys.map fun y => (Value.ref y.2.1, y.2.2))[i]? = some (key, v) := e
    rw [List.getElem?_map] at e
    cases hy : ys[i]? with
    | none => rw [hy] at e; cases e
    | some y =>
      rw [hy] at e
      cases e
      exact ⟨y.1, y.2.1, rfl, rfl⟩
  · exact (tupleKind_stays (knd := intKind X.prog X.w)).stays (fun b o vs m e q => hk' b o (Nat.ne_of_lt (Heap.lt_size e)) (fun z => nomatch z) e) (hk x hx)
  · rw [storedAll_nodup ndy] at hd'
    have hm : (s.heap.objs.size == sysModules) = false := beq_eq_false_iff_ne.mpr (Nat.ne_of_gt I.big)
    exact ⟨.ref s.heap.objs.size, upd H s.heap.objs.size (DcO s.heap.objs.size xs), I.laid (t' := tk) (fun b o e => kp b o (fun z => nomatch z) e) (Nat.le_refl _) (dco_of ⟨by omega, hm, rel, hd'⟩), rfl, q _ (I.hok.fresh (Nat.le_refl _))⟩
theorem dict_pairs_of {K : PySem.W.Frag} {H : Hp} {nf : Addr → Prop} : ∀ {kvs : List (D × D)} {kk : List (List Int)} {vs : List V}, kvs.map (fun p => keyI p.1) = kk.map some → RlA K H nf (kvs.map prD) vs →
    ∃ (ts : List Addr) (xs : List (List Int × Addr × V)), vs = ts.map V.ref ∧ Paired (fun t x => SqT K H t [V.ref x.2.1, x.2.2]) ts xs ∧ RlD K H nf kvs xs ∧ xs.map (·.1) = kk
  | [], [], vs, _, h => by
    obtain rfl : vs = [] := by unfold RlA at h; exact h
    exact ⟨[], [], rfl, .nil, rfl, rfl⟩
  | [], _ :: _, vs, h, _ => nomatch h
  | _ :: _, [], vs, h, _ => nomatch h
  | p :: kvs, k :: kk, vs, hk, h => by
    rw [List.map_cons, List.map_cons, List.cons.injEq] at hk
    obtain ⟨hk1, hk2⟩ := hk
    rw [List.map_cons] at h
    unfold RlA at h
    obtain ⟨v, r, rfl, h1, h2⟩ := h
    obtain ⟨ts, xs, rfl, e1, e2, e3⟩ := dict_pairs_of hk2 h2
    have h1 : Rl K H nf (.tup [p.1, p.2]) v := h1
    unfold Rl at h1
    obtain ⟨t, us, rfl, hs, hr⟩ := h1
    unfold RlA at hr
    obtain ⟨v1, r1, rfl, g1, hr⟩ := hr
    unfold RlA at hr
    obtain ⟨v2, r2, rfl, g2, hr⟩ := hr
    obtain rfl : r2 = [] := by unfold RlA at hr; exact hr
    obtain ⟨b, rfl⟩ := key_ref hk1 g1
    exact ⟨t :: ts, (k, b, v2) :: xs, rfl, .cons hs e1, ⟨k, b, v2, xs, rfl, hk1, g1, g2, e2⟩, by rw [List.map_cons, e3]⟩
theorem b_dict : bootBuiltins "dict" = some (.type "dict") := by decide +kernel
section
variable {X : Cx}
def dictLR : D → Sto → KD → Prop := fun d S Q => ∃ (kvs : List (D × D)) (kk : List (List Int)), asL S d = some (kvs.map prD) ∧ kvs.map (fun p => keyI p.1) = kk.map some ∧ kk.Nodup ∧ ∀ p, S p = none → Q (.ref p) (sput S p (.dct kvs))
theorem cr_dictLD (hc : X.calm = true) (hu : X.A.units + 65 < cLine) : CallR X (.type "dict") (LRL X.K (one dictLR)) := cr_one (cr_dictL hc hu) fun v H Q ⟨G, d, S, Q', r, g, l, ⟨kvs, kk, e, hk, nd, q⟩, k⟩ => by
  obtain ⟨a, vs, rfl, h2, h3⟩ := of_asL r e l
  obtain ⟨ts, xs, rfl, hp, rd, hx⟩ := dict_pairs_of hk h3
  refine ⟨a, ts, xs, rfl, h2, hp, rd.sq, by rw [hx]; exact nd, fun p n => ?_⟩
  have kn : Keep X.K H (nfz G S) (upd H p (DcO p xs)) (nfz G (sput S p (.dct kvs))) := (Keep.new n).newCell n
  obtain ⟨r', t, _⟩ := r.newCell (o := DcO p xs) (c := .dct kvs) g n ⟨xs, upd_same, RlD.keep kn rd⟩
  exact k _ _ _ _ t r' Rl.ref (q p (r.none_of n))
end
end DL

/-! DL: texts: join, split. -/
namespace DL
open PySem PySem.Spec PyProof.Rows L2
section
variable {X : Cx}
theorem rlA_strs {K : PySem.W.Frag} {H : Hp} {nf : Addr → Prop} : ∀ (zs : List Str), RlA K H nf (zs.map D.str) (zs.map V.str)
  | [] => RlA.nil
  | z :: r => RlA.cons Rl.str (rlA_strs r)
/-- sep.join(texts) -/
def joinR : RDM := fun d ds S Q => match d, ds with
  | .str a, [y] => ∃ zs : List Str, asQ S y = some (zs.map D.str) ∧ (zs.map (·.length)).sum + zs.length * a.length ≤ 16777216 ∧ Q (.str (Str.join a zs)) S
  | _, _ => False
theorem mt_joinD : MtR X "str.join" (LRM X.K joinR) := MtR.imp mt_join fun v ws H Q ⟨G, d, ds, S, Q', rp, g, l, ls, h, k⟩ => by
  cases d with
  | str a =>
    cases ds with
    | nil => exact False.elim h
    | cons y r => cases r with
      | cons _ _ => exact False.elim h
      | nil =>
        obtain ⟨zs, e, hz, q⟩ := h
        obtain ⟨w, rfl, lw⟩ := of_one ls
        obtain ⟨p, vs, rfl, h1, h2⟩ := of_asQ rp e lw
        obtain rfl := h2.of_strs
        exact ⟨a, p, zs, l.of_str, rfl, h1, hz, by rw [TL.join_eq]; exact k.now rp Rl.str q⟩
  | _ => exact False.elim h
/-- text.split(sep): a frozen list or a cell -/
def splitR (c : Bool) : RDM := fun d ds S Q => match d, ds with
  | .str a, [.str b] => (b.length == 0) = false ∧ a.length + 2 ≤ sizeLine ∧ mkL c ((Txt.split a b).map D.str) S Q
  | _, _ => False
theorem mt_splitD (c : Bool) : MtR X "str.split" (LRM X.K (splitR c)) := MtR.imp mt_split fun v ws H Q ⟨G, d, ds, S, Q', rp, g, l, ls, h, k⟩ => by
  cases d with
  | str a =>
    cases ds with
    | nil => exact False.elim h
    | cons y r => cases r with
      | cons _ _ => cases y <;> exact False.elim h
      | nil =>
        cases y with
        | str b =>
          obtain ⟨h1, h2, q⟩ := h
          obtain ⟨w, rfl, lw⟩ := of_one ls
          exact ⟨a, b, l.of_str, by rw [lw.of_str], h1, h2, fun p n => mkL_ok rp g (rlA_strs _) n q k⟩
        | _ => exact False.elim h
  | _ => exact False.elim h
/-- in a list of plain things -/
def inFR (neg : Bool) : RD2 := fun x y S Q => ∃ xs, asL S y = some xs ∧ flatD x = true ∧ xs.all flatD = true ∧ Q (.bl (if neg then !(xs.any fun z => deq z x) else xs.any fun z => deq z x)) S
theorem or_inF : OpR X (compareOp .In) (LR2 X.K (inFR false)) := by
  refine OpR.imp op_in_seq fun x y H Q ⟨G, d1, d2, S, Q', r, g, l1, l2, h, k⟩ => ?_
  obtain ⟨xs, e, f1, f2, q⟩ := h
  obtain ⟨p, vs, rfl, h1, a1⟩ := of_asL r e l2
  obtain ⟨i1, i2⟩ := flat_any f1 l1 f2 a1
  exact ⟨p, vs, rfl, .inl h1, flat_v f1 l1, i1, by rw [i2]; exact k.now r Rl.bl q⟩
theorem or_notinF : OpR X (compareOp .NotIn) (LR2 X.K (inFR true)) := by
  refine OpR.imp op_notIn_seq fun x y H Q ⟨G, d1, d2, S, Q', r, g, l1, l2, h, k⟩ => ?_
  obtain ⟨xs, e, f1, f2, q⟩ := h
  obtain ⟨p, vs, rfl, h1, a1⟩ := of_asL r e l2
  obtain ⟨i1, i2⟩ := flat_any f1 l1 f2 a1
  exact ⟨p, vs, rfl, .inl h1, flat_v f1 l1, i1, by rw [i2]; exact k.now r Rl.bl q⟩
end
end DL

/-! DL: methods without arguments; instances made of arguments. -/
namespace DL
open PySem PySem.Spec PyProof.Rows L2
theorem strs1 {S : Sto} {a : Str} : asQ S (.lst [.str a]) = some (List.map D.str [a]) := rfl
theorem strs2 {S : Sto} {a b : Str} : asQ S (.lst [.str a, .str b]) = some (List.map D.str [a, b]) := rfl
theorem strs3 {S : Sto} {a b c : Str} : asQ S (.lst [.str a, .str b, .str c]) = some (List.map D.str [a, b, c]) := rfl
theorem strs4 {S : Sto} {a b c d : Str} : asQ S (.lst [.str a, .str b, .str c, .str d]) = some (List.map D.str [a, b, c, d]) := rfl
def dMeth0 (Cc : Addr) (m : Str) (sp : SpD) (E : XKD) (td : TDE) : TDE := fun e S Q => td e S fun d S1 => ∃ a dx fs, d = .ref a ∧ S1 a = some (.ins Cc dx fs) ∧ fs.lookup m = none ∧ sp [.ref a] S1 Q E
section
variable {X : Cx} {C : Ct} {k : Nat} {Cc : Addr} {m : Str} {ps : List Str} {sp : SpD} {E : XKD} {p pos apos : Pos} {o a : Expr} {es : List Expr} {t : TDA} {td : TDE}
theorem de_meth0 {pl : Sem Bool} (c : Cls X.K Cc) (F : FcM X.prog X.w X.K X.mg X.base k Cc m ps sp) (hr : Rm k X.A) (hx : XOk X C E) (ho : DE X C o td)
    (ht : eval (.Call (.Attribute o m apos) [] [] pos) X.env = (do
      let ov ← eval o X.env
      standAt apos.atName
      let (f, first) ← holding [ov] (getMethod ov m pl)
      callWith pos f first (backTo pos (starEach [] X.env)) (backToKw pos (keywordEach [] X.env))) := by rfl) :
    DE X C (.Call (.Attribute o m apos) [] [] pos) (dMeth0 Cc m sp E td) := by
  obtain ⟨f, fd, hm, hb, F⟩ := F.ex
  refine ⟨⟨fun pins s σ H Q I ⟨G, e, S, Q', at', h, k⟩ => ?_⟩⟩
  refine PySem.W.methodCall_KW (pl := pl) (thn (ho.pe.run pins s σ H (fun x H1 => ∃ (y dx : Addr) (fs : List (Str × V)), x = .ref y ∧ H1 y = some (.ins Cc dx fs) ∧ fs.lookup m = none ∧ LSp X.K sp [.ref y] H1 Q (EL X.K C E)) I
    ⟨G, e, S, _, at', h, fun d S1 v H1 t1 r1 l1 h1 => ?_⟩) fun u s1 ⟨x, H1, I1, rx, y, dx, fs, ex, ea, l, q⟩ => ?_) ht
  · obtain ⟨y, dx, fs, rfl, hs, lk, h2⟩ := h1
    obtain rfl := l1.of_ref
    obtain ⟨vs, e2, rf⟩ := (r1 y _ hs).2
    exact ⟨y, dx, vs, rfl, e2, rf.lookNone lk, lsp_of (at'.next t1 r1) (RlA.cons Rl.ref RlA.nil) h2 (k.tr t1)⟩
  · subst ex
    obtain rfl : u = Value.ref y := rx
    refine getmeth_ok I1 ea c hm l ?_
    exact PySem.W.callWith_K0 (first := [.ref y]) I1.kIn hm.kp (call_fnd (us := [.ref y]) (vs := [.ref y]) F hr hb (passes_call hx fun _ _ _ _ h => h) I1 (.cons rfl .nil) q)
/-! C(a, ..) -/
def dMakeA (Cc : Addr) (sp : SpD) (E : XKD) (t : TDA) : TDE := fun e S Q => t e S fun ds S1 => ∀ x dx, S1 x = none → sp (.ref x :: ds) (sput S1 x (.ins Cc dx [])) (fun v S2 => v = .non ∧ Q (.ref x) S2) E
theorem makeA_fnd {j : Nat} {f : Addr} {fd : FuncData} {pins : List (Addr × Obj)} {σ : L2.St} {H : Hp} {s : Shared} {Q : VK} {E : XK} {us : List Value} {vs : List V} (M : L2.Mk X.K Cc f) (F : FnD X.prog X.w X.K X.mg X.base j f fd ps sp) (hr : Rm (j + 1) X.A) (hb : Binds X.K fd ps []) (hx : Passes (L2.CX X.prog X.w) X E)
    (I : L2.Inv X pins σ H s) (rv : Vals vs us) (h : ∀ x dx, H x = none → H dx = none → dx ≠ x → LSp X.K sp (.ref x :: vs) (upd (upd H dx (.own x)) x (.ins Cc dx [])) (fun v H2 => v = .non ∧ Q (.ref x) H2) E) :
    wpAny (model X.prog X.w) X.A (call (.ref Cc) us) (EP X pins σ Q) X.xe s := by
  have hq := h (s.heap.objs.size + 1) s.heap.objs.size (I.hok.fresh (Nat.le_succ _)) (I.hok.fresh (Nat.le_refl _)) (Nat.ne_of_lt (Nat.lt_succ_self _))
  have I2 := Inv.made (C := Cc) I
  have hl : ps.length = us.length + 1 := by
    obtain ⟨G, S, ds, Q', E', rep, g, l, hs, _⟩ := hq
    rw [← F.len _ _ _ _ hs]
    have := l.length
    rw [this, List.length_cons, rv.length]
  have bt := hb _ (Value.ref (s.heap.objs.size + 1) :: us) I2.kIn (by rw [List.append_nil, hl]; rfl)
  rw [List.append_nil] at bt
  refine wpAny_call (make_map (f := f) I.kIn M.makes M.init (beq_iff_eq.mp M.fn) (codeAny_mono (F.run _ X.stack _ _ ⟨Value.ref (s.heap.objs.size + 1) :: us, []⟩ (Value.ref (s.heap.objs.size + 1) :: us) (V.ref (s.heap.objs.size + 1) :: vs) _ E ⟨hr.room.make Cc us [], hr.gd⟩
    (I2.env0.make Cc us []) bt (.cons rfl rv) hq) fun r s' hq' => ?_))
  cases r with
  | error e => exact hx pins σ _ _ e s' I2 hq'
  | ok fl =>
    cases fl with
    | ret u =>
      obtain ⟨v, H', I3, rv, ev, q3⟩ := I2.after hq'
      subst ev
      exact ⟨rv, ⟨V.ref (s.heap.objs.size + 1), H', I3, rfl, q3⟩⟩
    | next => exact False.elim hq'
    | brk => exact False.elim hq'
    | cont => exact False.elim hq'
theorem de_makeA {x : Str} (F : FcI X.prog X.w X.K X.mg X.base k x Cc ps sp) (hr : Rm k X.A) (hx : XOk X C E) (hg : Gl X x) (ha : DA X C (a :: es) t)
    (hdb : (x == ("__debug__" : Str)) = false := by decide) (he : starEach (a :: es) X.env = (false, eval a X.env) :: starEach es X.env := by rfl) (hpl : (backTo pos (starEach es X.env)).any (·.1) = false := by rfl) : DE X C (.Call (.Name x p) (a :: es) [] pos) (dMakeA Cc sp E t) := by
  obtain ⟨j, f, fd, rfl, hm, M, hb, F⟩ := F.ex
  refine ⟨⟨fun pins s σ H Q I ⟨G, e, S, Q', at', h, k⟩ => ?_⟩⟩
  refine wpAny_Call_Name_kw (ld_glob I hg hm ?_ hdb)
  refine PySem.W.callWith_K (h₀ := X.base) I.ok.mod.kin M.kp (thn (ha.pa.run pos pins s σ H (fun vs H1 => ∀ x dx, H1 x = none → H1 dx = none → dx ≠ x → LSp X.K sp (.ref x :: vs) (upd (upd H1 dx (.own x)) x (.ins Cc dx [])) (fun v H2 => v = .non ∧ Q (.ref x) H2) (EL X.K C E)) I
    ⟨G, e, S, _, at', h, fun ds S1 vs H1 t1 r1 l1 h1 x dx nx ndx ne => ?_⟩) fun us s1 ⟨vs, H1, I1, r, q⟩ => ⟨I1.kIn, makeA_fnd M F hr hb (passes_call hx fun _ _ _ _ h => h) I1 r q⟩) he hpl
  have at1 := at'.next t1 r1
  have r2 := r1.new (o := .own x) ndx
  have g2 := at1.g.tr r1 (Tr.new (o := .own x) ndx)
  have n1 : upd H1 dx (.own x) x = none := (upd_ne (Ne.symm ne)).trans nx
  obtain ⟨r3, t3, k3⟩ := r2.newCell (o := .ins Cc dx []) (c := .ins Cc dx []) g2 n1 ⟨[], upd_same, rfl⟩
  have tt := (Tr.new (S := S1) (o := .own x) ndx).trans t3
  have l3 := (l1.tr r1 (Tr.new (o := .own x) ndx)).tr r2 t3
  refine lsp_of (at1.next tt r3) (RlA.cons Rl.ref l3) (h1 x dx (r1.none_of nx)) fun d S' v H' t r l q => ?_
  obtain ⟨rfl, q⟩ := q
  exact ⟨l.of_non, k _ _ _ _ (t1.trans (tt.trans t)) r Rl.ref q⟩
end
end DL

/-! DL: a dict of the module, asked by any text. -/
namespace DL
open PySem PySem.Spec PyProof.Rows L2
def lkS (y : Str) : List (Str × Int) → Option Int
  | [] => none
  | p :: r => if p.1 = y then some p.2 else lkS y r
def EntsS : List DictEntry → List (Str × Int) → Prop
  | [], [] => True
  | e :: r, p :: t => (∃ k v, e.key = .str p.1 k ∧ e.val = .int p.2 v) ∧ EntsS r t
  | _, _ => False
theorem ents_find {y : Str} : ∀ {l : List DictEntry} {tab : List (Str × Int)}, EntsS l tab →
    (∀ i, lkS y tab = some i → ∃ e t, l.find? (·.key.isStr y) = some e ∧ e.val = .int i t) ∧ (lkS y tab = none → l.find? (·.key.isStr y) = none) ∧ l.any (·.refKey) = false
  | [], [], _ => ⟨(fun _ h => nomatch h), (fun _ => rfl), rfl⟩
  | [], _ :: _, h => h.elim
  | _ :: _, [], h => h.elim
  | e :: r, p :: t, ⟨⟨k, v, hk, hv⟩, h⟩ => by
    obtain ⟨i1, i2, i3⟩ := ents_find (y := y) h
    have ek : e.key.isStr y = (p.1 == y) := by rw [hk]; rfl
    have er : e.refKey = false := by unfold DictEntry.refKey; rw [hk]
    unfold lkS
    rw [List.find?_cons, List.any_cons, er, i3, ek]
    by_cases hy : p.1 = y
    · rw [if_pos hy, show (p.1 == y) = true from by simp [hy]]
      exact ⟨fun i hi => ⟨e, v, rfl, by cases hi; exact hv⟩, (fun z => by cases z), rfl⟩
    · rw [if_neg hy, show (p.1 == y) = false from by simp [hy]]
      exact ⟨i1, i2, rfl⟩
theorem ents_ns {K : PySem.W.Frag} {a : Addr} {es : Array DictEntry} {n : Nat} {tab : List (Str × Int)} (hl : K.lookup a = some ⟨.type "dict", none, .dict es n, #[]⟩) (h : EntsS es.toList tab) (y : Str) :
    ∃ r, PySem.W.nsIn K a y = some r ∧ (match lkS y tab with | some i => ∃ t, r = some (.int i t) | none => r = none) := by
  obtain ⟨h1, h2, h3⟩ := ents_find (y := y) h
  unfold PySem.W.nsIn
  rw [hl]
  dsimp only
  cases e : lkS y tab with
  | some i =>
    obtain ⟨en, t, q1, q2⟩ := h1 i e
    rw [q1]
    exact ⟨_, rfl, t, by rw [q2]⟩
  | none =>
    rw [h2 e, h3]
    exact ⟨_, rfl, rfl⟩
structure Gs (K : PySem.W.Frag) (w : World) (mg : Str → Option Value) (x : Str) (tab : List (Str × Int)) : Prop where
  ex : ∃ (a : Addr) (es : Array DictEntry) (n : Nat), mg x = some (.ref a) ∧ KDict K w a es n ∧ EntsS es.toList tab
section
variable {X : Cx} {C : Ct} {p pos : Pos} {i : Expr} {ti : TDE} {x : Str} {tab : List (Str × Int)}
def dGIn (neg : Bool) (tab : List (Str × Int)) (ti : TDE) : TDE := fun e S Q => ti e S fun d S2 => match d with
  | .str y => Q (.bl (if neg then !(lkS y tab).isSome else (lkS y tab).isSome)) S2
  | _ => False
theorem ns_some {r : Option Value} {o : Option Int} (h : match o with | some i => ∃ t, r = some (.int i t) | none => r = none) : r.isSome = o.isSome := by
  cases o with
  | none => rw [h]; rfl
  | some i => obtain ⟨t, h⟩ := h; rw [h]; rfl
theorem in_aft {neg : Bool} {K : PySem.W.Frag} {G : Addr → Prop} {S : Sto} {H : Hp} {a : Addr} {es : Array DictEntry} {n : Nat} (hl : K.lookup a = some ⟨.type "dict", none, .dict es n, #[]⟩) (h : EntsS es.toList tab) {Q' : KD} {Q : VK} (k : Aft K G S H Q' Q) :
    Aft K G S H (fun d S2 => match d with | .str y => Q' (.bl (if neg then !(lkS y tab).isSome else (lkS y tab).isSome)) S2 | _ => False)
      (fun x H1 => ∃ (z : Str) (r : Option Value), x = .str z ∧ (V.ref a) = .ref a ∧ PySem.W.nsIn K a z = some r ∧ Q (.bl (if neg then !r.isSome else r.isSome)) H1) := fun d S1 v H1 t1 r1 l1 h1 => by
  cases d with
  | str y =>
    obtain ⟨u, e1, e2⟩ := ents_ns hl h y
    exact ⟨y, u, l1.of_str, rfl, e1, by rw [ns_some e2]; exact k _ S1 _ H1 t1 r1 Rl.bl h1⟩
  | _ => exact False.elim h1
theorem de_gIn (F : Gs X.K X.w X.mg x tab) (hg : Gl X x) (hi : DE X C i ti) (hd : (x == ("__debug__" : Str)) = false := by decide) (hm : behindInMarks .In (.Name x p) = false := by first | exact nomark _ | rfl | with_unfolding_all rfl) :
    DE X C (.Compare i [.In] [.Name x p] pos) (dGIn false tab ti) := by
  obtain ⟨a, es, n, m, D, h⟩ := F.ex
  exact ⟨PE.imp (pe_cmpR (op_in_kd D) hi.pe (pe_glob hg m (show RelV (.ref a) (.ref a) from rfl) hd) hm) fun σ H Q ⟨G, e, S, Q', at', h', k⟩ => ⟨G, e, S, _, at', h', in_aft (neg := false) D.at_ h k⟩⟩
theorem de_gNotIn (F : Gs X.K X.w X.mg x tab) (hg : Gl X x) (hi : DE X C i ti) (hd : (x == ("__debug__" : Str)) = false := by decide) (hm : behindInMarks .NotIn (.Name x p) = false := by first | exact nomark _ | rfl | with_unfolding_all rfl) :
    DE X C (.Compare i [.NotIn] [.Name x p] pos) (dGIn true tab ti) := by
  obtain ⟨a, es, n, m, D, h⟩ := F.ex
  exact ⟨PE.imp (pe_cmpR (op_notIn_kd D) hi.pe (pe_glob hg m (show RelV (.ref a) (.ref a) from rfl) hd) hm) fun σ H Q ⟨G, e, S, Q', at', h', k⟩ => ⟨G, e, S, _, at', h', in_aft (neg := true) D.at_ h k⟩⟩
theorem dt_gNotIn (F : Gs X.K X.w X.mg x tab) (hg : Gl X x) (hi : DE X C i ti) (hd : (x == ("__debug__" : Str)) = false := by decide) (hm : behindInMarks .NotIn (.Name x p) = false := by first | exact nomark _ | rfl | with_unfolding_all rfl) :
    DT X C (.Compare i [.NotIn] [.Name x p] pos) (dTst (dGIn true tab ti)) := by
  obtain ⟨a, es, n, m, D, h⟩ := F.ex
  exact ⟨PT.imp (pt_cmpR (op_notIn_kd D) hi.pe (pe_glob hg m (show RelV (.ref a) (.ref a) from rfl) hd) hm) fun σ H Q ⟨G, e, S, Q', at', h', k⟩ => ⟨G, e, S, _, at', h', in_aft (neg := true) D.at_ h (dTst_aft k)⟩⟩
/-- D[k] -/
def dGIx (tab : List (Str × Int)) (ti : TDE) : TDE := fun e S Q => ti e S fun d S2 => match d with
  | .str y => ∃ i, lkS y tab = some i ∧ Q (.int i) S2
  | _ => False
theorem de_gIx (F : Gs X.K X.w X.mg x tab) (hg : Gl X x) (hi : DE X C i ti) (hd : (x == ("__debug__" : Str)) = false := by decide) (hs : NoSl i := by exact fun _ _ => rfl) : DE X C (.Subscript (.Name x p) i pos) (dGIx tab ti) := by
  obtain ⟨a, es, n, m, D, h⟩ := F.ex
  refine ⟨⟨fun pins s σ H Q I ⟨G, e, S, Q', at', h', k⟩ => ?_⟩⟩
  refine subD_of PySem.F.slot_dict_getitem.lookup hs (thn ((pe_glob hg m (show RelV (.ref a) (.ref a) from rfl) hd).run pins s σ H (fun x H1 => x = .ref a ∧ LE X.K C ti σ H1 fun y H2 => ∃ (z : Str) (j : Int), y = .str z ∧ lkS z tab = some j ∧ Q (.int j) H2) I ⟨rfl, G, e, S, _, at', h', fun d S1 v H1 t1 r1 l1 h1 => ?_⟩)
    fun u s1 ⟨x1, H1, I1, rx, ex, q1⟩ => thn (hi.pe.run pins s1 σ H1 _ I1 q1) fun iv s2 ⟨y, H2, I2, ry, z, j, ey, lz, q2⟩ => ?_)
  · cases d with
    | str y =>
      obtain ⟨j, e1, q⟩ := h1
      exact ⟨y, j, l1.of_str, e1, k _ S1 _ H1 t1 r1 Rl.int q⟩
    | _ => exact False.elim h1
  · subst ex ey
    obtain rfl : u = Value.ref a := rx
    obtain ⟨r, e1, e2⟩ := ents_ns D.at_ h z
    rw [lz] at e2
    obtain ⟨t, rfl⟩ := e2
    exact ⟨(PySem.W.mapOf_K (prog := X.prog) (w := X.w) I2.kIn D.at_ D.lit).typeIs, op_item_kd D pins s2 σ H2 (.ref a) (.str z) (.ref a) iv Q I2 rfl ry ⟨z, _, .int j, rfl, rfl, e1, ⟨t, rfl⟩, q2⟩⟩
end
end DL

/-! DL, part N6: {..}.get(i); a slice of five unpacked; False in a list. -/
namespace DL
open PySem PySem.Spec PyProof.Rows L2
/-- {..}.get(i) -/
def dDGt1 (names : List Str) (ts : List TDE) (ti : TDE) : TDE := fun e S Q => dVals ts e S fun ds S1 => ti e S1 fun i S2 => match i with
  | .str x => Q ((lkp x names ds).getD .non) S2
  | _ => False
section
variable {X : Cx} {C : Ct} {pos apos cpos : Pos}
theorem de_dGt1 {keys : List (Option Expr)} {values : List Expr} {i : Expr} {ti : TDE} {ts : List TDE} {dpos : Pos} (names : List Str) (hu : X.A.units + 1 < cLine) (hp : DPs X dpos keys values names ts) (hi : DE X C i ti) (hall : keys.all (·.isSome) = true) (hl : keys.length = values.length) (h0 : keys ≠ [])
    (h15 : keys.length ≤ 15) (hn15 : names.length ≤ 15) (nd : names.Nodup)
    (mb : attributeBase (.Dict keys values dpos) "get" X.env (eval (.Dict keys values dpos) X.env) = eval (.Dict keys values dpos) X.env := by rfl)
    (mf : ((backTo cpos (starEach [i] X.env)).all (fun x => !x.1) && (backToKw cpos (keywordEach [] X.env)).all (fun x => x.1.isSome)
      && decide (([i] : List Expr).length + ([] : List Keyword).length + (if ([] : List Keyword).isEmpty then 0 else 1) < 30)) = true := by rfl)
    (ml : (apos.endLine == cpos.line) = true := by rfl) (mt : backTo cpos (starEach [i] X.env) = [(false, eval i X.env)] := by rfl) :
    DE X C (.Call (.Attribute (.Dict keys values dpos) "get" apos) [i] [] cpos) (dDGt1 names ts ti) := by
  refine ⟨PE.imp (pe_dget1 hu (pe_disp hp.pps hall hl h0 h15) hi.pe ⟨mb, mf, ml, mt⟩) fun σ H Q ⟨G, e, S, Q', at', h, k⟩ => ?_⟩
  intro p np
  have sub : ∀ a, gAnd G p a → G a ∨ H a = none := fun a z => z.elim .inl fun q => .inr (q ▸ np)
  have a1 : At X.K C1 (gAnd G p) e S σ (upd H p (.dK [])) := ⟨at'.rep.grow np, at'.g.grow, trivial, at'.env.keep (Tr.keepG at'.rep (Tr.new np) sub)⟩
  refine pairs_ok hp.len a1 h fun ds S1 vs H1 t1 r1 g1 l1 n1 h1 => ?_
  have tp : Tr S H S1 H1 := fun b o n' h' => by
    obtain ⟨x1, x2⟩ := t1 b o n' (by rw [upd_ne (ne_of_none h' np)]; exact h')
    exact ⟨x1, x2⟩
  have np0 : S p = none := at'.rep.none_of np
  obtain ⟨ep, np1⟩ := t1 p _ np0 upd_same
  refine ⟨ep, kvsOf names vs, kvs_map, by unfold kvsOf; rw [List.length_zipWith]; omega, ?_⟩
  have ht : ∀ v, H1 p ≠ some (.tup v) := fun v z => by rw [ep] at z; cases z
  have hf2 : ∀ o u, H1 p ≠ some (.frz o u) := fun o u z => by rw [ep] at z; cases z
  let HO2 : HO := .dK (mergeK [] (kvsOf names vs))
  have r2 : RepS X.K G S1 (upd H1 p HO2) := (r1.makingD ht hf2).madeF
  have l2 : RlA X.K (upd H1 p HO2) (nfz G S1) ds vs := RlA.keep Keep.madeF _ _ (RlA.keep (Keep.makingD ht hf2) _ _ l1)
  have t2 : Tr S H S1 (upd H1 p HO2) := fun b o n' h' => by
    obtain ⟨x1, x2⟩ := tp b o n' h'
    exact ⟨by rw [upd_ne (ne_of_none h' np)]; exact x1, x2⟩
  have a2 : At X.K C G e S1 σ (upd H1 p HO2) := at'.next t2 r2
  refine ⟨p, rfl, .inl ⟨_, .inl upd_same⟩, G, e, S1, _, a2, h1, fun d S3 v H3 t3 r3 l3 h3 => ?_⟩
  cases d with
  | str x =>
    obtain ⟨e3, np3⟩ := t3 p _ np1 upd_same
    have hnd : ((kvsOf names vs).map (·.1)).Nodup := by rw [kvs_keys n1]; exact nodup_inr nd
    cases hw : lkp x names ds with
    | none =>
      have h3 : Q' ((lkp x names ds).getD .non) S3 := h3
      rw [hw] at h3
      have hv := lkp_none l2 (by rw [l2.length, n1]) hw
      have hv2 : valV (mergeK [] (kvsOf names vs)) (.inr x) = none := valV_mergeN hv rfl
      refine ⟨none, ?_, k .non S3 .non H3 (t2.trans t3) r3 Rl.non h3⟩
      rw [l3.of_str, ← hv2]
      exact DGet.k (k := Sum.inr x) e3
    | some u =>
      have h3 : Q' ((lkp x names ds).getD .non) S3 := h3
      rw [hw] at h3
      obtain ⟨y, hu1, hu2⟩ := lkp_val l2 hw
      have hv := valV_merge (acc := []) hnd hu1
      refine ⟨some y, ?_, k u S3 y H3 (t2.trans t3) r3 (hu2.tr r2 t3) h3⟩
      rw [l3.of_str, ← hv]
      exact DGet.k (k := Sum.inr x) e3
  | _ => exact False.elim h3
end
end DL

/-! DL, part N7: tuples made anew, strong where they bear ints alone. -/
namespace DL
open PySem PySem.Spec PyProof.Rows L2
def normT (xs : List D) : D := match intsD xs with
  | some ns => .tpk ns
  | none => .tup xs
theorem intsD_some : ∀ {xs : List D} {ns : List Int}, intsD xs = some ns → xs = ns.map D.int
  | [], ns, h => by unfold intsD at h; cases h; rfl
  | .int i :: r, ns, h => by
    unfold intsD at h
    cases e : intsD r with
    | none => rw [e] at h; cases h
    | some ms => rw [e] at h; cases h; rw [intsD_some e]; rfl
  | .non :: _, _, h => by cases h
  | .bl _ :: _, _, h => by cases h
  | .str _ :: _, _, h => by cases h
  | .ty _ :: _, _, h => by cases h
  | .tup _ :: _, _, h => by cases h
  | .lst _ :: _, _, h => by cases h
  | .scr _ :: _, _, h => by cases h
  | .ref _ :: _, _, h => by cases h
  | .tpk _ :: _, _, h => by cases h
theorem normT_ints {ns : List Int} : normT (ns.map D.int) = .tpk ns := by unfold normT; rw [intsD_ints]
theorem normT_asT (xs : List D) : asT (normT xs) = some xs := by
  unfold normT
  cases h : intsD xs with
  | none => rfl
  | some ns => show some (ns.map D.int) = _; rw [intsD_some h]
section
variable {K : PySem.W.Frag} {G : Addr → Prop} {S S' : Sto} {H H' : Hp} {Q' : KD} {Q : VK}
theorem tupN_ok {xs : List D} {vs : List V} {p : Addr} {o : Obj} (r : RepS K G S H) (n : H p = none) (ho : o.dict = none) (l : RlA K H (nfz G S) xs vs) (q : Q' (normT xs) S) (a : Aft K G S H Q' Q) : Q (.ref p) (upd H p (.frz o (.tup vs))) := by
  unfold normT at q
  cases h : intsD xs with
  | some ns =>
    rw [h] at q
    have e := intsD_some h
    subst e
    rw [l.of_ints]
    exact tpk_ok r n ho q a
  | none =>
    rw [h] at q
    exact a _ S _ _ (Tr.new n) (r.new n) (Rl.tup (.inl (.inr ⟨o, upd_same⟩)) (RlA.keep (Keep.new n) _ _ l)) q
end
section
variable {X : Cx} {C : Ct} {pos : Pos} {es : List Expr}
/-- tuple(a list) -/
def tupNR : D → Sto → KD → Prop := fun d S Q => ∃ xs, asL S d = some xs ∧ Q (normT xs) S
theorem cr_tupN : CallR X (.type "tuple") (LRL X.K (one tupNR)) := cr_one call_tupK fun v H Q ⟨G, d, S, Q', r, g, l, ⟨xs, e, q⟩, k⟩ => by
  obtain ⟨a, vs, rfl, h1, h2⟩ := of_asL r e l
  exact ⟨a, _, rfl, h1, fun p o n ho => tupN_ok r n ho h2 q k⟩
/-- (a, b, ..) -/
def dTupN (t : TDA) : TDE := fun e S Q => t e S fun ds S1 => ds.length ≤ sizeLine ∧ Q (normT ds) S1
theorem de_tupN {u : TDA} {x1} (h : DA X C es u) : DE X C (.Tuple es x1 pos) (dTupN u) :=
  ⟨PE.imp (pe_tupK h.pa) fun σ H Q ⟨G, e, S, Q', at', h, k⟩ => ⟨G, e, S, _, at', h, fun ds S1 vs H1 t1 r1 l1 h1 =>
    ⟨by rw [← l1.length]; exact h1.1, fun p o n ho => tupN_ok r1 n ho l1 h1.2 (k.tr t1)⟩⟩⟩
/-- t + u of tuples -/
def addNR : RD2 := fun x y S Q => ∃ xs ys, asT x = some xs ∧ asT y = some ys ∧ xs.length + ys.length ≤ sizeLine ∧ (xs = [] → y = normT ys) ∧ (ys = [] → x = normT xs) ∧ Q (normT (xs ++ ys)) S
theorem or_addN : OpR X (binaryOp .Add) (LR2 X.K addNR) := OpR.imp op_catK fun x y H Q ⟨G, d1, d2, S, Q', r, g, l1, l2, h, k⟩ => by
  obtain ⟨xs, ys, e1, e2, hl, n1, n2, q⟩ := h
  have w1 := l1
  have w2 := l2
  obtain ⟨p, vs, rfl, h1, la⟩ := of_asT e1 l1
  obtain ⟨p2, ws, rfl, h2, lb⟩ := of_asT e2 l2
  refine ⟨p, p2, _, _, rfl, rfl, h1, h2, by rw [← la.length, ← lb.length]; exact hl, fun z => ?_, fun _ z => ?_, fun _ _ p' o n ho => ?_⟩
  · have e : xs = [] := List.eq_nil_of_length_eq_zero (by rw [la.length, z]; rfl)
    subst e
    rw [List.nil_append, ← n1 rfl] at q
    exact k.now r w2 q
  · have e : ys = [] := List.eq_nil_of_length_eq_zero (by rw [lb.length, z]; rfl)
    subst e
    rw [List.append_nil, ← n2 rfl] at q
    exact k.now r w1 q
  · exact tupN_ok r n ho (RlA.app la lb) q k
end
end DL

/-! DL, part N8: tuple(reversed(a tuple)). -/
namespace DL
open PySem PySem.Spec PyProof.Rows L2 RT
theorem nolen_rt : typeLookup (.type "reversed") "__len__" = pure none := by rw [typeLookup_type, builtinLookup_eq_fast]; kernel_rfl
theorem slot_rt_hint : Slot "reversed" "__length_hint__" "reversed.__length_hint__" :=
  .of (owner := "reversed") (n := "__length_hint__") (by rw [typeLookup_type, builtinLookup_eq_fast]; kernel_rfl) (by decide +kernel) (by decide +kernel) (by decide +kernel)
    (by first | exact .inl (by decide +kernel) | exact .inr (by decide +kernel)) (by rw [isSubtype_type]; kernel_rfl)
theorem entry_rt_hint : entryFor table "reversed.__length_hint__" = some Builtin.«reversed.__length_hint__» := entryFor_of_tree (by kernel_rfl)
theorem args_rt_hint (a : Value) : argsOk "reversed.__length_hint__" ⟨[a], []⟩ := by
  unfold argsOk; rw [signature?_of (id := "reversed.__length_hint__") (n := ['_', '_', 't', 'n', 'i', 'h', '_', 'h', 't', 'g', 'n', 'e', 'l', '_', '_']) (o := ['d', 'e', 's', 'r', 'e', 'v', 'e', 'r']) (by kernel_rfl) owner_rt]; kernel_rfl
section
variable {prog : Program} {w : World} {A : Around} {E : Value → Shared → Prop} {s : Shared}
theorem walks_tupRev (hh : A.handled = none) (I l : Addr) (hne : l ≠ I) (items : Array Value) (hsz : items.size ≤ sizeLine) :
    Walks prog w A I [I, l] [I] items.size (fun i v => items[items.size - 1 - i]? = some v) (fun i h => i ≤ items.size ∧ IsRt h I l ((items.size : Int) - 1 - (i : Int)) ∧ IsTup h l items) where
  sub := fun b hb => by simp at hb; simp [hb]
  frame := fun _ _ _ x hk => ⟨x.1, x.2.1.at fun o e => hk I (by simp) o e, let ⟨o, ho, r⟩ := x.2.2; ⟨o, hk l (by simp) o ho, r⟩⟩
  item := fun i s Q E hi x hQ => by
    have e : (items.size : Int) - 1 - (i : Int) = ((items.size - 1 - i : Nat) : Int) := by omega
    have hit := x.2.1
    rw [e] at hit
    have hx : items[items.size - 1 - i]? = some (items[items.size - 1 - i]'(by omega)) := Array.getElem?_eq_getElem (by omega)
    refine next_rt_item hit x.2.2 hx hsz fun h' hit' hs' => ?_
    have e2 : ((items.size - 1 - i : Nat) : Int) - 1 = (items.size : Int) - 1 - ((i + 1 : Nat) : Int) := by omega
    rw [e2] at hit'
    exact hQ _ h' (s.toks + 1) hx ⟨hi, hit', x.2.2.extBut hs'.extBut hne⟩ fun b o hb eo => hs'.extBut b o (fun h => hb (by simp [h])) eo
  done := fun s Q E x hQ => by
    have e : (items.size : Int) - 1 - (items.size : Int) = -1 := by omega
    have hit := x.2.1
    rw [e] at hit
    exact next_rt_end hh hit fun h' he' => hQ h' s.toks fun b o hb eo => he' b o (fun h => hb (by simp [h])) eo
  self := fun _ _ _ _ x hQ => iter_rt x.2.1 hQ
/-- the hint of reversed(a tuple): what is left -/
theorem hint_rt {it l : Addr} {items : Array Value} {Q : Value → Shared → Prop} (hit : IsRt s.heap it l ((items.size : Int) - 1)) (hl : IsTup s.heap l items) (hn : items.size ≤ sizeLine)
    (hQ : ∀ tk, Q (.int items.size tk) { s with toks := tk + 1 }) :
    wpAny (model prog w) A (call (.builtin "reversed.__length_hint__") [.ref it]) Q E s := by
  obtain ⟨o, ho, hc, hd⟩ := id hit
  have hs := sizeLine_eq
  refine wpAny_call_entry slot_rt_hint hit.typeIs entry_rt_hint ?_ (args_rt_hint _)
  unfold Builtin.«reversed.__length_hint__»
  refine wpAny_bind (wpAny_of_eq (a := Value.ref it) rfl ?_)
  try dsimp only
  refine wpAny_bind (wpAny_field ho hd (x := .ref l) rfl ?_)
  try dsimp only
  rw [if_neg (show ¬ (Value.ref l == Value.none) = true from fun z => by cases z)]
  try dsimp only
  refine wpAny_bind (len_tuple hl (by omega) ?_)
  refine wpAny_bind (wpAny_of_eq (a := some ((items.size : Nat) : Int)) rfl ?_)
  try dsimp only
  refine wpAny_bind (wpAny_field (s := { s with toks := s.toks + 1 + 1 }) ho hd (x := rawInt ((items.size : Int) - 1)) rfl ?_)
  show wpAny _ _ (if ((items.size : Nat) : Int) < (items.size : Int) - 1 + 1 then _ else _) _ _ _
  rw [if_neg (by omega)]
  rw [show (items.size : Int) - 1 + 1 = (items.size : Int) by omega]
  unfold retInt
  refine wpAny_bind (wpAny_mkInt ?_)
  exact wpAny_pure ⟨_, rfl, hQ _⟩
/-- a room made and given back -/
theorem collect_rt {it l : Addr} {items : Array Value} {Q : List Value → Shared → Prop} (hh : A.handled = none) (hit : IsRt s.heap it l ((items.size : Int) - 1)) (hl : IsTup s.heap l items) (hne : l ≠ it) (hn : items.size ≤ sizeLine)
    (hQ : ∀ (h' : Heap) (tk : Nat) (acc : Array Value), (∀ b o, b ≠ it → s.heap.get? b = some o → h'.get? b = some o) → ItemsOf (fun i v => items[items.size - 1 - i]? = some v) acc items.size → Q acc.toList { s with heap := h', toks := tk }) :
    wpAny (model prog w) A (collect (.ref it)) Q E s := by
  have W := (walks_tupRev (prog := prog) (w := w) (A := A.in1) hh it l hne items hn).toS
  obtain ⟨oi, hoi, _⟩ := id hit
  obtain ⟨ol, hol, _⟩ := id hl
  have hSi : s.heap.objs.size ≠ it := Nat.ne_of_gt (Heap.lt_size hoi)
  have hSl : s.heap.objs.size ≠ l := Nat.ne_of_gt (Heap.lt_size hol)
  have hSf : s.heap.objs.size ∉ [it, l] := by simp only [List.mem_cons, List.not_mem_nil, or_false, not_or]; exact ⟨hSi, hSl⟩
  unfold collect
  refine wpAny_bind (wpAny_runValue (codeAny_builtin F.entry_proto_collect ?_))
  rw [Around.under_plainId F.plain_proto_collect _]
  show wpAny _ A.in1 (newList [] >>= fun l' => again (.builtin "list.__iadd__" ⟨[l', .ref it], []⟩)) _ _ s
  refine wpAny_bind (wpAny_newObj_type ?_)
  refine wpAny_pure ⟨plainId_quiet F.plain_list_iadd _, codeAny_builtin F.entry_list_iadd ?_⟩
  rw [Around.under_plainId F.plain_list_iadd _]
  have hS₁ : (s.heap.push { cls := .type "list", data := .seq ([] : List Value).toArray }).get? s.heap.objs.size = some { cls := .type "list", data := .seq ([] : List Value).toArray } := Heap.get?_push_size _ rfl
  have hit1 : IsRt (s.heap.push { cls := .type "list", data := .seq ([] : List Value).toArray }) it l ((items.size : Int) - 1) := hit.at fun o e => Heap.get?_push_of_some _ e
  have hl1 : IsTup (s.heap.push { cls := .type "list", data := .seq ([] : List Value).toArray }) l items := hl.push _
  have hT : ({ s with heap := s.heap.push { cls := .type "list", data := .seq ([] : List Value).toArray } } : Shared).TypeIs (.ref it) "reversed" := IsRt.typeIs (s := { s with heap := s.heap.push { cls := .type "list", data := .seq ([] : List Value).toArray } }) hit1
  have h1 : Builtin.List.listSameRef (.ref s.heap.objs.size) (.ref it) = false := by simp [Builtin.List.listSameRef, hSi]
  show wpAny _ A.in1 (Builtin.List.listExtendWith (.ref s.heap.objs.size) (.ref it) (.ref s.heap.objs.size)) _ _ _
  unfold Builtin.List.listExtendWith
  refine wpAny_bind (wpAny_typeOf hT ?_)
  rw [if_neg (by rw [h1]; decide)]
  refine wpAny_bind (iter_rt (s := { s with heap := s.heap.push { cls := .type "list", data := .seq ([] : List Value).toArray } }) hit1 ?_)
  refine wpAny_bind (wpAny_holding ?_)
  unfold Builtin.List.listLengthHint
  refine wpAny_bind (wpAny_specialOf hT nolen_rt ?_)
  show wpAny _ A.in1 (specialOf (Value.ref it) (Str.ofString "__length_hint__") >>= _) _ _ _
  refine wpAny_bind (wpAny_specialOf hT slot_rt_hint.lookup ?_)
  generalize hid : ("reversed.__length_hint__" : String) = id0
  wp_delta
  rw [show splitId id0 = some ("reversed", "__length_hint__") from by subst hid; decide +kernel]
  subst hid
  refine wpAny_bind (wpAny_isInstance (b := true) hT (by rw [isSubtype_type]; kernel_rfl) ?_)
  rw [if_neg (by decide)]
  dsimp only
  rw [if_neg]
  rotate_left
  · decide +kernel
  refine wpAny_bind (wpAny_rule ?_)
  rw [slot_rt_hint.bind]
  refine wpAny_bind (wpAny_pure ?_)
  dsimp only
  refine wpAny_bind (wpAny_attempt (hint_rt (s := { s with heap := s.heap.push { cls := .type "list", data := .seq ([] : List Value).toArray } }) hit1 hl1 hn fun tk => ?_))
  dsimp only
  have eI : ∀ tk, asInt? (Value.int ((items.size : Nat) : Int) tk) = pure (some ((items.size : Nat) : Int)) := fun _ => rfl
  rw [eI]
  rw [pure_bind]
  dsimp only
  have zl := sizeLine_eq
  have f1 : Builtin.List.listFitsIndex ((items.size : Nat) : Int) = true := by unfold Builtin.List.listFitsIndex; rw [decide_eq_true (by omega), decide_eq_true (by omega)]; rfl
  have f2 : Builtin.List.listTooLong ((items.size : Nat) : Int).toNat = false := by unfold Builtin.List.listTooLong; exact decide_eq_false (by omega)
  rw [f1, f2]
  rw [if_neg (by decide)]
  rw [if_neg (by omega)]
  rw [if_neg (by decide)]
  refine wpAny_pure ?_
  have e0 : ((items.size : Nat) : Int) - 1 - ((0 : Nat) : Int) = (items.size : Int) - 1 := by omega
  by_cases hz : items.size = 0
  · rw [if_neg]
    rotate_left
    · rw [hz]; decide +kernel
    refine wpAny_pure ⟨plainId_quiet F.plain_extend_loop _, codeAny_extend_loopS W hn _ hSf _ items.size 0 _ _ _ rfl (Nat.zero_le _) ⟨Nat.zero_le _, by rw [e0]; exact hit1, hl1⟩ hS₁ (ItemsOf.nil _) fun s' acc' c' hm hS' hacc => ?_⟩
    show wpAny _ A (load s.heap.objs.size >>= _) _ _ s'
    refine wpAny_bind (wpAny_load hS' ?_)
    refine wpAny_pure ?_
    rw [Moved.eq_with hm]
    refine hQ s'.heap s'.toks acc' (fun b o hb e => hm.heap b o (fun hmem => ?_) (Heap.get?_push_of_some _ e)) hacc
    rcases List.mem_cons.mp hmem with e' | hmem
    · exact absurd (Heap.lt_size e) (by rw [e']; exact Nat.lt_irrefl _)
    · exact hb (List.mem_singleton.mp hmem)
  · rw [if_pos]
    rotate_left
    · rw [show ((((items.size : Nat) : Int) != 0)) = true from by simp [hz]]; rfl
    clear zl f1 f2
    refine wpAny_bind (wpAny_rule ?_)
    refine wpAny_bind ?_
    show wpAny _ A.in1 (updateSeq s.heap.objs.size (·.push .none) >>= fun _ => updateSeq s.heap.objs.size (·.pop)) _ _ _
    refine wpAny_bind (wpAny_updateSeq hS₁ rfl ?_)
    have hS₂ := Heap.get?_update_self (Obj.mapSeq (·.push Value.none)) hS₁ rfl
    refine wpAny_updateSeq hS₂ rfl ?_
    have hS₃ := Heap.get?_update_self (Obj.mapSeq (·.pop)) hS₂ rfl
    have oth : ∀ b o, b ≠ s.heap.objs.size → (s.heap.push { cls := .type "list", data := .seq ([] : List Value).toArray }).get? b = some o →
        (((s.heap.push { cls := .type "list", data := .seq ([] : List Value).toArray }).update s.heap.objs.size (Obj.mapSeq (·.push Value.none))).update s.heap.objs.size (Obj.mapSeq (·.pop))).get? b = some o :=
      fun b o hb e => (Heap.get?_update_other _ _ (Ne.symm hb)).trans ((Heap.get?_update_other _ _ (Ne.symm hb)).trans e)
    refine wpAny_pure ⟨plainId_quiet F.plain_extend_loop _, codeAny_extend_loopS W hn _ hSf _ items.size 0 _ _ _ rfl (Nat.zero_le _) ⟨Nat.zero_le _, by rw [e0]; exact hit1.at fun o e => oth _ o (Ne.symm hSi) e, let ⟨o, ho, r⟩ := hl1; ⟨o, oth _ o (Ne.symm hSl) ho, r⟩⟩ hS₃ (ItemsOf.nil _) fun s' acc' c' hm hS' hacc => ?_⟩
    show wpAny _ A (load s.heap.objs.size >>= _) _ _ s'
    refine wpAny_bind (wpAny_load hS' ?_)
    refine wpAny_pure ?_
    rw [Moved.eq_with hm]
    refine hQ s'.heap s'.toks acc' (fun b o hb e => hm.heap b o (fun hmem => ?_) (oth b o (Nat.ne_of_lt (Heap.lt_size e)) (Heap.get?_push_of_some _ e))) hacc
    rcases List.mem_cons.mp hmem with e' | hmem
    · exact absurd (Heap.lt_size e) (by rw [e']; exact Nat.lt_irrefl _)
    · exact hb (List.mem_singleton.mp hmem)
theorem code_tuple_new_rt {it l : Addr} {items : Array Value} {Q₁ : Value → Shared → Prop} (hh : A.handled = none) (hit : IsRt s.heap it l ((items.size : Int) - 1)) (hl : IsTup s.heap l items) (hne : l ≠ it) (hn : items.size ≤ sizeLine)
    (h : ∀ (h' : Heap) (tk : Nat) (acc : Array Value), (∀ b o, b ≠ it → s.heap.get? b = some o → h'.get? b = some o) → ItemsOf (fun i v => items[items.size - 1 - i]? = some v) acc items.size →
      Q₁ (.ref h'.objs.size) { s with heap := h'.push { cls := .type "tuple", data := .seq acc }, toks := tk }) :
    codeAny (model prog w) A (.call (.builtin "tuple.__new__") ⟨[.type "tuple", .ref it], []⟩) (wants Q₁ E) s := by
  refine codeAny_of_tree ?_
  show wpAny _ A.in1 (do checkBuiltinCall "tuple.__new__" ⟨[.type "tuple", .ref it], []⟩; again (.builtin "tuple.__new__" ⟨[.type "tuple", .ref it], []⟩)) _ _ s
  refine wpAny_bind (wpAny_of_eq (F.newCall_tuple_1 _) (wpAny_pure ⟨plainId_quiet F.plain_tuple_new _, codeAny_builtin F.entry_tuple_new ?_⟩))
  rw [Around.under_plainId F.plain_tuple_new _]
  have hsub := sub_tuple_self
  have hinit := init_tuple_lookup
  have hmh := madeHere_tuple
  have hTI : s.TypeIs (.ref it) "reversed" := hit.typeIs
  have hh1 : A.in1.handled = none := hh
  wp_walk using wpAny_typeOf hTI, collect_rt (A := A.in1) hh1 hit hl hne hn
  intro h' tk acc hk hacc
  show wpAny _ _ (Builtin.Tuple.tupleExact acc.toList.toArray >>= fun v => ret v) _ _ _
  unfold Builtin.Tuple.tupleExact
  refine wpAny_bind (wpAny_newObj_type ?_ (by show acc.toList.toArray.size ≤ sizeLine; simp only [Array.toArray_toList]; rw [hacc.1]; exact hn))
  refine wpAny_pure ?_
  have e : acc.toList.toArray = acc := by simp
  rw [e]
  exact h h' tk acc hk hacc
theorem call_tuple_rt {it l : Addr} {items : Array Value} {Q : Value → Shared → Prop} (hh : A.handled = none) (hit : IsRt s.heap it l ((items.size : Int) - 1)) (hl : IsTup s.heap l items) (hne : l ≠ it) (hn : items.size ≤ sizeLine)
    (hQ : ∀ (h' : Heap) (tk : Nat) (acc : Array Value), (∀ b o, b ≠ it → s.heap.get? b = some o → h'.get? b = some o) → ItemsOf (fun i v => items[items.size - 1 - i]? = some v) acc items.size →
      Q (.ref h'.objs.size) { s with heap := h'.push { cls := .type "tuple", data := .seq acc }, toks := tk }) :
    wpAny (model prog w) A (call (.type "tuple") [.ref it]) Q E s := by
  refine callType_codes (Q₁ := fun obj s₁ => s₁.TypeIs obj "tuple" ∧ Q obj s₁) F.called_tuple (F.typeCall_tuple_1 _) F.entry_object_init
    (code_tuple_new_rt (A := A.in1) hh hit hl hne hn fun h' tk acc hk hacc => ⟨⟨_, Heap.get?_push_size _ rfl, rfl⟩, hQ h' tk acc hk hacc⟩) fun obj s₁ h₁ => ?_
  exact ⟨h₁.1, F.args_object_init_2 obj _, object_init_meets F.called_tuple.init.lookup F.called_tuple.made (by decide) prog w A.in1 _ s₁ ⟨h₁.1, rfl, h₁.2⟩⟩
end
/-- tuple(reversed(x)), x a tuple: a new tuple, its object seen -/
def tTupRevT (K : PySem.W.Frag) (te : TE) : TE := fun σ H Q => te σ H fun v H1 => ∃ (a : Addr) (xs : List V), v = .ref a ∧ SqT K H1 a xs ∧ ∀ q o, H1 q = none → o.dict = none → Q (.ref q) (upd H1 q (.frz o (.tup xs.reverse)))
section
variable {X : Cx}
theorem pe_tupRevT {e : Expr} {te : TE} {p p2 pos pos2 : Pos} (hc : X.calm = true) (hg : Gl X "tuple") (hm : X.mg "tuple" = none) (hg2 : Gl X "reversed") (hm2 : X.mg "reversed" = none) (he : PE X e te)
    (hs : starEach [e] X.env = (false, eval e X.env) :: starEach [] X.env := by rfl)
    (hs2 : starEach [.Call (.Name "reversed" p2) [e] [] pos2] X.env = (false, eval (.Call (.Name "reversed" p2) [e] [] pos2) X.env) :: starEach [] X.env := by rfl) :
    PE X (.Call (.Name "tuple" p) [.Call (.Name "reversed" p2) [e] [] pos2] [] pos) (tTupRevT X.K te) := by
  refine ⟨fun pins s σ H Q I h => ?_⟩
  refine Call_ (ld_blt I hg hm boot_tuple (PyProof.Rows.callWith_type1 (args_cons (Call_ (ld_blt I hg2 hm2 PyProof.Rows.boot_reversed (PyProof.Rows.callWith_type1 (args_cons (thn (he.run pins s σ H _ I h) fun u s1 ⟨v, H1, I1, r1, q1⟩ => args_nil ?_) hs) hs rfl))) hs2) hs2 rfl))
  obtain ⟨a, xs, ev, hq, q⟩ := q1
  subst ev
  obtain rfl : u = Value.ref a := r1
  obtain ⟨its, rv, p', hz⟩ := I1.tuple hq
  have hn : its.toArray.size ≤ sizeLine := by rw [List.size_toArray, ← rv.length]; exact hz
  have hn2 : (its.toArray.size : Int) < 2 ^ 63 := by have := sizeLine_eq; omega
  refine call_reversed_tup p' (fun A E Q k => len_tuple p' hn2 k) (args_nil ?_)
  have k0 : ∀ b o, s1.heap.get? b = some o → (s1.heap.push (rtObj a ((its.toArray.size : Int) - 1))).get? b = some o := fun b o e => Heap.get?_push_of_some _ e
  have I2 : L2.Inv X pins σ H1 { s1 with heap := s1.heap.push (rtObj a ((its.toArray.size : Int) - 1)), toks := s1.toks + 1 + 1 } := I1.kept (t' := s1.toks + 1 + 1) k0
  obtain ⟨f0, f1, f2, f3, f4, f5⟩ := I1.fpOk (H' := H1) (b := s1.heap.objs.size) (Nat.le_refl _) (I1.hok.fresh (Nat.le_refl _))
  obtain ⟨ol, hol, _⟩ := id p'
  have hne : a ≠ s1.heap.objs.size := Nat.ne_of_lt (Heap.lt_size hol)
  refine call_tuple_rt (s := { s1 with heap := s1.heap.push (rtObj a ((its.toArray.size : Int) - 1)), toks := s1.toks + 1 + 1 }) (I1.ok.hd hc) ⟨_, Heap.get?_push_size _ rfl, rfl, rfl⟩ (p'.push _) hne hn fun h' tk acc hk hi => ?_
  have I3 : L2.Inv X pins σ H1 { s1 with heap := h', toks := tk } := I2.turned (t' := tk) (fun b o hb e => hk b o hb e) f0 f1 f3 f4 f5
  have e : acc = acc.toList.toArray := by simp
  have I4 := newTup (t' := tk) I3 (vals_rev rv hi) (by rw [List.length_reverse]; exact hz)
  rw [e]
  exact ⟨.ref h'.objs.size, _, I4, rfl, q _ (tupO acc.toList) (I3.hok.fresh (Nat.le_refl _)) rfl⟩
end
section
variable {X : Cx} {C : Ct}
/-- tuple(reversed(a tuple)) -/
def dTupRev (t : TDE) : TDE := fun e S Q => t e S fun d S1 => ∃ xs, asT d = some xs ∧ Q (normT xs.reverse) S1
theorem de_tupRev {a : Expr} {t : TDE} {p p2 pos pos2 : Pos} (hc : X.calm = true) (hg : Gl X "tuple") (hm : X.mg "tuple" = none) (hg2 : Gl X "reversed") (hm2 : X.mg "reversed" = none) (ha : DE X C a t)
    (hs : starEach [a] X.env = (false, eval a X.env) :: starEach [] X.env := by rfl)
    (hs2 : starEach [.Call (.Name "reversed" p2) [a] [] pos2] X.env = (false, eval (.Call (.Name "reversed" p2) [a] [] pos2) X.env) :: starEach [] X.env := by rfl) :
    DE X C (.Call (.Name "tuple" p) [.Call (.Name "reversed" p2) [a] [] pos2] [] pos) (dTupRev t) :=
  ⟨PE.imp (pe_tupRevT hc hg hm hg2 hm2 ha.pe hs hs2) fun σ H Q ⟨G, e, S, Q', at', h, k⟩ => ⟨G, e, S, _, at', h, fun d S1 v H1 t1 r1 l1 h1 => by
    obtain ⟨xs, e1, q⟩ := h1
    obtain ⟨a, vs, rfl, h2, h3⟩ := of_asT e1 l1
    exact ⟨a, vs, rfl, h2, fun p o n ho => tupN_ok r1 n ho h3.rev q (k.tr t1)⟩⟩⟩
def dTupRevW (t : TDE) : TDE := fun e S Q => t e S fun d S1 => ∃ xs, asT d = some xs ∧ Q (.tup xs.reverse) S1
theorem de_tupRevW {a : Expr} {t : TDE} {p p2 pos pos2 : Pos} (hc : X.calm = true) (hg : Gl X "tuple") (hm : X.mg "tuple" = none) (hg2 : Gl X "reversed") (hm2 : X.mg "reversed" = none) (ha : DE X C a t)
    (hs : starEach [a] X.env = (false, eval a X.env) :: starEach [] X.env := by rfl)
    (hs2 : starEach [.Call (.Name "reversed" p2) [a] [] pos2] X.env = (false, eval (.Call (.Name "reversed" p2) [a] [] pos2) X.env) :: starEach [] X.env := by rfl) :
    DE X C (.Call (.Name "tuple" p) [.Call (.Name "reversed" p2) [a] [] pos2] [] pos) (dTupRevW t) :=
  ⟨PE.imp (pe_tupRevT hc hg hm hg2 hm2 ha.pe hs hs2) fun σ H Q ⟨G, e, S, Q', at', h, k⟩ => ⟨G, e, S, _, at', h, fun d S1 v H1 t1 r1 l1 h1 => by
    obtain ⟨xs, e1, q⟩ := h1
    obtain ⟨a, vs, rfl, h2, h3⟩ := of_asT e1 l1
    exact ⟨a, vs, rfl, h2, fun p o n ho => (k.tr t1) _ S1 _ _ (Tr.new n) (r1.new n) (Rl.tup (.inl (.inr ⟨o, upd_same⟩)) (RlA.keep (Keep.new n) _ _ h3.rev)) q⟩⟩⟩
end
end DL

/-! DL, part N9: x in range(n). -/
namespace DL
open PySem PySem.Spec PyProof.Rows L2
section
variable {X : Cx} {C : Ct} {pos p : Pos} {a b : Expr} {ta tb : TDE}
theorem op_in_rng : OpR X (compareOp .In) (fun x y H Q => ∃ i a lo hi, x = V.int i ∧ y = V.ref a ∧ H a = some (.rng lo hi) ∧ Q (.bl (decide (lo ≤ i ∧ i < hi))) H) := by
  intro pins s σ H x y v u Q I rx ry h
  obtain ⟨i, a, lo, hi, rfl, rfl, ha, q⟩ := h
  obtain ⟨k, rfl⟩ := rx
  obtain rfl : u = Value.ref a := ry
  obtain ⟨t1, t2, t3, ho⟩ := I.hok a _ ha
  show wpAny _ _ (do return Value.bool (← contains (Value.ref a) (Value.int i k))) _ _ s
  refine wpAny_bind (wpAny_contains_slot (T := "range") ⟨_, ho, rfl⟩ PySem.F.slot_range_contains (call_meets PySem.F.slot_range_contains ⟨_, ho, rfl⟩ PySem.F.entry_range_contains (PySem.F.args_range_contains_2 _ _) (q_contains a lo hi i t1 t2 t3 k)
    ⟨ho, wpAny_truthy_bool (wpAny_pure ⟨.bl _, H, I, rfl, ?_⟩)⟩))
  rw [place1]
  exact q
def dInRg (ta tb : TDE) : TDE := fun e S Q => ta e S fun x S1 => tb e S1 fun y S2 => ∃ i n : Int, x = .int i ∧ y = .int n ∧ Q (.bl (decide (0 ≤ i ∧ i < n))) S2
theorem inRg_ok {K : PySem.W.Frag} {G : Addr → Prop} {e : En} {S : Sto} {σ : L2.St} {H : Hp} {Q' : KD} {Q : VK} (at' : At K C G e S σ H) (h : dInRg ta tb e S Q') (k : Aft K G S H Q' Q) :
    tOp (fun x y H Q => ∃ i a lo hi, x = V.int i ∧ y = V.ref a ∧ H a = some (.rng lo hi) ∧ Q (.bl (decide (lo ≤ i ∧ i < hi))) H) (LE K C ta) (tCB (fun vs H Q => ∃ i, vs = [V.int i] ∧ ∀ p, H p = none → Q (.ref p) (upd H p (.rng 0 i))) (tCons (LE K C tb) tNil)) σ H Q :=
  ⟨G, e, S, _, at', h, fun d1 S1 v1 H1 t1 r1 l1 h1 => ⟨G, e, S1, _, at'.next t1 r1, h1, fun d2 S2 v2 H2 t2 r2 l2 h2 => by
    obtain ⟨i, n, rfl, rfl, q⟩ := h2
    obtain rfl := l1.of_int
    obtain rfl := l2.of_int
    refine ⟨n, rfl, fun p np => ⟨i, p, 0, n, rfl, rfl, upd_same, ?_⟩⟩
    exact k _ _ _ _ (t1.trans (t2.trans (Tr.new np))) (r2.new np) Rl.bl q⟩⟩
theorem de_inRg (hg : Gl X "range") (hm : X.mg "range" = none) (ha : DE X C a ta) (hb : DE X C b tb)
    (h1 : starEach [b] X.env = (false, eval b X.env) :: starEach [] X.env := by rfl) (h2 : behindInMarks .In (.Call (.Name "range" p) [b] [] pos) = false := by rfl) {pos2 : Pos} :
    DE X C (.Compare a [.In] [.Call (.Name "range" p) [b] [] pos] pos2) (dInRg ta tb) :=
  ⟨PE.imp (pe_cmpR op_in_rng ha.pe (pe_callTy cr_range1 hg hm (by decide +kernel : bootBuiltins "range" = some (.type "range")) (pa_cons hb.pe pa_nil h1) (by decide) (by decide) h1 (by rfl)) h2) fun σ H Q ⟨G, e, S, Q', at', h, k⟩ => inRg_ok at' h k⟩
theorem dt_inRg (hg : Gl X "range") (hm : X.mg "range" = none) (ha : DE X C a ta) (hb : DE X C b tb)
    (h1 : starEach [b] X.env = (false, eval b X.env) :: starEach [] X.env := by rfl) (h2 : behindInMarks .In (.Call (.Name "range" p) [b] [] pos) = false := by rfl) {pos2 : Pos} :
    DT X C (.Compare a [.In] [.Call (.Name "range" p) [b] [] pos] pos2) (dTst (dInRg ta tb)) :=
  ⟨PT.imp (pt_cmpR op_in_rng ha.pe (pe_callTy cr_range1 hg hm (by decide +kernel : bootBuiltins "range" = some (.type "range")) (pa_cons hb.pe pa_nil h1) (by decide) (by decide) h1 (by rfl)) h2) fun σ H Q ⟨G, e, S, Q', at', h, k⟩ => inRg_ok at' h (dTst_aft k)⟩
end
end DL

/-! DL: calls within an except suite; try .. except as n with any suite, what was caught being a cell there. -/
namespace DL
open PySem PySem.Spec PyProof.Rows L2

structure RmH (k : Nat) (A : Around) : Prop where
  room : L2H.RoomH k A
  gd : A.guards = some []
theorem RmH.mono {j k : Nat} {A : Around} (r : RmH k A) (h : j ≤ k) : RmH j A := ⟨r.room.mono h, r.gd⟩
theorem RmH.deeper {k : Nat} {A : Around} (r : RmH (k + 1) A) (env : Env) : RmH k (A.deeper env) := ⟨r.room.deeper env, r.gd⟩
theorem RmH.u64 {k : Nat} {A : Around} (r : RmH k A) : A.units + 64 < cLine := by have := r.room.un; omega
theorem RmH.u65 {k : Nat} {A : Around} (r : RmH k A) : A.units + 65 < cLine := by have := r.room.un; omega
theorem Rm.hot {k : Nat} {A : Around} (r : Rm k A) (h : Option Value) : RmH k (A.mark h) := ⟨⟨r.room.dp, r.room.un⟩, r.gd⟩

/-- a def that may be called where an exception is handled -/
structure FnW (P : Program) (w : World) (K : PySem.W.Frag) (mg : Str → Option Value) (base : Heap) (k : Nat) (f : Addr) (fd : FuncData) (ps : List Str) (sp : SpD) : Prop where
  len : ∀ ds S Q E, sp ds S Q E → ds.length = ps.length
  run : ∀ (A : Around) (outer : List Env) (s : Shared) (H : Hp) (args : Args) (us : List Value) (vs : List V) (Q : VK) (E : XK), RmH k A → Env0 P w K mg base A outer s H → BindsTo s fd args (ps.zip us) → Vals vs us → LSp K sp vs H Q E →
    codeAny (model P w) A (.call (.ref f) args) (CR (L2.CX P w) outer P w H s Q E) s
theorem FnW.mono {P : Program} {w : World} {K : PySem.W.Frag} {mg : Str → Option Value} {base : Heap} {j k : Nat} {f : Addr} {fd : FuncData} {ps : List Str} {sp : SpD} (F : FnW P w K mg base j f fd ps sp) (h : j ≤ k) : FnW P w K mg base k f fd ps sp :=
  ⟨F.len, fun A o s H args us vs Q E hr => F.run A o s H args us vs Q E (hr.mono h)⟩
/-- the context of such a def's body -/
abbrev cxW (P : Program) (w : World) (K : PySem.W.Frag) (mg : Str → Option Value) (base : Heap) (N : List Str) (qual : Str) (scope : Scope) (f : Addr) (cd : Value) (A : Around) (outer : List Env) (s : Shared) (H : Hp) (E : XK) : Cx :=
  { cxOf (L2.CX P w) P w K mg base N qual scope f cd A outer s H E with calm := false }
section
variable {P : Program} {w : World} {K : PySem.W.Frag} {mg : Str → Option Value} {base : Heap}
theorem inv_startW {N ps : List Str} {qual : Str} {scope : Scope} {f : Addr} {cd : Value} {A : Around} {outer : List Env} {s s1 : Shared} {H : Hp} {E : XK} {us : List Value} {vs : List V} (Sc : FnScope N ps scope) (e0 : Env0 P w K mg base A outer s H) (hl : vs.length = ps.length) (r : Vals vs us)
    (x : InCallC s s.heap.objs.size (bindL (envOfC qual scope s.heap.objs.size f cd).kindOf (ps.zip us) fun _ => none) (cellsFrom (s.heap.objs.size + 1) scope.names []) (bindC (envOfC qual scope s.heap.objs.size f cd).kindOf (ps.zip us) fun _ => none) s1) :
    L2.Inv (cxW P w K mg base N qual scope f cd A outer s H E) [] (L2.start N vs) H s1 := by
  obtain ⟨o, es, ep, ho, hd, _⟩ := e0.mod.glob
  have hp : L2H.PinOk outer H s (mainGlobals, o) := ⟨(e0.bs _ _ ho).1, (e0.bs _ _ ho).2, (fun hm => by
    have z := (e0.funs.mem hm).1
    rw [ho] at z; cases z), (fun v z => by
    rw [show o.data = _ from z] at hd; cases hd)⟩
  have I := L2H.inv_startH (CX := L2.CX P w) (P := P) (w := w) (K := K) (mg := mg) (E := E) Sc hp e0 hl r x
  exact ⟨⟨I.ok.mod, I.ok.kind, I.ok.glob, I.ok.blt, I.ok.above, I.ok.inj, I.ok.has, I.ok.cab, (fun z => nomatch (show false = true from z)), I.ok.frames, I.ok.stk, I.ok.exf, I.ok.bs, I.ok.bsz, I.ok.noex, I.ok.exfs, I.ok.funs, I.ok.frf⟩,
    I.os, I.bare, I.base, I.loc, I.cell, I.free, I.freeC, (fun p z => nomatch (show p ∈ ([] : List (Addr × Obj)) from z)), I.hok, I.len⟩
theorem FnW.of {x qual : Str} {st : Stmt} {f : Addr} {fd : FuncData} {N ps : List Str} {k : Nat} {sp : SpD} {t : XKD → TDS} (F : Fun K x qual st f fd) (Sc : FnScope N ps (defScope st)) (len : ∀ ds S Q E, sp ds S Q E → ds.length = ps.length)
    (hbody : ∀ (X : Cx) (C : Ct) (E' : XKD) (cdv : Value) (A : Around) (outer : List Env) (s : Shared) (H : Hp) (E : XK), X = cxW P w K mg base N qual (defScope st) f cdv A outer s H E → RmH k X.A → XOk X C E' → PassesOwn (model X.prog X.w) X.A X.env X.xe → DSs X C (defBody st) (t E'))
    (hsp : ∀ ds S Q E', sp ds S Q E' → t (FinX E') { nx := fun _ S' => Fin Q .non S', rt := Fin Q } (startD N ds) S) : FnW P w K mg base (k + 1) f fd ps sp := by
  obtain ⟨oc, od, kV, doc, pm, an, cdv, ct, osl, rfl, lk, hcd⟩ := F.ex
  refine ⟨len, fun A outer s H args us vs Q E hr e0 hb r ⟨G, S, ds, Q', E', rep, g, l, hs, aft, aftx⟩ => ?_⟩
  have hl : vs.length = ps.length := l.length.symm.trans (len _ _ _ _ hs)
  have kin : K.In s.heap := e0.mod.kin.keeps fun b o z => (e0.bs b o z).1
  have nolim : s.heap.NoLimit := e0.mod.nolimit.keeps fun b o z => (e0.bs b o z).1
  have kinds : ∀ y ∈ ps.zip us, (defScope st).names.lookup y.1 = some .local ∨ ((defScope st).names.lookup y.1 = some .cell ∧ ((cellsFrom (s.heap.objs.size + 1) (defScope st).names []).lookup y.1).isSome = true) := by
    rintro ⟨n, v⟩ hy
    rcases Sc.par n (List.of_mem_zip hy).1 with q | q
    · exact .inl q
    · exact .inr ⟨q, PySem.W.cellsFrom_some _ _ _ (.inl q)⟩
  refine codeAny_call_function hr.room.depth (kin _ _ lk) rfl Sc.co Sc.gen rfl (PySem.W.codeRec_of kin hcd) (hb _ _ _ _ ?_)
  refine wpAny_newFunctionEnv_cells Sc.kind kinds fun env he s1 x => ?_
  subst he
  refine ⟨nolim.keeps x.toInCall.keep, codeAny_func ?_⟩
  have hX : XOk (cxW P w K mg base N qual (defScope st) f cdv A outer s H E) (CtOf G S H) (FinX E') :=
    (takes_of rfl rfl rfl rfl).imp fun c od _ H' z => by
      obtain ⟨G', S', ⟨z0, z1⟩, z2, S2, dr, z4⟩ := z
      subst z0
      exact aftx c od S2 H' (z1.trans dr.tr) (dr.rep z2) z4
  have hB := hbody _ (CtOf G S H) (FinX E') cdv A outer s H E rfl (hr.deeper _) hX (passes_of rfl)
  have I := inv_startW (P := P) (w := w) (K := K) (mg := mg) (E := E) Sc e0 hl r x
  have hq := hsp ds S Q' E' hs
  have hpl : ps.length ≤ N.length := by have := congrArg List.length Sc.pre; rw [List.length_take] at this; omega
  have at0 : At K (CtOf G S H) G (startD N ds) S (L2.start N vs) H := by
    have hdl : ds.length ≤ N.length := by rw [l.length, hl]; exact hpl
    refine ⟨rep, g, ⟨rfl, Tr.refl⟩, by rw [startD_eq hdl]; simp [L2.start, l.length], fun i d q => ?_⟩
    rw [startD_eq hdl] at q
    by_cases hi : i < ds.length
    · rw [List.getElem?_append_left (by simpa using hi), List.getElem?_map] at q
      cases z : ds[i]? with
      | none => rw [z] at q; cases q
      | some y =>
        rw [z] at q; cases q
        obtain ⟨v, h1, h2⟩ := l.getD z
        exact ⟨v, by unfold L2.start; rw [List.getElem?_append_left (by simpa [l.length] using hi), List.getElem?_map, h1]; rfl, h2⟩
    · rw [List.getElem?_append_right (by simpa using hi), List.getElem?_replicate] at q
      split at q <;> cases q
  have red : LS K (CtOf G S H) (t (FinX E')) { nx := fun _ H' => Q .non H', rt := Q } (L2.start N vs) H := by
    refine ⟨G, _, S, _, at0, hq, ⟨fun e2 S2 σ2 H2 t2 a2 q => ?_, fun _ _ _ _ _ _ z => z.elim, fun _ _ _ _ _ _ z => z.elim, fun d S2 v H2 t2 r2 l2 q => ?_⟩⟩
    · obtain ⟨d', S3, fz, q⟩ := q.ex
      obtain ⟨r3, t3, l3⟩ := fz K G H2 .non a2.rep a2.g Rl.non
      exact aft d' S3 _ H2 (t2.trans t3) r3 l3 q
    · obtain ⟨d', S3, fz, q⟩ := q.ex
      obtain ⟨r3, t3, l3⟩ := fz K G H2 v r2 (g.tr rep t2) l2
      exact aft d' S3 _ H2 (t2.trans t3) r3 l3 q
  refine wpAny_mono (hB.ps.run [] s1 (L2.start N vs) H _ I red) (fun fl s' hs' => ?_) fun _ _ z => z
  cases fl with
  | ret u =>
    obtain ⟨v, σ', H', J, rv, q⟩ := hs'
    exact ⟨v, H', J.os, J.bare, J.base, J.hok, rv, q⟩
  | next =>
    obtain ⟨σ', H', J, q⟩ := hs'
    exact ⟨V.non, H', J.os, J.bare, J.base, J.hok, rfl, q⟩
  | brk => obtain ⟨_, _, _, q⟩ := hs'; exact False.elim q
  | cont => obtain ⟨_, _, _, q⟩ := hs'; exact False.elim q
end
structure FcW (P : Program) (w : World) (K : PySem.W.Frag) (mg : Str → Option Value) (base : Heap) (k : Nat) (x : Str) (ps : List Str) (sp : SpD) : Prop where
  ex : ∃ (f : Addr) (fd : FuncData), mg x = some (.ref f) ∧ PySem.W.keepIn K (.ref f) = true ∧ Binds K fd ps [] ∧ FnW P w K mg base k f fd ps sp
section
variable {X : Cx} {C : Ct} {k : Nat} {x : Str} {ps : List Str} {sp : SpD} {E : XKD} {p pos : Pos} {a : Expr} {es : List Expr} {t : TDA}
theorem call_fnw {f : Addr} {fd : FuncData} {pins : List (Addr × Obj)} {σ : L2.St} {H : Hp} {s : Shared} {Q : VK} {us : List Value} {vs : List V} {E : XK} (F : FnW X.prog X.w X.K X.mg X.base k f fd ps sp) (hr : RmH k X.A) (hb : Binds X.K fd ps []) (hx : Passes (L2.CX X.prog X.w) X E)
    (I : L2.Inv X pins σ H s) (r : Vals vs us) (h : LSp X.K sp vs H Q E) : wpAny (model X.prog X.w) X.A (call (.ref f) us) (EP X pins σ Q) X.xe s := by
  have hl : us.length = ps.length := by
    obtain ⟨G, S, ds, Q', E', rep, g, l, hs, _⟩ := h
    exact r.length.symm.trans (l.length.symm.trans (F.len _ _ _ _ hs))
  have bt := hb s us I.kIn (by rw [List.append_nil]; exact hl)
  rw [List.append_nil] at bt
  refine wpAny_call (codeAny_mono (F.run X.A X.stack s H ⟨us, []⟩ us vs Q E hr I.env0 bt r h) fun z s' hq => ?_)
  cases z with
  | error e => exact hx pins σ H s e s' I hq
  | ok fl =>
    cases fl with
    | ret u => exact I.after hq
    | next => exact False.elim hq
    | brk => exact False.elim hq
    | cont => exact False.elim hq
theorem de_callW (F : FcW X.prog X.w X.K X.mg X.base k x ps sp) (hr : RmH k X.A) (hx : XOk X C E) (hg : Gl X x) (ha : DA X C (a :: es) t)
    (hdb : (x == ("__debug__" : Str)) = false := by decide) (he : starEach (a :: es) X.env = (false, eval a X.env) :: starEach es X.env := by rfl) (hpl : (backTo pos (starEach es X.env)).any (·.1) = false := by rfl) :
    DE X C (.Call (.Name x p) (a :: es) [] pos) (dCall sp E t) := by
  obtain ⟨f, fd, hm, hk, hb, F⟩ := F.ex
  refine ⟨⟨fun pins s σ H Q I ⟨G, e, S, Q', at', h, k⟩ => ?_⟩⟩
  refine wpAny_Call_Name_kw (ld_glob I hg hm ?_ hdb)
  refine PySem.W.callWith_K (h₀ := X.base) I.ok.mod.kin hk (thn (ha.pa.run pos pins s σ H (fun vs H1 => LSp X.K sp vs H1 Q (EL X.K C E)) I ⟨G, e, S, _, at', h, fun ds S1 vs H1 t1 r1 l1 h1 => lsp_of (at'.next t1 r1) l1 h1 (k.tr t1)⟩) fun us s1 ⟨vs, H1, I1, r, q⟩ => ⟨I1.kIn, ?_⟩) he hpl
  exact call_fnw F hr hb (passes_call hx fun _ _ _ _ h => h) I1 r q
end
end DL

/-! DL: try: body / except X as n: suite. -/
namespace DL
open PySem PySem.Spec PyProof.Rows L2

/-- what 'except x as n: suite' wishes of an exception of the body: in the suite it is a cell -/
def wTrk (K : PySem.W.Frag) (c : Value) (i : Nat) (ts : TS) (D : Ends) : WX := fun cls d σ H =>
  PySem.W.exmOne K cls c = some true ∧ ∀ a, H a = none → ts { nx := fun σ' H' => D.nx (σ'.set i none) H', rt := D.rt, bk := fun σ' H' => D.bk (σ'.set i none) H', ct := fun σ' H' => D.ct (σ'.set i none) H' } (σ.set i (some (.ref a))) (upd H a (ExV cls d a))
section
variable {X : Cx} {x n : Str} {c : Value} {i : Nat} {body suite : List Stmt} {b₀ : Stmt} {np pos pos' : Pos} {tb : WX → TS} {ts : TS}
theorem ps_try_trk (hs : X.stack = X.env :: X.outer) (hf : X.env.frame = some X.env.locals) (hex : X.ex = []) (hN : X.N.Nodup) (hi : X.N[i]? = some n) (hln : X.env.kindOf n = some .local) (hil : i < X.N.length)
    (hsu : ∀ (a : Addr) (pn : List (Addr × Obj)), PSs (X.suite a pn) (b₀ :: suite) ts) (hc : Names X x c)
    (hb : ∀ (W : WX) (pn : List (Addr × Obj)) (xe : Value → Shared → Prop), Takes (X.tr pn xe) W → PassesOwn (model X.prog X.w) X.A X.env xe → PSs (X.tr pn xe) body (tb W)) :
    PS X (.Try body [.ExceptHandler (some (.Name x np)) (some n) (b₀ :: suite) pos'] [] [] pos) (fun D σ H => tb (wTrk X.K c i ts D) D σ H) := by
  refine ⟨fun pins s σ H D I h => ?_⟩
  have ok := I.ok
  have hfr : X.A.frames = some (X.env :: X.outer) := by rw [ok.frames, hs]
  have hloc : Loc X.env.scope n := .inl hln
  refine wpAny_Try_except ?_
  refine wpAny_mono ((hb (wTrk X.K c i ts D) (X.pn ++ pins) (fun e s₁ => wpAny (model X.prog X.w) X.A (noteFrame e X.env) (fun _ s₂ => wpAny (model X.prog X.w) X.A (setFlight e none) (fun _ s₃ =>
    wpAny (model X.prog X.w) X.A (handleBy e X.env [.ExceptHandler (some (.Name x np)) (some n) (b₀ :: suite) pos']) (SP X pins D) X.xe s₃) X.xe s₂) X.xe s₁) (fun u s' xx => ?_) PassesOwn.looking).run [] s σ H D (I.toTry _) h) (fun f s1 hsp => ?_) (fun e s1 he => he)
  · obtain ⟨a, B, sI, pins', σ', H', cls, d, rfl, J', nb, up, sky, na, os, ag, hb1, hyes⟩ := xx
    have J : L2.Inv X pins σ' H' sI := J'.ofTry ok
    have sky' : Sky B (X.env :: X.outer) a (Zc cls d) X.env.locals s'.heap := by rw [← hs]; exact sky
    show wpAny (model X.prog X.w) X.A (noteFrame (.ref a) X.env) _ _ _
    refine Sky.land Zc.steady hfr hf sky' fun h3 fl3 up3 => ?_
    have J3 : L2.Inv X pins σ' H' { s' with heap := h3 } := J.landed nb fl3.1 (up.trans up3) os ag
    obtain ⟨oe3, vs3, he3, hz3, hd3⟩ := fl3.there
    have nfr : a ∉ frs (X.env :: X.outer) := fun hm => by
      obtain ⟨_, o', e', hnf⟩ := fl3.2.2.1.mem hm
      rw [he3] at e'; cases e'
      exact hnf _ hd3
    have nL : a ≠ X.env.locals := fun z => nfr (List.mem_filterMap.mpr ⟨X.env, List.mem_cons_self, by rw [hf, z]⟩)
    have nF : a ∉ X.fs := fun hm => by
      obtain ⟨e, he, q⟩ := List.mem_filterMap.mp hm
      exact nfr (List.mem_filterMap.mpr ⟨e, List.mem_cons_of_mem _ he, q⟩)
    have nI : sI.heap.get? a = none := by
      cases q : sI.heap.get? a with
      | none => rfl
      | some o =>
        have z := nb a o q (by rw [hs]; exact nfr)
        rw [fl3.2.1] at z; cases z
    have n0 : X.s_0.heap.get? a = none := by
      cases q : X.s_0.heap.get? a with
      | none => rfl
      | some o =>
        obtain ⟨o', z⟩ := J.base.there a o q (by rw [hex]; intro z; cases z)
        rw [nI] at z; cases z
    have npn : ∀ p ∈ (X.pn ++ pins) ++ [], p.1 ≠ a := fun p hp z => by
      rw [List.append_nil] at hp
      have q := (J.pin p hp).1
      rw [z, nI] at q; cases q
    have S3 := J3.suite he3 hd3 na nL nF
    refine wpAny_handleBy_cons (codeAny_handlers_test ?_) (by intro q; cases q)
    have LT : PySem.W.Looks (model X.prog X.w) h3 (typeOf (.ref a)) cls := fun A Q E s k q => wpAny_typeOf_ref (k _ _ he3) (by rw [hz3.1]; exact q)
    have LM := PySem.W.exm_one (M := model X.prog X.w) (J3.kIn) LT hb1
    have test : ∀ {Q : Value → Shared → Prop} {E : Value → Shared → Prop}, Q c { s' with heap := h3 } → wpAny (model X.prog X.w) (X.A.mark (some (.ref a))) (eval (.Name x np) X.env) Q E { s' with heap := h3 } := fun {Q E} q => by
      obtain ⟨hg, hdbg, hm | ⟨hm, hv, hnn⟩⟩ := hc
      · exact ld_glob (X := X.suite a ((a, oe3) :: (X.pn ++ pins))) S3 hg hm q hdbg
      · exact ld_blt (X := X.suite a ((a, oe3) :: (X.pn ++ pins))) S3 hg hm hv q hnn hdbg
    refine test (LM.here ?_)
    refine codeAny_handlers_suite_as ?_
    refine HandSPX.lands_againZ fl3 fun h4 fl4 up4 => ?_
    have J4 : L2.Inv X pins σ' H' { s' with heap := h4 } := J.landed nb fl4.1 ((up.trans up3).trans up4) os ag
    obtain ⟨oe4, vs4, he4, hz4, hd4⟩ := fl4.there
    have S4 := J4.suite he4 hd4 na nL nF
    refine store_ok (X := X.suite a ((a, oe4) :: (X.pn ++ pins))) (v := .ref a) S4 hN hi hloc rfl (fun s5 S5 => ?_) (.inr hln)
    have e5 := (S5.pin (a, oe4) (List.mem_append_left _ List.mem_cons_self)).1
    have S5' : L2.Inv (X.suite a (X.pn ++ pins)) [(a, oe4)] (σ'.set i (some (.ref a))) H' s5 := ⟨ok.suite _ _, S5.os, S5.bare, S5.base, S5.loc, S5.cell, S5.free, S5.freeC, fun p hp => S5.pin p (by
      rw [List.append_nil]
      rcases List.mem_append.mp hp with z | z
      · exact List.mem_cons_of_mem _ z
      · rw [List.mem_singleton.mp z]; exact List.mem_cons_self), S5.hok, S5.len⟩
    have T5 := inv_track (X := X.suite a (X.pn ++ pins)) (pins := []) (o := ExV cls d a) S5' n0 npn (exV_ok e5 hz4 ⟨_, hd4⟩)
    refine wpAny_mono ((hsu a (X.pn ++ pins)).run [] s5 _ _ _ T5 (hyes a na)) (fun f s6 hsp => ?_) (fun _ _ z => False.elim z)
    have end_ : ∀ {σ6 : L2.St} {H6 : Hp} {Q : Shared → Prop}, L2.Inv (X.suite a (X.pn ++ pins)) [] σ6 H6 s6 → (∀ s7, L2.Inv X pins (σ6.set i none) H6 s7 → Q s7) →
        wpAny (model X.prog X.w) X.A (do bindName X.env n .none; unbindBehindTheSuite X.env n pos') (fun _ s7 => Q s7) X.xe s6 := fun {σ6 H6 Q} S6 hq => gone_ok (show L2.Inv X pins σ6 H6 s6 from ⟨ok, S6.os, S6.bare, S6.base, S6.loc, S6.cell, S6.free, S6.freeC, fun p hp => S6.pin p (List.mem_append_left _ hp), S6.hok, S6.len⟩) hN hi hln hq
    cases f with
    | next =>
      obtain ⟨σ6, H6, S6, q6⟩ := hsp
      exact end_ S6 fun s7 J7 => ⟨_, _, J7, q6⟩
    | brk =>
      obtain ⟨σ6, H6, S6, q6⟩ := hsp
      exact end_ S6 fun s7 J7 => ⟨_, _, J7, q6⟩
    | cont =>
      obtain ⟨σ6, H6, S6, q6⟩ := hsp
      exact end_ S6 fun s7 J7 => ⟨_, _, J7, q6⟩
    | ret u =>
      obtain ⟨v6, σ6, H6, S6, r6, q6⟩ := hsp
      exact end_ S6 fun s7 J7 => ⟨_, _, _, J7, r6, q6⟩
  · cases f with
    | next =>
      obtain ⟨σ', H', J', q⟩ := hsp
      exact wpAny_execs_nil ⟨σ', H', J'.ofTry ok, q⟩
    | brk =>
      obtain ⟨σ', H', J', q⟩ := hsp
      exact ⟨σ', H', J'.ofTry ok, q⟩
    | cont =>
      obtain ⟨σ', H', J', q⟩ := hsp
      exact ⟨σ', H', J'.ofTry ok, q⟩
    | ret u =>
      obtain ⟨v, σ', H', J', r, q⟩ := hsp
      exact ⟨v, σ', H', J'.ofTry ok, r, q⟩
end

/-! ### over data -/
/-- an exception of a try's body may leave at the slots e0 -/
abbrev XOkE (X : Cx) (C : Ct) (e0 : En) (E : XKD) : Prop := Takes X (fun c od σ H' => ∃ G S', At X.K C G e0 S' σ H' ∧ E c od S')
def dCallE (sp : SpD) (e0 : En) (E : XKD) (t : TDA) : TDE := fun e S Q => e = e0 ∧ t e S fun ds S1 => sp ds S1 Q E
theorem lsp_ofE {K : PySem.W.Frag} {C : Ct} {G : Addr → Prop} {e : En} {S : Sto} {σ : L2.St} {H : Hp} {ds : List D} {vs : List V} {Q' : KD} {Q : VK} {sp : SpD} {E : XKD} {W : WX} (at' : At K C G e S σ H) (l : RlA K H (nfz G S) ds vs) (h : sp ds S Q' E) (k : Aft K G S H Q' Q)
    (hW : ∀ c od σ' H' G' S', At K C G' e S' σ' H' → E c od S' → W c od σ' H') : LSp K sp vs H Q (WE W σ) :=
  ⟨G, S, ds, Q', E, at'.rep, at'.g, l, h, k, fun c od S' H' t r q => hW c od σ H' G S' (at'.next t r) q⟩
section
variable {X : Cx} {C : Ct} {k : Nat} {x : Str} {ps : List Str} {sp : SpD} {E : XKD} {e0 : En} {p pos : Pos} {a : Expr} {es : List Expr} {t : TDA}
theorem de_callE (F : Fc X.prog X.w X.K X.mg X.base k x ps sp) (hr : Rm k X.A) (hx : XOkE X C e0 E) (hg : Gl X x) (ha : DA X C (a :: es) t)
    (hdb : (x == ("__debug__" : Str)) = false := by decide) (he : starEach (a :: es) X.env = (false, eval a X.env) :: starEach es X.env := by rfl) (hpl : (backTo pos (starEach es X.env)).any (·.1) = false := by rfl) :
    DE X C (.Call (.Name x p) (a :: es) [] pos) (dCallE sp e0 E t) := by
  obtain ⟨f, fd, hm, hk, hb, F⟩ := F.ex
  refine ⟨⟨fun pins s σ H Q I ⟨G, e, S, Q', at', ⟨e1, h⟩, k⟩ => ?_⟩⟩
  subst e1
  refine wpAny_Call_Name_kw (ld_glob I hg hm ?_ hdb)
  refine PySem.W.callWith_K (h₀ := X.base) I.ok.mod.kin hk (thn (ha.pa.run pos pins s σ H (fun vs H1 => LSp X.K sp vs H1 Q (WE (fun c od σ H' => ∃ G S', At X.K C G e S' σ H' ∧ E c od S') σ)) I
    ⟨G, e, S, _, at', h, fun ds S1 vs H1 t1 r1 l1 h1 => lsp_ofE (at'.next t1 r1) l1 h1 (k.tr t1) fun c od σ' H' G' S' z1 z2 => ⟨G', S', z1, z2⟩⟩) fun us s1 ⟨vs, H1, I1, r, q⟩ => ⟨I1.kIn, ?_⟩) he hpl
  exact call_fndS F hr hb (passAt hx σ) I1 r q
/-- a call without its last arguments -/
def dCallDE (ns : List Int) (sp : SpD) (e0 : En) (E : XKD) (t : TDA) : TDE := fun e S Q => e = e0 ∧ t e S fun ds S1 => sp (ds ++ ns.map D.int) S1 Q E
theorem de_callDE {ns : List Int} (F : Fcd X.prog X.w X.K X.mg X.base k x ps ns sp) (hr : Rm k X.A) (hx : XOkE X C e0 E) (hg : Gl X x) (ha : DA X C (a :: es) t)
    (hdb : (x == ("__debug__" : Str)) = false := by decide) (he : starEach (a :: es) X.env = (false, eval a X.env) :: starEach es X.env := by rfl) (hpl : (backTo pos (starEach es X.env)).any (·.1) = false := by rfl) :
    DE X C (.Call (.Name x p) (a :: es) [] pos) (dCallDE ns sp e0 E t) := by
  obtain ⟨f, fd, hm, hk, ⟨dvs, hv, hb⟩, F⟩ := F.ex
  refine ⟨⟨fun pins s σ H Q I ⟨G, e, S, Q', at', ⟨e1, h⟩, k⟩ => ?_⟩⟩
  subst e1
  refine wpAny_Call_Name_kw (ld_glob I hg hm ?_ hdb)
  refine PySem.W.callWith_K (h₀ := X.base) I.ok.mod.kin hk (thn (ha.pa.run pos pins s σ H (fun vs H1 => LSp X.K sp (vs ++ ns.map V.int) H1 Q (WE (fun c od σ H' => ∃ G S', At X.K C G e S' σ H' ∧ E c od S') σ)) I
    ⟨G, e, S, _, at', h, fun ds S1 vs H1 t1 r1 l1 h1 => lsp_ofE (at'.next t1 r1) (RlA.app l1 (RlA.ints ns)) h1 (k.tr t1) fun c od σ' H' G' S' z1 z2 => ⟨G', S', z1, z2⟩⟩) fun us s1 ⟨vs, H1, I1, r, q⟩ => ⟨I1.kIn, ?_⟩) he hpl
  have r2 : Vals (vs ++ ns.map V.int) (us ++ dvs) := r.append hv
  have hl : (us ++ dvs).length = ps.length := by
    obtain ⟨G, S, ds, Q', E', rep, g, l, hs, _⟩ := q
    exact r2.length.symm.trans (l.length.symm.trans (F.len _ _ _ _ hs))
  have hx' := passAt hx σ
  refine wpAny_call (codeAny_mono (F.run X.A X.stack s1 H1 ⟨us, []⟩ (us ++ dvs) (vs ++ ns.map V.int) Q _ hr I1.env0 (hb s1 us I1.kIn hl) r2 q) fun z s' hq => ?_)
  cases z with
  | error e => exact hx' pins H1 s1 e s' I1 hq
  | ok fl =>
    cases fl with
    | ret u => exact I1.after hq
    | next => exact False.elim hq
    | brk => exact False.elim hq
    | cont => exact False.elim hq
def dMethE (Cc : Addr) (m : Str) (sp : SpD) (e0 : En) (E : XKD) (td : TDE) (t : TDA) : TDE := fun e S Q => e = e0 ∧ td e S fun d S1 => ∃ a dx fs, d = .ref a ∧ S1 a = some (.ins Cc dx fs) ∧ fs.lookup m = none ∧ t e S1 fun ds S2 => sp (.ref a :: ds) S2 Q E
theorem de_methE {Cc : Addr} {m : Str} {apos : Pos} {o : Expr} {td : TDE} {pl : Sem Bool} (c : Cls X.K Cc) (F : FcM X.prog X.w X.K X.mg X.base k Cc m ps sp) (hr : Rm k X.A) (hx : XOkE X C e0 E) (ho : DE X C o td) (ha : DA X C (a :: es) t)
    (hst : starEach (a :: es) X.env = (false, eval a X.env) :: starEach es X.env := by rfl) (hpl : (backTo pos (starEach es X.env)).any (·.1) = false := by rfl)
    (ht : eval (.Call (.Attribute o m apos) (a :: es) [] pos) X.env = (do
      let ov ← eval o X.env
      standAt apos.atName
      let (f, first) ← holding [ov] (getMethod ov m pl)
      callWith pos f first (backTo pos (starEach (a :: es) X.env)) (backToKw pos (keywordEach [] X.env))) := by rfl) :
    DE X C (.Call (.Attribute o m apos) (a :: es) [] pos) (dMethE Cc m sp e0 E td t) := by
  obtain ⟨f, fd, hm, hb, F⟩ := F.ex
  refine ⟨⟨fun pins s σ H Q I ⟨G, e, S, Q', at', ⟨e1, h⟩, k⟩ => ?_⟩⟩
  subst e1
  refine PySem.W.methodCall_KW (pl := pl) (thn (ho.pe.run pins s σ H (fun x H1 => ∃ (y dx : Addr) (fs : List (Str × V)), x = .ref y ∧ H1 y = some (.ins Cc dx fs) ∧ fs.lookup m = none ∧ LA X.K C t σ H1 fun vs H2 => LSp X.K sp (.ref y :: vs) H2 Q (WE (fun c od σ H' => ∃ G S', At X.K C G e S' σ H' ∧ E c od S') σ)) I
    ⟨G, e, S, _, at', h, fun d S1 v H1 t1 r1 l1 h1 => ?_⟩) fun u s1 ⟨x, H1, I1, rx, y, dx, fs, ex, ea, l, q⟩ => ?_) ht
  · obtain ⟨y, dx, fs, rfl, hs, lk, h2⟩ := h1
    obtain rfl := l1.of_ref
    obtain ⟨vs, e2, rf⟩ := (r1 y _ hs).2
    exact ⟨y, dx, vs, rfl, e2, rf.lookNone lk, G, e, S1, _, at'.next t1 r1, h2, fun ds S2 ws H2 t2 r2 l2 h3 => lsp_ofE ((at'.next t1 r1).next t2 r2) (RlA.cons Rl.ref l2) h3 (k.tr (t1.trans t2)) fun c od σ' H' G' S' z1 z2 => ⟨G', S', z1, z2⟩⟩
  · subst ex
    obtain rfl : u = Value.ref y := rx
    refine getmeth_ok I1 ea c hm l ?_
    refine PySem.W.callWith_K (first := [.ref y]) (h₀ := X.base) I.ok.mod.kin hm.kp (thn (ha.pa.run pos pins s1 σ H1 _ I1 q) fun us s2 ⟨vs, H2, I2, r, q2⟩ => ⟨I2.kIn, ?_⟩) hst hpl
    exact call_fndS (us := .ref y :: us) (vs := .ref y :: vs) F hr hb (passAt hx σ) I2 (.cons rfl r) q2
end
theorem At.setNone {K : PySem.W.Frag} {C : Ct} {G : Addr → Prop} {e : En} {S : Sto} {σ : L2.St} {H : Hp} (h : At K C G e S σ H) (i : Nat) : At K C G (e.set i none) S (σ.set i none) H := by
  refine ⟨h.rep, h.g, h.c, by simp [h.env.1], fun m d' z => ?_⟩
  by_cases hm : i = m
  · subst hm
    by_cases hl : i < e.length
    · rw [List.getElem?_set_self hl] at z; cases z
    · rw [List.getElem?_eq_none (by simpa using hl)] at z; cases z
  · rw [List.getElem?_set_ne hm] at z ⊢
    exact h.env.2 m d' z
/-- the ends of an except suite -/
def endsX (i : Nat) (D : DEnds) : DEnds := { nx := fun e S => D.nx (e.set i none) S, rt := D.rt, bk := fun e S => D.bk (e.set i none) S, ct := fun e S => D.ct (e.set i none) S }
structure TryP (tb : En → XKD → TDS) (E : XKD) (D : DEnds) (e : En) (S : Sto) : Prop where
  ex : tb e E D e S
/-- try: body / except X as n: suite -/
def dTryX (K : PySem.W.Frag) (c : Value) (i : Nat) (tb : En → XKD → TDS) (ts : TDS) : TDS := fun D e S => TryP tb (fun cls od S2 => PySem.W.exmOne K cls c = some true ∧ ∀ a, S2 a = none → ts (endsX i D) (e.set i (some (.ref a))) (sput S2 a (.exc cls od))) D e S
section
variable {X : Cx} {C : Ct} {K : PySem.W.Frag} {mg : Str → Option Value} {xn n : Str} {i : Nat} {body suite : List Stmt} {b₀ : Stmt} {np pos pos' : Pos} {tb : En → XKD → TDS} {ts : TDS}
theorem ds_tryX (xc : Xc K mg xn) (eK : X.K = K) (em : X.mg = mg) (hs : X.stack = X.env :: X.outer) (hf : X.env.frame = some X.env.locals) (hex : X.ex = []) (hN : X.N.Nodup) (hi : X.N[i]? = some n) (hln : X.env.kindOf n = some .local) (hil : i < X.N.length)
    (hgx : Gl X xn) (hdx : (xn == ("__debug__" : Str)) = false)
    (hsu : ∀ (a : Addr) (pn : List (Addr × Obj)), DSs (X.suite a pn) C (b₀ :: suite) ts)
    (hb : ∀ (C' : Ct) (pn : List (Addr × Obj)) (xe : Value → Shared → Prop) (e0 : En) (E : XKD), XOkE (X.tr pn xe) C' e0 E → PassesOwn (model X.prog X.w) X.A X.env xe → DSs (X.tr pn xe) C' body (tb e0 E)) :
    DS X C (.Try body [.ExceptHandler (some (.Name xn np)) (some n) (b₀ :: suite) pos'] [] [] pos) (dTryX K (.ref (adr mg xn)) i tb ts) := by
  subst eK em
  refine ⟨PS.imp (ps_try_trk (ts := LS X.K C ts) (tb := fun W D σ H => ∃ (C' : Ct) (e0 : En) (E : XKD), (∀ cls od σ' H' G S', At X.K C' G e0 S' σ' H' → E cls od S' → W cls od σ' H') ∧ LS X.K C' (tb e0 E) D σ H) hs hf hex hN hi hln hil (fun a pn => (hsu a pn).ps) ⟨hgx, hdx, .inl xc.m⟩
    (fun W pn xe tk po => ⟨fun pins s σ H D I ⟨C', e0, E, hE, h⟩ => (hb C' pn xe e0 E (tk.imp fun c od σ' H' ⟨G, S', z1, z2⟩ => hE c od σ' H' G S' z1 z2) po).ps.run pins s σ H D I h⟩)) fun D σ H ⟨G, e, S, D', at', ⟨h⟩, k⟩ => ?_⟩
  refine ⟨CtOf G S H, e, _, fun cls od σ' H' G' S' a1 q => ?_, G, e, S, D', ⟨at'.rep, at'.g, ⟨rfl, Tr.refl⟩, at'.env⟩, h, ?_⟩
  · obtain ⟨rfl, t1⟩ := a1.c
    refine ⟨q.1, fun a na => ?_⟩
    have a2 : At X.K C G' e S' σ' H' := ⟨a1.rep, a1.g, C.tr _ _ _ _ _ at'.c t1, a1.env⟩
    obtain ⟨r3, t3, _⟩ := a2.rep.newCell (o := ExV cls od a) (c := .exc cls od) a2.g na upd_same
    have a3 := (a2.next t3 r3).set (i := i) (d := .ref a) (v := .ref a) Rl.ref
    have tt := t1.trans t3
    refine ⟨G', _, _, _, a3, q.2 a (a2.rep.none_of na), ⟨fun e4 S4 σ4 H4 t4 a4 q4 => k.nx _ _ _ _ (tt.trans t4) (a4.setNone i) q4, fun e4 S4 σ4 H4 t4 a4 q4 => k.bk _ _ _ _ (tt.trans t4) (a4.setNone i) q4, fun e4 S4 σ4 H4 t4 a4 q4 => k.ct _ _ _ _ (tt.trans t4) (a4.setNone i) q4, k.rt.tr tt⟩⟩
  · exact ⟨fun e4 S4 σ4 H4 t4 a4 q4 => k.nx _ _ _ _ t4 ⟨a4.rep, a4.g, C.tr _ _ _ _ _ at'.c t4, a4.env⟩ q4, fun e4 S4 σ4 H4 t4 a4 q4 => k.bk _ _ _ _ t4 ⟨a4.rep, a4.g, C.tr _ _ _ _ _ at'.c t4, a4.env⟩ q4, fun e4 S4 σ4 H4 t4 a4 q4 => k.ct _ _ _ _ t4 ⟨a4.rep, a4.g, C.tr _ _ _ _ _ at'.c t4, a4.env⟩ q4, k.rt⟩
end
end DL

/-! DL: slices of tuples, strong where they bear ints alone. -/
namespace DL
open PySem PySem.Spec PyProof.Rows L2
section
variable {X : Cx} {C : Ct}
def rSlK (K : PySem.W.Frag) : V → Option Int → Option Int → Hp → VK → Prop := fun x lo hi H Q => ∃ a xs, x = .ref a ∧ SqT K H a xs ∧
  (HT.sIx xs.length 0 lo = 0 ∧ HT.sIx xs.length xs.length hi = xs.length → Q (.ref a) H) ∧ (¬ (HT.sIx xs.length 0 lo = 0 ∧ HT.sIx xs.length xs.length hi = xs.length) → ∀ p o, H p = none → o.dict = none → Q (.ref p) (upd H p (.frz o (.tup (cutV xs lo hi)))))
theorem sl_tupK : SlR X (rSlK X.K) := by
  intro pins s σ H x v vl vu lo hi sl Q I rx hs pl pu h
  obtain ⟨a, xs, rfl, hx, q1, q2⟩ := h
  cases rx
  obtain ⟨its, r, ht, hz⟩ := I.tuple hx
  have hlen : its.toArray.size = xs.length := by rw [List.size_toArray]; exact r.length.symm
  refine ⟨"tuple", _, PyProof.Rows.slot_tuple_getitem.lookup, ht.typeIs, ?_⟩
  by_cases hw : HT.sIx xs.length 0 lo = 0 ∧ HT.sIx xs.length xs.length hi = xs.length
  · exact getItem_tuple_whole ht hs pl pu (by rw [hlen]; exact hw) ⟨.ref a, H, I, rfl, q1 hw⟩
  · refine HT.getItem_tuple_cut ht hs pl pu (by rw [hlen]; exact hw) ?_ (by rw [hlen]; exact hz)
    rw [hlen]
    have I1 := newTup (t' := s.toks) I ((r.drop (HT.sIx xs.length 0 lo)).take (HT.sIx xs.length xs.length hi - HT.sIx xs.length 0 lo)) (Nat.le_trans (cutV_length xs lo hi) hz)
    exact ⟨.ref s.heap.objs.size, _, I1, rfl, q2 hw _ (tupO _) (I.hok.fresh (Nat.le_refl _)) rfl⟩
def slNR (x : D) (lo hi : Option Int) (S : Sto) (Q : KD) : Prop := match x with
  | .tpk ns => Q (.tpk (cutL ns lo hi)) S
  | x => ∃ xs, asT x = some xs ∧ (cutL xs lo hi = xs → x = normT xs) ∧ Q (normT (cutL xs lo hi)) S
def dSlN (t : TDE) (tl th : TDO) : TDE := fun e S Q => t e S fun x S1 => tl e S1 fun lo S2 => th e S2 fun hi S3 => slNR x lo hi S3 Q
def LSlN (K : PySem.W.Frag) : V → Option Int → Option Int → Hp → VK → Prop := fun x lo hi H Q => ∃ G d S Q', RepS K G S H ∧ GOk G H ∧ Rl K H (nfz G S) d x ∧ slNR d lo hi S Q' ∧ Aft K G S H Q' Q
theorem sl_anyN : SlR X (LSlN X.K) := by
  intro pins s σ H x v vl vu lo hi sl Q I rx hs pl pu h
  refine sl_tupK pins s σ H x v vl vu lo hi sl Q I rx hs pl pu ?_
  obtain ⟨G, d, S, Q', r, g, l, h, k⟩ := h
  have tups : ∀ xs, asT d = some xs → (cutL xs lo hi = xs → d = normT xs) → Q' (normT (cutL xs lo hi)) S → rSlK X.K x lo hi H Q := fun xs e n h => by
    have w := l
    obtain ⟨p, vs, rfl, h1, a1⟩ := of_asT e l
    refine ⟨p, vs, rfl, h1, fun z => ?_, fun _ q o n ho => tupN_ok r n ho (a1.cut lo hi) h k⟩
    rw [← a1.length] at z
    have ca := cut_all z
    rw [ca, ← n ca] at h
    exact k.now r w h
  cases d with
  | tpk ns =>
    have e1 : normT (cutL (ns.map D.int) lo hi) = .tpk (cutL ns lo hi) := by rw [cutL_map, normT_ints]
    exact tups _ rfl (fun _ => normT_ints.symm) (by rw [e1]; exact h)
  | _ =>
    obtain ⟨xs, e, n, q⟩ := h
    exact tups xs e n q
theorem de_slN {a : Expr} {lo hi : Option Expr} {t : TDE} {tl th : TDO} {p2 pos : Pos} (ha : DE X C a t) (hl : DO X C lo tl) (hh : DO X C hi th) : DE X C (.Subscript a (.Slice lo hi none p2) pos) (dSlN t tl th) :=
  ⟨PE.imp (pe_slice sl_anyN ha.pe hl.po hh.po) fun σ H Q ⟨G, e, S, Q', at', h, k⟩ => ⟨G, e, S, _, at', h, fun d S1 v H1 t1 r1 l1 h1 => ⟨G, e, S1, _, at'.next t1 r1, h1, fun lo S2 H2 t2 r2 h2 =>
    ⟨G, e, S2, _, (at'.next t1 r1).next t2 r2, h2, fun hi S3 H3 t3 r3 h3 => ⟨G, d, S3, Q', r3, (((at'.next t1 r1).next t2 r2).next t3 r3).g, (l1.tr r1 t2).tr r2 t3, h3, k.tr (t1.trans (t2.trans t3))⟩⟩⟩⟩⟩
end
end DL

/-! DL: exceptions of the program made and kept as values. -/
namespace DL
open PySem PySem.Spec PyProof.Rows L2
section
variable {X : Cx} {C : Ct} {K : PySem.W.Frag} {P : Program} {w : World} {base : Heap} {mg : Str → Option Value} {k : Nat} {e : Expr} {es : List Expr} {t : TDA} {x : Str} {ps : List Str} {p pos pos' : Pos}
theorem pe_made {tm : L2.St → Hp → XK → Prop} (hex : X.ex = []) (he : PMk X e tm) : PE X e (fun σ H Q => tm σ H fun cls d H' => ∀ a, H' a = none → Q (.ref a) (upd H' a (ExV cls d a))) := by
  refine ⟨fun pins s σ H Q I h => wpAny_mono (he pins s σ H _ I h) (fun u s1 hu => ?_) fun _ _ z => z⟩
  obtain ⟨a, oe, vs, sI, H', cls, d, rfl, J, kk, hne, ha, hz, hd, h1, na, os, ag, r, q⟩ := hu
  have J1 := J.kept (t' := sI.toks) kk
  have J2 : L2.Inv X pins σ H' s1 := ⟨J1.ok, os.trans J1.os, ag, J1.base, J1.loc, J1.cell, J1.free, J1.freeC, J1.pin, J1.hok, J1.len⟩
  have n0 : X.s_0.heap.get? a = none := by
    cases z : X.s_0.heap.get? a with
    | none => rfl
    | some o =>
      obtain ⟨o', z'⟩ := J.base.there a o z (by rw [hex]; intro z; cases z)
      rw [hne] at z'; cases z'
  have nL : a ≠ X.env.locals := by
    rintro rfl
    obtain ⟨m, ⟨o, _, _, z, _⟩, _⟩ := J.loc
    rw [hne] at z; cases z
  have nF : a ∉ X.fs := fun hm => by
    obtain ⟨_, o, z, _⟩ := J.ok.funs.mem hm
    rw [n0] at z; cases z
  have J3 : L2.Inv X ((a, oe) :: pins) σ H' s1 := ⟨J2.ok, J2.os, J2.bare, J2.base, J2.loc, J2.cell, J2.free, J2.freeC, fun p hp => by
    rcases List.mem_append.mp hp with z | z
    · exact J2.pin p (List.mem_append_left _ z)
    · rcases List.mem_cons.mp z with rfl | z
      · exact ⟨ha, na, nL, nF, fun v z => by rw [show oe.data = _ from z] at hd; cases hd⟩
      · exact J2.pin p (List.mem_append_right _ z), J2.hok, J2.len⟩
  have npn : ∀ p ∈ X.pn ++ pins, p.1 ≠ a := fun p hp z => by
    have q := (J.pin p hp).1
    rw [z, hne] at q; cases q
  exact ⟨.ref a, _, inv_track J3 n0 npn (exV_ok ha hz ⟨_, hd⟩), rfl, q a na⟩
/-- X() -/
def dMk0 (c : Value) : TDE := fun _ S Q => ∀ a, S a = none → Q (.ref a) (sput S a (.exc c none))
theorem de_mk0 (F : XcN K mg x) (eK : X.K = K) (em : X.mg = mg) (hex : X.ex = []) (hg : Gl X x) (hdb : (x == ("__debug__" : Str)) = false := by decide) : DE X C (.Call (.Name x p) [] [] pos) (dMk0 (.ref (adr mg x))) := by
  subst eK em
  refine ⟨PE.imp (pe_made hex (pmk_own0 F hg hdb)) fun σ H Q ⟨G, e, S, Q', at', h, k⟩ a na => ?_⟩
  obtain ⟨r, t, _⟩ := at'.rep.newCell (o := ExV (.ref (adr X.mg x)) none a) (c := .exc (.ref (adr X.mg x)) none) at'.g na upd_same
  exact k _ _ _ _ t r Rl.ref (h a (at'.rep.none_of na))
/-- X(v) -/
def dMk1 (c : Value) (f : Str) (t : TDA) : TDE := fun e S Q => t e S fun ds S1 => ∃ y, ds = [y] ∧ ∀ d a, S1 d = none → S1 a = none → d ≠ a → Q (.ref a) (sput (sput S1 d (.xd [(f, y)])) a (.exc c (some d)))
def dMk2 (c : Value) (f g : Str) (t : TDA) : TDE := fun e S Q => t e S fun ds S1 => ∃ y z, ds = [y, z] ∧ ∀ d a, S1 d = none → S1 a = none → d ≠ a → Q (.ref a) (sput (sput S1 d (.xd [(g, z), (f, y)])) a (.exc c (some d)))
theorem de_mk1 {f : Str} (F : XcO K P w mg base x ps (fun C => spI1 C f)) (eK : X.K = K) (eP : X.prog = P) (ew : X.w = w) (em : X.mg = mg) (eb : X.base = base) (hr : Rm k X.A) (hk : 2 ≤ k) (hex : X.ex = []) (hg : Gl X x) (ha : DA X C (e :: es) t)
    (hdb : (x == ("__debug__" : Str)) = false := by decide) (he : starEach (e :: es) X.env = (false, eval e X.env) :: starEach es X.env := by rfl) (hpl : (backTo pos' (starEach es X.env)).any (·.1) = false := by rfl) :
    DE X C (.Call (.Name x p) (e :: es) [] pos') (dMk1 (.ref (adr mg x)) f t) := by
  subst eK eP ew em eb
  obtain ⟨fI, fd, iC, tI, hb, F1⟩ := F.ex
  refine ⟨PE.imp (pe_made hex (pmk_oex F.o iC tI F1 (hr.room.mono hk) hb .nil (fun _ _ _ _ _ _ _ h => h.elim) hg F.m ha.pa hdb he hpl)) fun σ H Q ⟨G, e, S, Q', at', h, k⟩ => ⟨G, e, S, _, at', h, fun ds S1 vs H1 t1 r1 l1 h1 => ?_⟩⟩
  obtain ⟨y, rfl, q⟩ := h1
  obtain ⟨v, r, rfl, ly, l1⟩ := l1.of_cons
  cases l1.of_nil
  refine ⟨by show 1 ≤ 1000; decide, fun a na => ⟨a, v, rfl, upd_same, fun dx nd ne => ⟨rfl, dx, [(f, v)], upd_same, by rw [upd_ne ne, upd_same], by rwa [upd_ne ne] at nd, ?_⟩⟩⟩
  have nd1 : H1 dx = none := by rwa [upd_ne ne] at nd
  have a1 := at'.next t1 r1
  rw [del_upd (u := .tup []) (v := .tup []) na ne _ fun b hb hd => by rw [upd_ne hb, upd_ne hd, upd_ne hb]]
  have kp : Keep X.K H1 (nfz G S1) (upd H1 dx (.xd [(f, v)])) (nfz G (sput S1 dx (.xd [(f, y)]))) := (Keep.new nd1).newCell nd1
  obtain ⟨r2, t2, _⟩ := r1.newCell (o := .xd [(f, v)]) (c := .xd [(f, y)]) a1.g nd1 ⟨_, upd_same, v, _, rfl, Rl.keep kp _ _ ly, rfl⟩
  intro b nb
  have a2 := a1.next t2 r2
  obtain ⟨r3, t3, _⟩ := r2.newCell (o := ExV (.ref (adr X.mg x)) (some dx) b) (c := .exc (.ref (adr X.mg x)) (some dx)) a2.g nb upd_same
  have db : dx ≠ b := by rintro rfl; rw [upd_same] at nb; cases nb
  have nb1 : H1 b = none := by rwa [upd_ne db.symm] at nb
  exact k _ _ _ _ (t1.trans (t2.trans t3)) r3 Rl.ref (q dx b (r1.none_of nd1) (r1.none_of nb1) db)
theorem de_mk2 {f g : Str} (F : XcO K P w mg base x ps (fun C => spI2 C f g)) (eK : X.K = K) (eP : X.prog = P) (ew : X.w = w) (em : X.mg = mg) (eb : X.base = base) (hr : Rm k X.A) (hk : 2 ≤ k) (hex : X.ex = []) (hg : Gl X x) (ha : DA X C (e :: es) t)
    (hdb : (x == ("__debug__" : Str)) = false := by decide) (he : starEach (e :: es) X.env = (false, eval e X.env) :: starEach es X.env := by rfl) (hpl : (backTo pos' (starEach es X.env)).any (·.1) = false := by rfl) :
    DE X C (.Call (.Name x p) (e :: es) [] pos') (dMk2 (.ref (adr mg x)) f g t) := by
  subst eK eP ew em eb
  obtain ⟨fI, fd, iC, tI, hb, F1⟩ := F.ex
  refine ⟨PE.imp (pe_made hex (pmk_oex F.o iC tI F1 (hr.room.mono hk) hb .nil (fun _ _ _ _ _ _ _ h => h.elim) hg F.m ha.pa hdb he hpl)) fun σ H Q ⟨G, e, S, Q', at', h, k⟩ => ⟨G, e, S, _, at', h, fun ds S1 vs H1 t1 r1 l1 h1 => ?_⟩⟩
  obtain ⟨y, z, rfl, q⟩ := h1
  obtain ⟨v, r, rfl, ly, l1⟩ := l1.of_cons
  obtain ⟨u, r, rfl, lz, l1⟩ := l1.of_cons
  cases l1.of_nil
  refine ⟨by show 2 ≤ 1000; decide, fun a na => ⟨a, v, u, rfl, upd_same, fun dx nd ne => ⟨rfl, dx, [(g, u), (f, v)], by rw [upd_ne ne.symm, upd_same], upd_same, by rwa [upd_ne ne] at nd, ?_⟩⟩⟩
  have nd1 : H1 dx = none := by rwa [upd_ne ne] at nd
  have a1 := at'.next t1 r1
  rw [del_upd (u := .tup []) (v := .tup []) na ne _ fun b hb hd => by rw [upd_ne hd, upd_ne hb, upd_ne hd, upd_ne hb]]
  have kp : Keep X.K H1 (nfz G S1) (upd H1 dx (.xd [(g, u), (f, v)])) (nfz G (sput S1 dx (.xd [(g, z), (f, y)]))) := (Keep.new nd1).newCell nd1
  obtain ⟨r2, t2, _⟩ := r1.newCell (o := .xd [(g, u), (f, v)]) (c := .xd [(g, z), (f, y)]) a1.g nd1 ⟨_, upd_same, u, _, rfl, Rl.keep kp _ _ lz, v, _, rfl, Rl.keep kp _ _ ly, rfl⟩
  intro b nb
  have a2 := a1.next t2 r2
  obtain ⟨r3, t3, _⟩ := r2.newCell (o := ExV (.ref (adr X.mg x)) (some dx) b) (c := .exc (.ref (adr X.mg x)) (some dx)) a2.g nb upd_same
  have db : dx ≠ b := by rintro rfl; rw [upd_same] at nb; cases nb
  have nb1 : H1 b = none := by rwa [upd_ne db.symm] at nb
  exact k _ _ _ _ (t1.trans (t2.trans t3)) r3 Rl.ref (q dx b (r1.none_of nd1) (r1.none_of nb1) db)
end
end DL

/-! DL: sorted of tuples the first of which is empty (as one type's own <). -/
namespace DL
open PySem PySem.Spec PyProof.Rows PySem.W PySem.SeqAt
section
variable {prog : Program} {w : World} {A : Around} {E : Value → Shared → Prop} {s : Shared}
theorem oneLt_tup {xs ys : List PyData} {a b : Value} {as bs : List Addr} {Q : Bool → Shared → Prop} (ra : Reads s.heap a (.tuple xs) as) (rb : Reads s.heap b (.tuple ys) bs) (h : alike (.tuple xs) (.tuple ys) = true)
    (hu : A.units + min (PyData.depth (.tuple xs)) (PyData.depth (.tuple ys)) < cLine) (hq : Q (dataLt (.tuple xs) (.tuple ys)) s) : wpAny (model prog w) A (oneLt' true a b) Q E s := by
  have hal : alikeAll xs ys = true := by simpa [alike] using h
  cases ra with
  | @tuple l o vs n _ as₁ h1 h2 h3 h4 =>
    cases rb with
    | @tuple l' o' vs' n' _ bs₁ k1 k2 k3 k4 =>
      have n1 : vs.size = xs.length := by simpa using ReadsAll.length _ _ _ h4
      have n2 : vs'.size = ys.length := by simpa using ReadsAll.length _ _ _ k4
      rw [dataLt_tuple, ← firstLt_toks xs ys hal, ← n1, ← n2] at hq
      rw [oneLt'_eq]
      simp only [if_true]
      refine wpAny_bind (wpAny_cRoomFor (room_here hu) ?_)
      obtain ⟨cls, dd, data, sl⟩ := o
      obtain ⟨cls2, dd2, data2, sl2⟩ := o'
      dsimp only at h2 h3 k2 k3
      subst h2 h3 k2 k3
      refine wpAny_bind (wpAny_callSpecialIfBound?_slot (T := "tuple") ⟨_, h1, rfl⟩ F.slot_tuple_lt (call_meets F.slot_tuple_lt ⟨_, h1, rfl⟩ F.entry_tuple_lt (F.args_tuple_lt_2 _ _) (tuple_ltAt l l' vs vs' n n' dd dd2 sl sl2 (pairEq xs ys) fun j => dataLt (xs.getD j .none) (ys.getD j .none))
        ⟨h1, k1, fun j j1 j2 => ?_, fun j j1 j2 hj => ?_, ?_⟩))
      · have := eqAt_alikeAll xs ys A.in1 s vs.toList vs'.toList _ _ h4 k4 hal (room_in hu) j (by simpa using j1) (by simpa using j2)
        simpa using this
      · have := rcLt_alikeAll xs ys A.in1 s vs.toList vs'.toList _ _ h4 k4 hal (room_in hu) j (by simpa using j1) (by simpa using j2) hj
        simpa using this
      · exact wpAny_truthy_bool hq
/-- all are tuples, the first one empty -/
def Srt0 (ds : List PyData) : Prop := (∃ r, ds = .tuple [] :: r) ∧ ∀ d ∈ ds, ∃ xs, d = .tuple xs
theorem first_tup {v : Value} {xs : List PyData} {as : List Addr} {Q : Option Value → Shared → Prop} (r : Reads s.heap v (.tuple xs) as) (h : ∀ o, (xs = [] → o = none) → Q o s) : wpAny (model prog w) A (firstOfTuple' v) Q E s := by
  cases r with
  | @tuple a o vs n _ _ ho hc hd hr =>
    rw [kas_first_eq]
    refine wpAny_bind (Looks.here (show Looks (model prog w) s.heap (typeOf (.ref a)) o.cls from (Looks.ld ho).andThen .now) ?_)
    rw [hc, if_neg (by first | decide | simp)]
    refine wpAny_bind (listItems_at ho hd (wpAny_pure (h _ fun e => ?_)))
    subst e
    cases hl : vs.toList with
    | nil =>
      have : vs.size = 0 := by rw [← Array.length_toList, hl]; rfl
      exact Array.getElem?_eq_none (by omega)
    | cons x r => rw [hl] at hr; cases hr
theorem firsts_tup : ∀ {vs : List Value} {ds : List PyData} {Q : List (Option Value) → Shared → Prop}, EachIs (fun v d => ∃ as, Reads s.heap v d as) vs ds → (∀ d ∈ ds, ∃ xs, d = .tuple xs) → (∀ os, (∀ r, ds = .tuple [] :: r → ∃ t, os = none :: t) → Q os s) → wpAny (model prog w) A (vs.mapM firstOfTuple') Q E s
  | _, _, Q, .nil, _, h => by
    rw [List.mapM_nil]
    exact wpAny_pure (h _ fun r e => nomatch e)
  | _, _, Q, .cons (a := v) (as := vs) (b := d) (bs := ds) ⟨as, r⟩ t, hd, h => by
    rw [List.mapM_cons]
    obtain ⟨xs, rfl⟩ := hd d List.mem_cons_self
    refine wpAny_bind (first_tup r fun o ho => wpAny_bind (firsts_tup (Q := fun bs s' => wpAny (model prog w) A (pure (o :: bs)) Q E s') t (fun d h => hd d (List.mem_cons_of_mem _ h)) fun os _ => wpAny_pure (h _ fun r e => ?_)))
    cases e
    rw [ho rfl]
    exact ⟨_, rfl⟩
theorem SortsAt.data0 {vs : List Value} {ds : List PyData} (e : EachIs (fun v d => ∃ as, Reads s.heap v d as) vs ds) (hal : AllAlike ds) (hk : Srt0 ds) (hu : ∀ d, d ∈ ds → A.units + d.depth < cLine) : SortsAt prog w A s (dataKind s.heap ds) vs := by
  refine ⟨fun v hv => ?_, oneType', ?_, fun h2 E Q hq => ?_⟩
  · obtain ⟨d, hd, as, r⟩ := e.left v hv
    exact ⟨_, dataKind_some hal hd r⟩
  · intro E x y a b Q ha hb hq
    obtain ⟨d, as, hd, ra, rfl⟩ := dataKind_inv ha
    obtain ⟨d', as', hd', rb, rfl⟩ := dataKind_inv hb
    rw [keyLt'_oneType]
    obtain ⟨xs, rfl⟩ := hk.2 d hd
    obtain ⟨ys, rfl⟩ := hk.2 d' hd'
    exact oneLt_tup ra rb (hal _ hd _ hd') (Nat.lt_of_le_of_lt (Nat.add_le_add_left (Nat.min_le_left _ _) _) (hu _ hd)) hq
  · obtain ⟨⟨r, e0⟩, ht⟩ := hk
    obtain ⟨v₁, v₂, rest, rfl⟩ : ∃ v₁ v₂ rest, vs = v₁ :: v₂ :: rest := by
      match vs, h2 with
      | [], h2 => simp at h2
      | [_], h2 => simp at h2
      | v₁ :: v₂ :: rest, _ => exact ⟨v₁, v₂, rest, rfl⟩
    have hT : ∀ v ∈ v₁ :: v₂ :: rest, Looks (model prog w) s.heap (typeOf v) (.type "tuple") := fun v hv => by
      obtain ⟨d, hd, as, r⟩ := e.left v hv
      obtain ⟨xs, rfl⟩ := ht d hd
      exact looks_reads r
    rw [keyKind'_eq, List.mapM_toArray, map_eq_pure_bind]
    refine wpAny_bind (wpAny_bind (firsts_tup e ht fun os ho => wpAny_pure ?_))
    obtain ⟨t, rfl⟩ := ho r e0
    rw [if_neg (by simp), if_neg (by simp)]
    rw [oneTypeOnly'_eq, List.mapM_toArray, map_eq_pure_bind]
    refine wpAny_bind (wpAny_bind (wpAny_bind (kas_mapM (r := Value.type "tuple") _ (fun v hv Q' hq => (hT v hv).here hq) (wpAny_pure ?_))))
    have hall : ((List.map (fun _ => Value.type "tuple") (v₁ :: v₂ :: rest)).toArray.all fun x => x == Value.type "tuple") = true := by
      simp only [List.all_toArray, List.all_map, List.all_eq_true]
      intro _ _
      exact beq_self_eq_true _
    have h0 : (List.map (fun _ => Value.type "tuple") (v₁ :: v₂ :: rest)).toArray[0]? = some (Value.type "tuple") := by simp
    rw [h0]
    simp only [hall, if_true]
    exact wpAny_pure (wpAny_pure hq)
theorem sorted_data0 {β : Type} {vs : List Value} {bs : List β} {enc : β → PyData} {R : Value → β → Prop} {l : Addr} {Q : Value → Shared → Prop} (hl : s.heap.IsList l vs.toArray) (e : EachIs R vs bs) (er : EachIs (fun v b => ∃ as, Reads s.heap v (enc b) as) vs bs) (hal : AllAlike (bs.map enc)) (hk : Srt0 (bs.map enc)) (hL : bs.length ≤ sizeLine)
    (hu : ∀ b, b ∈ bs → A.units + 2 + (enc b).depth < cLine) (h : ∀ out, out.length = bs.length → EachIs R out (bs.mergeSort (dataLe false enc)) → Q (.ref (s.heap.objs.size + 1)) { s with heap := sortedAll s.heap vs (List.toArray out) }) :
    wpAny (model prog w) A (call (.builtin "sorted") [.ref l]) Q E s := by
  have er' : EachIs (fun v b => ∃ as, Reads (sortingHeap (copyHeap s.heap vs) (s.heap.objs.size + 1) vs) v (enc b) as) vs bs := er.mono fun _ _ ⟨as, r⟩ => ⟨as, PyProof.Rows.Reads.keeps (fun _ _ => sorting_copy_old) r⟩
  exact sorted_vals hl (SortsAt.data0 (s := { s with heap := sortingHeap (copyHeap s.heap vs) (s.heap.objs.size + 1) vs }) (each_map (R := fun v d => ∃ as, Reads (sortingHeap (copyHeap s.heap vs) (s.heap.objs.size + 1) vs) v d as) enc er') hal hk (bound_map hu)) (by rw [e.length]; exact hL)
    (h _ (by rw [sortVals_length false rfl]; exact e.length) (sortVals_data false e er' hal))
end
end DL
namespace DL
open PySem PySem.Spec PyProof.Rows L2
structure SrtOk0 (xs : List D) : Prop where
  al : PySem.W.AllAlike (xs.map toP)
  kd : Srt0 (xs.map toP)
  sh : ∀ x ∈ xs, shp 60 x = true
def rSortDat0 (K : PySem.W.Frag) : List V → Hp → VK → Prop := fun vs H Q => ∃ (a : Addr) (xs : List V) (ds : List D) (nf : Addr → Prop), vs = [V.ref a] ∧ SqL K H a xs ∧ RlA K H nf ds xs ∧ SrtOk0 ds ∧
  ∀ out p, RlA K H nf (srtD ds) out → H p = none → Q (.ref p) (upd H p (.lst out))
section
variable {X : Cx}
theorem cr_sortedDat0 (hu : X.A.units + 65 < cLine) : CallR X (.builtin "sorted") (rSortDat0 X.K) := by
  intro pins s σ H vs us Q I r h
  obtain ⟨a, xs, ds, nf, rfl, hs, hr, ok, q⟩ := h
  obtain ⟨its, rv, hl, hz⟩ := I.list hs
  rw [Vals.ref1 r]
  have e := each_rv hr rv
  have hlen : ds.length ≤ sizeLine := by rw [hr.length]; exact hz
  refine sorted_data0 (enc := toP) (bs := ds) (R := RvD X.K H nf) hl.isList e (each_imp e fun u d hd ⟨v, r1, h1⟩ => ?_) ok.al ok.kd hlen (fun d hd => ?_) fun out ho hR => ?_
  · exact Dp.reads I (toP d) v u (Rl.dp 60 d v (ok.sh d hd) h1) r1
  · have := (shp_ok 60 d (ok.sh d hd)).2
    omega
  · obtain ⟨xs', rv', hr'⟩ := rv_each hR
    obtain ⟨ep, he'⟩ := PyProof.Rows.sortedAll_at s.heap its out.toArray
    have hlen2 : xs'.length ≤ sizeLine := by rw [rv'.length, ho]; exact hlen
    exact ⟨.ref _, upd H (s.heap.objs.size + 1) (.lst xs'), I.laid (t' := s.toks) (fun _ _ => PyProof.Rows.sortedAll_old) (Nat.le_succ _) ⟨hlen2, out, ep, rv', he'⟩, rfl, q _ _ hr' (I.hok.fresh (Nat.le_succ _))⟩
/-- sorted(a list of tuples, the first one empty) -/
def sortDR0 (c : Bool) : D → Sto → KD → Prop := fun d S Q => ∃ xs, asL S d = some xs ∧ SrtOk0 xs ∧ mkL c (srtD xs) S Q
theorem cr_sortT0 (c : Bool) (hu : X.A.units + 65 < cLine) : CallR X (.builtin "sorted") (LRL X.K (one (sortDR0 c))) := cr_one (cr_sortedDat0 hu) fun v H Q ⟨G, d, S, Q', r, g, l, ⟨xs, e, ok, q⟩, k⟩ => by
  obtain ⟨a, vs, rfl, h1, h2⟩ := of_asL r e l
  exact ⟨a, vs, xs, _, rfl, h1, h2, ok, fun out p h3 n => mkL_ok r g h3 n q k⟩
end
theorem srtOk0_tpk {rs : List (List Int)} : SrtOk0 (([] :: rs).map D.tpk) where
  al := by
    intro d hd d' hd'
    rw [List.map_map] at hd hd'
    obtain ⟨r, _, rfl⟩ := List.mem_map.mp hd
    obtain ⟨r', _, rfl⟩ := List.mem_map.mp hd'
    show PySem.W.alike (toP (.tpk r)) (toP (.tpk r')) = true
    rw [toP_tpk, toP_tpk]
    show PySem.W.alike (.tuple _) (.tuple _) = true
    rw [PySem.W.alike]
    exact PySem.W.alike_ints r r'
  kd := by
    refine ⟨⟨_, by rw [List.map_cons, List.map_cons, toP_tpk]; rfl⟩, fun d hd => ?_⟩
    rw [List.map_map] at hd
    obtain ⟨r, _, rfl⟩ := List.mem_map.mp hd
    exact ⟨_, toP_tpk⟩
  sh := fun x hx => by
    obtain ⟨r, _, rfl⟩ := List.mem_map.mp hx
    exact shp_T (n := 59) rfl
end DL

/-! DL: dict(zip(a, b)), a a list of tuples of ints, none twice. -/
namespace DL
open PySem PySem.Spec PyProof.Rows L2
theorem vals_zip : ∀ {xs : List (List Int × Addr × V)} {its its2 : List Value}, Vals (xs.map fun x => V.ref x.2.1) its → Vals (xs.map fun x => x.2.2) its2 → ∃ ys : List (List Int × Addr × Value), Paired Rx xs ys ∧ its = ys.map (fun y => Value.ref y.2.1) ∧ its2 = ys.map fun y => y.2.2
  | [], its, its2, h1, h2 => by
    rw [List.map_nil] at h1 h2
    cases h1; cases h2
    exact ⟨[], .nil, rfl, rfl⟩
  | x :: xs, its, its2, h1, h2 => by
    rw [List.map_cons] at h1 h2
    cases h1 with
    | @cons _ u _ us r1 t1 =>
      cases h2 with
      | @cons _ v _ vs r2 t2 =>
        obtain ⟨ys, hp, rfl, rfl⟩ := vals_zip t1 t2
        obtain rfl : u = Value.ref x.2.1 := r1
        exact ⟨(x.1, x.2.1, v) :: ys, .cons ⟨rfl, rfl, r2⟩ hp, rfl, rfl⟩
def tDictZip (K : PySem.W.Frag) (ta : TA) : TE := fun σ H Q => ta σ H fun vs H1 => ∃ (a b : Addr) (xs : List (List Int × Addr × V)), vs = [.ref a, .ref b] ∧ SqL K H1 a (xs.map fun x => V.ref x.2.1) ∧ SqL K H1 b (xs.map fun x => x.2.2) ∧
  (∀ x ∈ xs, SqT K H1 x.2.1 (x.1.map V.int)) ∧ (xs.map (·.1)).Nodup ∧ ∀ p, H1 p = none → Q (.ref p) (upd H1 p (DcO p xs))
theorem pe_dictZip {X : Cx} {e e2 : Expr} {ta : TA} {p p2 pos pos2 : Pos} (hc : X.calm = true) (hu : X.A.units + 65 < cLine) (hg : Gl X "dict") (hm : X.mg "dict" = none) (hg2 : Gl X "zip") (hm2 : X.mg "zip" = none) (ha : PA X [e, e2] ta)
    (na : starEach [.Call (.Name "zip" p2) [e, e2] [] pos2] X.env = (false, eval (.Call (.Name "zip" p2) [e, e2] [] pos2) X.env) :: starEach [] X.env)
    (hs : starEach [e, e2] X.env = (false, eval e X.env) :: starEach [e2] X.env) (hpl : (backTo pos2 (starEach [e2] X.env)).any (·.1) = false) :
    PE X (.Call (.Name "dict" p) [.Call (.Name "zip" p2) [e, e2] [] pos2] [] pos) (tDictZip X.K ta) := by
  refine ⟨fun pins s σ H Q I h => ?_⟩
  refine Call_ (ld_blt I hg hm PyProof.Rows.boot_dict (PyProof.Rows.callWith_type1 (args_cons (Call_ (ld_blt (I.tok _) hg2 hm2 PyProof.Rows.boot_zip (PyProof.Rows.callWith_type1 (thn (ha.run pos2 pins _ σ H _ (I.tok _) h) fun us s1 ⟨vs, H1, I1, r1, q1⟩ => ?_) hs hpl))) na) na))
  obtain ⟨a, b, xs, rfl, hqx, hqy, sq, nd, q⟩ := q1
  obtain ⟨u1, u2, rfl, ru1, ru2⟩ := vals2 r1
  obtain rfl : u1 = Value.ref a := ru1
  obtain rfl : u2 = Value.ref b := ru2
  obtain ⟨its, rv, pl, hz⟩ := I1.list hqx
  obtain ⟨its2, rv2, pl2, hz2⟩ := I1.list hqy
  obtain ⟨ys, rel, rfl, rfl⟩ := vals_zip rv rv2
  rw [List.length_map] at hz hz2
  have la : a < s1.heap.objs.size := pl.lt
  have lb : b < s1.heap.objs.size := pl2.lt
  have hlx : xs.length = ys.length := Paired.length rel
  refine call_zip_2 pl.isList pl2.isList fun h' hzp hTI hTO h1 h2 hsz hk => args_nil ?_
  have I2 : L2.Inv X pins σ H1 { s1 with heap := h' } := I1.kept (t' := s1.toks) hk
  have hk0 : ∀ y ∈ ys, (tkI X.prog X.w).is s1.heap y.1 y.2.1 := fun y hy => by
    obtain ⟨x, hx, r1, r2, _⟩ := rx_mem rel y hy
    rw [← r1, ← r2]
    exact key_at I1 (sq x hx)
  have ndy : (ys.map (·.1)).Nodup := by rw [rx_keys rel]; exact nd
  have P := PairArg.zip (prog := X.prog) (w := X.w) (s1.heap.objs.size + 4) (s1.heap.objs.size + 2) (s1.heap.objs.size + 3) s1.heap.objs.size (s1.heap.objs.size + 1) a b (PySem.W.ktu_apart s1.heap.objs.size a b la lb) (ys.map fun y => Value.ref y.2.1).toArray (ys.map fun y => y.2.2).toArray
  have es : min (ys.map fun y => Value.ref y.2.1).toArray.size (ys.map fun y => y.2.2).toArray.size = ys.length := by simp
  refine call_dict_pairsH (s := { s1 with heap := h' }) (knd := tkI X.prog X.w) (ps := ys) P (I.ok.hd hc) (tupleKind_room_in1 (A := X.A.in1) (by show X.A.units + 1 + 1 < cLine; omega))
    ⟨hzp, hTI, ⟨_, _, hTO⟩, h1, h2, pl.isList.at fun o e => hk _ o e, pl2.isList.at fun o e => hk _ o e⟩ ⟨es.symm, fun i key v e => ?_⟩ (fun h2' hk' x hx => ?_) (by rw [es]; omega) fun h3 tk hd' kp => ?_
  · obtain ⟨e1, e3⟩ := e
    rw [List.getElem?_toArray, List.getElem?_map] at e1 e3
    cases hy : ys[i]? with
    | none => rw [hy] at e1; cases e1
    | some y =>
      rw [hy] at e1 e3
      cases e1; cases e3
      exact ⟨y.1, y.2.1, rfl, rfl⟩
  · refine (tupleKind_stays (knd := intKind X.prog X.w)).stays (fun b o vs m e q => ?_) (hk0 x hx)
    have lt := Heap.lt_size e
    refine hk' b o (Nat.ne_of_lt (show b < h'.objs.size from hsz ▸ Nat.lt_of_lt_of_le lt (Nat.le_add_right _ _))) (fun z => ?_) (hk b o e)
    simp only [List.mem_cons, List.not_mem_nil, or_false] at z
    have lt' : ∀ j, b ≠ s1.heap.objs.size + j := fun j => Nat.ne_of_lt (Nat.lt_of_lt_of_le lt (Nat.le_add_right _ _))
    rcases z with z | z | z | z
    · exact lt' 4 z
    · exact lt' 3 z
    · exact lt' 0 z
    · exact lt' 1 z
  · rw [storedAll_nodup ndy] at hd'
    have hm : (h'.objs.size == sysModules) = false := beq_eq_false_iff_ne.mpr (Nat.ne_of_gt I2.big)
    have hn : H1 h'.objs.size = none := I2.hok.fresh (Nat.le_refl _)
    refine ⟨.ref h'.objs.size, upd H1 h'.objs.size (DcO h'.objs.size xs), ?_, rfl, q _ hn⟩
    refine I1.laid (t' := tk) (fun b o e => kp b o (fun z => ?_) (hk b o e)) (by omega) (dco_of ⟨by omega, hm, rel, hd'⟩)
    have lt := Heap.lt_size e
    simp only [List.mem_cons, List.not_mem_nil, or_false] at z
    have lt' : ∀ j, b ≠ s1.heap.objs.size + j := fun j => Nat.ne_of_lt (Nat.lt_of_lt_of_le lt (Nat.le_add_right _ _))
    rcases z with z | z | z | z
    · exact lt' 4 z
    · exact lt' 3 z
    · exact lt' 0 z
    · exact lt' 1 z
def dDictZip (t : TDA) : TDE := fun e S Q => t e S fun ds S1 => ∃ (d1 d2 : D) (ks xs : List D) (kk : List (List Int)), ds = [d1, d2] ∧ asL S1 d1 = some ks ∧ asL S1 d2 = some xs ∧ ks.map keyI = kk.map some ∧ kk.Nodup ∧ ks.length = xs.length ∧ ∀ p, S1 p = none → Q (.ref p) (sput S1 p (.dct (ks.zip xs)))
theorem zip_rl {K : PySem.W.Frag} {H : Hp} {nf : Addr → Prop} : ∀ {ks xs : List D} {kk : List (List Int)} {us vs : List V}, ks.map keyI = kk.map some → ks.length = xs.length → RlA K H nf ks us → RlA K H nf xs vs →
    ∃ zs : List (List Int × Addr × V), us = zs.map (fun x => V.ref x.2.1) ∧ vs = zs.map (fun x => x.2.2) ∧ zs.map (·.1) = kk ∧ RlD K H nf (ks.zip xs) zs
  | [], [], [], us, vs, _, _, h1, h2 => by
    rw [h1.of_nil, h2.of_nil]
    exact ⟨[], rfl, rfl, rfl, rfl⟩
  | [], [], _ :: _, _, _, h, _, _, _ => nomatch h
  | k :: ks, x :: xs, [], _, _, h, _, _, _ => nomatch h
  | [], _ :: _, _, _, _, _, h, _, _ => nomatch h
  | _ :: _, [], _, _, _, _, h, _, _ => nomatch h
  | k :: ks, x :: xs, q :: kk, us, vs, hk, hl, h1, h2 => by
    rw [List.map_cons, List.map_cons, List.cons.injEq] at hk
    obtain ⟨u, us', rfl, g1, t1⟩ := h1.of_cons
    obtain ⟨v, vs', rfl, g2, t2⟩ := h2.of_cons
    obtain ⟨zs, rfl, rfl, e3, e4⟩ := zip_rl hk.2 (by simpa using hl) t1 t2
    obtain ⟨b, rfl⟩ := key_ref hk.1 g1
    exact ⟨(q, b, v) :: zs, rfl, rfl, by rw [List.map_cons, e3], q, b, v, zs, rfl, hk.1, g1, g2, e4⟩
theorem de_dictZip {X : Cx} {C : Ct} {e e2 : Expr} {t : TDA} {p p2 pos pos2 : Pos} (hc : X.calm = true) (hu : X.A.units + 65 < cLine) (hg : Gl X "dict") (hm : X.mg "dict" = none) (hg2 : Gl X "zip") (hm2 : X.mg "zip" = none) (ha : DA X C [e, e2] t)
    (na : starEach [.Call (.Name "zip" p2) [e, e2] [] pos2] X.env = (false, eval (.Call (.Name "zip" p2) [e, e2] [] pos2) X.env) :: starEach [] X.env := by rfl)
    (hs : starEach [e, e2] X.env = (false, eval e X.env) :: starEach [e2] X.env := by rfl) (hpl : (backTo pos2 (starEach [e2] X.env)).any (·.1) = false := by rfl) :
    DE X C (.Call (.Name "dict" p) [.Call (.Name "zip" p2) [e, e2] [] pos2] [] pos) (dDictZip t) :=
  ⟨PE.imp (pe_dictZip hc hu hg hm hg2 hm2 ha.pa na hs hpl) fun σ H Q ⟨G, en, S, Q', at', h, k⟩ => ⟨G, en, S, _, at', h, fun ds S1 vs H1 t1 r1 l1 h1 => by
    obtain ⟨d1, d2, ks, xs, kk, rfl, e1, e2, hk, nd, hl, q⟩ := h1
    obtain ⟨v1, r, rfl, g1, l1⟩ := l1.of_cons
    obtain ⟨v2, r, rfl, g2, l1⟩ := l1.of_cons
    cases l1.of_nil
    obtain ⟨a, us, rfl, s1, a1⟩ := of_asL r1 e1 g1
    obtain ⟨b, ws, rfl, s2, a2⟩ := of_asL r1 e2 g2
    obtain ⟨zs, rfl, rfl, e3, rd⟩ := zip_rl hk hl a1 a2
    refine ⟨a, b, zs, rfl, s1, s2, rd.sq, by rw [e3]; exact nd, fun p n => ?_⟩
    have at1 := at'.next t1 r1
    have kn : Keep X.K H1 (nfz G S1) (upd H1 p (DcO p zs)) (nfz G (sput S1 p (.dct (ks.zip xs)))) := (Keep.new n).newCell n
    obtain ⟨r', t', _⟩ := r1.newCell (o := DcO p zs) (c := .dct (ks.zip xs)) at1.g n ⟨zs, upd_same, RlD.keep kn rd⟩
    exact k _ _ _ _ (t1.trans t') r' Rl.ref (q p (r1.none_of n))⟩⟩
end DL

set_option autoImplicit false
namespace DL
open PySem PySem.Spec PyProof.Rows L2
def topS (i : Nat) : Stmt := PySem.Challenge.pw_fivecups_k54_sums_of_sayings.main.body.getD i (.Pass ⟨0, 0, 0, 0⟩)
section
variable {P : Program} {w : World} {K : PySem.W.Frag} {mg : Str → Option Value} {base : Heap} {k : Nat}
theorem sdZ {p : Prop} (h : p := by (first | (with_reducible rfl) | (with_reducible assumption) | (with_reducible exact bxd_get) | (with_reducible exact sput_same) | omega | rfl | assumption | exact (sput_ne (by assumption)).trans (by first | exact sput_same | assumption | exact bxd_get | exact (sput_ne (by assumption)).trans (by first | exact sput_same | assumption | exact bxd_get | exact (sput_ne (by assumption)).trans (by first | exact sput_same | assumption))) | exact trivial | exact le_sz (by (first | decide | omega | (simp only [List.length_map, List.length_cons, List.length_nil, List.length_append, List.length_take, List.length_drop, List.length_reverse, List.length_replicate, walkI_len, thenI_len, List.length_range]; omega))) | exact lt_sz (by (first | decide | omega | (simp only [List.length_map, List.length_cons, List.length_nil, List.length_append, List.length_take, List.length_drop, List.length_reverse, List.length_replicate, walkI_len, thenI_len, List.length_range]; omega))) | exact RgOk.of_le (by omega) (by omega) (by omega) (by omega) | exact asM_ref (by first | exact sput_same | assumption | exact bxd_get | exact (sput_ne (by assumption)).trans (by first | exact sput_same | assumption | exact bxd_get | exact (sput_ne (by assumption)).trans (by first | exact sput_same | assumption))) | exact asL_ref (by first | exact sput_same | assumption | exact bxd_get | exact (sput_ne (by assumption)).trans (by first | exact sput_same | assumption | exact bxd_get | exact (sput_ne (by assumption)).trans (by first | exact sput_same | assumption))) | exact asQ_ref (by first | exact sput_same | assumption | exact bxd_get | exact (sput_ne (by assumption)).trans (by first | exact sput_same | assumption | exact bxd_get | exact (sput_ne (by assumption)).trans (by first | exact sput_same | assumption))) | (refine ⟨rfl, ?_⟩; rw [asL_ref (by first | exact sput_same | assumption | exact bxd_get | exact (sput_ne (by assumption)).trans (by first | exact sput_same | assumption | exact bxd_get | exact (sput_ne (by assumption)).trans (by first | exact sput_same | assumption)))]; rfl) | exact List.cons_ne_nil _ _ | (show "int" ∈ known; decide) | (show "tuple" ∈ known; decide) | (show "bool" ∈ known; decide) | (show "str" ∈ known; decide) | decide | (rw [cx1]; done) | (rw [cx2]; done) | (rw [cx1]; rfl) | (rw [cx2]; rfl) | exact congrArg some ints0 | exact congrArg some ints1 | exact congrArg some ints2 | exact congrArg some ints3 | exact congrArg some bls1 | exact congrArg some bls2 | exact congrArg some bls3 | exact congrArg some bls4 | exact ints1 | exact ints0 | exact ints2 | exact ints3 | exact ints5 | exact ⟨rfl, rfl⟩ | exact (show (3 : Nat) < 1000 by decide) | exact (show (2 : Nat) < 1000 by decide) | exact le_sz (by (try simp only [len_app]); omega) | exact strs1 | exact strs2 | exact strs3 | exact strs4)) : p := h
def sp__law_box : SpD := fun ds S Q _ => ∃ ns k, ds = [.scr ns, .int k] ∧ 0 ≤ k ∧ ∀ p x y, S p = none → 0 ≤ x → 1 ≤ y → Q (.ref p) (bxd S p x y)
abbrev s__law_box : Stmt := topS 9
abbrev n__law_box : List Str := ["_law_script", "_law_k", "_law_cell", "_law_seed"]
abbrev p__law_box : List Str := ["_law_script", "_law_k"]
theorem sc__law_box : FnScope n__law_box p__law_box (defScope s__law_box) := ⟨rfl, rfl, rfl, by decide +kernel, rfl, by decide +kernel, by decide +kernel⟩
theorem ok__law_box {f : Addr} {fd : FuncData} (F : Fun K "_law_box" "_law_box" s__law_box f fd) (m_len : mg "len" = none) (m_int : mg "int" = none) : FnD P w K mg base (k + 1) f fd p__law_box sp__law_box := by
  refine FnD.of F sc__law_box ?_ (fun X C E' cdv A outer s H E hX hr hx po hc => by
    subst hX
    exact (dss_cons (ds_set (i := 2) sc__law_box.nd rfl (de_op (or_add false) (de_op or_mul de_int (dv 1)) de_int))
      (dss_cons (ds_if (dt_cmp or_lt (dv 1) (de_b cr_len (by rfl) m_len b_len (da_cons (dv 0) da_nil))) (dss_one (ds_set (i := 2) sc__law_box.nd rfl (de_ix (dv 0) (dv 1)))) (dss_one (ds_if (dt_cmp or_gt (de_b cr_len (by rfl) m_len b_len (da_cons (dv 0) da_nil)) de_int) (dss_one (ds_set (i := 2) sc__law_box.nd rfl (de_op (or_add false) (dv 2) (de_op or_mul (de_op or_mod (de_ix (dv 0) (de_op or_mod (dv 1) (de_b cr_len (by rfl) m_len b_len (da_cons (dv 0) da_nil)))) de_int) de_int)))) dss_nil)))
      (dss_cons (ds_set (i := 3) sc__law_box.nd rfl (de_op (or_add false) (de_op or_mod (de_op (or_add false) (de_op or_mul (de_op or_mod (dv 2) de_int) de_int) (de_op or_mul de_int (dv 1))) de_int) de_int))
      (dss_one (ds_ret (de_lst true (da_cons (de_ix (de_lst false (da_cons de_int (da_cons (dv 2) da_nil))) (de_bt cr_intD (by rfl) m_int b_int (da_cons (de_cmp or_ge (dv 2) (de_op or_pow de_int de_int)) da_nil))) (da_cons (dv 3) da_nil))))))))) ?_
  · rintro ds S Q E ⟨ns, k, rfl, _⟩; rfl
  · rintro ds S Q E' ⟨ns, k, rfl, h0, q⟩
    rw [show startD n__law_box [.scr ns, .int k] = [some (.scr ns), some (.int k), none, none] from rfl]
    refine seq_mid (fun e S2 => ∃ c : Int, e = [some (.scr ns), some (.int k), some (.int c), none] ∧ S2 = S) (fun e S2 h => ?_) fun N hN => ?_
    · obtain ⟨c, rfl, rfl⟩ := h
      refine seq_mid (fun e S3 => ∃ c : Int, e = [some (.scr ns), some (.int k), some (.int c), none] ∧ S3 = S2) (fun e S3 h => ?_) fun N hN => ?_
      · obtain ⟨c, rfl, rfl⟩ := h
        refine seq_mid (fun e S4 => ∃ y : Int, 1 ≤ y ∧ e = [some (.scr ns), some (.int k), some (.int c), some (.int y)] ∧ S4 = S3) (fun e S4 h => ?_) fun N hN => ?_
        · obtain ⟨y, hy, rfl, rfl⟩ := h
          simp only [dNext, dSeq, dBreak, dCont, dDrop, dRet, dRetN, dIf, gN, gsNil, gsCons, gT, dAsg, dSet, dPar, gSb, dAug, dFor, dVar, dC, dOp, dTst, dChain, dNot, dAnd, dOr, dNotV, dAndV, dOrV, dNeg, dNil, dCons, dTup, dLst, dCB, iiR, subR, addR, isNR, eqR_int, eqR_bl, inR, dSo, dNo, dSl, dLc, one, two, tupR, lstR, allR, anyR, sumR, intR, strR, sortR, dTupK, addKR, tupKR, dRg1, dRg2, dTupRg, dLstRg, iD, iR1, iR2, dMt, dMt0, onL, appR, extR, popR, popAtR, revR, clrR, idxR, dTIdx, iEn, iZp, dIsLT, dCall, slot, wip, ixR_tup, ixR_tpk, ixR_lst, ixR_scr, lenR_tup, lenR_tpk, lenR_lst, lenR_scr, lenR_str, walkR_tup, walkR_tpk, walkR_lst, walkR_scr, walkR_str, itsR_tup, itsR_tpk, itsR_lst, slR_tup, slR_tpk, slR_lst, slR_scr, mk_t, mk_f, asL_lst, asL_scr, asQ_tup, asQ_tpk, asQ_lst, asQ_scr, asM_lst, asT_tup, asT_tpk, atI_0, atI_1, List.map_cons, List.map_nil, List.set_cons_zero, List.set_cons_succ, List.getElem?_cons_zero, List.getElem?_cons_succ, Option.some.injEq, exists_eq_left', exists_eq_left, true_and, and_true, setR_ref', ixR_ref', lenR_ref', asQ_ref', asL_ref', isltR_int, isltR_bl, isltR_str, isltR_non, isiR_int_bool, isiR_bl_bool, isiR_str_bool, isiR_non_bool, eqR_str, eqR_non, dPar3, iRv, insR, mulLR, rpiR, atI_2, ixR_d0, ixR_d1, ixR_d2, seqP_eq]
          by_cases hc : (10 : Int) ^ (18 : Int).toNat ≤ c
          · rw [decide_eq_true hc]
            refine ⟨le_sz (show 2 ≤ 16777216 by decide), by decide, .int c, rfl, le_sz (show 2 ≤ 16777216 by decide), fun p np => fin_same (q p c y np ?_ hy)⟩
            exact Int.le_trans (by decide) hc
          · rw [decide_eq_false hc]
            exact ⟨le_sz (show 2 ≤ 16777216 by decide), by decide, .int 0, rfl, le_sz (show 2 ≤ 16777216 by decide), fun p np => fin_same (q p 0 y np (by decide) hy)⟩
        · simp only [dNext, dSeq, dBreak, dCont, dDrop, dRet, dRetN, dIf, gN, gsNil, gsCons, gT, dAsg, dSet, dPar, gSb, dAug, dFor, dVar, dC, dOp, dTst, dChain, dNot, dAnd, dOr, dNotV, dAndV, dOrV, dNeg, dNil, dCons, dTup, dLst, dCB, iiR, subR, addR, isNR, eqR_int, eqR_bl, inR, dSo, dNo, dSl, dLc, one, two, tupR, lstR, allR, anyR, sumR, intR, strR, sortR, dTupK, addKR, tupKR, dRg1, dRg2, dTupRg, dLstRg, iD, iR1, iR2, dMt, dMt0, onL, appR, extR, popR, popAtR, revR, clrR, idxR, dTIdx, iEn, iZp, dIsLT, dCall, slot, wip, ixR_tup, ixR_tpk, ixR_lst, ixR_scr, lenR_tup, lenR_tpk, lenR_lst, lenR_scr, lenR_str, walkR_tup, walkR_tpk, walkR_lst, walkR_scr, walkR_str, itsR_tup, itsR_tpk, itsR_lst, slR_tup, slR_tpk, slR_lst, slR_scr, mk_t, mk_f, asL_lst, asL_scr, asQ_tup, asQ_tpk, asQ_lst, asQ_scr, asM_lst, asT_tup, asT_tpk, atI_0, atI_1, List.map_cons, List.map_nil, List.set_cons_zero, List.set_cons_succ, List.getElem?_cons_zero, List.getElem?_cons_succ, Option.some.injEq, exists_eq_left', exists_eq_left, true_and, and_true, setR_ref', ixR_ref', lenR_ref', asQ_ref', asL_ref', isltR_int, isltR_bl, isltR_str, isltR_non, isiR_int_bool, isiR_bl_bool, isiR_str_bool, isiR_non_bool, eqR_str, eqR_non, dPar3, iRv, insR, mulLR, rpiR, atI_2, ixR_d0, ixR_d1, ixR_d2, seqP_eq]
          refine ⟨by decide, .inr (by decide), .inl (by decide), by decide, hN _ _ ⟨_, ?_, rfl, rfl⟩⟩
          have := Int.emod_nonneg (c % 2147483629 * 48271 + 40692 * k) (show (2147483629 : Int) ≠ 0 by decide)
          omega
      · simp only [dNext, dSeq, dBreak, dCont, dDrop, dRet, dRetN, dIf, gN, gsNil, gsCons, gT, dAsg, dSet, dPar, gSb, dAug, dFor, dVar, dC, dOp, dTst, dChain, dNot, dAnd, dOr, dNotV, dAndV, dOrV, dNeg, dNil, dCons, dTup, dLst, dCB, iiR, subR, addR, isNR, eqR_int, eqR_bl, inR, dSo, dNo, dSl, dLc, one, two, tupR, lstR, allR, anyR, sumR, intR, strR, sortR, dTupK, addKR, tupKR, dRg1, dRg2, dTupRg, dLstRg, iD, iR1, iR2, dMt, dMt0, onL, appR, extR, popR, popAtR, revR, clrR, idxR, dTIdx, iEn, iZp, dIsLT, dCall, slot, wip, ixR_tup, ixR_tpk, ixR_lst, ixR_scr, lenR_tup, lenR_tpk, lenR_lst, lenR_scr, lenR_str, walkR_tup, walkR_tpk, walkR_lst, walkR_scr, walkR_str, itsR_tup, itsR_tpk, itsR_lst, slR_tup, slR_tpk, slR_lst, slR_scr, mk_t, mk_f, asL_lst, asL_scr, asQ_tup, asQ_tpk, asQ_lst, asQ_scr, asM_lst, asT_tup, asT_tpk, atI_0, atI_1, List.map_cons, List.map_nil, List.set_cons_zero, List.set_cons_succ, List.getElem?_cons_zero, List.getElem?_cons_succ, Option.some.injEq, exists_eq_left', exists_eq_left, true_and, and_true, setR_ref', ixR_ref', lenR_ref', asQ_ref', asL_ref', isltR_int, isltR_bl, isltR_str, isltR_non, isiR_int_bool, isiR_bl_bool, isiR_str_bool, isiR_non_bool, eqR_str, eqR_non, dPar3, iRv, insR, mulLR, rpiR, atI_2, ixR_d0, ixR_d1, ixR_d2, seqP_eq]
        by_cases h1 : k < (ns.length : Int)
        · rw [decide_eq_true h1]
          exact ⟨ns[k.toNat]'(by omega), by rw [atI_p h0]; exact List.getElem?_eq_getElem (by omega), hN _ _ ⟨_, rfl, rfl⟩⟩
        · rw [decide_eq_false h1]
          by_cases h2 : 0 < (ns.length : Int)
          · rw [decide_eq_true h2]
            have m0 := Int.emod_nonneg k (show (ns.length : Int) ≠ 0 by omega)
            have m1 := Int.emod_lt_of_pos k h2
            exact ⟨h2, ns[(k % (ns.length : Int)).toNat]'(by omega), by rw [atI_p m0]; exact List.getElem?_eq_getElem (by omega), by decide, .inr (by decide), hN _ _ ⟨_, rfl, rfl⟩⟩
          · rw [decide_eq_false h2]
            exact hN _ _ ⟨_, rfl, rfl⟩
    · simp only [dNext, dSeq, dBreak, dCont, dDrop, dRet, dRetN, dIf, gN, gsNil, gsCons, gT, dAsg, dSet, dPar, gSb, dAug, dFor, dVar, dC, dOp, dTst, dChain, dNot, dAnd, dOr, dNotV, dAndV, dOrV, dNeg, dNil, dCons, dTup, dLst, dCB, iiR, subR, addR, isNR, eqR_int, eqR_bl, inR, dSo, dNo, dSl, dLc, one, two, tupR, lstR, allR, anyR, sumR, intR, strR, sortR, dTupK, addKR, tupKR, dRg1, dRg2, dTupRg, dLstRg, iD, iR1, iR2, dMt, dMt0, onL, appR, extR, popR, popAtR, revR, clrR, idxR, dTIdx, iEn, iZp, dIsLT, dCall, slot, wip, ixR_tup, ixR_tpk, ixR_lst, ixR_scr, lenR_tup, lenR_tpk, lenR_lst, lenR_scr, lenR_str, walkR_tup, walkR_tpk, walkR_lst, walkR_scr, walkR_str, itsR_tup, itsR_tpk, itsR_lst, slR_tup, slR_tpk, slR_lst, slR_scr, mk_t, mk_f, asL_lst, asL_scr, asQ_tup, asQ_tpk, asQ_lst, asQ_scr, asM_lst, asT_tup, asT_tpk, atI_0, atI_1, List.map_cons, List.map_nil, List.set_cons_zero, List.set_cons_succ, List.getElem?_cons_zero, List.getElem?_cons_succ, Option.some.injEq, exists_eq_left', exists_eq_left, true_and, and_true, setR_ref', ixR_ref', lenR_ref', asQ_ref', asL_ref', isltR_int, isltR_bl, isltR_str, isltR_non, isiR_int_bool, isiR_bl_bool, isiR_str_bool, isiR_non_bool, eqR_str, eqR_non, dPar3, iRv, insR, mulLR, rpiR, atI_2, ixR_d0, ixR_d1, ixR_d2, seqP_eq]
      exact ⟨.inl (by decide), hN _ _ ⟨_, rfl, rfl⟩⟩

def sp__law_take : SpD := fun ds S Q _ => ∃ a w x y, ds = [.ref a, .int w] ∧ S a = some (.lst [.int x, .int y]) ∧ 0 ≤ x ∧ 1 ≤ y ∧ 0 < w ∧ w < 1073741824 ∧ ∀ r x' y', 0 ≤ r → r < w → 0 ≤ x' → 1 ≤ y' → Q (.int r) (bxd S a x' y')
abbrev s__law_take : Stmt := topS 10
abbrev n__law_take : List Str := ["_law_box_here", "_law_wide", "_law_digit", "_law_one"]
abbrev p__law_take : List Str := ["_law_box_here", "_law_wide"]
theorem sc__law_take : FnScope n__law_take p__law_take (defScope s__law_take) := ⟨rfl, rfl, rfl, by decide +kernel, rfl, by decide +kernel, by decide +kernel⟩
theorem ok__law_take {f : Addr} {fd : FuncData} (F : Fun K "_law_take" "_law_take" s__law_take f fd) : FnD P w K mg base (k + 1) f fd p__law_take sp__law_take := by
  refine FnD.of F sc__law_take ?_ (fun X C E' cdv A outer s H E hX hr hx po hc => by
    subst hX
    exact (dss_cons (ds_if (dt_cmp or_gt (de_ix (dv 0) de_int) de_int) (dss_cons (ds_set (i := 2) sc__law_take.nd rfl (de_op or_mod (de_ix (dv 0) de_int) (dv 1)))
      (dss_cons (ds_asg (de_op or_div (de_ix (dv 0) de_int) (dv 1)) (dg_sub (dv 0) de_int sr_list))
      (dss_one (ds_ret (dv 2))))) dss_nil)
      (dss_cons (ds_set (i := 3) sc__law_take.nd rfl (de_op or_mod (de_op or_mul (de_ix (dv 0) de_int) de_int) de_int))
      (dss_cons (ds_asg (de_op (or_add false) (de_op or_mod (de_op (or_add false) (de_op or_mul (dv 3) de_int) de_int) de_int) de_int) (dg_sub (dv 0) de_int sr_list))
      (dss_one (ds_ret (de_op or_mod (de_op or_div (de_op (or_add false) (de_op or_mul (dv 3) de_int) (de_ix (dv 0) de_int)) de_int) (dv 1)))))))) ?_
  · rintro ds S Q E ⟨a, w, x, y, rfl, _⟩; rfl
  · rintro ds S Q E' ⟨a, w, x, y, rfl, hs, hx, hy, hw, hw2, q⟩
    rw [show startD n__law_take [.ref a, .int w] = [some (.ref a), some (.int w), none, none] from rfl]
    have nn : ∀ z : Int, 0 ≤ z % w ∧ z % w < w := fun z => ⟨Int.emod_nonneg z (by omega), Int.emod_lt_of_pos z hw⟩
    refine seq_mid (fun e S2 => x ≤ 0 ∧ e = [some (.ref a), some (.int w), none, none] ∧ S2 = S) (fun e S2 h => ?_) fun N hN => ?_
    · obtain ⟨hx0, rfl, rfl⟩ := h
      simp only [dNext, dSeq, dBreak, dCont, dDrop, dRet, dRetN, dIf, gN, gsNil, gsCons, gT, dAsg, dSet, dPar, gSb, dAug, dFor, dVar, dC, dOp, dTst, dChain, dNot, dAnd, dOr, dNotV, dAndV, dOrV, dNeg, dNil, dCons, dTup, dLst, dCB, iiR, subR, addR, isNR, eqR_int, eqR_bl, inR, dSo, dNo, dSl, dLc, one, two, tupR, lstR, allR, anyR, sumR, intR, strR, sortR, dTupK, addKR, tupKR, dRg1, dRg2, dTupRg, dLstRg, iD, iR1, iR2, dMt, dMt0, onL, appR, extR, popR, popAtR, revR, clrR, idxR, dTIdx, iEn, iZp, dIsLT, dCall, slot, wip, ixR_tup, ixR_tpk, ixR_lst, ixR_scr, lenR_tup, lenR_tpk, lenR_lst, lenR_scr, lenR_str, walkR_tup, walkR_tpk, walkR_lst, walkR_scr, walkR_str, itsR_tup, itsR_tpk, itsR_lst, slR_tup, slR_tpk, slR_lst, slR_scr, mk_t, mk_f, asL_lst, asL_scr, asQ_tup, asQ_tpk, asQ_lst, asQ_scr, asM_lst, asT_tup, asT_tpk, atI_0, atI_1, List.map_cons, List.map_nil, List.set_cons_zero, List.set_cons_succ, List.getElem?_cons_zero, List.getElem?_cons_succ, Option.some.injEq, exists_eq_left', exists_eq_left, true_and, and_true, setR_ref', ixR_ref', lenR_ref', asQ_ref', asL_ref', isltR_int, isltR_bl, isltR_str, isltR_non, isiR_int_bool, isiR_bl_bool, isiR_str_bool, isiR_non_bool, eqR_str, eqR_non, dPar3, iRv, insR, mulLR, rpiR, atI_2, ixR_d0, ixR_d1, ixR_d2, seqP_eq, ixR_ref hs, setR_ref hs]
      refine ⟨.inr (by decide), by decide, .inr (by decide), by decide, 1, rfl, .inr (by decide), ?_⟩
      simp only [dNext, dSeq, dBreak, dCont, dDrop, dRet, dRetN, dIf, gN, gsNil, gsCons, gT, dAsg, dSet, dPar, gSb, dAug, dFor, dVar, dC, dOp, dTst, dChain, dNot, dAnd, dOr, dNotV, dAndV, dOrV, dNeg, dNil, dCons, dTup, dLst, dCB, iiR, subR, addR, isNR, eqR_int, eqR_bl, inR, dSo, dNo, dSl, dLc, one, two, tupR, lstR, allR, anyR, sumR, intR, strR, sortR, dTupK, addKR, tupKR, dRg1, dRg2, dTupRg, dLstRg, iD, iR1, iR2, dMt, dMt0, onL, appR, extR, popR, popAtR, revR, clrR, idxR, dTIdx, iEn, iZp, dIsLT, dCall, slot, wip, ixR_tup, ixR_tpk, ixR_lst, ixR_scr, lenR_tup, lenR_tpk, lenR_lst, lenR_scr, lenR_str, walkR_tup, walkR_tpk, walkR_lst, walkR_scr, walkR_str, itsR_tup, itsR_tpk, itsR_lst, slR_tup, slR_tpk, slR_lst, slR_scr, mk_t, mk_f, asL_lst, asL_scr, asQ_tup, asQ_tpk, asQ_lst, asQ_scr, asM_lst, asT_tup, asT_tpk, atI_0, atI_1, List.map_cons, List.map_nil, List.set_cons_zero, List.set_cons_succ, List.getElem?_cons_zero, List.getElem?_cons_succ, Option.some.injEq, exists_eq_left', exists_eq_left, true_and, and_true, setR_ref', ixR_ref', lenR_ref', asQ_ref', asL_ref', isltR_int, isltR_bl, isltR_str, isltR_non, isiR_int_bool, isiR_bl_bool, isiR_str_bool, isiR_non_bool, eqR_str, eqR_non, dPar3, iRv, insR, mulLR, rpiR, atI_2, ixR_d0, ixR_d1, ixR_d2, seqP_eq]
      refine ⟨by decide, hw, fin_same (q _ x _ (nn _).1 (nn _).2 hx ?_)⟩
      have := Int.emod_nonneg (y * 69623 % 2147483647 * 48271 + 30103) (show (2147483629 : Int) ≠ 0 by decide)
      omega
    · simp only [dNext, dSeq, dBreak, dCont, dDrop, dRet, dRetN, dIf, gN, gsNil, gsCons, gT, dAsg, dSet, dPar, gSb, dAug, dFor, dVar, dC, dOp, dTst, dChain, dNot, dAnd, dOr, dNotV, dAndV, dOrV, dNeg, dNil, dCons, dTup, dLst, dCB, iiR, subR, addR, isNR, eqR_int, eqR_bl, inR, dSo, dNo, dSl, dLc, one, two, tupR, lstR, allR, anyR, sumR, intR, strR, sortR, dTupK, addKR, tupKR, dRg1, dRg2, dTupRg, dLstRg, iD, iR1, iR2, dMt, dMt0, onL, appR, extR, popR, popAtR, revR, clrR, idxR, dTIdx, iEn, iZp, dIsLT, dCall, slot, wip, ixR_tup, ixR_tpk, ixR_lst, ixR_scr, lenR_tup, lenR_tpk, lenR_lst, lenR_scr, lenR_str, walkR_tup, walkR_tpk, walkR_lst, walkR_scr, walkR_str, itsR_tup, itsR_tpk, itsR_lst, slR_tup, slR_tpk, slR_lst, slR_scr, mk_t, mk_f, asL_lst, asL_scr, asQ_tup, asQ_tpk, asQ_lst, asQ_scr, asM_lst, asT_tup, asT_tpk, atI_0, atI_1, List.map_cons, List.map_nil, List.set_cons_zero, List.set_cons_succ, List.getElem?_cons_zero, List.getElem?_cons_succ, Option.some.injEq, exists_eq_left', exists_eq_left, true_and, and_true, setR_ref', ixR_ref', lenR_ref', asQ_ref', asL_ref', isltR_int, isltR_bl, isltR_str, isltR_non, isiR_int_bool, isiR_bl_bool, isiR_str_bool, isiR_non_bool, eqR_str, eqR_non, dPar3, iRv, insR, mulLR, rpiR, atI_2, ixR_d0, ixR_d1, ixR_d2, seqP_eq, ixR_ref hs, setR_ref hs]
      by_cases h1 : 0 < x
      · rw [decide_eq_true h1]
        exact ⟨hw, ⟨hw, hw2⟩, 0, rfl, fin_same (q _ _ y (nn _).1 (nn _).2 (Int.ediv_nonneg hx (by omega)) hy)⟩
      · rw [decide_eq_false h1]
        exact hN _ _ ⟨by omega, rfl, rfl⟩

/-! sums: begin, flips, marks -/
abbrev Mk := List Int × Int
def mkD (p : Mk) : D := .tup [.tpk p.1, .int p.2]
def kvD (p : Mk) : D × D := (.tpk p.1, .int p.2)
def sumsD (b : Int) (F : List Int) (M : List Mk) : D := .tup [.int b, .tpk F, .tup (M.map mkD)]
def setM (M : List Mk) (R : List Int) (n : Int) : List Mk := if M.any fun p => decide (p.1 = R) then M.map fun p => if p.1 = R then (p.1, n) else p else M ++ [(R, n)]
theorem prD_kvD (M : List Mk) : (M.map kvD).map prD = M.map mkD := by rw [List.map_map]; rfl
theorem hasK_kvD (M : List Mk) (R : List Int) : hasK (M.map kvD) R = M.any fun p => decide (p.1 = R) := by
  unfold hasK
  rw [List.any_map]
  congr 1
  funext p
  show decide (some p.1 = some R) = _
  exact decide_eq_decide.mpr ⟨fun h => Option.some.inj h, fun h => congrArg some h⟩
theorem setK_kvD (M : List Mk) (R : List Int) (n : Int) : setK (M.map kvD) R (.tpk R) (.int n) = (setM M R n).map kvD := by
  unfold setK setM
  rw [hasK_kvD]
  split
  · rw [List.map_map, List.map_map]
    congr 1
    funext p
    show (if some p.1 = some R then ((D.tpk p.1, D.int n) : D × D) else kvD p) = kvD (if p.1 = R then (p.1, n) else p)
    by_cases h : p.1 = R
    · rw [if_pos h, if_pos (congrArg some h)]; rfl
    · rw [if_neg h, if_neg fun z => h (Option.some.inj z)]
  · rw [List.map_append]; rfl
theorem setM_len {M : List Mk} {R : List Int} {n : Int} : (setM M R n).length ≤ M.length + 1 := by
  unfold setM
  split
  · rw [List.length_map]; omega
  · simp
structure RowOk (m : Int) (R : List Int) : Prop where
  mem : ∀ q ∈ R, 0 ≤ q ∧ q < m
  len : (R.length : Int) ≤ m
  srt : R.Pairwise (· < ·)
structure MkOk (m : Int) (p : Mk) : Prop where
  row : RowOk m p.1
  n0 : 1 ≤ p.2
  n1 : p.2 ≤ 2
structure SmOk (m b : Int) (F : List Int) (M : List Mk) : Prop where
  b0 : 0 ≤ b
  b1 : b ≤ 1
  fl : RowOk m F
  mks : ∀ p ∈ M, MkOk m p
theorem rowOk_sub {m : Int} {R : List Int} (h0 : 0 ≤ m) (h : R.Sublist (rngI 0 m)) : RowOk m R where
  mem q hq := rngI_mem.mp (h.subset hq)
  len := by have := h.length_le; have := rngI_len h0; omega
  srt := List.Pairwise.sublist h (by
    unfold rngI
    rw [List.pairwise_map]
    exact List.Pairwise.imp (fun h => by omega) List.pairwise_lt_range)
theorem setM_ok {m : Int} {M : List Mk} {R : List Int} {n : Int} (h : ∀ p ∈ M, MkOk m p) (hR : RowOk m R) (n0 : 1 ≤ n) (n1 : n ≤ 2) : ∀ p ∈ setM M R n, MkOk m p := by
  intro p hp
  unfold setM at hp
  split at hp
  · obtain ⟨q, hq, rfl⟩ := List.mem_map.mp hp
    split
    · exact ⟨(h q hq).row, n0, n1⟩
    · exact h q hq
  · rcases List.mem_append.mp hp with hp | hp
    · exact h p hp
    · rw [List.mem_singleton.mp hp]; exact ⟨hR, n0, n1⟩
def srtM (M : List Mk) : List Mk := M.mergeSort fun p q => PySem.W.dataLe false toP (mkD p) (mkD q)
theorem srtD_mkD (M : List Mk) : srtD (M.map mkD) = (srtM M).map mkD :=
  (List.map_mergeSort (f := mkD) (l := M) (r := fun p q => PySem.W.dataLe false toP (mkD p) (mkD q)) (s := PySem.W.dataLe false toP) fun _ _ _ _ => rfl).symm
theorem srtM_perm (M : List Mk) : (srtM M).Perm M := List.mergeSort_perm _ _
theorem srtOk_mkD (M : List Mk) : SrtOk (M.map mkD) := by
  rw [← prD_kvD]
  refine srtOk_pr fun p hp => ?_
  obtain ⟨q, _, rfl⟩ := List.mem_map.mp hp
  exact ⟨_, _, rfl, rfl⟩
/-- 1 where an even number of questions are answered 1, else 2 -/
def ansI (as : List Int) (q : Int) : Int := (as[q.toNat]?).getD 0
def sgI (R as : List Int) : Int := 1 + (R.map (ansI as)).sum % 2
def comeI (b : Int) (F : List Int) (M : List Mk) (as : List Int) : List Int :=
  let e := sgI F as * (1 + b)
  let c := (M.map fun p => p.2 * sgI p.1 as).sum
  [c % 3, (c + e) % 3, (c + e * 2) % 3]
theorem ans_at {m : Int} {as : List Int} (ha : AnsL m as) {q : Int} (q0 : 0 ≤ q) (q1 : q < m) : as[q.toNat]? = some (ansI as q) ∧ (ansI as q = 0 ∨ ansI as q = 1) := by
  have hl := ha.len
  have e : as[q.toNat]? = some (as[q.toNat]'(by omega)) := List.getElem?_eq_getElem (by omega)
  unfold ansI
  rw [e]
  exact ⟨rfl, ha.mem _ (List.getElem_mem _)⟩
theorem count_sum : ∀ {l : List Int}, (∀ x ∈ l, x = 0 ∨ x = 1) → ((l.count 1 : Nat) : Int) = l.sum
  | [], _ => rfl
  | x :: l, h => by
    have ih := count_sum (l := l) fun y hy => h y (List.mem_cons_of_mem _ hy)
    rw [List.count_cons, List.sum_cons]
    rcases h x List.mem_cons_self with rfl | rfl
    · simp [ih]
    · simp [ih]; omega
theorem sgI_cases (R as : List Int) : sgI R as = 1 ∨ sgI R as = 2 := by unfold sgI; omega

/-! sums as functions of sets; steps taken in -/
def cf (M : List Mk) (T : List Int) : Int := ((M.find? fun p => decide (p.1 = T)).map (·.2)).getD 0
structure MsOk (m : Int) (M : List Mk) : Prop where
  nd : (M.map (·.1)).Nodup
  ok : ∀ p ∈ M, MkOk m p
def addM (M : List Mk) (R : List Int) (k : Int) : List Mk :=
  if (cf M R + k) % 3 = 0 then (setM M R ((cf M R + k) % 3)).filter fun p => !decide (p.1 = R) else setM M R ((cf M R + k) % 3)
theorem cf_nil (T : List Int) : cf [] T = 0 := rfl
theorem cf_cons (p : Mk) (M : List Mk) (T : List Int) : cf (p :: M) T = if p.1 = T then p.2 else cf M T := by
  unfold cf
  rw [List.find?_cons]
  by_cases h : p.1 = T
  · rw [decide_eq_true h, if_pos h]; rfl
  · rw [decide_eq_false h, if_neg h]
theorem cf_none {M : List Mk} {T : List Int} (h : T ∉ M.map (·.1)) : cf M T = 0 := by
  induction M with
  | nil => rfl
  | cons p M ih =>
    rw [List.map_cons, List.mem_cons, not_or] at h
    rw [cf_cons, if_neg (fun z => h.1 z.symm), ih h.2]
theorem cf_mem {M : List Mk} (nd : (M.map (·.1)).Nodup) {p : Mk} (h : p ∈ M) : cf M p.1 = p.2 := by
  induction M with
  | nil => nomatch h
  | cons q M ih =>
    rw [List.map_cons, List.nodup_cons] at nd
    rw [cf_cons]
    rcases List.mem_cons.mp h with rfl | h
    · rw [if_pos rfl]
    · by_cases e : q.1 = p.1
      · exact absurd (List.mem_map.mpr ⟨p, h, e.symm⟩) nd.1
      · rw [if_neg e]; exact ih nd.2 h
theorem cf_has {M : List Mk} {T : List Int} (h : cf M T ≠ 0) : (T, cf M T) ∈ M := by
  induction M with
  | nil => exact absurd rfl h
  | cons q M ih =>
    rw [cf_cons] at h ⊢
    by_cases e : q.1 = T
    · rw [if_pos e, ← e]; exact List.mem_cons_self
    · rw [if_neg e] at h ⊢; exact List.mem_cons_of_mem _ (ih h)
theorem MsOk.cf3 {m : Int} {M : List Mk} (o : MsOk m M) (T : List Int) : 0 ≤ cf M T ∧ cf M T ≤ 2 := by
  by_cases h : cf M T = 0
  · omega
  · have := o.ok _ (cf_has h)
    have a := this.n0
    have b := this.n1
    exact ⟨Int.le_trans (by decide) a, b⟩
theorem MsOk.row {m : Int} {M : List Mk} (o : MsOk m M) {T : List Int} (h : cf M T ≠ 0) : RowOk m T := (o.ok _ (cf_has h)).row
theorem MsOk.mem {m : Int} {M : List Mk} (o : MsOk m M) {p : Mk} : p ∈ M ↔ cf M p.1 = p.2 ∧ p.2 ≠ 0 := by
  constructor
  · intro h
    have := (o.ok p h).n0
    exact ⟨cf_mem o.nd h, by omega⟩
  · rintro ⟨h1, h2⟩
    have := cf_has (M := M) (T := p.1) (by rw [h1]; exact h2)
    rw [h1] at this
    exact this
theorem nodup_of_map {α β : Type} {f : α → β} : ∀ {l : List α}, (l.map f).Nodup → l.Nodup
  | [], _ => List.nodup_nil
  | x :: l, h => by
    rw [List.map_cons, List.nodup_cons] at h
    rw [List.nodup_cons]
    exact ⟨fun z => h.1 (List.mem_map.mpr ⟨x, z, rfl⟩), nodup_of_map h.2⟩
theorem permN {α : Type} : ∀ {l l' : List α}, l.Nodup → l'.Nodup → (∀ x, x ∈ l ↔ x ∈ l') → l.Perm l'
  | [], l', _, _, h => by
    have : l' = [] := List.eq_nil_iff_forall_not_mem.mpr fun x hx => nomatch (h x).mpr hx
    rw [this]
  | x :: l, l', n1, n2, h => by
    obtain ⟨a, b, rfl⟩ := List.append_of_mem ((h x).mp List.mem_cons_self)
    rw [List.nodup_cons] at n1
    have n3 : (x :: (a ++ b)).Nodup := (List.perm_middle.nodup_iff).mp n2
    rw [List.nodup_cons] at n3
    refine (List.Perm.cons x (permN n1.2 n3.2 fun y => ?_)).trans List.perm_middle.symm
    have hy := h y
    rw [List.mem_append, List.mem_cons, List.mem_cons] at hy
    rw [List.mem_append]
    constructor
    · intro z
      rcases hy.mp (.inr z) with w | rfl | w
      · exact .inl w
      · exact absurd z n1.1
      · exact .inr w
    · intro z
      have ne : y ≠ x := fun e => n3.1 (by rw [← e, List.mem_append]; exact z)
      rcases hy.mpr (z.imp id .inr) with w | w
      · exact absurd w ne
      · exact w
theorem ms_perm {m m' : Int} {M M' : List Mk} (o : MsOk m M) (o' : MsOk m' M') (h : ∀ T, cf M T = cf M' T) : M.Perm M' :=
  permN (nodup_of_map o.nd) (nodup_of_map o'.nd) fun p => by rw [o.mem, o'.mem, h]
/-! sorted -/
def leM (p q : Mk) : Bool := if p.1 = q.1 then decide (p.2 ≤ q.2) else leI p.1 q.1
theorem eqv_ints {a b : List Int} : PyData.eqv (.tuple (a.map .int)) (.tuple (b.map .int)) = decide (a = b) := by
  have key : ∀ a b : List Int, PyData.eqvAll (a.map .int) (b.map .int) = decide (a = b) := by
    intro a
    induction a with
    | nil => intro b; cases b <;> rfl
    | cons x a ih =>
      intro b
      cases b with
      | nil => rfl
      | cons y b =>
        show (PyData.eqv (.int x) (.int y) && PyData.eqvAll (a.map .int) (b.map .int)) = _
        rw [ih b]
        have : PyData.eqv (.int x) (.int y) = decide (x = y) := rfl
        rw [this]
        simp
  exact key a b
theorem dataLe_mkD (p q : Mk) : PySem.W.dataLe false toP (mkD p) (mkD q) = leM p q := by
  show (!PySem.W.dataLt (toP (mkD q)) (toP (mkD p))) = _
  have tp : ∀ p : Mk, toP (mkD p) = .tuple [.tuple (p.1.map PyData.int), .int p.2] := fun p => toP_pr (d := .tpk p.1) rfl
  rw [tp, tp, PySem.W.dataLt_pair (by simp [PySem.W.alike, PySem.W.alike_ints]) (by simp [PySem.W.alike]), eqv_ints]
  unfold leM
  by_cases h : p.1 = q.1
  · rw [decide_eq_true h.symm, if_pos rfl, if_pos h]
    have e : PyData.eqv (.int q.2) (.int p.2) = decide (q.2 = p.2) := rfl
    rw [e, PySem.W.dataLt_int]
    by_cases h2 : q.2 = p.2
    · rw [if_pos (decide_eq_true h2), decide_eq_true (show p.2 ≤ q.2 by omega)]; rfl
    · rw [if_neg (by rw [decide_eq_false h2]; exact Bool.false_ne_true), PySem.W.not_lt_int]
  · rw [decide_eq_false (fun z => h z.symm), if_neg Bool.false_ne_true, if_neg h]
    have := dataLe_tpk p.1 q.1
    rw [← this]
    show _ = (!PySem.W.dataLt (toP (.tpk q.1)) (toP (.tpk p.1)))
    rw [toP_tpk, toP_tpk]
theorem leI_trn (a b c : List Int) (h1 : leI a b = true) (h2 : leI b c = true) : leI a c = true := by
  unfold leI at *
  simp only [Bool.not_eq_true', decide_eq_false_iff_not] at *
  exact List.le_trans (show a ≤ b from h1) (show b ≤ c from h2)
theorem leI_tot (a b : List Int) : (leI a b || leI b a) = true := by
  unfold leI
  rcases List.le_total a b with h | h
  · rw [decide_eq_false h]; rfl
  · rw [decide_eq_false h]; simp
theorem leI_asy {a b : List Int} (h1 : leI a b = true) (h2 : leI b a = true) : a = b := by
  unfold leI at *
  simp only [Bool.not_eq_true', decide_eq_false_iff_not] at *
  exact List.le_antisymm (show a ≤ b from h1) (show b ≤ a from h2)
theorem leM_trn (p q r : Mk) (h1 : leM p q = true) (h2 : leM q r = true) : leM p r = true := by
  unfold leM at *
  by_cases e1 : p.1 = q.1
  · by_cases e2 : q.1 = r.1
    · rw [if_pos e1, decide_eq_true_iff] at h1
      rw [if_pos e2, decide_eq_true_iff] at h2
      rw [if_pos (e1.trans e2), decide_eq_true_iff]; omega
    · rw [if_neg e2] at h2
      rw [if_neg (by rw [e1]; exact e2), e1]; exact h2
  · by_cases e2 : q.1 = r.1
    · rw [if_neg e1] at h1
      rw [if_neg (by rw [← e2]; exact e1), ← e2]; exact h1
    · rw [if_neg e1] at h1
      rw [if_neg e2] at h2
      by_cases e3 : p.1 = r.1
      · rw [e3] at h1
        exact absurd (leI_asy h1 h2).symm e2
      · rw [if_neg e3]; exact leI_trn _ _ _ h1 h2
theorem leM_tot (p q : Mk) : (leM p q || leM q p) = true := by
  unfold leM
  by_cases e : p.1 = q.1
  · rw [if_pos e, if_pos e.symm, Bool.or_eq_true, decide_eq_true_iff, decide_eq_true_iff]; omega
  · rw [if_neg e, if_neg (fun z => e z.symm)]; exact leI_tot _ _
theorem leM_asy {p q : Mk} (h1 : leM p q = true) (h2 : leM q p = true) : p = q := by
  unfold leM at *
  by_cases e : p.1 = q.1
  · rw [if_pos e, decide_eq_true_iff] at h1
    rw [if_pos e.symm, decide_eq_true_iff] at h2
    obtain ⟨a, b⟩ := p
    obtain ⟨c, d⟩ := q
    simp only at e h1 h2
    rw [e, show b = d by omega]
  · rw [if_neg e] at h1
    rw [if_neg (fun z => e z.symm)] at h2
    exact absurd (leI_asy h1 h2) e
theorem sortedM_unique : ∀ {l l' : List Mk}, l.Perm l' → (l.Pairwise fun a b => leM a b = true) → (l'.Pairwise fun a b => leM a b = true) → l = l'
  | [], l', p, _, _ => (List.Perm.nil_eq p)
  | a :: l, [], p, _, _ => absurd p.length_eq (by simp)
  | a :: l, b :: l', p, h1, h2 => by
    have e : a = b := by
      have ma : a ∈ b :: l' := p.mem_iff.mp List.mem_cons_self
      have mb : b ∈ a :: l := p.mem_iff.mpr List.mem_cons_self
      rw [List.mem_cons] at ma mb
      rcases ma with z | ma
      · exact z
      · rcases mb with z | mb
        · exact z.symm
        · exact leM_asy ((List.pairwise_cons.mp h1).1 b mb) ((List.pairwise_cons.mp h2).1 a ma)
    subst e
    rw [sortedM_unique (List.Perm.cons_inv p) (List.pairwise_cons.mp h1).2 (List.pairwise_cons.mp h2).2]
theorem srtM_eq (M : List Mk) : srtM M = M.mergeSort leM := by
  unfold srtM
  congr 1
  funext p q
  exact dataLe_mkD p q
theorem srtM_sorted (M : List Mk) : (srtM M).Pairwise fun a b => leM a b = true := by
  rw [srtM_eq]; exact List.pairwise_mergeSort leM_trn leM_tot M
theorem srtM_of {M M' : List Mk} (h : M.Perm M') : srtM M = srtM M' := sortedM_unique ((srtM_perm M).trans (h.trans (srtM_perm M').symm)) (srtM_sorted M) (srtM_sorted M')
theorem srtM_id {M : List Mk} (h : M.Pairwise fun a b => leM a b = true) : srtM M = M := sortedM_unique (srtM_perm M) (srtM_sorted M) h
theorem ms_same {m m' : Int} {M M' : List Mk} (o : MsOk m M) (o' : MsOk m' M') (h : ∀ T, cf M T = cf M' T) : srtM M = srtM M' := srtM_of (ms_perm o o' h)
theorem MsOk.perm {m : Int} {M M' : List Mk} (o : MsOk m M) (h : M.Perm M') : MsOk m M' := ⟨(h.map _).nodup_iff.mp o.nd, fun p hp => o.ok p (h.mem_iff.mpr hp)⟩
theorem MsOk.srt {m : Int} {M : List Mk} (o : MsOk m M) : MsOk m (srtM M) := o.perm (srtM_perm M).symm
theorem cf_perm {m : Int} {M M' : List Mk} (o : MsOk m M) (h : M.Perm M') (T : List Int) : cf M' T = cf M T := by
  have o' := o.perm h
  by_cases z : cf M T = 0
  · by_cases z' : cf M' T = 0
    · rw [z, z']
    · have := o.mem.mp (h.mem_iff.mpr (cf_has z'))
      exact this.1.symm
  · exact (o'.mem.mp (h.mem_iff.mp (cf_has z))).1
theorem cf_srt {m : Int} {M : List Mk} (o : MsOk m M) (T : List Int) : cf (srtM M) T = cf M T := cf_perm o (srtM_perm M).symm T
/-! a number is added -/
theorem any_mem {M : List Mk} {R : List Int} : (M.any fun p => decide (p.1 = R)) = true ↔ R ∈ M.map (·.1) := by
  rw [List.any_eq_true, List.mem_map]
  constructor
  · rintro ⟨p, hp, e⟩; exact ⟨p, hp, of_decide_eq_true e⟩
  · rintro ⟨p, hp, e⟩; exact ⟨p, hp, decide_eq_true e⟩
theorem cf_setM {M : List Mk} {R T : List Int} {n : Int} : cf (setM M R n) T = if T = R then n else cf M T := by
  unfold setM
  by_cases h : (M.any fun p => decide (p.1 = R)) = true
  · rw [if_pos h]
    have hR := any_mem.mp h
    clear h
    induction M with
    | nil => nomatch hR
    | cons p M ih =>
      rw [List.map_cons, cf_cons, cf_cons]
      by_cases e : p.1 = R
      · rw [if_pos e]
        by_cases eT : T = R
        · rw [if_pos eT, if_pos (by rw [eT]; exact e)]
        · rw [if_neg eT, if_neg (by rw [e]; exact fun z => eT z.symm)]
          by_cases hM : R ∈ M.map (·.1)
          · rw [ih hM, if_neg eT]; rw [if_neg (by rw [e]; exact fun z => eT z.symm)]
          · have : (M.map fun p => if p.1 = R then (p.1, n) else p) = M := by
              have : ∀ p ∈ M, (if p.1 = R then (p.1, n) else p) = p := fun p hp => if_neg fun z => hM (List.mem_map.mpr ⟨p, hp, z⟩)
              rw [List.map_congr_left this]; simp
            rw [this]; rw [if_neg (by rw [e]; exact fun z => eT z.symm)]
      · have hM : R ∈ M.map (·.1) := by
          rw [List.map_cons, List.mem_cons] at hR
          rcases hR with z | z
          · exact absurd z.symm e
          · exact z
        rw [if_neg e, ih hM]
        by_cases eT : p.1 = T
        · rw [if_pos eT, if_neg (by rw [← eT]; exact e), if_pos eT]
        · rw [if_neg eT, if_neg eT]
  · rw [if_neg h]
    have hR : R ∉ M.map (·.1) := fun z => h (any_mem.mpr z)
    clear h
    induction M with
    | nil => rw [List.nil_append, cf_cons, cf_nil]; by_cases e : R = T
             · rw [if_pos e, if_pos e.symm]
             · rw [if_neg e, if_neg (fun z => e z.symm)]
    | cons p M ih =>
      rw [List.map_cons, List.mem_cons, not_or] at hR
      rw [List.cons_append, cf_cons, cf_cons, ih hR.2]
      by_cases e : p.1 = T
      · rw [if_pos e, if_pos e, if_neg (fun z => hR.1 (by rw [← z]; exact e.symm))]
      · rw [if_neg e, if_neg e]
theorem cf_filter {M : List Mk} {R T : List Int} : cf (M.filter fun p => !decide (p.1 = R)) T = if T = R then 0 else cf M T := by
  induction M with
  | nil => rw [List.filter_nil, cf_nil]; split <;> rfl
  | cons p M ih =>
    rw [List.filter_cons]
    by_cases e : p.1 = R
    · rw [decide_eq_true e]
      show cf (M.filter _) T = _
      rw [ih, cf_cons]
      by_cases eT : T = R
      · rw [if_pos eT, if_pos eT]
      · rw [if_neg eT, if_neg eT, if_neg (by rw [e]; exact fun z => eT z.symm)]
    · rw [decide_eq_false e]
      show cf (p :: M.filter _) T = _
      rw [cf_cons, cf_cons, ih]
      by_cases eT : p.1 = T
      · rw [if_pos eT, if_pos eT, if_neg (by rw [← eT]; exact e)]
      · rw [if_neg eT, if_neg eT]
theorem cf_addM {M : List Mk} {R T : List Int} {k : Int} : cf (addM M R k) T = if T = R then (cf M R + k) % 3 else cf M T := by
  unfold addM
  split
  · rename_i h
    rw [cf_filter, cf_setM]
    by_cases e : T = R
    · rw [if_pos e, if_pos e, h]
    · simp only [if_neg e]
  · rw [cf_setM]
theorem setM_nd {M : List Mk} {R : List Int} {n : Int} (h : (M.map (·.1)).Nodup) : ((setM M R n).map (·.1)).Nodup := by
  unfold setM
  split
  · rw [List.map_map]
    have : ((fun p : Mk => p.1) ∘ fun p : Mk => if p.1 = R then (p.1, n) else p) = fun p : Mk => p.1 := by
      funext p
      show (if p.1 = R then (p.1, n) else p).1 = p.1
      split <;> rfl
    rw [this]; exact h
  · rename_i hn
    rw [List.map_append, List.nodup_append]
    refine ⟨h, List.nodup_cons.mpr ⟨(fun z => nomatch z), List.nodup_nil⟩, fun a ha b hb e => ?_⟩
    rw [List.mem_singleton.mp hb] at e
    have e : a = R := e
    rw [e] at ha
    exact hn (any_mem.mpr ha)
theorem setM_mem {M : List Mk} {R : List Int} {n : Int} {p : Mk} (h : p ∈ setM M R n) : p ∈ M ∨ p = (R, n) := by
  unfold setM at h
  split at h
  · obtain ⟨q, hq, rfl⟩ := List.mem_map.mp h
    by_cases e : q.1 = R
    · rw [if_pos e]; right; rw [← e]
    · rw [if_neg e]; exact .inl hq
  · rcases List.mem_append.mp h with h | h
    · exact .inl h
    · exact .inr (List.mem_singleton.mp h)
theorem addM_ok {m : Int} {M : List Mk} {R : List Int} {k : Int} (o : MsOk m M) (hR : RowOk m R) : MsOk m (addM M R k) := by
  unfold addM
  split
  · refine ⟨(setM_nd o.nd).sublist (List.Sublist.map _ List.filter_sublist), fun p hp => ?_⟩
    obtain ⟨h1, h2⟩ := List.mem_filter.mp hp
    rcases setM_mem h1 with h | rfl
    · exact o.ok p h
    · simp at h2
  · rename_i hn
    refine ⟨setM_nd o.nd, fun p hp => ?_⟩
    rcases setM_mem hp with h | rfl
    · exact o.ok p h
    · exact ⟨hR, by show 1 ≤ (cf M R + k) % 3; omega, by show (cf M R + k) % 3 ≤ 2; omega⟩
theorem addM_len {M : List Mk} {R : List Int} {k : Int} : (addM M R k).length ≤ M.length + 1 := by
  unfold addM
  split
  · exact Nat.le_trans (List.length_filter_le _ _) setM_len
  · exact setM_len

theorem row_len {m : Int} (m0 : 0 ≤ m) : ∀ {R : List Int}, (∀ q ∈ R, 0 ≤ q ∧ q < m) → R.Nodup → (R.length : Int) ≤ m := fun {R} h nd => by
  have : ∀ {l L : List Int}, l.Nodup → (∀ x ∈ l, x ∈ L) → l.length ≤ L.length := by
    intro l
    induction l with
    | nil => intro L _ _; exact Nat.zero_le _
    | cons x l ih =>
      intro L nd h
      obtain ⟨a, b, rfl⟩ := List.append_of_mem (h x List.mem_cons_self)
      rw [List.nodup_cons] at nd
      have := ih (L := a ++ b) nd.2 fun y hy => by
        have := h y (List.mem_cons_of_mem _ hy)
        rw [List.mem_append, List.mem_cons] at this
        rw [List.mem_append]
        rcases this with z | rfl | z
        · exact .inl z
        · exact absurd hy nd.1
        · exact .inr z
      rw [List.length_append] at this
      rw [List.length_append, List.length_cons, List.length_cons]
      omega
  have l1 := this (L := rngI 0 m) nd fun x hx => rngI_mem.mpr (h x hx)
  have l2 := rngI_len m0
  omega
theorem lt_nodup {R : List Int} (h : R.Pairwise (· < ·)) : R.Nodup := List.Pairwise.imp (fun h e => by omega) h
theorem le_lt {R : List Int} (h : R.Pairwise (· ≤ ·)) (nd : R.Nodup) : R.Pairwise (· < ·) := List.Pairwise.imp₂ (R := (· ≤ ·)) (S := (· ≠ ·)) (fun a b h1 h2 => by omega) h nd
theorem row_ext {m m' : Int} {R R' : List Int} (o : RowOk m R) (o' : RowOk m' R') (h : ∀ x, x ∈ R ↔ x ∈ R') : R = R' := by
  have le : ∀ {R : List Int}, R.Pairwise (· < ·) → R.Pairwise (· ≤ ·) := fun h => List.Pairwise.imp (fun h => by omega) h
  have p : R.Perm R' := permN (lt_nodup o.srt) (lt_nodup o'.srt) h
  exact sorted_unique p (le o.srt) (le o'.srt)
theorem rowOk_nil {m : Int} (h : 0 ≤ m) : RowOk m [] := ⟨fun _ h => (nomatch h), by simpa using h, List.Pairwise.nil⟩
theorem msOk_nil {m : Int} : MsOk m [] := ⟨List.nodup_nil, fun _ h => nomatch h⟩
theorem getK_kvD (M : List Mk) (R : List Int) : (getK (M.map kvD) R).getD (.int 0) = .int (cf M R) := by
  induction M with
  | nil => rfl
  | cons p M ih =>
    rw [cf_cons]
    unfold getK at ih ⊢
    rw [List.map_cons, List.find?_cons]
    by_cases e : p.1 = R
    · have hd : decide (keyI (kvD p).1 = some R) = true := decide_eq_true (congrArg some e)
      rw [hd, if_pos e]; rfl
    · have hd : decide (keyI (kvD p).1 = some R) = false := decide_eq_false fun z => e (Option.some.inj z)
      rw [hd, if_neg e]
      exact ih
theorem getK_has {M : List Mk} {R : List Int} (h : (M.any fun p => decide (p.1 = R)) = true) : getK (M.map kvD) R = some (.int (cf M R)) := by
  have := getK_kvD M R
  cases hg : getK (M.map kvD) R with
  | none =>
    exfalso
    unfold getK at hg
    rw [Option.map_eq_none_iff, List.find?_eq_none] at hg
    obtain ⟨p, hp, e⟩ := List.any_eq_true.mp h
    exact hg (kvD p) (List.mem_map.mpr ⟨p, hp, rfl⟩) (decide_eq_true (congrArg some (of_decide_eq_true e)))
  | some d => rw [hg] at this; exact congrArg some this
theorem dropKey_kvD (M : List Mk) (R : List Int) : dropKey (M.map kvD) R = (M.filter fun p => !decide (p.1 = R)).map kvD := by
  unfold dropKey
  rw [List.filter_map]
  congr 1
  apply List.filter_congr
  intro p _
  show (!decide (some p.1 = some R)) = _
  congr 1
  exact decide_eq_decide.mpr ⟨fun h => Option.some.inj h, fun h => congrArg some h⟩
theorem setM_any {M : List Mk} {R : List Int} {n : Int} : ((setM M R n).any fun p => decide (p.1 = R)) = true := by
  rw [any_mem]
  unfold setM
  split
  · rename_i h
    obtain ⟨p, hp, e⟩ := List.mem_map.mp (any_mem.mp h)
    exact List.mem_map.mpr ⟨(p.1, n), List.mem_map.mpr ⟨p, hp, by show (if p.1 = R then (p.1, n) else p) = _; rw [if_pos e]⟩, e⟩
  · rw [List.map_append]; exact List.mem_append.mpr (.inr List.mem_cons_self)

/-! sums are told by what they come to -/
def wq (q : Int) (R : List Int) : List Int := R.filter fun x => decide (x ≠ q)
theorem wq_mem {q x : Int} {R : List Int} : x ∈ wq q R ↔ x ∈ R ∧ x ≠ q := by
  unfold wq; rw [List.mem_filter, decide_eq_true_iff]
theorem wq_not {q : Int} {R : List Int} (h : q ∉ R) : wq q R = R := List.filter_eq_self.mpr fun x hx => decide_eq_true fun e => h (e ▸ hx)
theorem wq_ok {n : Nat} {R : List Int} (o : RowOk ((n + 1 : Nat) : Int) R) : RowOk (n : Int) (wq n R) := by
  have st : (wq n R).Pairwise (· < ·) := o.srt.sublist List.filter_sublist
  have mem : ∀ x ∈ wq n R, 0 ≤ x ∧ x < (n : Int) := fun x hx => by
    have := wq_mem.mp hx
    have h2 := o.mem x this.1
    have h3 := this.2
    omega
  exact ⟨mem, row_len (by omega) mem (lt_nodup st), st⟩
theorem rowOk_not {n : Nat} {R : List Int} (o : RowOk ((n + 1 : Nat) : Int) R) (h : (n : Int) ∉ R) : RowOk (n : Int) R := by
  have := wq_ok o; rwa [wq_not h] at this
theorem sum_wq {g : Int → Int} {q : Int} : ∀ {R : List Int}, R.Nodup → q ∈ R → (R.map g).sum = ((wq q R).map g).sum + g q
  | [], _, h => nomatch h
  | x :: R, nd, h => by
    rw [List.nodup_cons] at nd
    rw [List.map_cons, List.sum_cons]
    by_cases e : x = q
    · subst e
      have : wq x (x :: R) = R := by
        unfold wq
        rw [List.filter_cons, if_neg (by simp)]
        exact wq_not nd.1
      rw [this]; omega
    · have hq : q ∈ R := (List.mem_cons.mp h).resolve_left fun z => e z.symm
      have : wq q (x :: R) = x :: wq q R := by
        unfold wq
        rw [List.filter_cons, if_pos (decide_eq_true e)]
      rw [this, List.map_cons, List.sum_cons, sum_wq nd.2 hq]; omega
def sgF (R : List Int) (f : Int → Int) : Int := 1 + (R.map f).sum % 2
def ev (W : List Mk) (f : Int → Int) : Int := (W.map fun p => p.2 * sgF p.1 f).sum
def tot (W : List Mk) (T : List Int) : Int := (W.map fun p => if p.1 = T then p.2 else 0).sum
def upd (f : Int → Int) (q a : Int) : Int → Int := fun x => if x = q then a else f x
theorem upd_not {f : Int → Int} {q a : Int} {R : List Int} (h : q ∉ R) : R.map (upd f q a) = R.map f :=
  List.map_congr_left fun x hx => if_neg fun (e : x = q) => h (e ▸ hx)
theorem sgF_not {f : Int → Int} {q a : Int} {R : List Int} (h : q ∉ R) : sgF R (upd f q a) = sgF R f := by unfold sgF; rw [upd_not h]
theorem sgF_in {f : Int → Int} {q a : Int} {R : List Int} (nd : R.Nodup) (h : q ∈ R) : sgF R (upd f q a) = 1 + (((wq q R).map f).sum + a) % 2 := by
  unfold sgF
  rw [sum_wq nd h, upd_not fun z => (wq_mem.mp z).2 rfl]
  unfold upd
  rw [if_pos rfl]
def W0 (q : Int) (W : List Mk) : List Mk := W.filter fun p => !decide (q ∈ p.1)
def W1 (q : Int) (W : List Mk) : List Mk := (W.filter fun p => decide (q ∈ p.1)).map fun p => (wq q p.1, p.2)
theorem ev_cons (p : Mk) (W : List Mk) (f : Int → Int) : ev (p :: W) f = p.2 * sgF p.1 f + ev W f := by unfold ev; rw [List.map_cons, List.sum_cons]
theorem tot_cons (p : Mk) (W : List Mk) (T : List Int) : tot (p :: W) T = (if p.1 = T then p.2 else 0) + tot W T := by unfold tot; rw [List.map_cons, List.sum_cons]
theorem ev_split {q : Int} {f : Int → Int} : ∀ {W : List Mk}, (∀ p ∈ W, p.1.Nodup) → ev W (upd f q 0) = ev (W0 q W) f + ev (W1 q W) f ∧ (ev W (upd f q 1) - (ev (W0 q W) f - ev (W1 q W) f)) % 3 = 0
  | [], _ => ⟨rfl, rfl⟩
  | p :: W, h => by
    obtain ⟨i1, i2⟩ := ev_split (q := q) (f := f) (W := W) fun p hp => h p (List.mem_cons_of_mem _ hp)
    have nd := h p List.mem_cons_self
    rw [ev_cons, ev_cons]
    by_cases hq : q ∈ p.1
    · have e0 : W0 q (p :: W) = W0 q W := by unfold W0; rw [List.filter_cons, decide_eq_true hq]; rfl
      have e1 : W1 q (p :: W) = (wq q p.1, p.2) :: W1 q W := by unfold W1; rw [List.filter_cons, decide_eq_true hq]; rfl
      rw [e0, e1, ev_cons, sgF_in nd hq, sgF_in nd hq]
      have : sgF (wq q p.1) f = 1 + ((wq q p.1).map f).sum % 2 := rfl
      dsimp only
      rw [this]
      generalize ((wq q p.1).map f).sum = s
      rw [Int.add_zero]
      refine ⟨by omega, ?_⟩
      rcases (show s % 2 = 0 ∨ s % 2 = 1 by omega) with z | z
      · rw [z, show (s + 1) % 2 = 1 by omega]; omega
      · rw [z, show (s + 1) % 2 = 0 by omega]; omega
    · have e0 : W0 q (p :: W) = p :: W0 q W := by unfold W0; rw [List.filter_cons, decide_eq_false hq]; rfl
      have e1 : W1 q (p :: W) = W1 q W := by unfold W1; rw [List.filter_cons, decide_eq_false hq]; rfl
      rw [e0, e1, ev_cons, sgF_not hq, sgF_not hq]
      exact ⟨by omega, by omega⟩
theorem wq_inj {n : Nat} {R T : List Int} (o : RowOk ((n + 1 : Nat) : Int) R) (o' : RowOk ((n + 1 : Nat) : Int) T) (h : (n : Int) ∈ R) (h' : (n : Int) ∈ T) : wq n R = wq n T ↔ R = T := by
  refine ⟨fun e => row_ext o o' fun x => ?_, fun e => by rw [e]⟩
  have := wq_mem (q := (n : Int)) (x := x) (R := R)
  have h2 := wq_mem (q := (n : Int)) (x := x) (R := T)
  rw [e] at this
  by_cases z : x = n
  · rw [z]; exact ⟨fun _ => h', fun _ => h⟩
  · exact ⟨fun w => (h2.mp (this.mpr ⟨w, z⟩)).1, fun w => (this.mp (h2.mpr ⟨w, z⟩)).1⟩
theorem tot_split {n : Nat} {T : List Int} (hT : RowOk ((n + 1 : Nat) : Int) T) : ∀ {W : List Mk}, (∀ p ∈ W, RowOk ((n + 1 : Nat) : Int) p.1) → tot W T = if (n : Int) ∈ T then tot (W1 n W) (wq n T) else tot (W0 n W) T
  | [], _ => by split <;> rfl
  | p :: W, h => by
    have ih := tot_split hT (W := W) fun p hp => h p (List.mem_cons_of_mem _ hp)
    have hp := h p List.mem_cons_self
    rw [tot_cons, ih]
    by_cases hq : (n : Int) ∈ p.1
    · have e0 : W0 n (p :: W) = W0 n W := by unfold W0; rw [List.filter_cons, decide_eq_true hq]; rfl
      have e1 : W1 n (p :: W) = (wq n p.1, p.2) :: W1 n W := by unfold W1; rw [List.filter_cons, decide_eq_true hq]; rfl
      rw [e0, e1, tot_cons]
      by_cases hqT : (n : Int) ∈ T
      · rw [if_pos hqT, if_pos hqT]
        congr 1
        by_cases e : p.1 = T
        · rw [if_pos e, if_pos (by rw [e])]
        · rw [if_neg e, if_neg fun z => e ((wq_inj hp hT hq hqT).mp z)]
      · rw [if_neg hqT, if_neg hqT, if_neg fun (e : p.1 = T) => hqT (e ▸ hq), Int.zero_add]
    · have e0 : W0 n (p :: W) = p :: W0 n W := by unfold W0; rw [List.filter_cons, decide_eq_false hq]; rfl
      have e1 : W1 n (p :: W) = W1 n W := by unfold W1; rw [List.filter_cons, decide_eq_false hq]; rfl
      rw [e0, e1, tot_cons]
      by_cases hqT : (n : Int) ∈ T
      · rw [if_pos hqT, if_pos hqT, if_neg fun (e : p.1 = T) => hq (e ▸ hqT), Int.zero_add]
      · rw [if_neg hqT, if_neg hqT]
theorem sums_zero : ∀ (n : Nat) {W : List Mk}, (∀ p ∈ W, RowOk (n : Int) p.1) → (∀ f : Int → Int, (∀ x, f x = 0 ∨ f x = 1) → ev W f % 3 = 0) → ∀ {T : List Int}, RowOk (n : Int) T → tot W T % 3 = 0
  | 0, W, hW, hf, T, hT => by
    have nl : ∀ {R : List Int}, RowOk ((0 : Nat) : Int) R → R = [] := fun {R} o => by
      have := o.len
      exact List.length_eq_zero_iff.mp (by omega)
    have hT := nl hT
    subst hT
    have := hf (fun _ => 0) fun _ => .inl rfl
    have e : ev W (fun _ => 0) = tot W [] := by
      unfold ev tot
      congr 1
      refine List.map_congr_left fun p hp => ?_
      rw [nl (hW p hp), if_pos rfl]
      show p.2 * 1 = p.2
      omega
    rw [← e]; exact this
  | n + 1, W, hW, hf, T, hT => by
    have ndW : ∀ p ∈ W, p.1.Nodup := fun p hp => lt_nodup (hW p hp).srt
    have h0 : ∀ p ∈ W0 n W, RowOk (n : Int) p.1 := fun p hp => by
      obtain ⟨a, b⟩ := List.mem_filter.mp hp
      exact rowOk_not (hW p a) (by simpa using b)
    have h1 : ∀ p ∈ W1 n W, RowOk (n : Int) p.1 := fun p hp => by
      obtain ⟨r, hr, rfl⟩ := List.mem_map.mp hp
      exact wq_ok (hW r (List.mem_filter.mp hr).1)
    have key : ∀ f : Int → Int, (∀ x, f x = 0 ∨ f x = 1) → ev (W0 n W) f % 3 = 0 ∧ ev (W1 n W) f % 3 = 0 := fun f hf2 => by
      have u : ∀ a : Int, (a = 0 ∨ a = 1) → ∀ x, upd f n a x = 0 ∨ upd f n a x = 1 := fun a ha x => by
        unfold upd
        split
        · exact ha
        · exact hf2 x
      have a0 := hf _ (u 0 (.inl rfl))
      have a1 := hf _ (u 1 (.inr rfl))
      obtain ⟨s0, s1⟩ := ev_split (q := (n : Int)) (f := f) ndW
      omega
    rw [tot_split hT hW]
    split
    · exact sums_zero n h1 (fun f h => (key f h).2) (wq_ok hT)
    · rename_i hn
      exact sums_zero n h0 (fun f h => (key f h).1) (rowOk_not hT hn)
theorem ev_app {W V : List Mk} {f : Int → Int} : ev (W ++ V) f = ev W f + ev V f := by unfold ev; rw [List.map_append, List.sum_append]
theorem tot_app {W V : List Mk} {T : List Int} : tot (W ++ V) T = tot W T + tot V T := by unfold tot; rw [List.map_append, List.sum_append]
def negW (W : List Mk) : List Mk := W.map fun p => (p.1, - p.2)
theorem ev_neg {f : Int → Int} : ∀ {W : List Mk}, ev (negW W) f = - ev W f
  | [] => rfl
  | p :: W => by
    have ih := ev_neg (f := f) (W := W)
    have : negW (p :: W) = (p.1, - p.2) :: negW W := rfl
    rw [this, ev_cons, ev_cons, ih]
    show - p.2 * sgF p.1 f + _ = _
    rw [Int.neg_mul]; omega
theorem tot_neg {T : List Int} : ∀ {W : List Mk}, tot (negW W) T = - tot W T
  | [] => rfl
  | p :: W => by
    have ih := tot_neg (T := T) (W := W)
    have : negW (p :: W) = (p.1, - p.2) :: negW W := rfl
    rw [this, tot_cons, tot_cons, ih]
    show (if p.1 = T then - p.2 else 0) + _ = _
    split <;> omega
theorem tot_cf {T : List Int} : ∀ {M : List Mk}, (M.map (·.1)).Nodup → tot M T = cf M T
  | [], _ => rfl
  | p :: M, nd => by
    rw [List.map_cons, List.nodup_cons] at nd
    rw [tot_cons, cf_cons, tot_cf nd.2]
    by_cases e : p.1 = T
    · rw [if_pos e, if_pos e, cf_none (by rw [← e]; exact nd.1)]; omega
    · rw [if_neg e, if_neg e]; omega
def asF (m : Int) (f : Int → Int) : List Int := (rngI 0 m).map f
theorem asF_ok {m : Int} {f : Int → Int} (m0 : 0 ≤ m) (hf : ∀ x, f x = 0 ∨ f x = 1) : AnsOk m (asF m f) :=
  ⟨by unfold asF; rw [List.length_map]; exact rngI_len m0, fun x hx => by
    obtain ⟨q, _, rfl⟩ := List.mem_map.mp hx
    exact hf q⟩
theorem asF_sg {m : Int} {f : Int → Int} {R : List Int} (o : RowOk m R) : sgI R (asF m f) = sgF R f := by
  unfold sgI sgF
  have : R.map (ansI (asF m f)) = R.map f := List.map_congr_left fun q hq => by
    obtain ⟨q0, q1⟩ := o.mem q hq
    unfold ansI asF
    rw [List.getElem?_map, rngI_get (by omega), show ((q.toNat : Nat) : Int) = q by omega]; rfl
  rw [this]
def csum (M : List Mk) (as : List Int) : Int := (M.map fun p => p.2 * sgI p.1 as).sum
theorem asF_csum {m : Int} {f : Int → Int} {M : List Mk} (o : ∀ p ∈ M, RowOk m p.1) : csum M (asF m f) = ev M f := by
  unfold csum ev
  congr 1
  exact List.map_congr_left fun p hp => by rw [asF_sg (o p hp)]
theorem comeI_eq {b : Int} {F : List Int} {M : List Mk} {as : List Int} : comeI b F M as = [csum M as % 3, (csum M as + sgI F as * (1 + b)) % 3, (csum M as + sgI F as * (1 + b) * 2) % 3] := rfl
theorem sums_uniqK {m b b' : Int} {F F' : List Int} {M M' : List Mk} (m0 : 0 ≤ m) (hb : 0 ≤ b ∧ b ≤ 1) (hb' : 0 ≤ b' ∧ b' ≤ 1) (hF : RowOk m F) (hF' : RowOk m F') (hM : MsOk m M) (hM' : MsOk m M')
    (h : ∀ as, AnsOk m as → comeI b F M as = comeI b' F' M' as) : b = b' ∧ F = F' ∧ ∀ T, cf M T = cf M' T := by
  obtain ⟨n, rfl⟩ : ∃ n : Nat, m = n := ⟨m.toNat, by omega⟩
  have key : ∀ f : Int → Int, (∀ x, f x = 0 ∨ f x = 1) → ev [(F, 1 + b), (F', - (1 + b'))] f % 3 = 0 ∧ ev (M ++ negW M') f % 3 = 0 := fun f hf => by
    have e := h _ (asF_ok m0 hf)
    rw [comeI_eq, comeI_eq, asF_sg hF, asF_sg hF', asF_csum (fun p hp => (hM.ok p hp).row), asF_csum (fun p hp => (hM'.ok p hp).row)] at e
    simp only [List.cons.injEq, and_true] at e
    obtain ⟨e1, e2, _⟩ := e
    rw [ev_app, ev_neg, ev_cons, ev_cons]
    show ((1 + b) * sgF F f + (-(1 + b') * sgF F' f + 0)) % 3 = 0 ∧ _
    rw [Int.mul_comm (1 + b), Int.neg_mul, Int.mul_comm (1 + b')]
    omega
  have r1 := sums_zero n (W := [(F, 1 + b), (F', - (1 + b'))]) (fun p hp => by
    rcases List.mem_cons.mp hp with rfl | hp
    · exact hF
    · rw [List.mem_singleton.mp hp]; exact hF') (fun f hf => (key f hf).1) hF
  rw [tot_cons, tot_cons, if_pos rfl] at r1
  have r1 : (1 + b + ((if F' = F then - (1 + b') else 0) + 0)) % 3 = 0 := r1
  have hFF : F' = F := by
    by_cases z : F' = F
    · exact z
    · rw [if_neg z] at r1; omega
  rw [if_pos hFF] at r1
  refine ⟨by omega, hFF.symm, fun T => ?_⟩
  have a := hM.cf3 T
  have a' := hM'.cf3 T
  by_cases z : cf M T = 0 ∧ cf M' T = 0
  · rw [z.1, z.2]
  · have hT : RowOk (n : Int) T := by
      by_cases z1 : cf M T = 0
      · exact hM'.row fun z2 => z ⟨z1, z2⟩
      · exact hM.row z1
    have r2 := sums_zero n (W := M ++ negW M') (fun p hp => by
      rcases List.mem_append.mp hp with hp | hp
      · exact (hM.ok p hp).row
      · obtain ⟨r, hr, rfl⟩ := List.mem_map.mp hp
        exact (hM'.ok r hr).row) (fun f hf => (key f hf).2) hT
    rw [tot_app, tot_neg, tot_cf hM.nd, tot_cf hM'.nd] at r2
    omega
theorem sums_uniq {m b b' : Int} {F F' : List Int} {M M' : List Mk} (m0 : 0 ≤ m) (hb : 0 ≤ b ∧ b ≤ 1) (hb' : 0 ≤ b' ∧ b' ≤ 1) (hF : RowOk m F) (hF' : RowOk m F') (hM : MsOk m M) (hM' : MsOk m M')
    (h : ∀ as, AnsL m as → comeI b F M as = comeI b' F' M' as) : b = b' ∧ F = F' ∧ ∀ T, cf M T = cf M' T := sums_uniqK m0 hb hb' hF hF' hM hM' fun as ha => h as ha.l

theorem csum_cons (p : Mk) (M : List Mk) (as : List Int) : csum (p :: M) as = p.2 * sgI p.1 as + csum M as := by unfold csum; rw [List.map_cons, List.sum_cons]
theorem sum_permI {l l' : List Int} (h : l.Perm l') : l.sum = l'.sum := by
  induction h with
  | nil => rfl
  | cons x _ ih => rw [List.sum_cons, List.sum_cons, ih]
  | swap x y l => rw [List.sum_cons, List.sum_cons, List.sum_cons, List.sum_cons]; omega
  | trans _ _ h1 h2 => rw [h1, h2]
theorem csum_perm {M M' : List Mk} {as : List Int} (h : M.Perm M') : csum M as = csum M' as := sum_permI (h.map _)
theorem mod_sub {a b : Int} (h : a % 3 = b % 3) : ∃ t, a = b + 3 * t := ⟨(a - b) / 3, by omega⟩
theorem rows3 {c e c' e' : Int} (h1 : (c - c') % 3 = 0) (h2 : (e - e') % 3 = 0) : [c % 3, (c + e) % 3, (c + e * 2) % 3] = [c' % 3, (c' + e') % 3, (c' + e' * 2) % 3] := by
  rw [show c % 3 = c' % 3 by omega, show (c + e) % 3 = (c' + e') % 3 by omega, show (c + e * 2) % 3 = (c' + e' * 2) % 3 by omega]
theorem come_srt {b : Int} {F : List Int} {M : List Mk} {as : List Int} : comeI b F (srtM M) as = comeI b F M as := by
  rw [comeI_eq, comeI_eq, csum_perm (srtM_perm M)]
theorem congr3 {a b c a' b' c' : Int} (h1 : a = a') (h2 : b = b') (h3 : c = c') : [a, b, c] = [a', b', c'] := by rw [h1, h2, h3]

def allI : Nat → List (List Int)
  | 0 => [[]]
  | n + 1 => (allI n).flatMap fun a => [a ++ [0], a ++ [1]]
theorem allI_len : ∀ n, (allI n).length = 2 ^ n
  | 0 => rfl
  | n + 1 => by
    show ((allI n).flatMap fun a => [a ++ [0], a ++ [1]]).length = _
    rw [List.length_flatMap]
    have : (List.map (fun a : List Int => ([a ++ [(0 : Int)], a ++ [1]] : List (List Int)).length) (allI n)) = List.replicate (allI n).length 2 := by
      rw [← List.map_const']; rfl
    rw [this, List.sum_replicate_nat, allI_len n, Nat.pow_succ]
theorem allI_ok : ∀ n, ∀ a ∈ allI n, AnsOk (n : Int) a
  | 0, a, h => by
    rw [List.mem_singleton.mp h]; exact ⟨rfl, fun _ h => nomatch h⟩
  | n + 1, a, h => by
    obtain ⟨b, hb, h⟩ := List.mem_flatMap.mp h
    have := allI_ok n b hb
    simp only [List.mem_cons, List.not_mem_nil, or_false] at h
    rcases h with rfl | rfl
    · refine ⟨by rw [List.length_append, List.length_singleton]; have := this.len; omega, fun x hx => ?_⟩
      rcases List.mem_append.mp hx with h | h
      · exact this.mem x h
      · exact .inl (List.mem_singleton.mp h)
    · refine ⟨by rw [List.length_append, List.length_singleton]; have := this.len; omega, fun x hx => ?_⟩
      rcases List.mem_append.mp hx with h | h
      · exact this.mem x h
      · exact .inr (List.mem_singleton.mp h)
theorem pow_le10 {n : Nat} (h : n ≤ 10) : 2 ^ n ≤ 1024 := Nat.le_trans (Nat.pow_le_pow_right (by decide) h) (by decide)

theorem allI_cons : ∀ n, allI (n + 1) = (allI n).map (fun a => 0 :: a) ++ (allI n).map fun a => 1 :: a
  | 0 => rfl
  | n + 1 => by
    have e : ∀ (x : Int) (l : List (List Int)), (l.map fun a => x :: a).flatMap (fun a => [a ++ [0], a ++ [1]]) = (l.flatMap fun a => [a ++ [0], a ++ [1]]).map fun a => x :: a := fun x l => by
      induction l with
      | nil => rfl
      | cons a l ih => rw [List.map_cons, List.flatMap_cons, List.flatMap_cons, ih, List.map_append]; rfl
    show (allI (n + 1)).flatMap _ = ((allI n).flatMap _).map _ ++ ((allI n).flatMap _).map _
    rw [allI_cons n, List.flatMap_append, e, e]
theorem allI_all : ∀ (n : Nat) {as : List Int}, as.length = n → (∀ x ∈ as, x = 0 ∨ x = 1) → as ∈ allI n
  | 0, [], _, _ => List.mem_singleton.mpr rfl
  | 0, _ :: _, h, _ => nomatch h
  | n + 1, [], h, _ => nomatch h
  | n + 1, x :: as, h, hm => by
    rw [allI_cons, List.mem_append]
    have ih := allI_all n (as := as) (by simpa using h) fun y hy => hm y (List.mem_cons_of_mem _ hy)
    rcases hm x List.mem_cons_self with rfl | rfl
    · exact .inl (List.mem_map.mpr ⟨as, ih, rfl⟩)
    · exact .inr (List.mem_map.mpr ⟨as, ih, rfl⟩)
theorem allI_nd : ∀ n, (allI n).Nodup
  | 0 => List.nodup_cons.mpr ⟨(fun h => nomatch h), List.nodup_nil⟩
  | n + 1 => by
    have ih := allI_nd n
    have h2 : ∀ x : Int, ((allI n).map fun a => x :: a).Nodup := fun x => List.Pairwise.map _ (fun a b h e => h (List.cons.inj e).2) ih
    rw [allI_cons, List.nodup_append]
    refine ⟨h2 0, h2 1, fun a ha b hb e => ?_⟩
    obtain ⟨u, _, rfl⟩ := List.mem_map.mp ha
    obtain ⟨v, _, rfl⟩ := List.mem_map.mp hb
    cases e
theorem allI_zero : ∀ n, (allI n)[0]? = some (List.replicate n 0)
  | 0 => rfl
  | n + 1 => by
    have ih := allI_zero n
    have l : 0 < (allI n).length := (List.getElem?_eq_some_iff.mp ih).1
    rw [allI_cons, List.getElem?_append_left (by rw [List.length_map]; exact l), List.getElem?_map, ih]; rfl

def sp__law_all_answers : SpD := fun ds S Q _ => ∃ n : Nat, ds = [.int n] ∧ n ≤ 10 ∧ ∀ p, S p = none → Q (.ref p) (sput S p (.lst ((allI n).map D.tpk)))
abbrev s__law_all_answers : Stmt := topS 14
abbrev n__law_all_answers : List Str := ["_law_questions", "_law_found", "_law_k", "_law_longer", "_law_answers"]
abbrev p__law_all_answers : List Str := ["_law_questions"]
theorem sc__law_all_answers : FnScope n__law_all_answers p__law_all_answers (defScope s__law_all_answers) := ⟨rfl, rfl, rfl, by decide +kernel, rfl, by decide +kernel, by decide +kernel⟩
theorem ok__law_all_answers {f : Addr} {fd : FuncData} (F : Fun K "_law_all_answers" "_law_all_answers" s__law_all_answers f fd) (m_range : mg "range" = none) : FnD P w K mg base (k + 1) f fd p__law_all_answers sp__law_all_answers := by
  refine FnD.of F sc__law_all_answers ?_ (fun X C E' cdv A outer s H E hX hr hx po hc => by
    subst hX
    exact (dss_cons (ds_set (i := 1) sc__law_all_answers.nd rfl (de_lst true (da_cons (de_tupK da_nil) da_nil)))
      (dss_cons (ds_for po rfl (di_r1 (by rfl) m_range (dv 0)) (dg_name (i := 2) sc__law_all_answers.nd rfl) (dss_cons (ds_set (i := 3) sc__law_all_answers.nd rfl (de_lst true da_nil))
      (dss_cons (ds_for po rfl (di_seq (dv 1)) (dg_name (i := 4) sc__law_all_answers.nd rfl) (dss_one (ds_expr (de_m PySem.F.plainAttrs_list PySem.F.slot_list_extend PySem.F.type_list_extend mt_ext (dv 3) (da_cons (de_lst false (da_cons (de_op or_addK (dv 4) (de_tupK (da_cons de_int da_nil))) (da_cons (de_op or_addK (dv 4) (de_tupK (da_cons de_int da_nil))) da_nil))) da_nil)))))
      (dss_one (ds_set (i := 1) sc__law_all_answers.nd rfl (dv 3))))))
      (dss_one (ds_ret (dv 1)))))) ?_
  · rintro ds S Q E ⟨n, rfl, _⟩; rfl
  · rintro ds S Q E' ⟨n, rfl, hn, q⟩
    rw [show startD n__law_all_answers [.int n] = [some (.int n), none, none, none, none] from rfl]
    simp only [dNext, dSeq, dBreak, dCont, dDrop, dRet, dRetN, dIf, gN, gsNil, gsCons, gT, dAsg, dSet, dPar, gSb, dAug, dFor, dVar, dC, dOp, dTst, dChain, dNot, dAnd, dOr, dNotV, dAndV, dOrV, dNeg, dNil, dCons, dTup, dLst, dCB, iiR, subR, addR, isNR, eqR_int, eqR_bl, inR, dSo, dNo, dSl, dLc, one, two, tupR, lstR, allR, anyR, sumR, intR, strR, sortR, dTupK, addKR, tupKR, dRg1, dRg2, dTupRg, dLstRg, iD, iR1, iR2, dMt, dMt0, onL, appR, extR, popR, popAtR, revR, clrR, idxR, dTIdx, iEn, iZp, dIsLT, dCall, slot, wip, ixR_tup, ixR_tpk, ixR_lst, ixR_scr, lenR_tup, lenR_tpk, lenR_lst, lenR_scr, lenR_str, walkR_tup, walkR_tpk, walkR_lst, walkR_scr, walkR_str, itsR_tup, itsR_tpk, itsR_lst, slR_tup, slR_tpk, slR_lst, slR_scr, mk_t, mk_f, asL_lst, asL_scr, asQ_tup, asQ_tpk, asQ_lst, asQ_scr, asM_lst, asT_tup, asT_tpk, atI_0, atI_1, List.map_cons, List.map_nil, List.set_cons_zero, List.set_cons_succ, List.getElem?_cons_zero, List.getElem?_cons_succ, Option.some.injEq, exists_eq_left', exists_eq_left, true_and, and_true, setR_ref', ixR_ref', lenR_ref', asQ_ref', asL_ref', isltR_int, isltR_bl, isltR_str, isltR_non, isiR_int_bool, isiR_bl_bool, isiR_str_bool, isiR_non_bool, eqR_str, eqR_non, dPar3, iRv, insR, mulLR, rpiR, atI_2, ixR_d0, ixR_d1, ixR_d2, seqP_eq]
    refine ⟨[], rfl, le_sz (by decide), le_sz (by decide), fun p np => ⟨by omega, ?_⟩⟩
    refine for_inv (fun i e S2 => ∃ p y2 y3 y4, e = [some (.int n), some (.ref p), y2, y3, y4] ∧ S p = none ∧ S2 p = some (.lst ((allI i).map D.tpk)) ∧ Ext S S2) ⟨p, _, _, _, rfl, np, sput_same, Ext.refl.put np⟩ (fun _ _ _ _ _ => trivial) (fun i z e S2 N hz h hN => ?_) fun e S2 h => ?_
    · obtain ⟨p, y2, y3, y4, rfl, np, hp, hx⟩ := h
      have hi := (List.getElem?_eq_some_iff.mp hz).1
      rw [List.length_map] at hi
      have lr := rngI_len (n := (n : Int)) (by omega)
      have li := allI_len i
      have lp := pow_le10 (n := i) (by omega)
      simp only [dNext, dSeq, dBreak, dCont, dDrop, dRet, dRetN, dIf, gN, gsNil, gsCons, gT, dAsg, dSet, dPar, gSb, dAug, dFor, dVar, dC, dOp, dTst, dChain, dNot, dAnd, dOr, dNotV, dAndV, dOrV, dNeg, dNil, dCons, dTup, dLst, dCB, iiR, subR, addR, isNR, eqR_int, eqR_bl, inR, dSo, dNo, dSl, dLc, one, two, tupR, lstR, allR, anyR, sumR, intR, strR, sortR, dTupK, addKR, tupKR, dRg1, dRg2, dTupRg, dLstRg, iD, iR1, iR2, dMt, dMt0, onL, appR, extR, popR, popAtR, revR, clrR, idxR, dTIdx, iEn, iZp, dIsLT, dCall, slot, wip, ixR_tup, ixR_tpk, ixR_lst, ixR_scr, lenR_tup, lenR_tpk, lenR_lst, lenR_scr, lenR_str, walkR_tup, walkR_tpk, walkR_lst, walkR_scr, walkR_str, itsR_tup, itsR_tpk, itsR_lst, slR_tup, slR_tpk, slR_lst, slR_scr, mk_t, mk_f, asL_lst, asL_scr, asQ_tup, asQ_tpk, asQ_lst, asQ_scr, asM_lst, asT_tup, asT_tpk, atI_0, atI_1, List.map_cons, List.map_nil, List.set_cons_zero, List.set_cons_succ, List.getElem?_cons_zero, List.getElem?_cons_succ, Option.some.injEq, exists_eq_left', exists_eq_left, true_and, and_true, setR_ref', ixR_ref', lenR_ref', asQ_ref', asL_ref', isltR_int, isltR_bl, isltR_str, isltR_non, isiR_int_bool, isiR_bl_bool, isiR_str_bool, isiR_non_bool, eqR_str, eqR_non, dPar3, iRv, insR, mulLR, rpiR, atI_2, ixR_d0, ixR_d1, ixR_d2, seqP_eq]
      refine ⟨le_sz (by decide), fun r nr => ?_⟩
      have rp : p ≠ r := ne_none hp nr |>.symm
      have hp2 : ∀ c, sput S2 r c p = some (.lst ((allI i).map D.tpk)) := fun c => (sput_ne rp).trans hp
      rw [walkR_ref (hp2 _)]
      refine for_inv (fun j e S3 => ∃ y4, e = [some (.int n), some (.ref p), some z, some (.ref r), y4] ∧ S3 = sput S2 r (.lst ((((allI i).take j).flatMap fun a => [a ++ [0], a ++ [1]]).map D.tpk))) ⟨_, rfl, rfl⟩ (fun j e S3 _ h => by obtain ⟨_, _, rfl⟩ := h; exact asL_ref (hp2 _)) (fun j z e S3 M hz h hM => ?_) fun e S3 h => ?_
      · obtain ⟨y4, rfl, rfl⟩ := h
        rw [List.getElem?_map] at hz
        cases ha : (allI i)[j]? with
        | none => rw [ha] at hz; cases hz
        | some a =>
          rw [ha] at hz; cases hz
          have hj := (List.getElem?_eq_some_iff.mp ha).1
          have al := (allI_ok i a (List.mem_of_getElem? ha)).len
          have fl : ((((allI i).take j).flatMap fun a => [a ++ [0], a ++ [1]]).length) = 2 * j := by
            have : ∀ l : List (List Int), (l.flatMap fun a => [a ++ [(0 : Int)], a ++ [1]]).length = 2 * l.length := fun l => by
              induction l with
              | nil => rfl
              | cons x r ih => rw [List.flatMap_cons, List.length_append, ih]; simp only [List.length_cons, List.length_nil]; omega
            rw [this, List.length_take]; omega
          have fl2 : (((((allI i).take j).flatMap fun a => [a ++ [0], a ++ [1]]).map D.tpk).length) = 2 * j := by rw [List.length_map, fl]
          ((try dsimp only [List.set_cons_zero, List.set_cons_succ, startD, wip, List.map_cons, List.map_nil, n__law_all_answers]); (conv => whnf); (repeat (first | ((with_reducible refine SeqP.mk ?_); (try dsimp only [List.set_cons_zero, List.set_cons_succ, startD, wip, List.map_cons, List.map_nil, n__law_all_answers]); (conv => whnf)) | (with_reducible apply Exists.intro) | ((with_reducible apply And.intro); (exact sdZ); (conv => whnf)) | ((first | with_reducible refine eqO_int_f ?_ | with_reducible refine eqO_int_t ?_ | with_reducible refine eqO_str_f ?_ | with_reducible refine eqO_str_t ?_ | with_reducible refine eqO_bl_f ?_ | with_reducible refine eqO_bl_t ?_ | with_reducible refine eqO_KK_f ?_ | with_reducible refine eqO_KK_t ?_ | with_reducible refine eqO_LL_f ?_ | with_reducible refine eqO_LL_t ?_); (conv => whnf)) | ((try dsimp only); (first | (rw [decide_eq_true]; rotate_left; (focus ((first | assumption | omega | rfl | decide); done))) | (rw [decide_eq_false]; rotate_left; (focus ((first | assumption | omega | rfl | decide); done)))); (conv => whnf)))))
          · rw [sput_sput]
            refine hM _ _ ⟨_, rfl, ?_⟩
            rw [List.take_add_one, ha, List.flatMap_append, List.map_append]; rfl
      · obtain ⟨y4, rfl, rfl⟩ := h
        rw [List.length_map, List.take_length]
        simp only [dNext, dSeq, dBreak, dCont, dDrop, dRet, dRetN, dIf, gN, gsNil, gsCons, gT, dAsg, dSet, dPar, gSb, dAug, dFor, dVar, dC, dOp, dTst, dChain, dNot, dAnd, dOr, dNotV, dAndV, dOrV, dNeg, dNil, dCons, dTup, dLst, dCB, iiR, subR, addR, isNR, eqR_int, eqR_bl, inR, dSo, dNo, dSl, dLc, one, two, tupR, lstR, allR, anyR, sumR, intR, strR, sortR, dTupK, addKR, tupKR, dRg1, dRg2, dTupRg, dLstRg, iD, iR1, iR2, dMt, dMt0, onL, appR, extR, popR, popAtR, revR, clrR, idxR, dTIdx, iEn, iZp, dIsLT, dCall, slot, wip, ixR_tup, ixR_tpk, ixR_lst, ixR_scr, lenR_tup, lenR_tpk, lenR_lst, lenR_scr, lenR_str, walkR_tup, walkR_tpk, walkR_lst, walkR_scr, walkR_str, itsR_tup, itsR_tpk, itsR_lst, slR_tup, slR_tpk, slR_lst, slR_scr, mk_t, mk_f, asL_lst, asL_scr, asQ_tup, asQ_tpk, asQ_lst, asQ_scr, asM_lst, asT_tup, asT_tpk, atI_0, atI_1, List.map_cons, List.map_nil, List.set_cons_zero, List.set_cons_succ, List.getElem?_cons_zero, List.getElem?_cons_succ, Option.some.injEq, exists_eq_left', exists_eq_left, true_and, and_true, setR_ref', ixR_ref', lenR_ref', asQ_ref', asL_ref', isltR_int, isltR_bl, isltR_str, isltR_non, isiR_int_bool, isiR_bl_bool, isiR_str_bool, isiR_non_bool, eqR_str, eqR_non, dPar3, iRv, insR, mulLR, rpiR, atI_2, ixR_d0, ixR_d1, ixR_d2, seqP_eq]
        refine hN _ _ ⟨r, _, _, _, rfl, ?_, sput_same, hx.put nr⟩
        rcases hx r with h | h
        · exact h
        · rw [← h]; exact nr
    · obtain ⟨p, y2, y3, y4, rfl, np, hp, hx⟩ := h
      have lr := rngI_len (n := (n : Int)) (by omega)
      rw [List.length_map, show (rngI 0 (n : Int)).length = n by omega] at hp
      simp only [dNext, dSeq, dBreak, dCont, dDrop, dRet, dRetN, dIf, gN, gsNil, gsCons, gT, dAsg, dSet, dPar, gSb, dAug, dFor, dVar, dC, dOp, dTst, dChain, dNot, dAnd, dOr, dNotV, dAndV, dOrV, dNeg, dNil, dCons, dTup, dLst, dCB, iiR, subR, addR, isNR, eqR_int, eqR_bl, inR, dSo, dNo, dSl, dLc, one, two, tupR, lstR, allR, anyR, sumR, intR, strR, sortR, dTupK, addKR, tupKR, dRg1, dRg2, dTupRg, dLstRg, iD, iR1, iR2, dMt, dMt0, onL, appR, extR, popR, popAtR, revR, clrR, idxR, dTIdx, iEn, iZp, dIsLT, dCall, slot, wip, ixR_tup, ixR_tpk, ixR_lst, ixR_scr, lenR_tup, lenR_tpk, lenR_lst, lenR_scr, lenR_str, walkR_tup, walkR_tpk, walkR_lst, walkR_scr, walkR_str, itsR_tup, itsR_tpk, itsR_lst, slR_tup, slR_tpk, slR_lst, slR_scr, mk_t, mk_f, asL_lst, asL_scr, asQ_tup, asQ_tpk, asQ_lst, asQ_scr, asM_lst, asT_tup, asT_tpk, atI_0, atI_1, List.map_cons, List.map_nil, List.set_cons_zero, List.set_cons_succ, List.getElem?_cons_zero, List.getElem?_cons_succ, Option.some.injEq, exists_eq_left', exists_eq_left, true_and, and_true, setR_ref', ixR_ref', lenR_ref', asQ_ref', asL_ref', isltR_int, isltR_bl, isltR_str, isltR_non, isiR_int_bool, isiR_bl_bool, isiR_str_bool, isiR_non_bool, eqR_str, eqR_non, dPar3, iRv, insR, mulLR, rpiR, atI_2, ixR_d0, ixR_d1, ixR_d2, seqP_eq]
      exact fin_drop (hx.dropTo hp) (q p np)


/-! the sums of worths by all answers -/
def sprI : Nat → Int → List Int → List Mk
  | 0, _, W => [([], (W[0]?).getD 0)]
  | n + 1, q, W => ((sprI n (q + 1) (W.take (2 ^ n))).zip (sprI n (q + 1) (W.drop (2 ^ n)))).flatMap fun p => [(p.1.1, (p.1.2 - (p.2.2 - p.1.2) % 3) % 3), (q :: p.1.1, (p.2.2 - p.1.2) % 3)]
def sprK : Nat → Int → List (List Int)
  | 0, _ => [[]]
  | n + 1, q => (sprK n (q + 1)).flatMap fun R => [R, q :: R]
theorem zip_keys : ∀ {A B : List Mk}, A.map (·.1) = B.map (·.1) → ∀ p ∈ A.zip B, p.1.1 = p.2.1
  | [], _, _, p, h => nomatch h
  | _ :: _, [], h, _, _ => nomatch h
  | a :: A, b :: B, h, p, hp => by
    rw [List.map_cons, List.map_cons, List.cons.injEq] at h
    rw [List.zip_cons_cons] at hp
    rcases List.mem_cons.mp hp with rfl | hp
    · exact h.1
    · exact zip_keys h.2 p hp
theorem spr_keys : ∀ (n : Nat) (q : Int) (W : List Int), (sprI n q W).map (·.1) = sprK n q
  | 0, _, _ => rfl
  | n + 1, q, W => by
    have h1 := spr_keys n (q + 1) (W.take (2 ^ n))
    have h2 := spr_keys n (q + 1) (W.drop (2 ^ n))
    have hl : (sprI n (q + 1) (W.take (2 ^ n))).length = (sprI n (q + 1) (W.drop (2 ^ n))).length := by
      have := congrArg List.length (h1.trans h2.symm)
      simpa using this
    show List.map (fun p : Mk => p.1) (List.flatMap _ _) = (sprK n (q + 1)).flatMap _
    rw [← h1]
    generalize sprI n (q + 1) (W.take (2 ^ n)) = A at *
    generalize sprI n (q + 1) (W.drop (2 ^ n)) = B at *
    clear h1 h2
    induction A generalizing B with
    | nil => rfl
    | cons a A ih =>
      cases B with
      | nil => cases hl
      | cons b B =>
        rw [List.zip_cons_cons, List.flatMap_cons, List.map_append, ih B (by simpa using hl)]; rfl
theorem sprK_row : ∀ (n : Nat) (q : Int), ∀ R ∈ sprK n q, (∀ x ∈ R, q ≤ x ∧ x < q + n) ∧ R.Pairwise (· < ·)
  | 0, q, R, h => by
    rw [List.mem_singleton.mp h]
    exact ⟨(fun _ z => nomatch z), List.Pairwise.nil⟩
  | n + 1, q, R, h => by
    obtain ⟨R', hR, h⟩ := List.mem_flatMap.mp h
    obtain ⟨i1, i2⟩ := sprK_row n (q + 1) R' hR
    simp only [List.mem_cons, List.not_mem_nil, or_false] at h
    rcases h with rfl | rfl
    · exact ⟨fun x hx => by have := i1 x hx; omega, i2⟩
    · refine ⟨fun x hx => ?_, List.pairwise_cons.mpr ⟨fun x hx => by have := i1 x hx; omega, i2⟩⟩
      rcases List.mem_cons.mp hx with rfl | hx
      · omega
      · have := i1 x hx; omega
theorem sprK_nd : ∀ (n : Nat) (q : Int), (sprK n q).Nodup
  | 0, _ => List.nodup_cons.mpr ⟨(fun z => nomatch z), List.nodup_nil⟩
  | n + 1, q => by
    have ih := sprK_nd n (q + 1)
    have row := sprK_row n (q + 1)
    show ((sprK n (q + 1)).flatMap fun R => [R, q :: R]).Nodup
    generalize sprK n (q + 1) = L at *
    induction L with
    | nil => exact List.nodup_nil
    | cons R L ih2 =>
      rw [List.nodup_cons] at ih
      have row' : ∀ R' ∈ L, (∀ x ∈ R', q + 1 ≤ x ∧ x < q + 1 + n) ∧ R'.Pairwise (· < ·) := fun R' h => row R' (List.mem_cons_of_mem _ h)
      have hq : ∀ R' ∈ R :: L, q ∉ R' := fun R' h hm => by have := (row R' h).1 q hm; omega
      rw [List.flatMap_cons]
      refine List.nodup_append.mpr ⟨?_, ih2 ih.2 row', fun a ha b hb e => ?_⟩
      · refine List.nodup_cons.mpr ⟨fun h => ?_, List.nodup_cons.mpr ⟨(fun z => nomatch z), List.nodup_nil⟩⟩
        have := List.mem_singleton.mp h
        exact hq R List.mem_cons_self (by rw [this]; exact List.mem_cons_self)
      · subst e
        obtain ⟨R', hR', hb⟩ := List.mem_flatMap.mp hb
        simp only [List.mem_cons, List.not_mem_nil, or_false] at ha hb
        rcases ha with rfl | rfl <;> rcases hb with h | h
        · subst h; exact ih.1 hR'
        · exact hq a List.mem_cons_self (by rw [h]; exact List.mem_cons_self)
        · exact hq R' (List.mem_cons_of_mem _ hR') (by rw [← h]; exact List.mem_cons_self)
        · have : R = R' := by simpa using h
          subst this; exact ih.1 hR'
theorem spr_len (n : Nat) (q : Int) (W : List Int) : (sprI n q W).length = 2 ^ n := by
  have h : ∀ (n : Nat) (q : Int), (sprK n q).length = 2 ^ n := fun n => by
    induction n with
    | zero => intro q; rfl
    | succ n ih =>
      intro q
      show ((sprK n (q + 1)).flatMap fun R => [R, q :: R]).length = _
      have : ∀ L : List (List Int), (L.flatMap fun R => [R, q :: R]).length = 2 * L.length := fun L => by
        induction L with
        | nil => rfl
        | cons a L ih => rw [List.flatMap_cons, List.length_append, ih]; simp only [List.length_cons, List.length_nil]; omega
      rw [this, ih, Nat.pow_succ]; omega
  have := congrArg List.length (spr_keys n q W)
  rw [List.length_map] at this
  rw [this, h]
theorem sgI_tail {R as bs : List Int} {a : Int} {p : List Int} : sgI R (p ++ a :: as) = sgI R ((p ++ [a]) ++ as) := by rw [List.append_assoc]; rfl
theorem sgI_cons {R as : List Int} {q : Int} (h : ansI as q = 0 ∨ ansI as q = 1) : sgI (q :: R) as = if ansI as q = 0 then sgI R as else 3 - sgI R as := by
  unfold sgI
  rw [List.map_cons, List.sum_cons]
  rcases h with h | h
  · rw [h, if_pos rfl]; congr 1; omega
  · rw [h, if_neg (by decide)]; omega
theorem csum_app (A B : List Mk) (as : List Int) : csum (A ++ B) as = csum A as + csum B as := by
  unfold csum; rw [List.map_append, List.sum_append]
theorem spr_zip {as : List Int} {q : Int} (h : ansI as q = 0 ∨ ansI as q = 1) : ∀ {A B : List Mk}, A.map (·.1) = B.map (·.1) →
    ∃ t, csum ((A.zip B).flatMap fun p => [(p.1.1, (p.1.2 - (p.2.2 - p.1.2) % 3) % 3), (q :: p.1.1, (p.2.2 - p.1.2) % 3)]) as = (if ansI as q = 0 then csum A as else csum B as) + 3 * t
  | [], [], _ => ⟨0, by
    show (0 : Int) = _
    rcases h with h | h
    · rw [h, if_pos rfl]; rfl
    · rw [h, if_neg (by decide)]; rfl⟩
  | [], _ :: _, e => nomatch e
  | _ :: _, [], e => nomatch e
  | a :: A, b :: B, e => by
    rw [List.map_cons, List.map_cons, List.cons.injEq] at e
    obtain ⟨t, ih⟩ := spr_zip h (A := A) (B := B) e.2
    rw [List.zip_cons_cons, List.flatMap_cons, csum_app, ih]
    have hb : csum [(a.1, (a.2 - (b.2 - a.2) % 3) % 3), (q :: a.1, (b.2 - a.2) % 3)] as = (a.2 - (b.2 - a.2) % 3) % 3 * sgI a.1 as + ((b.2 - a.2) % 3 * sgI (q :: a.1) as + 0) := rfl
    dsimp only
    rw [hb, sgI_cons h]
    have ca : csum (a :: A) as = a.2 * sgI a.1 as + csum A as := csum_cons _ _ _
    have cb : csum (b :: B) as = b.2 * sgI b.1 as + csum B as := csum_cons _ _ _
    have eb : sgI b.1 as = sgI a.1 as := by rw [e.1]
    rw [ca, cb, eb]
    have s12 : sgI a.1 as = 1 ∨ sgI a.1 as = 2 := by unfold sgI; omega
    generalize csum A as = cA at *
    generalize csum B as = cB at *
    rcases h with h | h
    · rw [h, if_pos rfl, if_pos rfl]
      rcases s12 with z | z <;> rw [z]
      · exact ⟨t + ((a.2 - (b.2 - a.2) % 3) % 3 + (b.2 - a.2) % 3 - a.2) / 3, by omega⟩
      · exact ⟨t + ((a.2 - (b.2 - a.2) % 3) % 3 * 2 + (b.2 - a.2) % 3 * 2 - a.2 * 2) / 3, by omega⟩
    · rw [h, if_neg (by decide), if_neg (by decide)]
      rcases s12 with z | z <;> rw [z]
      · exact ⟨t + ((a.2 - (b.2 - a.2) % 3) % 3 + (b.2 - a.2) % 3 * 2 - b.2) / 3, by omega⟩
      · exact ⟨t + ((a.2 - (b.2 - a.2) % 3) % 3 * 2 + (b.2 - a.2) % 3 - b.2 * 2) / 3, by omega⟩
/-- the place of answers among all -/
def ixA : List Int → Nat
  | [] => 0
  | a :: r => (if a = 0 then 0 else 2 ^ r.length) + ixA r
theorem ixA_lt : ∀ (as : List Int), ixA as < 2 ^ as.length
  | [] => by decide
  | a :: r => by
    have := ixA_lt r
    show (if a = 0 then 0 else 2 ^ r.length) + ixA r < 2 ^ (r.length + 1)
    rw [Nat.pow_succ]
    split <;> omega
theorem spr_come : ∀ (n : Nat) (q : Nat) (W : List Int) (p as : List Int), p.length = q → as.length = n → (∀ x ∈ as, x = 0 ∨ x = 1) → W.length = 2 ^ n →
    ∃ t, csum (sprI n (q : Int) W) (p ++ as) = (W[ixA as]?).getD 0 + 3 * t
  | 0, q, W, p, as, hp, ha, _, hW => by
    obtain rfl : as = [] := List.length_eq_zero_iff.mp ha
    refine ⟨0, ?_⟩
    show (W[0]?).getD 0 * sgI [] (p ++ []) + 0 = _
    have : sgI [] (p ++ []) = 1 := rfl
    rw [this]
    show _ = (W[0]?).getD 0 + 3 * 0
    omega
  | n + 1, q, W, p, [], hp, ha, hm, hW => by cases ha
  | n + 1, q, W, p, a :: as, hp, ha, hm, hW => by
    have hl : as.length = n := by simpa using ha
    have hm' : ∀ x ∈ as, x = 0 ∨ x = 1 := fun x hx => hm x (List.mem_cons_of_mem _ hx)
    have hpw : 2 ^ (n + 1) = 2 ^ n + 2 ^ n := by rw [Nat.pow_succ]; omega
    rw [hpw] at hW
    have e : p ++ a :: as = (p ++ [a]) ++ as := by rw [List.append_assoc]; rfl
    have hq : (p ++ [a]).length = q + 1 := by rw [List.length_append, hp]; rfl
    obtain ⟨t0, h0⟩ := spr_come n (q + 1) (W.take (2 ^ n)) (p ++ [a]) as hq hl hm' (by rw [List.length_take]; omega)
    obtain ⟨t1, h1⟩ := spr_come n (q + 1) (W.drop (2 ^ n)) (p ++ [a]) as hq hl hm' (by rw [List.length_drop]; omega)
    have aq : ansI (p ++ a :: as) (q : Int) = a := by
      unfold ansI
      rw [Int.toNat_natCast, List.getElem?_append_right (by omega), hp, Nat.sub_self]; rfl
    have ha01 := hm a List.mem_cons_self
    have keys : (sprI n ((q : Int) + 1) (W.take (2 ^ n))).map (·.1) = (sprI n ((q : Int) + 1) (W.drop (2 ^ n))).map (·.1) := by rw [spr_keys, spr_keys]
    obtain ⟨t, h⟩ := spr_zip (as := p ++ a :: as) (q := (q : Int)) (by rw [aq]; exact ha01) keys
    have hix := ixA_lt as
    rw [hl] at hix
    show ∃ t, csum (List.flatMap _ _) (p ++ a :: as) = _
    rw [h, aq]
    have c1 : ((q : Int) + 1) = ((q + 1 : Nat) : Int) := by omega
    rw [c1, e, h0, h1]
    show ∃ t', (if a = 0 then _ else _) + 3 * t = ((W[(if a = 0 then 0 else 2 ^ as.length) + ixA as]?).getD 0) + 3 * t'
    rcases ha01 with rfl | rfl
    · rw [if_pos rfl, if_pos rfl, Nat.zero_add, List.getElem?_take_of_lt hix]
      exact ⟨t0 + t, by omega⟩
    · rw [if_neg (by decide), if_neg (by decide), hl, List.getElem?_drop]
      exact ⟨t1 + t, by omega⟩
theorem allI_ix : ∀ (n : Nat) {as : List Int}, as.length = n → (∀ x ∈ as, x = 0 ∨ x = 1) → (allI n)[ixA as]? = some as
  | 0, as, h, _ => by
    obtain rfl : as = [] := List.length_eq_zero_iff.mp h
    rfl
  | n + 1, [], h, _ => nomatch h
  | n + 1, a :: as, h, hm => by
    have hl : as.length = n := by simpa using h
    have ih := allI_ix n hl fun x hx => hm x (List.mem_cons_of_mem _ hx)
    have hix := ixA_lt as
    rw [hl] at hix
    have ln := allI_len n
    rw [allI_cons]
    show (_ ++ _)[(if a = 0 then 0 else 2 ^ as.length) + ixA as]? = _
    rcases hm a List.mem_cons_self with rfl | rfl
    · rw [if_pos rfl, Nat.zero_add, List.getElem?_append_left (by rw [List.length_map]; omega), List.getElem?_map, ih]; rfl
    · rw [if_neg (by decide), hl, List.getElem?_append_right (by rw [List.length_map]; omega), List.length_map, ln, Nat.add_sub_cancel_left, List.getElem?_map, ih]; rfl
def posI3 (M : List Mk) : List Mk := M.filter fun p => decide (p.2 > 0)
theorem pos_csum {as : List Int} : ∀ {M : List Mk}, (∀ p ∈ M, 0 ≤ p.2) → csum (posI3 M) as = csum M as
  | [], _ => rfl
  | p :: M, h => by
    have ih := pos_csum (as := as) (M := M) fun r hr => h r (List.mem_cons_of_mem _ hr)
    unfold posI3 at *
    rw [List.filter_cons]
    by_cases hp : p.2 > 0
    · rw [decide_eq_true hp, if_pos rfl, csum_cons, csum_cons, ih]
    · have : p.2 = 0 := by have := h p List.mem_cons_self; omega
      rw [decide_eq_false hp, if_neg Bool.false_ne_true, ih, csum_cons, this]; omega
theorem spr_val : ∀ (n : Nat) (q : Int) (W : List Int), (∀ x ∈ W, 0 ≤ x ∧ x ≤ 2) → ∀ p ∈ sprI n q W, 0 ≤ p.2 ∧ p.2 ≤ 2
  | 0, q, W, h, p, hp => by
    rw [List.mem_singleton.mp hp]
    show 0 ≤ (W[0]?).getD 0 ∧ (W[0]?).getD 0 ≤ 2
    cases hW : W[0]? with
    | none => exact ⟨by decide, by decide⟩
    | some x => exact h x (List.mem_of_getElem? hW)
  | n + 1, q, W, h, p, hp => by
    obtain ⟨r, _, hp⟩ := List.mem_flatMap.mp hp
    simp only [List.mem_cons, List.not_mem_nil, or_false] at hp
    rcases hp with rfl | rfl
    · dsimp only; omega
    · dsimp only; omega
def sayM (n : Nat) (f : List Int → Bool) : List Mk := posI3 (sprI n 0 ((allI n).map fun as => if f as = true then 1 else 0))
theorem say_ok (n : Nat) (f : List Int → Bool) : MsOk (n : Int) (sayM n f) := by
  have hv := spr_val n 0 ((allI n).map fun as => if f as = true then (1 : Int) else 0) fun x hx => by
    obtain ⟨as, _, rfl⟩ := List.mem_map.mp hx
    split <;> omega
  have hk := spr_keys n 0 ((allI n).map fun as => if f as = true then (1 : Int) else 0)
  refine ⟨?_, fun p hp => ?_⟩
  · unfold sayM posI3
    exact List.Nodup.sublist (List.Sublist.map _ List.filter_sublist) (by rw [hk]; exact sprK_nd n 0)
  · unfold sayM posI3 at hp
    obtain ⟨h1, h2⟩ := List.mem_filter.mp hp
    have hr : p.1 ∈ sprK n 0 := by rw [← hk]; exact List.mem_map.mpr ⟨p, h1, rfl⟩
    obtain ⟨r1, r2⟩ := sprK_row n 0 p.1 hr
    have r1' : ∀ x ∈ p.1, 0 ≤ x ∧ x < (n : Int) := fun x hx => by have := r1 x hx; omega
    have := hv p h1
    have := of_decide_eq_true h2
    exact ⟨⟨r1', row_len (by omega) r1' (lt_nodup r2), r2⟩, by omega, by omega⟩
theorem say_len (n : Nat) (f : List Int → Bool) : (sayM n f).length ≤ 2 ^ n := by
  unfold sayM posI3
  exact Nat.le_trans (List.length_filter_le _ _) (by rw [spr_len]; exact Nat.le_refl _)
theorem say_come {n : Nat} {f : List Int → Bool} {as : List Int} (h : AnsOk (n : Int) as) : comeI 0 [] (sayM n f) as = if f as = true then [1, 2, 0] else [0, 1, 2] := by
  have hl : as.length = n := by have := h.len; omega
  have hv := spr_val n 0 ((allI n).map fun as => if f as = true then (1 : Int) else 0) fun x hx => by
    obtain ⟨as, _, rfl⟩ := List.mem_map.mp hx
    split <;> omega
  obtain ⟨t, ht⟩ := spr_come n 0 ((allI n).map fun as => if f as = true then (1 : Int) else 0) [] as rfl hl h.mem (by rw [List.length_map, allI_len])
  have e : csum (sayM n f) as = (if f as = true then 1 else 0) + 3 * t := by
    unfold sayM
    rw [pos_csum fun p hp => (hv p hp).1]
    rw [List.nil_append, List.getElem?_map, allI_ix n hl h.mem] at ht
    exact ht
  have s1 : sgI [] as = 1 := rfl
  rw [comeI_eq, e, s1]
  by_cases hf : f as = true
  · rw [if_pos hf, if_pos hf]
    exact congr3 (by omega) (by omega) (by omega)
  · rw [if_neg hf, if_neg hf]
    exact congr3 (by omega) (by omega) (by omega)

/-! sums found by all answers and all sets -/
def setsI : Nat → List (List Int)
  | 0 => [[]]
  | n + 1 => setsI n ++ (setsI n).map fun s => s ++ [(n : Int)]
theorem sets_head : ∀ n, ∃ r, setsI n = [] :: r
  | 0 => ⟨[], rfl⟩
  | n + 1 => by
    obtain ⟨r, e⟩ := sets_head n
    refine ⟨r ++ (setsI n).map fun s => s ++ [(n : Int)], ?_⟩
    show setsI n ++ _ = _
    rw [e]; rfl
theorem sets_len : ∀ n, (setsI n).length = 2 ^ n
  | 0 => rfl
  | n + 1 => by
    show (setsI n ++ (setsI n).map fun s => s ++ [(n : Int)]).length = _
    rw [List.length_append, List.length_map, sets_len n, Nat.pow_succ]; omega
theorem sets_ok : ∀ n, ∀ s ∈ setsI n, RowOk (n : Int) s
  | 0, s, h => by rw [List.mem_singleton.mp h]; exact rowOk_nil (Int.le_refl 0)
  | n + 1, s, h => by
    rcases List.mem_append.mp h with h | h
    · have o := sets_ok n s h
      exact ⟨fun q hq => by have := o.mem q hq; omega, by have := o.len; omega, o.srt⟩
    · obtain ⟨t, ht, rfl⟩ := List.mem_map.mp h
      have o := sets_ok n t ht
      refine ⟨fun q hq => ?_, by rw [List.length_append, List.length_singleton]; have := o.len; omega, ?_⟩
      · rcases List.mem_append.mp hq with hq | hq
        · have := o.mem q hq; omega
        · rw [List.mem_singleton.mp hq]; omega
      · rw [List.pairwise_append]
        refine ⟨o.srt, List.pairwise_singleton _ _, fun a ha b hb => ?_⟩
        rw [List.mem_singleton.mp hb]
        exact (o.mem a ha).2
theorem sets_mem : ∀ (n : Nat) {s : List Int}, RowOk (n : Int) s → s ∈ setsI n
  | 0, s, o => by
    have := o.len
    rw [List.length_eq_zero_iff.mp (show s.length = 0 by omega)]
    exact List.mem_cons_self
  | n + 1, s, o => by
    by_cases h : (n : Int) ∈ s
    · refine List.mem_append.mpr (.inr (List.mem_map.mpr ⟨wq n s, sets_mem n (wq_ok o), ?_⟩))
      have o1 := wq_ok o
      have o2 : RowOk ((n + 1 : Nat) : Int) (wq n s ++ [(n : Int)]) := sets_ok (n + 1) _ (List.mem_append.mpr (.inr (List.mem_map.mpr ⟨_, sets_mem n o1, rfl⟩)))
      refine row_ext o2 o fun x => ?_
      rw [List.mem_append, wq_mem, List.mem_singleton]
      constructor
      · rintro (⟨a, _⟩ | rfl)
        · exact a
        · exact h
      · intro a
        by_cases e : x = n
        · exact .inr e
        · exact .inl ⟨a, e⟩
    · exact List.mem_append.mpr (.inl (sets_mem n (rowOk_not o h)))
theorem sets_nd : ∀ n, (setsI n).Nodup
  | 0 => List.nodup_cons.mpr ⟨(fun h => nomatch h), List.nodup_nil⟩
  | n + 1 => by
    have ih := sets_nd n
    refine List.nodup_append.mpr ⟨ih, ?_, fun a ha b hb => ?_⟩
    · exact List.Pairwise.map _ (fun a b h e => h (List.append_cancel_right e)) ih
    · obtain ⟨t, ht, rfl⟩ := List.mem_map.mp hb
      rintro rfl
      have := (sets_ok n _ ha).mem (n : Int) (List.mem_append.mpr (.inr List.mem_cons_self))
      omega
theorem ansI_app {n : Nat} {a : List Int} {x q : Int} (hl : a.length = n) (q0 : 0 ≤ q) (q1 : q < ((n + 1 : Nat) : Int)) : ansI (a ++ [x]) q = upd (ansI a) n x q := by
  unfold ansI upd
  by_cases e : q = n
  · rw [if_pos e, e, Int.toNat_natCast, List.getElem?_append_right (by omega), hl, Nat.sub_self]; rfl
  · rw [if_neg e, List.getElem?_append_left (by omega)]
theorem sgF_congr {R : List Int} {f g : Int → Int} (h : ∀ q ∈ R, f q = g q) : sgF R f = sgF R g := by unfold sgF; rw [List.map_congr_left h]
theorem ev_congr {W : List Mk} {f g : Int → Int} (h : ∀ p ∈ W, ∀ q ∈ p.1, f q = g q) : ev W f = ev W g := by
  unfold ev
  rw [List.map_congr_left fun p hp => by rw [sgF_congr (h p hp)]]
def fsum (n : Nat) (W : List Mk) (T : List Int) : Int := ((allI n).map fun a => ev W (ansI a) * sgF T (ansI a)).sum
theorem sum_flat {f : List Int → Int} : ∀ l : List (List Int), ((l.flatMap fun a => [a ++ [0], a ++ [1]]).map f).sum = (l.map fun a => f (a ++ [0]) + f (a ++ [1])).sum
  | [] => rfl
  | a :: l => by
    rw [List.flatMap_cons, List.map_append, List.sum_append, sum_flat l, List.map_cons, List.sum_cons]
    simp only [List.map_cons, List.map_nil, List.sum_cons, List.sum_nil]
    omega
theorem sum_mod {α : Type} {f g : α → Int} {c : Int} : ∀ {l : List α}, (∀ a ∈ l, (f a - c * g a) % 3 = 0) → ((l.map f).sum - c * (l.map g).sum) % 3 = 0
  | [], _ => by simp
  | a :: l, h => by
    have h1 := h a List.mem_cons_self
    have h2 := sum_mod (f := f) (g := g) (c := c) (l := l) fun b hb => h b (List.mem_cons_of_mem _ hb)
    rw [List.map_cons, List.map_cons, List.sum_cons, List.sum_cons, Int.mul_add]
    omega
theorem fourier : ∀ (n : Nat) {W : List Mk} {T : List Int}, (∀ p ∈ W, RowOk (n : Int) p.1) → RowOk (n : Int) T → (fsum n W T - 2 ^ n * tot W T) % 3 = 0
  | 0, W, T, hW, hT => by
    have nl : ∀ {R : List Int}, RowOk ((0 : Nat) : Int) R → R = [] := fun {R} o => by
      have := o.len
      exact List.length_eq_zero_iff.mp (by omega)
    have hT := nl hT
    subst hT
    have e : ev W (ansI []) = tot W [] := by
      unfold ev tot
      congr 1
      refine List.map_congr_left fun p hp => ?_
      rw [nl (hW p hp), if_pos rfl]
      show p.2 * 1 = p.2
      omega
    show (([[]].map fun a => ev W (ansI a) * sgF [] (ansI a)).sum - 2 ^ 0 * tot W []) % 3 = 0
    simp only [List.map_cons, List.map_nil, List.sum_cons, List.sum_nil]
    rw [e]
    show (tot W [] * 1 + 0 - 1 * tot W []) % 3 = 0
    omega
  | n + 1, W, T, hW, hT => by
    have ndW : ∀ p ∈ W, p.1.Nodup := fun p hp => lt_nodup (hW p hp).srt
    have h0 : ∀ p ∈ W0 n W, RowOk (n : Int) p.1 := fun p hp => by
      obtain ⟨a, b⟩ := List.mem_filter.mp hp
      exact rowOk_not (hW p a) (by simpa using b)
    have h1 : ∀ p ∈ W1 n W, RowOk (n : Int) p.1 := fun p hp => by
      obtain ⟨r, hr, rfl⟩ := List.mem_map.mp hp
      exact wq_ok (hW r (List.mem_filter.mp hr).1)
    have eW : ∀ a ∈ allI n, ∀ x, ev W (ansI (a ++ [x])) = ev W (upd (ansI a) n x) := fun a ha x => ev_congr fun p hp q hq => by
      have hl := (allI_ok n a ha).len
      obtain ⟨q0, q1⟩ := (hW p hp).mem q hq
      exact ansI_app (by omega) q0 q1
    have eT : ∀ a ∈ allI n, ∀ x, sgF T (ansI (a ++ [x])) = sgF T (upd (ansI a) n x) := fun a ha x => sgF_congr fun q hq => by
      have hl := (allI_ok n a ha).len
      obtain ⟨q0, q1⟩ := hT.mem q hq
      exact ansI_app (by omega) q0 q1
    have es : fsum (n + 1) W T = ((allI n).map fun a => ev W (upd (ansI a) n 0) * sgF T (upd (ansI a) n 0) + ev W (upd (ansI a) n 1) * sgF T (upd (ansI a) n 1)).sum := by
      unfold fsum
      show (((allI n).flatMap fun a => [a ++ [0], a ++ [1]]).map _).sum = _
      rw [sum_flat]
      congr 1
      exact List.map_congr_left fun a ha => by rw [eW a ha, eW a ha, eT a ha, eT a ha]
    have lin : ∀ E0 E1 X Y s t : Int, X = E0 + E1 → (Y - (E0 - E1)) % 3 = 0 → (t - s) % 3 = 0 → (X * s + Y * t - 2 * (E0 * s)) % 3 = 0 := fun E0 E1 X Y s t hx hy ht => by
      obtain ⟨k, hk⟩ : ∃ k, Y = E0 - E1 + 3 * k := ⟨(Y - (E0 - E1)) / 3, by omega⟩
      obtain ⟨j, hj⟩ : ∃ j, t = s + 3 * j := ⟨(t - s) / 3, by omega⟩
      have e : X * s + Y * t - 2 * (E0 * s) = 3 * (k * s + Y * j) := by
        rw [hj, hx, Int.mul_add Y s (3 * j), show Y * (3 * j) = 3 * (Y * j) by rw [Int.mul_left_comm]]
        rw [show Y * s = (E0 - E1) * s + 3 * (k * s) by rw [hk, Int.add_mul, Int.mul_assoc]]
        rw [Int.add_mul, Int.sub_mul]
        omega
      rw [e]; omega
    have lin2 : ∀ E0 E1 X Y s t : Int, X = E0 + E1 → (Y - (E0 - E1)) % 3 = 0 → (t + s) % 3 = 0 → (X * s + Y * t - 2 * (E1 * s)) % 3 = 0 := fun E0 E1 X Y s t hx hy ht => by
      obtain ⟨k, hk⟩ : ∃ k, Y = E0 - E1 + 3 * k := ⟨(Y - (E0 - E1)) / 3, by omega⟩
      obtain ⟨j, hj⟩ : ∃ j, t = -s + 3 * j := ⟨(t + s) / 3, by omega⟩
      have e : X * s + Y * t - 2 * (E1 * s) = 3 * (Y * j - k * s) := by
        rw [hj, hx, Int.mul_add Y (-s) (3 * j), show Y * (3 * j) = 3 * (Y * j) by rw [Int.mul_left_comm]]
        rw [show Y * -s = -((E0 - E1) * s + 3 * (k * s)) by rw [hk, Int.mul_neg, Int.add_mul, Int.mul_assoc]]
        rw [Int.add_mul, Int.sub_mul]
        omega
      rw [e]; omega
    rw [es, tot_split hT hW]
    by_cases hq : (n : Int) ∈ T
    · rw [if_pos hq]
      have ih := fourier n (W := W1 n W) (T := wq n T) h1 (wq_ok hT)
      have ndT := lt_nodup hT.srt
      have st := sum_mod (f := fun a => ev W (upd (ansI a) n 0) * sgF T (upd (ansI a) n 0) + ev W (upd (ansI a) n 1) * sgF T (upd (ansI a) n 1)) (g := fun a => ev (W1 n W) (ansI a) * sgF (wq n T) (ansI a)) (c := 2) (l := allI n) fun a ha => by
        obtain ⟨s0, s1⟩ := ev_split (q := (n : Int)) (f := ansI a) ndW
        have t0 : sgF T (upd (ansI a) n 0) = sgF (wq n T) (ansI a) := by
          rw [sgF_in ndT hq, Int.add_zero]; rfl
        have t1 : (sgF T (upd (ansI a) n 1) + sgF (wq n T) (ansI a)) % 3 = 0 := by
          rw [sgF_in ndT hq]
          unfold sgF
          generalize ((wq (n : Int) T).map (ansI a)).sum = s
          rcases (by omega : s % 2 = 0 ∨ s % 2 = 1) with z | z
          · rw [z, show (s + 1) % 2 = 1 by omega]; decide
          · rw [z, show (s + 1) % 2 = 0 by omega]; decide
        show (_ + _ - 2 * _) % 3 = 0
        rw [t0]
        exact lin2 _ _ _ _ _ _ s0 s1 t1
      rw [show (2 : Int) ^ (n + 1) = 2 * 2 ^ n by rw [Int.pow_succ, Int.mul_comm], Int.mul_assoc]
      have st : (((allI n).map fun a => ev W (upd (ansI a) n 0) * sgF T (upd (ansI a) n 0) + ev W (upd (ansI a) n 1) * sgF T (upd (ansI a) n 1)).sum - 2 * fsum n (W1 n W) (wq n T)) % 3 = 0 := st
      omega
    · rw [if_neg hq]
      have ih := fourier n (W := W0 n W) (T := T) h0 (rowOk_not hT hq)
      have st := sum_mod (f := fun a => ev W (upd (ansI a) n 0) * sgF T (upd (ansI a) n 0) + ev W (upd (ansI a) n 1) * sgF T (upd (ansI a) n 1)) (g := fun a => ev (W0 n W) (ansI a) * sgF T (ansI a)) (c := 2) (l := allI n) fun a ha => by
        obtain ⟨s0, s1⟩ := ev_split (q := (n : Int)) (f := ansI a) ndW
        show (_ + _ - 2 * _) % 3 = 0
        rw [sgF_not hq, sgF_not hq]
        exact lin _ _ _ _ _ _ s0 s1 (by omega)
      rw [show (2 : Int) ^ (n + 1) = 2 * 2 ^ n by rw [Int.pow_succ, Int.mul_comm], Int.mul_assoc]
      have st : (((allI n).map fun a => ev W (upd (ansI a) n 0) * sgF T (upd (ansI a) n 0) + ev W (upd (ansI a) n 1) * sgF T (upd (ansI a) n 1)).sum - 2 * fsum n (W0 n W) T) % 3 = 0 := st
      omega
theorem pow2_mod : ∀ n : Nat, ((1 + (n : Int) % 2) * 2 ^ n - 1) % 3 = 0
  | 0 => by decide
  | 1 => by decide
  | n + 2 => by
    have ih := pow2_mod n
    have e : (2 : Int) ^ (n + 2) = 4 * 2 ^ n := by rw [Int.pow_succ, Int.pow_succ]; omega
    have e2 : (((n + 2 : Nat) : Int)) % 2 = (n : Int) % 2 := by omega
    rw [e, e2, show (1 + (n : Int) % 2) * (4 * 2 ^ n) = 4 * ((1 + (n : Int) % 2) * 2 ^ n) by rw [Int.mul_left_comm]]
    omega
/-- the number that all answers and a set come to -/
def numI (n : Nat) (M : List Mk) (T : List Int) : Int := (1 + (n : Int) % 2) * ((allI n).map fun a => csum M a % 3 * sgI T a).sum % 3
theorem num_cf {n : Nat} {M : List Mk} {T : List Int} (o : MsOk (n : Int) M) (hT : RowOk (n : Int) T) : numI n M T = cf M T := by
  have c3 := o.cf3 T
  have fo := fourier n (W := M) (T := T) (fun p hp => (o.ok p hp).row) hT
  rw [tot_cf o.nd] at fo
  have st := sum_mod (f := fun a => csum M a % 3 * sgI T a) (g := fun a => ev M (ansI a) * sgF T (ansI a)) (c := 1) (l := allI n) fun a _ => by
    have e1 : ev M (ansI a) = csum M a := rfl
    have e2 : sgF T (ansI a) = sgI T a := rfl
    show (_ - 1 * _) % 3 = 0
    rw [e1, e2]
    rcases sgI_cases T a with z | z <;> rw [z] <;> omega
  have st : (((allI n).map fun a => csum M a % 3 * sgI T a).sum - 1 * fsum n M T) % 3 = 0 := st
  have pm := pow2_mod n
  unfold numI
  generalize ((allI n).map fun a => csum M a % 3 * sgI T a).sum = A at st ⊢
  generalize fsum n M T = B at fo st
  generalize (2 : Int) ^ n = P at fo pm
  generalize cf M T = c at fo c3 ⊢
  obtain ⟨k, hk⟩ : ∃ k, A = P * c + 3 * k := ⟨(A - P * c) / 3, by omega⟩
  have hh : (1 + (n : Int) % 2) = 1 ∨ (1 + (n : Int) % 2) = 2 := by omega
  have hc : c = 0 ∨ c = 1 ∨ c = 2 := by omega
  rw [hk]
  rcases hh with h | h <;> rw [h] at pm ⊢ <;> rcases hc with z | z | z <;> rw [z] <;> omega
def marksI (n : Nat) (M : List Mk) : List Mk := (srtR (setsI n)).filterMap fun s => if numI n M s > 0 then some (s, numI n M s) else none
theorem srtR_perm47 (L : List (List Int)) : (srtR L).Perm L := List.mergeSort_perm _ _
theorem srtR_sorted47 (L : List (List Int)) : (srtR L).Pairwise fun a b => leI a b = true := List.pairwise_mergeSort leI_trn leI_tot L
theorem marks_srt {n : Nat} {M : List Mk} (o : MsOk (n : Int) M) : marksI n M = srtM M := by
  have num : ∀ s ∈ srtR (setsI n), numI n M s = cf M s := fun s hs => num_cf o (sets_ok n s ((srtR_perm47 _).mem_iff.mp hs))
  have nd : (srtR (setsI n)).Nodup := (srtR_perm47 _).nodup_iff.mpr (sets_nd n)
  have mem : ∀ p : Mk, p ∈ marksI n M ↔ p ∈ M := fun p => by
    unfold marksI
    rw [List.mem_filterMap]
    constructor
    · rintro ⟨s, hs, h⟩
      rw [num s hs] at h
      split at h
      · rename_i hp
        cases h
        exact cf_has (by omega)
      · cases h
    · intro h
      have hr := (o.ok p h).row
      have hs : p.1 ∈ srtR (setsI n) := (srtR_perm47 _).mem_iff.mpr (sets_mem n hr)
      have e := cf_mem o.nd h
      have n0 := (o.ok p h).n0
      exact ⟨p.1, hs, by rw [num _ hs, e, if_pos (by omega)]⟩
  have srt : (marksI n M).Pairwise fun a b => leM a b = true := by
    unfold marksI
    refine List.Pairwise.filterMap _ (fun a a' h b hb b' hb' => ?_) (List.Pairwise.imp₂ (R := fun a b => leI a b = true) (S := (· ≠ ·)) (T := fun a b => leI a b = true ∧ a ≠ b) (fun a b h1 h2 => ⟨h1, h2⟩) (srtR_sorted47 _) nd)
    split at hb
    · split at hb'
      · cases hb; cases hb'
        unfold leM
        rw [if_neg h.2]; exact h.1
      · cases hb'
    · cases hb
  have ndm : (marksI n M).Nodup := by
    refine List.Pairwise.filterMap _ (fun a a' h b hb b' hb' => ?_) nd
    split at hb
    · split at hb'
      · cases hb; cases hb'
        intro e
        exact h (congrArg Prod.fst e)
      · cases hb'
    · cases hb
  refine sortedM_unique ?_ srt (srtM_sorted M)
  exact ((List.perm_ext_iff_of_nodup ndm (nodup_of_map o.nd)).mpr mem).trans (srtM_perm M).symm

def sp_inner : SpD := fun ds S Q _ => ∃ s : Sy, ds = [s.d] ∧ Q (.tup (s.subs.map Sy.d)) S
abbrev s_inner : Stmt := topS 3
abbrev n_inner : List Str := ["saying"]
abbrev p_inner : List Str := ["saying"]
theorem sc_inner : FnScope n_inner p_inner (defScope s_inner) := ⟨rfl, rfl, rfl, by decide +kernel, rfl, by decide +kernel, by decide +kernel⟩
theorem ok_inner {f : Addr} {fd : FuncData} (F : Fun K "inner" "inner" s_inner f fd) : FnD P w K mg base (k + 1) f fd p_inner sp_inner := by
  refine FnD.of F sc_inner ?_ (fun X C E' cdv A outer s H E hX hr hx po hc => by
    subst hX
    exact (dss_cons (ds_if (dt_cmp (or_eq hr.u64) (de_ix (dv 0) de_int) de_str) (dss_one (ds_ret (de_tup da_nil))) dss_nil)
      (dss_one (ds_ret (de_sl false (dv 0) (do_so de_int) do_no))))) ?_
  · rintro ds S Q E ⟨s, rfl, _⟩; rfl
  · rintro ds S Q E' ⟨s, rfl, q⟩
    cases s with
    | ask q1 =>
      have e0 : ∀ {a b : D}, atI [a, b] 0 = some a := atI_0
      ((try dsimp only [List.set_cons_zero, List.set_cons_succ, startD, wip, List.map_cons, List.map_nil, n_inner]); (conv => whnf); (repeat (first | ((with_reducible refine SeqP.mk ?_); (try dsimp only [List.set_cons_zero, List.set_cons_succ, startD, wip, List.map_cons, List.map_nil, n_inner]); (conv => whnf)) | (with_reducible apply Exists.intro) | ((with_reducible apply And.intro); (exact sdZ); (conv => whnf)) | ((first | with_reducible refine eqO_int_f ?_ | with_reducible refine eqO_int_t ?_ | with_reducible refine eqO_str_f ?_ | with_reducible refine eqO_str_t ?_ | with_reducible refine eqO_bl_f ?_ | with_reducible refine eqO_bl_t ?_ | with_reducible refine eqO_KK_f ?_ | with_reducible refine eqO_KK_t ?_ | with_reducible refine eqO_LL_f ?_ | with_reducible refine eqO_LL_t ?_); (conv => whnf)) | ((try dsimp only); (first | (rw [decide_eq_true]; rotate_left; (focus ((first | assumption | omega | rfl | decide); done))) | (rw [decide_eq_false]; rotate_left; (focus ((first | assumption | omega | rfl | decide); done)))); (conv => whnf)))))
      exact fin_same q
    | yes =>
      ((try dsimp only [List.set_cons_zero, List.set_cons_succ, startD, wip, List.map_cons, List.map_nil, n_inner]); (conv => whnf); (repeat (first | ((with_reducible refine SeqP.mk ?_); (try dsimp only [List.set_cons_zero, List.set_cons_succ, startD, wip, List.map_cons, List.map_nil, n_inner]); (conv => whnf)) | (with_reducible apply Exists.intro) | ((with_reducible apply And.intro); (exact sdZ); (conv => whnf)) | ((first | with_reducible refine eqO_int_f ?_ | with_reducible refine eqO_int_t ?_ | with_reducible refine eqO_str_f ?_ | with_reducible refine eqO_str_t ?_ | with_reducible refine eqO_bl_f ?_ | with_reducible refine eqO_bl_t ?_ | with_reducible refine eqO_KK_f ?_ | with_reducible refine eqO_KK_t ?_ | with_reducible refine eqO_LL_f ?_ | with_reducible refine eqO_LL_t ?_); (conv => whnf)) | ((try dsimp only); (first | (rw [decide_eq_true]; rotate_left; (focus ((first | assumption | omega | rfl | decide); done))) | (rw [decide_eq_false]; rotate_left; (focus ((first | assumption | omega | rfl | decide); done)))); (conv => whnf)))))
      exact fin_same q
    | no =>
      ((try dsimp only [List.set_cons_zero, List.set_cons_succ, startD, wip, List.map_cons, List.map_nil, n_inner]); (conv => whnf); (repeat (first | ((with_reducible refine SeqP.mk ?_); (try dsimp only [List.set_cons_zero, List.set_cons_succ, startD, wip, List.map_cons, List.map_nil, n_inner]); (conv => whnf)) | (with_reducible apply Exists.intro) | ((with_reducible apply And.intro); (exact sdZ); (conv => whnf)) | ((first | with_reducible refine eqO_int_f ?_ | with_reducible refine eqO_int_t ?_ | with_reducible refine eqO_str_f ?_ | with_reducible refine eqO_str_t ?_ | with_reducible refine eqO_bl_f ?_ | with_reducible refine eqO_bl_t ?_ | with_reducible refine eqO_KK_f ?_ | with_reducible refine eqO_KK_t ?_ | with_reducible refine eqO_LL_f ?_ | with_reducible refine eqO_LL_t ?_); (conv => whnf)) | ((try dsimp only); (first | (rw [decide_eq_true]; rotate_left; (focus ((first | assumption | omega | rfl | decide); done))) | (rw [decide_eq_false]; rotate_left; (focus ((first | assumption | omega | rfl | decide); done)))); (conv => whnf)))))
      exact fin_same q
    | not a =>
      ((try dsimp only [List.set_cons_zero, List.set_cons_succ, startD, wip, List.map_cons, List.map_nil, n_inner]); (conv => whnf); (repeat (first | ((with_reducible refine SeqP.mk ?_); (try dsimp only [List.set_cons_zero, List.set_cons_succ, startD, wip, List.map_cons, List.map_nil, n_inner]); (conv => whnf)) | (with_reducible apply Exists.intro) | ((with_reducible apply And.intro); (exact sdZ); (conv => whnf)) | ((first | with_reducible refine eqO_int_f ?_ | with_reducible refine eqO_int_t ?_ | with_reducible refine eqO_str_f ?_ | with_reducible refine eqO_str_t ?_ | with_reducible refine eqO_bl_f ?_ | with_reducible refine eqO_bl_t ?_ | with_reducible refine eqO_KK_f ?_ | with_reducible refine eqO_KK_t ?_ | with_reducible refine eqO_LL_f ?_ | with_reducible refine eqO_LL_t ?_); (conv => whnf)) | ((try dsimp only); (first | (rw [decide_eq_true]; rotate_left; (focus ((first | assumption | omega | rfl | decide); done))) | (rw [decide_eq_false]; rotate_left; (focus ((first | assumption | omega | rfl | decide); done)))); (conv => whnf)))))
      exact fin_same q
    | and a b =>
      ((try dsimp only [List.set_cons_zero, List.set_cons_succ, startD, wip, List.map_cons, List.map_nil, n_inner]); (conv => whnf); (repeat (first | ((with_reducible refine SeqP.mk ?_); (try dsimp only [List.set_cons_zero, List.set_cons_succ, startD, wip, List.map_cons, List.map_nil, n_inner]); (conv => whnf)) | (with_reducible apply Exists.intro) | ((with_reducible apply And.intro); (exact sdZ); (conv => whnf)) | ((first | with_reducible refine eqO_int_f ?_ | with_reducible refine eqO_int_t ?_ | with_reducible refine eqO_str_f ?_ | with_reducible refine eqO_str_t ?_ | with_reducible refine eqO_bl_f ?_ | with_reducible refine eqO_bl_t ?_ | with_reducible refine eqO_KK_f ?_ | with_reducible refine eqO_KK_t ?_ | with_reducible refine eqO_LL_f ?_ | with_reducible refine eqO_LL_t ?_); (conv => whnf)) | ((try dsimp only); (first | (rw [decide_eq_true]; rotate_left; (focus ((first | assumption | omega | rfl | decide); done))) | (rw [decide_eq_false]; rotate_left; (focus ((first | assumption | omega | rfl | decide); done)))); (conv => whnf)))))
      exact fin_same q
    | or a b =>
      ((try dsimp only [List.set_cons_zero, List.set_cons_succ, startD, wip, List.map_cons, List.map_nil, n_inner]); (conv => whnf); (repeat (first | ((with_reducible refine SeqP.mk ?_); (try dsimp only [List.set_cons_zero, List.set_cons_succ, startD, wip, List.map_cons, List.map_nil, n_inner]); (conv => whnf)) | (with_reducible apply Exists.intro) | ((with_reducible apply And.intro); (exact sdZ); (conv => whnf)) | ((first | with_reducible refine eqO_int_f ?_ | with_reducible refine eqO_int_t ?_ | with_reducible refine eqO_str_f ?_ | with_reducible refine eqO_str_t ?_ | with_reducible refine eqO_bl_f ?_ | with_reducible refine eqO_bl_t ?_ | with_reducible refine eqO_KK_f ?_ | with_reducible refine eqO_KK_t ?_ | with_reducible refine eqO_LL_f ?_ | with_reducible refine eqO_LL_t ?_); (conv => whnf)) | ((try dsimp only); (first | (rw [decide_eq_true]; rotate_left; (focus ((first | assumption | omega | rfl | decide); done))) | (rw [decide_eq_false]; rotate_left; (focus ((first | assumption | omega | rfl | decide); done)))); (conv => whnf)))))
      exact fin_same q
    | either a b =>
      ((try dsimp only [List.set_cons_zero, List.set_cons_succ, startD, wip, List.map_cons, List.map_nil, n_inner]); (conv => whnf); (repeat (first | ((with_reducible refine SeqP.mk ?_); (try dsimp only [List.set_cons_zero, List.set_cons_succ, startD, wip, List.map_cons, List.map_nil, n_inner]); (conv => whnf)) | (with_reducible apply Exists.intro) | ((with_reducible apply And.intro); (exact sdZ); (conv => whnf)) | ((first | with_reducible refine eqO_int_f ?_ | with_reducible refine eqO_int_t ?_ | with_reducible refine eqO_str_f ?_ | with_reducible refine eqO_str_t ?_ | with_reducible refine eqO_bl_f ?_ | with_reducible refine eqO_bl_t ?_ | with_reducible refine eqO_KK_f ?_ | with_reducible refine eqO_KK_t ?_ | with_reducible refine eqO_LL_f ?_ | with_reducible refine eqO_LL_t ?_); (conv => whnf)) | ((try dsimp only); (first | (rw [decide_eq_true]; rotate_left; (focus ((first | assumption | omega | rfl | decide); done))) | (rw [decide_eq_false]; rotate_left; (focus ((first | assumption | omega | rfl | decide); done)))); (conv => whnf)))))
      exact fin_same q
    | most a b c =>
      ((try dsimp only [List.set_cons_zero, List.set_cons_succ, startD, wip, List.map_cons, List.map_nil, n_inner]); (conv => whnf); (repeat (first | ((with_reducible refine SeqP.mk ?_); (try dsimp only [List.set_cons_zero, List.set_cons_succ, startD, wip, List.map_cons, List.map_nil, n_inner]); (conv => whnf)) | (with_reducible apply Exists.intro) | ((with_reducible apply And.intro); (exact sdZ); (conv => whnf)) | ((first | with_reducible refine eqO_int_f ?_ | with_reducible refine eqO_int_t ?_ | with_reducible refine eqO_str_f ?_ | with_reducible refine eqO_str_t ?_ | with_reducible refine eqO_bl_f ?_ | with_reducible refine eqO_bl_t ?_ | with_reducible refine eqO_KK_f ?_ | with_reducible refine eqO_KK_t ?_ | with_reducible refine eqO_LL_f ?_ | with_reducible refine eqO_LL_t ?_); (conv => whnf)) | ((try dsimp only); (first | (rw [decide_eq_true]; rotate_left; (focus ((first | assumption | omega | rfl | decide); done))) | (rw [decide_eq_false]; rotate_left; (focus ((first | assumption | omega | rfl | decide); done)))); (conv => whnf)))))
      exact fin_same q

def sp_is_so : Nat → SpD
  | 0 => fun _ _ _ _ => False
  | N + 1 => fun ds S Q _ => ∃ (s : Sy) (m : Int) (da : D) (as : List Int), ds = [s.d, da] ∧ tn da as ∧ s.dep ≤ N + 1 ∧ s.ok m ∧ AnsL m as ∧ Q (.bl (s.so as)) S
abbrev s_is_so : Stmt := topS 4
abbrev n_is_so : List Str := ["saying", "answers", "word", "some", "many", "one"]
abbrev p_is_so : List Str := ["saying", "answers"]
theorem sc_is_so : FnScope n_is_so p_is_so (defScope s_is_so) := ⟨rfl, rfl, rfl, by decide +kernel, rfl, by decide +kernel, by decide +kernel⟩
theorem ok_is_so {f : Addr} {fd : FuncData} {n : Nat} (F : Fun K "is_so" "is_so" s_is_so f fd) (m_len : mg "len" = none) (F_inner : Fc P w K mg base k "inner" p_inner sp_inner) (F_is_so : Fc P w K mg base k "is_so" p_is_so (sp_is_so n)) : FnD P w K mg base (k + 1) f fd p_is_so (sp_is_so (n+1)) := by
  refine FnD.of F sc_is_so ?_ (fun X C E' cdv A outer s H E hX hr hx po hc => by
    subst hX
    exact (dss_cons (ds_set (i := 2) sc_is_so.nd rfl (de_ix (dv 0) de_int))
      (dss_cons (ds_if (dt_cmp (or_eq hr.u64) (dv 2) de_str) (dss_one (ds_ret (de_cmp (or_eq hr.u64) (de_ix (dv 1) (de_ix (dv 0) de_int)) de_int))) dss_nil)
      (dss_cons (ds_setLc (own := [("one", 5)]) false (i := 3) rfl sc_is_so.nd rfl rfl (sw_true rfl rfl rfl (by decide +kernel)) (di_seq (de_call F_inner hr xok0 (by rfl) (da_cons (dv 0) da_nil))) (by show BlkOk n_is_so (defScope s_is_so) _ [("one", 5)]; exact blkOk_by (by decide +kernel)) (fun _ _ _ _ _ => (dgc_name (i := 5) sc_is_so.nd rfl)) (fun _ _ _ _ _ => dts_nil) (fun _ _ _ _ _ => (de_call F_is_so hr xok0 (by rfl) (da_cons (dv 5) (da_cons (dv 1) da_nil)))))
      (dss_cons (ds_set (i := 4) sc_is_so.nd rfl (de_b cr_len (by rfl) m_len b_len (da_cons (de_lc (own := [("one", 5)]) false rfl sc_is_so.nd (di_seq (dv 3)) (by show BlkOk n_is_so (defScope s_is_so) _ [("one", 5)]; exact blkOk_by (by decide +kernel)) (fun _ _ _ _ _ => (dgc_name (i := 5) sc_is_so.nd rfl)) (fun _ _ _ _ _ => (dts_one (dt_val (dv 5)))) (fun _ _ _ _ _ => (dv 5))) da_nil)))
      (dss_cons (ds_if (dt_cmp (or_eq hr.u64) (dv 2) de_str) (dss_one (ds_ret (de_cmp (or_eq hr.u64) (dv 4) de_int))) dss_nil)
      (dss_cons (ds_if (dt_cmp (or_eq hr.u64) (dv 2) de_str) (dss_one (ds_ret (de_cmp or_gt (dv 4) de_int))) dss_nil)
      (dss_cons (ds_if (dt_cmp (or_eq hr.u64) (dv 2) de_str) (dss_one (ds_ret (de_cmp (or_eq hr.u64) (dv 4) de_int))) dss_nil)
      (dss_cons (ds_if (dw_pt (dw_or (dt_cmp (or_eq hr.u64) (dv 2) de_str) (dw_or1 (dt_cmp (or_eq hr.u64) (dv 2) de_str)))) (dss_one (ds_ret (de_cmp (or_eq hr.u64) (dv 2) de_str))) dss_nil)
      (dss_one (ds_ret (de_cmp or_gt (dv 4) de_int)))))))))))) ?_
  · rintro ds S Q E ⟨s, m, da, as, rfl, _⟩; rfl
  · rintro ds S Q E' ⟨s, m, da, as, rfl, ta, hd, ho, ha, q⟩
    cases s with
    | ask q1 =>
      obtain ⟨x, hx, e1, hat⟩ := ha.at ho.1 ho.2
      unfold Sy.so at q
      rw [e1] at q
      rcases tn_cases ta with rfl | rfl <;> rcases hx with rfl | rfl
      all_goals
        ((try dsimp only [List.set_cons_zero, List.set_cons_succ, startD, wip, List.map_cons, List.map_nil, n_is_so]); (conv => whnf); (repeat (first | ((with_reducible refine SeqP.mk ?_); (try dsimp only [List.set_cons_zero, List.set_cons_succ, startD, wip, List.map_cons, List.map_nil, n_is_so]); (conv => whnf)) | ((with_reducible refine LcP.mk ?_); (conv => whnf)) | ((with_reducible refine ForP.mk ?_); (conv => whnf)) | (with_reducible apply Exists.intro) | ((with_reducible apply And.intro); (exact sdZ); (conv => whnf)) | ((first | with_reducible refine eqO_int_f ?_ | with_reducible refine eqO_int_t ?_ | with_reducible refine eqO_str_f ?_ | with_reducible refine eqO_str_t ?_ | with_reducible refine eqO_bl_f ?_ | with_reducible refine eqO_bl_t ?_ | with_reducible refine eqO_KK_f ?_ | with_reducible refine eqO_KK_t ?_ | with_reducible refine eqO_LL_f ?_ | with_reducible refine eqO_LL_t ?_); (conv => whnf)) | ((try dsimp only); (first | (rw [decide_eq_true]; rotate_left; (focus ((first | assumption | omega | rfl | decide); done))) | (rw [decide_eq_false]; rotate_left; (focus ((first | assumption | omega | rfl | decide); done)))); (conv => whnf)))))
        exact fin_same q
    | yes =>
      ((try dsimp only [List.set_cons_zero, List.set_cons_succ, startD, wip, List.map_cons, List.map_nil, n_is_so]); (conv => whnf); (repeat (first | ((with_reducible refine SeqP.mk ?_); (try dsimp only [List.set_cons_zero, List.set_cons_succ, startD, wip, List.map_cons, List.map_nil, n_is_so]); (conv => whnf)) | ((with_reducible refine LcP.mk ?_); (conv => whnf)) | ((with_reducible refine ForP.mk ?_); (conv => whnf)) | (with_reducible apply Exists.intro) | ((with_reducible apply And.intro); (exact sdZ); (conv => whnf)) | ((first | with_reducible refine eqO_int_f ?_ | with_reducible refine eqO_int_t ?_ | with_reducible refine eqO_str_f ?_ | with_reducible refine eqO_str_t ?_ | with_reducible refine eqO_bl_f ?_ | with_reducible refine eqO_bl_t ?_ | with_reducible refine eqO_KK_f ?_ | with_reducible refine eqO_KK_t ?_ | with_reducible refine eqO_LL_f ?_ | with_reducible refine eqO_LL_t ?_); (conv => whnf)) | ((try dsimp only); (first | (rw [decide_eq_true]; rotate_left; (focus ((first | assumption | omega | rfl | decide); done))) | (rw [decide_eq_false]; rotate_left; (focus ((first | assumption | omega | rfl | decide); done)))); (conv => whnf)))))
      exact fin_same q
    | no =>
      ((try dsimp only [List.set_cons_zero, List.set_cons_succ, startD, wip, List.map_cons, List.map_nil, n_is_so]); (conv => whnf); (repeat (first | ((with_reducible refine SeqP.mk ?_); (try dsimp only [List.set_cons_zero, List.set_cons_succ, startD, wip, List.map_cons, List.map_nil, n_is_so]); (conv => whnf)) | ((with_reducible refine LcP.mk ?_); (conv => whnf)) | ((with_reducible refine ForP.mk ?_); (conv => whnf)) | (with_reducible apply Exists.intro) | ((with_reducible apply And.intro); (exact sdZ); (conv => whnf)) | ((first | with_reducible refine eqO_int_f ?_ | with_reducible refine eqO_int_t ?_ | with_reducible refine eqO_str_f ?_ | with_reducible refine eqO_str_t ?_ | with_reducible refine eqO_bl_f ?_ | with_reducible refine eqO_bl_t ?_ | with_reducible refine eqO_KK_f ?_ | with_reducible refine eqO_KK_t ?_ | with_reducible refine eqO_LL_f ?_ | with_reducible refine eqO_LL_t ?_); (conv => whnf)) | ((try dsimp only); (first | (rw [decide_eq_true]; rotate_left; (focus ((first | assumption | omega | rfl | decide); done))) | (rw [decide_eq_false]; rotate_left; (focus ((first | assumption | omega | rfl | decide); done)))); (conv => whnf)))))
      exact fin_same q
    | not a =>
      unfold Sy.so at q
      unfold Sy.dep at hd
      have pa := a.dep_pos
      obtain ⟨N, rfl⟩ : ∃ N, n = N + 1 := ⟨n - 1, by omega⟩
      have ha1 : a.ok m := ho
      have sl : (List.map Sy.d (Sy.not a).subs).length = 1 := rfl
      cases hva : a.so as
      all_goals
        simp only [hva] at q
        ((try dsimp only [List.set_cons_zero, List.set_cons_succ, startD, wip, List.map_cons, List.map_nil, n_is_so]); (conv => whnf); (repeat (first | ((with_reducible refine SeqP.mk ?_); (try dsimp only [List.set_cons_zero, List.set_cons_succ, startD, wip, List.map_cons, List.map_nil, n_is_so]); (conv => whnf)) | ((with_reducible refine LcP.mk ?_); (conv => whnf)) | ((with_reducible refine ForP.mk ?_); (conv => whnf)) | (with_reducible apply Exists.intro) | ((with_reducible apply And.intro); (exact sdZ); (conv => whnf)) | ((first | with_reducible refine eqO_int_f ?_ | with_reducible refine eqO_int_t ?_ | with_reducible refine eqO_str_f ?_ | with_reducible refine eqO_str_t ?_ | with_reducible refine eqO_bl_f ?_ | with_reducible refine eqO_bl_t ?_ | with_reducible refine eqO_KK_f ?_ | with_reducible refine eqO_KK_t ?_ | with_reducible refine eqO_LL_f ?_ | with_reducible refine eqO_LL_t ?_); (conv => whnf)) | ((try dsimp only); (first | (rw [decide_eq_true]; rotate_left; (focus ((first | assumption | omega | rfl | decide); done))) | (rw [decide_eq_false]; rotate_left; (focus ((first | assumption | omega | rfl | decide); done)))); (conv => whnf)))))
        simp only [hva]
        ((try dsimp only [List.set_cons_zero, List.set_cons_succ, startD, wip, List.map_cons, List.map_nil, n_is_so]); (conv => whnf); (repeat (first | ((with_reducible refine SeqP.mk ?_); (try dsimp only [List.set_cons_zero, List.set_cons_succ, startD, wip, List.map_cons, List.map_nil, n_is_so]); (conv => whnf)) | ((with_reducible refine LcP.mk ?_); (conv => whnf)) | ((with_reducible refine ForP.mk ?_); (conv => whnf)) | (with_reducible apply Exists.intro) | ((with_reducible apply And.intro); (exact sdZ); (conv => whnf)) | ((first | with_reducible refine eqO_int_f ?_ | with_reducible refine eqO_int_t ?_ | with_reducible refine eqO_str_f ?_ | with_reducible refine eqO_str_t ?_ | with_reducible refine eqO_bl_f ?_ | with_reducible refine eqO_bl_t ?_ | with_reducible refine eqO_KK_f ?_ | with_reducible refine eqO_KK_t ?_ | with_reducible refine eqO_LL_f ?_ | with_reducible refine eqO_LL_t ?_); (conv => whnf)) | ((try dsimp only); (first | (rw [decide_eq_true]; rotate_left; (focus ((first | assumption | omega | rfl | decide); done))) | (rw [decide_eq_false]; rotate_left; (focus ((first | assumption | omega | rfl | decide); done)))); (conv => whnf)))))
        exact fin_same q
    | and a b =>
      unfold Sy.so at q
      unfold Sy.dep at hd
      have pa := a.dep_pos
      have pb := b.dep_pos
      obtain ⟨N, rfl⟩ : ∃ N, n = N + 1 := ⟨n - 1, by omega⟩
      have ha1 : a.ok m := ho.1
      have hb1 : b.ok m := ho.2
      have sl : (List.map Sy.d (Sy.and a b).subs).length = 2 := rfl
      cases hva : a.so as <;> cases hvb : b.so as
      all_goals
        simp only [hva, hvb] at q
        ((try dsimp only [List.set_cons_zero, List.set_cons_succ, startD, wip, List.map_cons, List.map_nil, n_is_so]); (conv => whnf); (repeat (first | ((with_reducible refine SeqP.mk ?_); (try dsimp only [List.set_cons_zero, List.set_cons_succ, startD, wip, List.map_cons, List.map_nil, n_is_so]); (conv => whnf)) | ((with_reducible refine LcP.mk ?_); (conv => whnf)) | ((with_reducible refine ForP.mk ?_); (conv => whnf)) | (with_reducible apply Exists.intro) | ((with_reducible apply And.intro); (exact sdZ); (conv => whnf)) | ((first | with_reducible refine eqO_int_f ?_ | with_reducible refine eqO_int_t ?_ | with_reducible refine eqO_str_f ?_ | with_reducible refine eqO_str_t ?_ | with_reducible refine eqO_bl_f ?_ | with_reducible refine eqO_bl_t ?_ | with_reducible refine eqO_KK_f ?_ | with_reducible refine eqO_KK_t ?_ | with_reducible refine eqO_LL_f ?_ | with_reducible refine eqO_LL_t ?_); (conv => whnf)) | ((try dsimp only); (first | (rw [decide_eq_true]; rotate_left; (focus ((first | assumption | omega | rfl | decide); done))) | (rw [decide_eq_false]; rotate_left; (focus ((first | assumption | omega | rfl | decide); done)))); (conv => whnf)))))
        simp only [hva, hvb]
        ((try dsimp only [List.set_cons_zero, List.set_cons_succ, startD, wip, List.map_cons, List.map_nil, n_is_so]); (conv => whnf); (repeat (first | ((with_reducible refine SeqP.mk ?_); (try dsimp only [List.set_cons_zero, List.set_cons_succ, startD, wip, List.map_cons, List.map_nil, n_is_so]); (conv => whnf)) | ((with_reducible refine LcP.mk ?_); (conv => whnf)) | ((with_reducible refine ForP.mk ?_); (conv => whnf)) | (with_reducible apply Exists.intro) | ((with_reducible apply And.intro); (exact sdZ); (conv => whnf)) | ((first | with_reducible refine eqO_int_f ?_ | with_reducible refine eqO_int_t ?_ | with_reducible refine eqO_str_f ?_ | with_reducible refine eqO_str_t ?_ | with_reducible refine eqO_bl_f ?_ | with_reducible refine eqO_bl_t ?_ | with_reducible refine eqO_KK_f ?_ | with_reducible refine eqO_KK_t ?_ | with_reducible refine eqO_LL_f ?_ | with_reducible refine eqO_LL_t ?_); (conv => whnf)) | ((try dsimp only); (first | (rw [decide_eq_true]; rotate_left; (focus ((first | assumption | omega | rfl | decide); done))) | (rw [decide_eq_false]; rotate_left; (focus ((first | assumption | omega | rfl | decide); done)))); (conv => whnf)))))
        exact fin_same q
    | or a b =>
      unfold Sy.so at q
      unfold Sy.dep at hd
      have pa := a.dep_pos
      have pb := b.dep_pos
      obtain ⟨N, rfl⟩ : ∃ N, n = N + 1 := ⟨n - 1, by omega⟩
      have ha1 : a.ok m := ho.1
      have hb1 : b.ok m := ho.2
      have sl : (List.map Sy.d (Sy.or a b).subs).length = 2 := rfl
      cases hva : a.so as <;> cases hvb : b.so as
      all_goals
        simp only [hva, hvb] at q
        ((try dsimp only [List.set_cons_zero, List.set_cons_succ, startD, wip, List.map_cons, List.map_nil, n_is_so]); (conv => whnf); (repeat (first | ((with_reducible refine SeqP.mk ?_); (try dsimp only [List.set_cons_zero, List.set_cons_succ, startD, wip, List.map_cons, List.map_nil, n_is_so]); (conv => whnf)) | ((with_reducible refine LcP.mk ?_); (conv => whnf)) | ((with_reducible refine ForP.mk ?_); (conv => whnf)) | (with_reducible apply Exists.intro) | ((with_reducible apply And.intro); (exact sdZ); (conv => whnf)) | ((first | with_reducible refine eqO_int_f ?_ | with_reducible refine eqO_int_t ?_ | with_reducible refine eqO_str_f ?_ | with_reducible refine eqO_str_t ?_ | with_reducible refine eqO_bl_f ?_ | with_reducible refine eqO_bl_t ?_ | with_reducible refine eqO_KK_f ?_ | with_reducible refine eqO_KK_t ?_ | with_reducible refine eqO_LL_f ?_ | with_reducible refine eqO_LL_t ?_); (conv => whnf)) | ((try dsimp only); (first | (rw [decide_eq_true]; rotate_left; (focus ((first | assumption | omega | rfl | decide); done))) | (rw [decide_eq_false]; rotate_left; (focus ((first | assumption | omega | rfl | decide); done)))); (conv => whnf)))))
        simp only [hva, hvb]
        ((try dsimp only [List.set_cons_zero, List.set_cons_succ, startD, wip, List.map_cons, List.map_nil, n_is_so]); (conv => whnf); (repeat (first | ((with_reducible refine SeqP.mk ?_); (try dsimp only [List.set_cons_zero, List.set_cons_succ, startD, wip, List.map_cons, List.map_nil, n_is_so]); (conv => whnf)) | ((with_reducible refine LcP.mk ?_); (conv => whnf)) | ((with_reducible refine ForP.mk ?_); (conv => whnf)) | (with_reducible apply Exists.intro) | ((with_reducible apply And.intro); (exact sdZ); (conv => whnf)) | ((first | with_reducible refine eqO_int_f ?_ | with_reducible refine eqO_int_t ?_ | with_reducible refine eqO_str_f ?_ | with_reducible refine eqO_str_t ?_ | with_reducible refine eqO_bl_f ?_ | with_reducible refine eqO_bl_t ?_ | with_reducible refine eqO_KK_f ?_ | with_reducible refine eqO_KK_t ?_ | with_reducible refine eqO_LL_f ?_ | with_reducible refine eqO_LL_t ?_); (conv => whnf)) | ((try dsimp only); (first | (rw [decide_eq_true]; rotate_left; (focus ((first | assumption | omega | rfl | decide); done))) | (rw [decide_eq_false]; rotate_left; (focus ((first | assumption | omega | rfl | decide); done)))); (conv => whnf)))))
        exact fin_same q
    | either a b =>
      unfold Sy.so at q
      unfold Sy.dep at hd
      have pa := a.dep_pos
      have pb := b.dep_pos
      obtain ⟨N, rfl⟩ : ∃ N, n = N + 1 := ⟨n - 1, by omega⟩
      have ha1 : a.ok m := ho.1
      have hb1 : b.ok m := ho.2
      have sl : (List.map Sy.d (Sy.either a b).subs).length = 2 := rfl
      cases hva : a.so as <;> cases hvb : b.so as
      all_goals
        simp only [hva, hvb] at q
        ((try dsimp only [List.set_cons_zero, List.set_cons_succ, startD, wip, List.map_cons, List.map_nil, n_is_so]); (conv => whnf); (repeat (first | ((with_reducible refine SeqP.mk ?_); (try dsimp only [List.set_cons_zero, List.set_cons_succ, startD, wip, List.map_cons, List.map_nil, n_is_so]); (conv => whnf)) | ((with_reducible refine LcP.mk ?_); (conv => whnf)) | ((with_reducible refine ForP.mk ?_); (conv => whnf)) | (with_reducible apply Exists.intro) | ((with_reducible apply And.intro); (exact sdZ); (conv => whnf)) | ((first | with_reducible refine eqO_int_f ?_ | with_reducible refine eqO_int_t ?_ | with_reducible refine eqO_str_f ?_ | with_reducible refine eqO_str_t ?_ | with_reducible refine eqO_bl_f ?_ | with_reducible refine eqO_bl_t ?_ | with_reducible refine eqO_KK_f ?_ | with_reducible refine eqO_KK_t ?_ | with_reducible refine eqO_LL_f ?_ | with_reducible refine eqO_LL_t ?_); (conv => whnf)) | ((try dsimp only); (first | (rw [decide_eq_true]; rotate_left; (focus ((first | assumption | omega | rfl | decide); done))) | (rw [decide_eq_false]; rotate_left; (focus ((first | assumption | omega | rfl | decide); done)))); (conv => whnf)))))
        simp only [hva, hvb]
        ((try dsimp only [List.set_cons_zero, List.set_cons_succ, startD, wip, List.map_cons, List.map_nil, n_is_so]); (conv => whnf); (repeat (first | ((with_reducible refine SeqP.mk ?_); (try dsimp only [List.set_cons_zero, List.set_cons_succ, startD, wip, List.map_cons, List.map_nil, n_is_so]); (conv => whnf)) | ((with_reducible refine LcP.mk ?_); (conv => whnf)) | ((with_reducible refine ForP.mk ?_); (conv => whnf)) | (with_reducible apply Exists.intro) | ((with_reducible apply And.intro); (exact sdZ); (conv => whnf)) | ((first | with_reducible refine eqO_int_f ?_ | with_reducible refine eqO_int_t ?_ | with_reducible refine eqO_str_f ?_ | with_reducible refine eqO_str_t ?_ | with_reducible refine eqO_bl_f ?_ | with_reducible refine eqO_bl_t ?_ | with_reducible refine eqO_KK_f ?_ | with_reducible refine eqO_KK_t ?_ | with_reducible refine eqO_LL_f ?_ | with_reducible refine eqO_LL_t ?_); (conv => whnf)) | ((try dsimp only); (first | (rw [decide_eq_true]; rotate_left; (focus ((first | assumption | omega | rfl | decide); done))) | (rw [decide_eq_false]; rotate_left; (focus ((first | assumption | omega | rfl | decide); done)))); (conv => whnf)))))
        exact fin_same q
    | most a b c =>
      unfold Sy.so at q
      unfold Sy.dep at hd
      have pa := a.dep_pos
      have pb := b.dep_pos
      have pc := c.dep_pos
      obtain ⟨N, rfl⟩ : ∃ N, n = N + 1 := ⟨n - 1, by omega⟩
      have ha1 : a.ok m := ho.1
      have hb1 : b.ok m := ho.2.1
      have hc1 : c.ok m := ho.2.2
      have sl : (List.map Sy.d (Sy.most a b c).subs).length = 3 := rfl
      cases hva : a.so as <;> cases hvb : b.so as <;> cases hvc : c.so as
      all_goals
        simp only [hva, hvb, hvc] at q
        ((try dsimp only [List.set_cons_zero, List.set_cons_succ, startD, wip, List.map_cons, List.map_nil, n_is_so]); (conv => whnf); (repeat (first | ((with_reducible refine SeqP.mk ?_); (try dsimp only [List.set_cons_zero, List.set_cons_succ, startD, wip, List.map_cons, List.map_nil, n_is_so]); (conv => whnf)) | ((with_reducible refine LcP.mk ?_); (conv => whnf)) | ((with_reducible refine ForP.mk ?_); (conv => whnf)) | (with_reducible apply Exists.intro) | ((with_reducible apply And.intro); (exact sdZ); (conv => whnf)) | ((first | with_reducible refine eqO_int_f ?_ | with_reducible refine eqO_int_t ?_ | with_reducible refine eqO_str_f ?_ | with_reducible refine eqO_str_t ?_ | with_reducible refine eqO_bl_f ?_ | with_reducible refine eqO_bl_t ?_ | with_reducible refine eqO_KK_f ?_ | with_reducible refine eqO_KK_t ?_ | with_reducible refine eqO_LL_f ?_ | with_reducible refine eqO_LL_t ?_); (conv => whnf)) | ((try dsimp only); (first | (rw [decide_eq_true]; rotate_left; (focus ((first | assumption | omega | rfl | decide); done))) | (rw [decide_eq_false]; rotate_left; (focus ((first | assumption | omega | rfl | decide); done)))); (conv => whnf)))))
        simp only [hva, hvb, hvc]
        ((try dsimp only [List.set_cons_zero, List.set_cons_succ, startD, wip, List.map_cons, List.map_nil, n_is_so]); (conv => whnf); (repeat (first | ((with_reducible refine SeqP.mk ?_); (try dsimp only [List.set_cons_zero, List.set_cons_succ, startD, wip, List.map_cons, List.map_nil, n_is_so]); (conv => whnf)) | ((with_reducible refine LcP.mk ?_); (conv => whnf)) | ((with_reducible refine ForP.mk ?_); (conv => whnf)) | (with_reducible apply Exists.intro) | ((with_reducible apply And.intro); (exact sdZ); (conv => whnf)) | ((first | with_reducible refine eqO_int_f ?_ | with_reducible refine eqO_int_t ?_ | with_reducible refine eqO_str_f ?_ | with_reducible refine eqO_str_t ?_ | with_reducible refine eqO_bl_f ?_ | with_reducible refine eqO_bl_t ?_ | with_reducible refine eqO_KK_f ?_ | with_reducible refine eqO_KK_t ?_ | with_reducible refine eqO_LL_f ?_ | with_reducible refine eqO_LL_t ?_); (conv => whnf)) | ((try dsimp only); (first | (rw [decide_eq_true]; rotate_left; (focus ((first | assumption | omega | rfl | decide); done))) | (rw [decide_eq_false]; rotate_left; (focus ((first | assumption | omega | rfl | decide); done)))); (conv => whnf)))))
        exact fin_same q
theorem is_so_all {f : Addr} {fd : FuncData} (F : Fun K "is_so" "is_so" s_is_so f fd) (hm : mg "is_so" = some (.ref f)) (m_len : mg "len" = none) (F_inner : ∀ k, 1 ≤ k → Fc P w K mg base k "inner" p_inner sp_inner) (hk : PySem.W.keepIn K (.ref f) = true) (hb : Binds K fd p_is_so []) : ∀ n, Fc P w K mg base (1 + n) "is_so" p_is_so (sp_is_so n)
  | 0 => ⟨f, fd, hm, hk, hb, ⟨fun _ _ _ _ h => h.elim, fun _ _ _ _ _ _ _ _ _ _ _ _ _ ⟨_, _, _, _, _, _, _, _, z, _⟩ => z.elim⟩⟩
  | n + 1 => ⟨f, fd, hm, hk, hb, ok_is_so F m_len (F_inner (1 + n) (by omega)) (is_so_all F hm m_len F_inner hk hb n)⟩

def sp_all_answers : SpD := fun ds S Q _ => ∃ n : Nat, ds = [.int n] ∧ n ≤ 10 ∧ ∀ p, S p = none → Q (.ref p) (sput S p (.lst ((allI n).map D.tpk)))
abbrev s_all_answers : Stmt := topS 1
abbrev n_all_answers : List Str := ["questions", "found", "turn", "longer", "answers"]
abbrev p_all_answers : List Str := ["questions"]
theorem sc_all_answers : FnScope n_all_answers p_all_answers (defScope s_all_answers) := ⟨rfl, rfl, rfl, by decide +kernel, rfl, by decide +kernel, by decide +kernel⟩
theorem ok_all_answers {f : Addr} {fd : FuncData} (F : Fun K "all_answers" "all_answers" s_all_answers f fd) (m_range : mg "range" = none) : FnD P w K mg base (k + 1) f fd p_all_answers sp_all_answers := by
  refine FnD.of F sc_all_answers ?_ (fun X C E' cdv A outer s H E hX hr hx po hc => by
    subst hX
    exact (dss_cons (ds_set (i := 1) sc_all_answers.nd rfl (de_lst true (da_cons (de_tupK da_nil) da_nil)))
      (dss_cons (ds_for po rfl (di_r1 (by rfl) m_range (dv 0)) (dg_name (i := 2) sc_all_answers.nd rfl) (dss_cons (ds_set (i := 3) sc_all_answers.nd rfl (de_lst true da_nil))
      (dss_cons (ds_for po rfl (di_seq (dv 1)) (dg_name (i := 4) sc_all_answers.nd rfl) (dss_one (ds_expr (de_m PySem.F.plainAttrs_list PySem.F.slot_list_extend PySem.F.type_list_extend mt_ext (dv 3) (da_cons (de_lst false (da_cons (de_op or_addK (dv 4) (de_tupK (da_cons de_int da_nil))) (da_cons (de_op or_addK (dv 4) (de_tupK (da_cons de_int da_nil))) da_nil))) da_nil)))))
      (dss_one (ds_set (i := 1) sc_all_answers.nd rfl (dv 3))))))
      (dss_one (ds_ret (dv 1)))))) ?_
  · rintro ds S Q E ⟨n, rfl, _⟩; rfl
  · rintro ds S Q E' ⟨n, rfl, hn, q⟩
    rw [show startD n_all_answers [.int n] = [some (.int n), none, none, none, none] from rfl]
    simp only [dNext, dSeq, dBreak, dCont, dDrop, dRet, dRetN, dIf, gN, gsNil, gsCons, gT, dAsg, dSet, dPar, gSb, dAug, dFor, dVar, dC, dOp, dTst, dChain, dNot, dAnd, dOr, dNotV, dAndV, dOrV, dNeg, dNil, dCons, dTup, dLst, dCB, iiR, subR, addR, isNR, eqR_int, eqR_bl, inR, dSo, dNo, dSl, dLc, one, two, tupR, lstR, allR, anyR, sumR, intR, strR, sortR, dTupK, addKR, tupKR, dRg1, dRg2, dTupRg, dLstRg, iD, iR1, iR2, dMt, dMt0, onL, appR, extR, popR, popAtR, revR, clrR, idxR, dTIdx, iEn, iZp, dIsLT, dCall, slot, wip, ixR_tup, ixR_tpk, ixR_lst, ixR_scr, lenR_tup, lenR_tpk, lenR_lst, lenR_scr, lenR_str, walkR_tup, walkR_tpk, walkR_lst, walkR_scr, walkR_str, itsR_tup, itsR_tpk, itsR_lst, slR_tup, slR_tpk, slR_lst, slR_scr, mk_t, mk_f, asL_lst, asL_scr, asQ_tup, asQ_tpk, asQ_lst, asQ_scr, asM_lst, asT_tup, asT_tpk, atI_0, atI_1, List.map_cons, List.map_nil, List.set_cons_zero, List.set_cons_succ, List.getElem?_cons_zero, List.getElem?_cons_succ, Option.some.injEq, exists_eq_left', exists_eq_left, true_and, and_true, setR_ref', ixR_ref', lenR_ref', asQ_ref', asL_ref', isltR_int, isltR_bl, isltR_str, isltR_non, isiR_int_bool, isiR_bl_bool, isiR_str_bool, isiR_non_bool, eqR_str, eqR_non, dPar3, iRv, insR, mulLR, rpiR, atI_2, ixR_d0, ixR_d1, ixR_d2, seqP_eq]
    refine ⟨[], rfl, le_sz (by decide), le_sz (by decide), fun p np => ⟨by omega, ?_⟩⟩
    refine for_inv (fun i e S2 => ∃ p y2 y3 y4, e = [some (.int n), some (.ref p), y2, y3, y4] ∧ S p = none ∧ S2 p = some (.lst ((allI i).map D.tpk)) ∧ Ext S S2) ⟨p, _, _, _, rfl, np, sput_same, Ext.refl.put np⟩ (fun _ _ _ _ _ => trivial) (fun i z e S2 N hz h hN => ?_) fun e S2 h => ?_
    · obtain ⟨p, y2, y3, y4, rfl, np, hp, hx⟩ := h
      have hi := (List.getElem?_eq_some_iff.mp hz).1
      rw [List.length_map] at hi
      have lr := rngI_len (n := (n : Int)) (by omega)
      have li := allI_len i
      have lp := pow_le10 (n := i) (by omega)
      simp only [dNext, dSeq, dBreak, dCont, dDrop, dRet, dRetN, dIf, gN, gsNil, gsCons, gT, dAsg, dSet, dPar, gSb, dAug, dFor, dVar, dC, dOp, dTst, dChain, dNot, dAnd, dOr, dNotV, dAndV, dOrV, dNeg, dNil, dCons, dTup, dLst, dCB, iiR, subR, addR, isNR, eqR_int, eqR_bl, inR, dSo, dNo, dSl, dLc, one, two, tupR, lstR, allR, anyR, sumR, intR, strR, sortR, dTupK, addKR, tupKR, dRg1, dRg2, dTupRg, dLstRg, iD, iR1, iR2, dMt, dMt0, onL, appR, extR, popR, popAtR, revR, clrR, idxR, dTIdx, iEn, iZp, dIsLT, dCall, slot, wip, ixR_tup, ixR_tpk, ixR_lst, ixR_scr, lenR_tup, lenR_tpk, lenR_lst, lenR_scr, lenR_str, walkR_tup, walkR_tpk, walkR_lst, walkR_scr, walkR_str, itsR_tup, itsR_tpk, itsR_lst, slR_tup, slR_tpk, slR_lst, slR_scr, mk_t, mk_f, asL_lst, asL_scr, asQ_tup, asQ_tpk, asQ_lst, asQ_scr, asM_lst, asT_tup, asT_tpk, atI_0, atI_1, List.map_cons, List.map_nil, List.set_cons_zero, List.set_cons_succ, List.getElem?_cons_zero, List.getElem?_cons_succ, Option.some.injEq, exists_eq_left', exists_eq_left, true_and, and_true, setR_ref', ixR_ref', lenR_ref', asQ_ref', asL_ref', isltR_int, isltR_bl, isltR_str, isltR_non, isiR_int_bool, isiR_bl_bool, isiR_str_bool, isiR_non_bool, eqR_str, eqR_non, dPar3, iRv, insR, mulLR, rpiR, atI_2, ixR_d0, ixR_d1, ixR_d2, seqP_eq]
      refine ⟨le_sz (by decide), fun r nr => ?_⟩
      have rp : p ≠ r := ne_none hp nr |>.symm
      have hp2 : ∀ c, sput S2 r c p = some (.lst ((allI i).map D.tpk)) := fun c => (sput_ne rp).trans hp
      rw [walkR_ref (hp2 _)]
      refine for_inv (fun j e S3 => ∃ y4, e = [some (.int n), some (.ref p), some z, some (.ref r), y4] ∧ S3 = sput S2 r (.lst ((((allI i).take j).flatMap fun a => [a ++ [0], a ++ [1]]).map D.tpk))) ⟨_, rfl, rfl⟩ (fun j e S3 _ h => by obtain ⟨_, _, rfl⟩ := h; exact asL_ref (hp2 _)) (fun j z e S3 M hz h hM => ?_) fun e S3 h => ?_
      · obtain ⟨y4, rfl, rfl⟩ := h
        rw [List.getElem?_map] at hz
        cases ha : (allI i)[j]? with
        | none => rw [ha] at hz; cases hz
        | some a =>
          rw [ha] at hz; cases hz
          have hj := (List.getElem?_eq_some_iff.mp ha).1
          have al := (allI_ok i a (List.mem_of_getElem? ha)).len
          have fl : ((((allI i).take j).flatMap fun a => [a ++ [0], a ++ [1]]).length) = 2 * j := by
            have : ∀ l : List (List Int), (l.flatMap fun a => [a ++ [(0 : Int)], a ++ [1]]).length = 2 * l.length := fun l => by
              induction l with
              | nil => rfl
              | cons x r ih => rw [List.flatMap_cons, List.length_append, ih]; simp only [List.length_cons, List.length_nil]; omega
            rw [this, List.length_take]; omega
          have fl2 : (((((allI i).take j).flatMap fun a => [a ++ [0], a ++ [1]]).map D.tpk).length) = 2 * j := by rw [List.length_map, fl]
          ((try dsimp only [List.set_cons_zero, List.set_cons_succ, startD, wip, List.map_cons, List.map_nil, n_all_answers]); (conv => whnf); (repeat (first | ((with_reducible refine SeqP.mk ?_); (try dsimp only [List.set_cons_zero, List.set_cons_succ, startD, wip, List.map_cons, List.map_nil, n_all_answers]); (conv => whnf)) | (with_reducible apply Exists.intro) | ((with_reducible apply And.intro); (exact sdZ); (conv => whnf)) | ((first | with_reducible refine eqO_int_f ?_ | with_reducible refine eqO_int_t ?_ | with_reducible refine eqO_str_f ?_ | with_reducible refine eqO_str_t ?_ | with_reducible refine eqO_bl_f ?_ | with_reducible refine eqO_bl_t ?_ | with_reducible refine eqO_KK_f ?_ | with_reducible refine eqO_KK_t ?_ | with_reducible refine eqO_LL_f ?_ | with_reducible refine eqO_LL_t ?_); (conv => whnf)) | ((try dsimp only); (first | (rw [decide_eq_true]; rotate_left; (focus ((first | assumption | omega | rfl | decide); done))) | (rw [decide_eq_false]; rotate_left; (focus ((first | assumption | omega | rfl | decide); done)))); (conv => whnf)))))
          · rw [sput_sput]
            refine hM _ _ ⟨_, rfl, ?_⟩
            rw [List.take_add_one, ha, List.flatMap_append, List.map_append]; rfl
      · obtain ⟨y4, rfl, rfl⟩ := h
        rw [List.length_map, List.take_length]
        simp only [dNext, dSeq, dBreak, dCont, dDrop, dRet, dRetN, dIf, gN, gsNil, gsCons, gT, dAsg, dSet, dPar, gSb, dAug, dFor, dVar, dC, dOp, dTst, dChain, dNot, dAnd, dOr, dNotV, dAndV, dOrV, dNeg, dNil, dCons, dTup, dLst, dCB, iiR, subR, addR, isNR, eqR_int, eqR_bl, inR, dSo, dNo, dSl, dLc, one, two, tupR, lstR, allR, anyR, sumR, intR, strR, sortR, dTupK, addKR, tupKR, dRg1, dRg2, dTupRg, dLstRg, iD, iR1, iR2, dMt, dMt0, onL, appR, extR, popR, popAtR, revR, clrR, idxR, dTIdx, iEn, iZp, dIsLT, dCall, slot, wip, ixR_tup, ixR_tpk, ixR_lst, ixR_scr, lenR_tup, lenR_tpk, lenR_lst, lenR_scr, lenR_str, walkR_tup, walkR_tpk, walkR_lst, walkR_scr, walkR_str, itsR_tup, itsR_tpk, itsR_lst, slR_tup, slR_tpk, slR_lst, slR_scr, mk_t, mk_f, asL_lst, asL_scr, asQ_tup, asQ_tpk, asQ_lst, asQ_scr, asM_lst, asT_tup, asT_tpk, atI_0, atI_1, List.map_cons, List.map_nil, List.set_cons_zero, List.set_cons_succ, List.getElem?_cons_zero, List.getElem?_cons_succ, Option.some.injEq, exists_eq_left', exists_eq_left, true_and, and_true, setR_ref', ixR_ref', lenR_ref', asQ_ref', asL_ref', isltR_int, isltR_bl, isltR_str, isltR_non, isiR_int_bool, isiR_bl_bool, isiR_str_bool, isiR_non_bool, eqR_str, eqR_non, dPar3, iRv, insR, mulLR, rpiR, atI_2, ixR_d0, ixR_d1, ixR_d2, seqP_eq]
        refine hN _ _ ⟨r, _, _, _, rfl, ?_, sput_same, hx.put nr⟩
        rcases hx r with h | h
        · exact h
        · rw [← h]; exact nr
    · obtain ⟨p, y2, y3, y4, rfl, np, hp, hx⟩ := h
      have lr := rngI_len (n := (n : Int)) (by omega)
      rw [List.length_map, show (rngI 0 (n : Int)).length = n by omega] at hp
      simp only [dNext, dSeq, dBreak, dCont, dDrop, dRet, dRetN, dIf, gN, gsNil, gsCons, gT, dAsg, dSet, dPar, gSb, dAug, dFor, dVar, dC, dOp, dTst, dChain, dNot, dAnd, dOr, dNotV, dAndV, dOrV, dNeg, dNil, dCons, dTup, dLst, dCB, iiR, subR, addR, isNR, eqR_int, eqR_bl, inR, dSo, dNo, dSl, dLc, one, two, tupR, lstR, allR, anyR, sumR, intR, strR, sortR, dTupK, addKR, tupKR, dRg1, dRg2, dTupRg, dLstRg, iD, iR1, iR2, dMt, dMt0, onL, appR, extR, popR, popAtR, revR, clrR, idxR, dTIdx, iEn, iZp, dIsLT, dCall, slot, wip, ixR_tup, ixR_tpk, ixR_lst, ixR_scr, lenR_tup, lenR_tpk, lenR_lst, lenR_scr, lenR_str, walkR_tup, walkR_tpk, walkR_lst, walkR_scr, walkR_str, itsR_tup, itsR_tpk, itsR_lst, slR_tup, slR_tpk, slR_lst, slR_scr, mk_t, mk_f, asL_lst, asL_scr, asQ_tup, asQ_tpk, asQ_lst, asQ_scr, asM_lst, asT_tup, asT_tpk, atI_0, atI_1, List.map_cons, List.map_nil, List.set_cons_zero, List.set_cons_succ, List.getElem?_cons_zero, List.getElem?_cons_succ, Option.some.injEq, exists_eq_left', exists_eq_left, true_and, and_true, setR_ref', ixR_ref', lenR_ref', asQ_ref', asL_ref', isltR_int, isltR_bl, isltR_str, isltR_non, isiR_int_bool, isiR_bl_bool, isiR_str_bool, isiR_non_bool, eqR_str, eqR_non, dPar3, iRv, insR, mulLR, rpiR, atI_2, ixR_d0, ixR_d1, ixR_d2, seqP_eq]
      exact fin_drop (hx.dropTo hp) (q p np)


def sp_spread : Nat → SpD
  | 0 => fun _ _ _ _ => False
  | N + 1 => fun ds S Q _ => ∃ (n : Nat) (q : Int) (W : List Int), ds = [.lst (W.map D.int), .int q] ∧ W.length = 2 ^ n ∧ n ≤ N ∧ N ≤ 10 ∧ 0 ≤ q ∧ q + (n : Int) ≤ 50 ∧ ∀ p, S p = none → Q (.ref p) (sput S p (.dct ((sprI n q W).map kvD)))
abbrev s_spread : Stmt := topS 6
abbrev n_spread : List Str := ["worths", "q", "half", "no", "yes", "found", "questions", "b"]
abbrev p_spread : List Str := ["worths", "q"]
theorem sc_spread : FnScope n_spread p_spread (defScope s_spread) := ⟨rfl, rfl, rfl, by decide +kernel, rfl, by decide +kernel, by decide +kernel⟩
theorem ok_spread {f : Addr} {fd : FuncData} {n : Nat} (F : Fun K "spread" "spread" s_spread f fd) (m_len : mg "len" = none) (F_spread : Fc P w K mg base k "spread" p_spread (sp_spread n)) : FnD P w K mg base (k + 1) f fd p_spread (sp_spread (n+1)) := by
  refine FnD.of F sc_spread ?_ (fun X C E' cdv A outer s H E hX hr hx po hc => by
    subst hX
    exact (dss_cons (ds_if (dt_cmp (or_eq hr.u64) (de_b cr_len (by rfl) m_len b_len (da_cons (dv 0) da_nil)) de_int) (dss_one (ds_ret (de_disp1 (by have := hr.u64; omega) (de_tupK da_nil) (de_ix (dv 0) de_int)))) dss_nil)
      (dss_cons (ds_set (i := 2) sc_spread.nd rfl (de_op or_div (de_b cr_len (by rfl) m_len b_len (da_cons (dv 0) da_nil)) de_int))
      (dss_cons (ds_set (i := 3) sc_spread.nd rfl (de_call F_spread hr xok0 (by rfl) (da_cons (de_sl false (dv 0) do_no (do_so (dv 2))) (da_cons (de_op (or_add false) (dv 1) de_int) da_nil))))
      (dss_cons (ds_set (i := 4) sc_spread.nd rfl (de_call F_spread hr xok0 (by rfl) (da_cons (de_sl false (dv 0) (do_so (dv 2)) do_no) (da_cons (de_op (or_add false) (dv 1) de_int) da_nil))))
      (dss_cons (ds_set (i := 5) sc_spread.nd rfl de_newD)
      (dss_cons (ds_for po rfl (di_dct (dv 3)) (dg_name (i := 6) sc_spread.nd rfl) (dss_cons (ds_set (i := 7) sc_spread.nd rfl (de_op or_mod (de_op or_sub (de_kget hr.u65 (dv 4) (dv 6)) (de_kgetF hr.u65 (dv 3) (dv 6))) de_int))
      (dss_cons (ds_asg (de_op or_mod (de_op or_sub (de_kgetF hr.u65 (dv 3) (dv 6)) (dv 7)) de_int) (dg_sub (dv 5) (dv 6) (sr_dct hr.u65)))
      (dss_one (ds_asg (dv 7) (dg_sub (dv 5) (de_op or_addK (de_tupK (da_cons (dv 1) da_nil)) (dv 6)) (sr_dct hr.u65)))))))
      (dss_one (ds_ret (dv 5)))))))))) ?_
  · rintro ds S Q E ⟨k, q, W, rfl, _⟩; rfl
  · rintro ds S Q E' ⟨k, q0, W, rfl, hW, hk, hN, q00, q01, q⟩
    have lW : (W.map D.int).length = 2 ^ k := by rw [List.length_map]; exact hW
    cases k with
    | zero =>
      have h1 : ((W.map D.int).length : Int) = 1 := by rw [lW]; rfl
      obtain ⟨w, rfl⟩ : ∃ w, W = [w] := by
        match W, hW with
        | [w], _ => exact ⟨w, rfl⟩
      have a0 : atI (List.map D.int [w]) 0 = some (.int w) := atI_0
      ((try dsimp only [List.set_cons_zero, List.set_cons_succ, startD, wip, List.map_cons, List.map_nil, n_spread]); (conv => whnf); (repeat (first | ((with_reducible refine SeqP.mk ?_); (try dsimp only [List.set_cons_zero, List.set_cons_succ, startD, wip, List.map_cons, List.map_nil, n_spread]); (conv => whnf)) | (with_reducible apply Exists.intro) | ((with_reducible apply And.intro); (exact sdZ); (conv => whnf)) | ((first | with_reducible refine eqO_int_f ?_ | with_reducible refine eqO_int_t ?_ | with_reducible refine eqO_str_f ?_ | with_reducible refine eqO_str_t ?_ | with_reducible refine eqO_bl_f ?_ | with_reducible refine eqO_bl_t ?_ | with_reducible refine eqO_KK_f ?_ | with_reducible refine eqO_KK_t ?_ | with_reducible refine eqO_LL_f ?_ | with_reducible refine eqO_LL_t ?_); (conv => whnf)) | ((try dsimp only); (first | (rw [decide_eq_true]; rotate_left; (focus ((first | assumption | omega | rfl | decide); done))) | (rw [decide_eq_false]; rotate_left; (focus ((first | assumption | omega | rfl | decide); done)))); (conv => whnf)))))
      intro p np
      ((try dsimp only [List.set_cons_zero, List.set_cons_succ, startD, wip, List.map_cons, List.map_nil, n_spread]); (conv => whnf); (repeat (first | ((with_reducible refine SeqP.mk ?_); (try dsimp only [List.set_cons_zero, List.set_cons_succ, startD, wip, List.map_cons, List.map_nil, n_spread]); (conv => whnf)) | (with_reducible apply Exists.intro) | ((with_reducible apply And.intro); (exact sdZ); (conv => whnf)) | ((first | with_reducible refine eqO_int_f ?_ | with_reducible refine eqO_int_t ?_ | with_reducible refine eqO_str_f ?_ | with_reducible refine eqO_str_t ?_ | with_reducible refine eqO_bl_f ?_ | with_reducible refine eqO_bl_t ?_ | with_reducible refine eqO_KK_f ?_ | with_reducible refine eqO_KK_t ?_ | with_reducible refine eqO_LL_f ?_ | with_reducible refine eqO_LL_t ?_); (conv => whnf)) | ((try dsimp only); (first | (rw [decide_eq_true]; rotate_left; (focus ((first | assumption | omega | rfl | decide); done))) | (rw [decide_eq_false]; rotate_left; (focus ((first | assumption | omega | rfl | decide); done)))); (conv => whnf)))))
      rw [sput_sput]
      exact fin_same (q p np)
    | succ k =>
      have p1 : 2 ^ (k + 1) = 2 ^ k + 2 ^ k := by rw [Nat.pow_succ]; omega
      have pk : 1 ≤ 2 ^ k := Nat.one_le_two_pow
      have h1 : ¬ ((W.map D.int).length : Int) = 1 := by rw [lW]; omega
      have hh : (((W.map D.int).length : Nat) : Int) / 2 = ((2 ^ k : Nat) : Int) := by rw [lW, p1]; omega
      obtain ⟨M, rfl⟩ : ∃ M, n = M + 1 := ⟨n - 1, by omega⟩
      have hlW : 2 ^ k ≤ (W.map D.int).length := by rw [lW, p1]; omega
      have c1 : cutL (W.map D.int) none (some ((((W.map D.int).length : Nat) : Int) / 2)) = (W.take (2 ^ k)).map D.int := by rw [hh, cutL_to hlW, List.map_take]
      have c2 : cutL (W.map D.int) (some ((((W.map D.int).length : Nat) : Int) / 2)) none = (W.drop (2 ^ k)).map D.int := by rw [hh, cutL_from hlW, List.map_drop]
      have e1 : [D.lst (cutL (W.map D.int) none (some ((((W.map D.int).length : Nat) : Int) / 2))), D.int (q0 + 1)] = [D.lst ((W.take (2 ^ k)).map D.int), D.int (q0 + 1)] := by rw [c1]
      have e2 : [D.lst (cutL (W.map D.int) (some ((((W.map D.int).length : Nat) : Int) / 2)) none), D.int (q0 + 1)] = [D.lst ((W.drop (2 ^ k)).map D.int), D.int (q0 + 1)] := by rw [c2]
      have w1 : (W.take (2 ^ k)).length = 2 ^ k := by rw [List.length_take]; omega
      have w2 : (W.drop (2 ^ k)).length = 2 ^ k := by rw [List.length_drop]; omega
      have k10 : 2 ^ k ≤ 1024 := pow_le10 (n := k) (by omega)
      have lWW : (W.map D.int).length ≤ 2048 := by rw [lW, p1]; omega
      have w3 : q0 + 1 + (k : Int) ≤ 50 := by omega
      ((try dsimp only [List.set_cons_zero, List.set_cons_succ, startD, wip, List.map_cons, List.map_nil, n_spread]); (conv => whnf); (repeat (first | ((with_reducible refine SeqP.mk ?_); (try dsimp only [List.set_cons_zero, List.set_cons_succ, startD, wip, List.map_cons, List.map_nil, n_spread]); (conv => whnf)) | (with_reducible apply Exists.intro) | ((with_reducible apply And.intro); (exact sdZ); (conv => whnf)) | ((first | with_reducible refine eqO_int_f ?_ | with_reducible refine eqO_int_t ?_ | with_reducible refine eqO_str_f ?_ | with_reducible refine eqO_str_t ?_ | with_reducible refine eqO_bl_f ?_ | with_reducible refine eqO_bl_t ?_ | with_reducible refine eqO_KK_f ?_ | with_reducible refine eqO_KK_t ?_ | with_reducible refine eqO_LL_f ?_ | with_reducible refine eqO_LL_t ?_); (conv => whnf)) | ((try dsimp only); (first | (rw [decide_eq_true]; rotate_left; (focus ((first | assumption | omega | rfl | decide); done))) | (rw [decide_eq_false]; rotate_left; (focus ((first | assumption | omega | rfl | decide); done)))); (conv => whnf)))))
      intro a n1
      ((try dsimp only [List.set_cons_zero, List.set_cons_succ, startD, wip, List.map_cons, List.map_nil, n_spread]); (conv => whnf); (repeat (first | ((with_reducible refine SeqP.mk ?_); (try dsimp only [List.set_cons_zero, List.set_cons_succ, startD, wip, List.map_cons, List.map_nil, n_spread]); (conv => whnf)) | (with_reducible apply Exists.intro) | ((with_reducible apply And.intro); (exact sdZ); (conv => whnf)) | ((first | with_reducible refine eqO_int_f ?_ | with_reducible refine eqO_int_t ?_ | with_reducible refine eqO_str_f ?_ | with_reducible refine eqO_str_t ?_ | with_reducible refine eqO_bl_f ?_ | with_reducible refine eqO_bl_t ?_ | with_reducible refine eqO_KK_f ?_ | with_reducible refine eqO_KK_t ?_ | with_reducible refine eqO_LL_f ?_ | with_reducible refine eqO_LL_t ?_); (conv => whnf)) | ((try dsimp only); (first | (rw [decide_eq_true]; rotate_left; (focus ((first | assumption | omega | rfl | decide); done))) | (rw [decide_eq_false]; rotate_left; (focus ((first | assumption | omega | rfl | decide); done)))); (conv => whnf)))))
      intro b n2
      have ab : b ≠ a := ne_none sput_same n2
      have nb : S b = none := (sput_ne ab).symm.trans n2
      ((try dsimp only [List.set_cons_zero, List.set_cons_succ, startD, wip, List.map_cons, List.map_nil, n_spread]); (conv => whnf); (repeat (first | ((with_reducible refine SeqP.mk ?_); (try dsimp only [List.set_cons_zero, List.set_cons_succ, startD, wip, List.map_cons, List.map_nil, n_spread]); (conv => whnf)) | (with_reducible apply Exists.intro) | ((with_reducible apply And.intro); (exact sdZ); (conv => whnf)) | ((first | with_reducible refine eqO_int_f ?_ | with_reducible refine eqO_int_t ?_ | with_reducible refine eqO_str_f ?_ | with_reducible refine eqO_str_t ?_ | with_reducible refine eqO_bl_f ?_ | with_reducible refine eqO_bl_t ?_ | with_reducible refine eqO_KK_f ?_ | with_reducible refine eqO_KK_t ?_ | with_reducible refine eqO_LL_f ?_ | with_reducible refine eqO_LL_t ?_); (conv => whnf)) | ((try dsimp only); (first | (rw [decide_eq_true]; rotate_left; (focus ((first | assumption | omega | rfl | decide); done))) | (rw [decide_eq_false]; rotate_left; (focus ((first | assumption | omega | rfl | decide); done)))); (conv => whnf)))))
      intro f n3
      have fb : f ≠ b := ne_none sput_same n3
      have n3' := (sput_ne fb).symm.trans n3
      have fa : f ≠ a := ne_none sput_same n3'
      have nf : S f = none := (sput_ne fa).symm.trans n3'
      have ga : sput (sput (sput S a (.dct ((sprI k (q0 + 1) (W.take (2 ^ k))).map kvD))) b (.dct ((sprI k (q0 + 1) (W.drop (2 ^ k))).map kvD))) f (.dct []) a = some (.dct ((sprI k (q0 + 1) (W.take (2 ^ k))).map kvD)) := (sput_ne fa.symm).trans ((sput_ne ab.symm).trans sput_same)
      have ks1 := spr_keys k (q0 + 1) (W.take (2 ^ k))
      have ks2 := spr_keys k (q0 + 1) (W.drop (2 ^ k))
      have l1 := spr_len k (q0 + 1) (W.take (2 ^ k))
      have l2 := spr_len k (q0 + 1) (W.drop (2 ^ k))
      have ksN : (sprI (k + 1) q0 W).map (·.1) = sprK (k + 1) q0 := spr_keys (k + 1) q0 W
      have ndN : ((sprI (k + 1) q0 W).map (·.1)).Nodup := by rw [ksN]; exact sprK_nd _ _
      have lN := spr_len (k + 1) q0 W
      have eN : sprI (k + 1) q0 W = ((sprI k (q0 + 1) (W.take (2 ^ k))).zip (sprI k (q0 + 1) (W.drop (2 ^ k)))).flatMap fun p => [(p.1.1, (p.1.2 - (p.2.2 - p.1.2) % 3) % 3), (q0 :: p.1.1, (p.2.2 - p.1.2) % 3)] := rfl
      have nd1 : ((sprI k (q0 + 1) (W.take (2 ^ k))).map (·.1)).Nodup := by rw [ks1]; exact sprK_nd _ _
      have nd2 : ((sprI k (q0 + 1) (W.drop (2 ^ k))).map (·.1)).Nodup := by rw [ks2]; exact sprK_nd _ _
      have zk := zip_keys (ks1.trans ks2.symm)
      have rowk := sprK_row k (q0 + 1)
      generalize sprI (k + 1) q0 W = NN at *
      generalize sprI k (q0 + 1) (W.take (2 ^ k)) = A at *
      generalize sprI k (q0 + 1) (W.drop (2 ^ k)) = B at *
      have kA : keysK (A.map kvD) = (A.map (·.1)).map D.tpk := by unfold keysK; rw [List.map_map, List.map_map]; rfl
      ((try dsimp only [List.set_cons_zero, List.set_cons_succ, startD, wip, List.map_cons, List.map_nil, n_spread]); (conv => whnf); (repeat (first | ((with_reducible refine SeqP.mk ?_); (try dsimp only [List.set_cons_zero, List.set_cons_succ, startD, wip, List.map_cons, List.map_nil, n_spread]); (conv => whnf)) | (with_reducible apply Exists.intro) | ((with_reducible apply And.intro); (exact sdZ); (conv => whnf)) | ((first | with_reducible refine eqO_int_f ?_ | with_reducible refine eqO_int_t ?_ | with_reducible refine eqO_str_f ?_ | with_reducible refine eqO_str_t ?_ | with_reducible refine eqO_bl_f ?_ | with_reducible refine eqO_bl_t ?_ | with_reducible refine eqO_KK_f ?_ | with_reducible refine eqO_KK_t ?_ | with_reducible refine eqO_LL_f ?_ | with_reducible refine eqO_LL_t ?_); (conv => whnf)) | ((try dsimp only); (first | (rw [decide_eq_true]; rotate_left; (focus ((first | assumption | omega | rfl | decide); done))) | (rw [decide_eq_false]; rotate_left; (focus ((first | assumption | omega | rfl | decide); done)))); (conv => whnf)))))
      intro z
      rw [kA]
      have T1 : sput (sput (sput (sput S a (.dct (A.map kvD))) b (.dct (B.map kvD))) f (.dct [])) a (.dcf z (A.map kvD)) a = some (.dcf z (A.map kvD)) := sput_same
      have T2 : sput (sput (sput (sput S a (.dct (A.map kvD))) b (.dct (B.map kvD))) f (.dct [])) a (.dcf z (A.map kvD)) b = some (.dct (B.map kvD)) := (sput_ne ab).trans ((sput_ne fb.symm).trans sput_same)
      have T3 : sput (sput (sput (sput S a (.dct (A.map kvD))) b (.dct (B.map kvD))) f (.dct [])) a (.dcf z (A.map kvD)) f = some (.dct []) := (sput_ne fa).trans sput_same
      have TD : ∀ c, Drop (sput (sput (sput (sput (sput S a (.dct (A.map kvD))) b (.dct (B.map kvD))) f (.dct [])) a (.dcf z (A.map kvD))) f c) (sput S f c) := fun c x => by
        by_cases hf : x = f
        · subst hf; rw [sput_same, sput_same]; exact .inl rfl
        · rw [sput_ne hf, sput_ne hf]
          by_cases ha : x = a
          · subst ha; exact .inr n1
          · by_cases hb : x = b
            · subst hb; exact .inr nb
            · rw [sput_ne ha, sput_ne hf, sput_ne hb, sput_ne ha]; exact .inl rfl
      generalize sput (sput (sput (sput S a (.dct (A.map kvD))) b (.dct (B.map kvD))) f (.dct [])) a (.dcf z (A.map kvD)) = T at *
      refine for_inv (fun i e S2 => ∃ y6 y7 : Option D, e = [some (.lst (W.map D.int)), some (.int q0), some (.int (((W.map D.int).length : Nat) / 2)), some (.ref a), some (.ref b), some (.ref f), y6, y7] ∧ S2 = sput T f (.dct ((((A.zip B).take i).flatMap fun p => [(p.1.1, (p.1.2 - (p.2.2 - p.1.2) % 3) % 3), (q0 :: p.1.1, (p.2.2 - p.1.2) % 3)]).map kvD))) ⟨_, _, rfl, (sput_self T3).symm⟩ (fun i e S2 _ h => ?_) (fun i y e S2 N hy h hN => ?_) fun e S2 h => ?_
      · obtain ⟨y6, y7, rfl, rfl⟩ := h
        exact (sput_ne fa.symm).trans T1
      · obtain ⟨y6, y7, rfl, rfl⟩ := h
        have hi := (List.getElem?_eq_some_iff.mp hy).1
        rw [List.length_map, List.length_map] at hi
        have hiz : i < (A.zip B).length := by rw [List.length_zip]; omega
        obtain ⟨p, hp⟩ : ∃ p, (A.zip B)[i]? = some p := ⟨_, List.getElem?_eq_getElem hiz⟩
        obtain ⟨pa, pb⟩ := p
        have hpm := List.mem_of_getElem? hp
        have hpa : pa ∈ A := (List.of_mem_zip hpm).1
        have hpb : pb ∈ B := (List.of_mem_zip hpm).2
        have hk := zk _ hpm
        dsimp only at hk
        obtain rfl : y = .tpk pa.1 := by
          have h1 := List.getElem?_zip_eq_some.mp hp
          rw [List.getElem?_map, List.getElem?_map, h1.1] at hy
          cases hy; rfl
        have gA : getK (A.map kvD) pa.1 = some (.int pa.2) := by
          rw [getK_has (by rw [List.any_eq_true]; exact ⟨pa, hpa, decide_eq_true rfl⟩), cf_mem nd1 hpa]
        have gB : getK (B.map kvD) pa.1 = some (.int pb.2) := by
          rw [getK_has (by rw [List.any_eq_true]; exact ⟨pb, hpb, decide_eq_true hk.symm⟩), hk, cf_mem nd2 hpb]
        have es : ((A.zip B).take (i + 1)).flatMap (fun p => [(p.1.1, (p.1.2 - (p.2.2 - p.1.2) % 3) % 3), (q0 :: p.1.1, (p.2.2 - p.1.2) % 3)]) =
            ((A.zip B).take i).flatMap (fun p => [(p.1.1, (p.1.2 - (p.2.2 - p.1.2) % 3) % 3), (q0 :: p.1.1, (p.2.2 - p.1.2) % 3)]) ++ [(pa.1, (pa.2 - (pb.2 - pa.2) % 3) % 3), (q0 :: pa.1, (pb.2 - pa.2) % 3)] := by
          rw [List.take_add_one, hp, List.flatMap_append]; rfl
        have hpre : (((A.zip B).take (i + 1)).flatMap (fun p => [(p.1.1, (p.1.2 - (p.2.2 - p.1.2) % 3) % 3), (q0 :: p.1.1, (p.2.2 - p.1.2) % 3)])).map (·.1) <+: NN.map (·.1) := by
          rw [eN]
          conv => rhs; rw [← List.take_append_drop (i + 1) (A.zip B), List.flatMap_append, List.map_append]
          exact List.prefix_append _ _
        have ndp := ndN.sublist hpre.sublist
        rw [es] at ndp
        have lF : (((A.zip B).take i).flatMap (fun p => [(p.1.1, (p.1.2 - (p.2.2 - p.1.2) % 3) % 3), (q0 :: p.1.1, (p.2.2 - p.1.2) % 3)])).length ≤ 2048 := by
          have h1 : (((A.zip B).take i).flatMap (fun p => [(p.1.1, (p.1.2 - (p.2.2 - p.1.2) % 3) % 3), (q0 :: p.1.1, (p.2.2 - p.1.2) % 3)])).length ≤ NN.length := by
            rw [eN]
            conv => rhs; rw [← List.take_append_drop i (A.zip B), List.flatMap_append, List.length_append]
            omega
          rw [lN, p1] at h1; omega
        generalize hF : ((A.zip B).take i).flatMap (fun p => [(p.1.1, (p.1.2 - (p.2.2 - p.1.2) % 3) % 3), (q0 :: p.1.1, (p.2.2 - p.1.2) % 3)]) = F at *
        rw [List.map_append] at ndp
        obtain ⟨nd3, nd4, nd5⟩ := List.nodup_append.mp ndp
        have nF : pa.1 ∉ F.map (·.1) := fun h => nd5 _ h _ List.mem_cons_self rfl
        have nF2 : q0 :: pa.1 ∉ F.map (·.1) := fun h => nd5 _ h _ (List.mem_cons_of_mem _ List.mem_cons_self) rfl
        have nQ : pa.1 ≠ q0 :: pa.1 := fun h => by
          have := congrArg List.length h
          rw [List.length_cons] at this; omega
        have s1 : ∀ v, setK (F.map kvD) pa.1 (.tpk pa.1) (.int v) = (F ++ [(pa.1, v)]).map kvD := fun v => by
          rw [setK_kvD]; unfold setM
          rw [if_neg]
          rw [List.any_eq_true]; rintro ⟨w, hw, hd⟩
          exact nF (List.mem_map.mpr ⟨w, hw, of_decide_eq_true hd⟩)
        have s2 : ∀ v u, setK ((F ++ [(pa.1, v)]).map kvD) ([q0] ++ pa.1) (.tpk ([q0] ++ pa.1)) (.int u) = (F ++ [(pa.1, v), (q0 :: pa.1, u)]).map kvD := fun v u => by
          rw [setK_kvD]; unfold setM
          rw [if_neg]
          · rw [List.append_assoc]; rfl
          · rw [List.any_eq_true]; rintro ⟨w, hw, hd⟩
            have hd : w.1 = q0 :: pa.1 := of_decide_eq_true hd
            rcases List.mem_append.mp hw with hw | hw
            · exact nF2 (List.mem_map.mpr ⟨w, hw, hd⟩)
            · rw [List.mem_singleton.mp hw] at hd; exact nQ hd
        have lpa : pa.1.length ≤ 100 := by
          have hr := rowk pa.1 (by rw [← ks1]; exact List.mem_map.mpr ⟨pa, hpa, rfl⟩)
          have := row_len (m := q0 + 1 + k) (by omega) (fun x hx => by have := hr.1 x hx; omega) (lt_nodup hr.2)
          omega
        have lFF : (F.map kvD).length ≤ 2048 := by rw [List.length_map]; exact lF
        have lFF2 : ∀ v, ((F ++ [(pa.1, v)]).map kvD).length ≤ 2049 := fun v => by rw [List.length_map, List.length_append]; simp; omega
        have g1 : ∀ c, sput T f c a = some (.dcf z (A.map kvD)) := fun c => (sput_ne fa.symm).trans T1
        have g2 : ∀ c, sput T f c b = some (.dct (B.map kvD)) := fun c => (sput_ne fb.symm).trans T2
        have g1' := g1 (.dct (F.map kvD))
        have g2' := g2 (.dct (F.map kvD))
        ((try dsimp only [List.set_cons_zero, List.set_cons_succ, startD, wip, List.map_cons, List.map_nil, n_spread]); (conv => whnf); (repeat (first | ((with_reducible refine SeqP.mk ?_); (try dsimp only [List.set_cons_zero, List.set_cons_succ, startD, wip, List.map_cons, List.map_nil, n_spread]); (conv => whnf)) | (with_reducible apply Exists.intro) | ((with_reducible apply And.intro); (exact sdZ); (conv => whnf)) | ((first | with_reducible refine eqO_int_f ?_ | with_reducible refine eqO_int_t ?_ | with_reducible refine eqO_str_f ?_ | with_reducible refine eqO_str_t ?_ | with_reducible refine eqO_bl_f ?_ | with_reducible refine eqO_bl_t ?_ | with_reducible refine eqO_KK_f ?_ | with_reducible refine eqO_KK_t ?_ | with_reducible refine eqO_LL_f ?_ | with_reducible refine eqO_LL_t ?_); (conv => whnf)) | ((try dsimp only); (first | (rw [decide_eq_true]; rotate_left; (focus ((first | assumption | omega | rfl | decide); done))) | (rw [decide_eq_false]; rotate_left; (focus ((first | assumption | omega | rfl | decide); done)))); (conv => whnf)))))
        dsimp only
        rw [s1, s2]
        refine ⟨by rw [List.length_map, List.length_append]; show F.length + 1 ≤ 1000000; omega, ?_⟩
        simp only [sput_sput]
        refine hN _ _ ⟨_, _, rfl, ?_⟩
        rw [es]
      · obtain ⟨y6, y7, rfl, rfl⟩ := h
        have lz : (A.zip B).take (((A.map (·.1)).map D.tpk).length) = A.zip B := List.take_of_length_le (by rw [List.length_map, List.length_map, List.length_zip]; omega)
        rw [lz, ← eN]
        ((try dsimp only [List.set_cons_zero, List.set_cons_succ, startD, wip, List.map_cons, List.map_nil, n_spread]); (conv => whnf); (repeat (first | ((with_reducible refine SeqP.mk ?_); (try dsimp only [List.set_cons_zero, List.set_cons_succ, startD, wip, List.map_cons, List.map_nil, n_spread]); (conv => whnf)) | (with_reducible apply Exists.intro) | ((with_reducible apply And.intro); (exact sdZ); (conv => whnf)) | ((first | with_reducible refine eqO_int_f ?_ | with_reducible refine eqO_int_t ?_ | with_reducible refine eqO_str_f ?_ | with_reducible refine eqO_str_t ?_ | with_reducible refine eqO_bl_f ?_ | with_reducible refine eqO_bl_t ?_ | with_reducible refine eqO_KK_f ?_ | with_reducible refine eqO_KK_t ?_ | with_reducible refine eqO_LL_f ?_ | with_reducible refine eqO_LL_t ?_); (conv => whnf)) | ((try dsimp only); (first | (rw [decide_eq_true]; rotate_left; (focus ((first | assumption | omega | rfl | decide); done))) | (rw [decide_eq_false]; rotate_left; (focus ((first | assumption | omega | rfl | decide); done)))); (conv => whnf)))))
        exact fin_drop (TD _) (q f nf)
theorem spread_all {f : Addr} {fd : FuncData} (F : Fun K "spread" "spread" s_spread f fd) (hm : mg "spread" = some (.ref f)) (m_len : mg "len" = none) (hk : PySem.W.keepIn K (.ref f) = true) (hb : Binds K fd p_spread []) : ∀ n, Fc P w K mg base (0 + n) "spread" p_spread (sp_spread n)
  | 0 => ⟨f, fd, hm, hk, hb, ⟨fun _ _ _ _ h => h.elim, fun _ _ _ _ _ _ _ _ _ _ _ _ _ ⟨_, _, _, _, _, _, _, _, z, _⟩ => z.elim⟩⟩
  | n + 1 => ⟨f, fd, hm, hk, hb, ok_spread F m_len (spread_all F hm m_len  hk hb n)⟩
def sp_sums_of_saying : SpD := fun ds S Q _ => ∃ (s : Sy) (n : Nat), ds = [s.d, .int n] ∧ s.ok n ∧ s.dep ≤ 7 ∧ n ≤ 5 ∧ ∀ S', Ext S S' → Q (sumsD 0 [] (srtM (sayM n fun as => s.so as))) S'
abbrev s_sums_of_saying : Stmt := topS 7
abbrev n_sums_of_saying : List Str := ["saying", "questions", "marks", "answers", "some"]
abbrev p_sums_of_saying : List Str := ["saying", "questions"]
theorem sc_sums_of_saying : FnScope n_sums_of_saying p_sums_of_saying (defScope s_sums_of_saying) := ⟨rfl, rfl, rfl, by decide +kernel, rfl, by decide +kernel, by decide +kernel⟩
theorem ok_sums_of_saying {f : Addr} {fd : FuncData} (F : Fun K "sums_of_saying" "sums_of_saying" s_sums_of_saying f fd) (m_int : mg "int" = none) (m_tuple : mg "tuple" = none) (m_sorted : mg "sorted" = none) (F_spread : Fc P w K mg base k "spread" p_spread (sp_spread 6)) (F_all_answers : Fc P w K mg base k "all_answers" p_all_answers sp_all_answers) (F_is_so : Fc P w K mg base k "is_so" p_is_so (sp_is_so 7)) : FnD P w K mg base (k + 1) f fd p_sums_of_saying sp_sums_of_saying := by
  refine FnD.of F sc_sums_of_saying ?_ (fun X C E' cdv A outer s H E hX hr hx po hc => by
    subst hX
    exact (dss_cons (ds_set (i := 2) sc_sums_of_saying.nd rfl (de_call F_spread hr xok0 (by rfl) (da_cons (de_lc (own := [("answers", 3)]) false rfl sc_sums_of_saying.nd (di_seq (de_call F_all_answers hr xok0 (by rfl) (da_cons (dv 1) da_nil))) (by show BlkOk n_sums_of_saying (defScope s_sums_of_saying) _ [("answers", 3)]; exact blkOk_by (by decide +kernel)) (fun _ _ _ _ _ => (dgc_name (i := 3) sc_sums_of_saying.nd rfl)) (fun _ _ _ _ _ => dts_nil) (fun _ _ _ _ _ => (de_bt cr_intD (by rfl) m_int b_int (da_cons (de_call F_is_so hr xok0 (by rfl) (da_cons (dv 0) (da_cons (dv 3) da_nil))) da_nil)))) (da_cons de_int da_nil))))
      (dss_one (ds_ret (de_tup (da_cons de_int (da_cons (de_tupK da_nil) (da_cons (de_bt cr_tup (by rfl) m_tuple b_tuple (da_cons (de_b (cr_sortT false hr.u65) (by rfl) m_sorted b_sorted (da_cons (de_lc (own := [("some", 4)]) false rfl sc_sums_of_saying.nd (di_dct (dv 2)) (by show BlkOk n_sums_of_saying (defScope s_sums_of_saying) _ [("some", 4)]; exact blkOk_by (by decide +kernel)) (fun _ _ _ _ _ => (dgc_name (i := 4) sc_sums_of_saying.nd rfl)) (fun _ _ _ _ _ => (dts_one (dt_cmp or_gt (de_kgetF hr.u65 (dv 2) (dv 4)) de_int))) (fun _ _ _ _ _ => (de_tup (da_cons (dv 4) (da_cons (de_kgetF hr.u65 (dv 2) (dv 4)) da_nil))))) da_nil)) da_nil)) da_nil)))))))) ?_
  · rintro ds S Q E ⟨s, n, rfl, _⟩; rfl
  · rintro ds S Q E' ⟨s, n, rfl, so, sd, n5, q⟩
    have n10 : n ≤ 10 := by omega
    have sd7 : s.dep ≤ 6 + 1 := by omega
    ((try dsimp only [List.set_cons_zero, List.set_cons_succ, startD, wip, List.map_cons, List.map_nil, n_sums_of_saying]); (conv => whnf); (repeat (first | ((with_reducible refine SeqP.mk ?_); (try dsimp only [List.set_cons_zero, List.set_cons_succ, startD, wip, List.map_cons, List.map_nil, n_sums_of_saying]); (conv => whnf)) | (with_reducible apply Exists.intro) | ((with_reducible apply And.intro); (exact sdZ); (conv => whnf)) | ((first | with_reducible refine eqO_int_f ?_ | with_reducible refine eqO_int_t ?_ | with_reducible refine eqO_str_f ?_ | with_reducible refine eqO_str_t ?_ | with_reducible refine eqO_bl_f ?_ | with_reducible refine eqO_bl_t ?_ | with_reducible refine eqO_KK_f ?_ | with_reducible refine eqO_KK_t ?_ | with_reducible refine eqO_LL_f ?_ | with_reducible refine eqO_LL_t ?_); (conv => whnf)) | ((try dsimp only); (first | (rw [decide_eq_true]; rotate_left; (focus ((first | assumption | omega | rfl | decide); done))) | (rw [decide_eq_false]; rotate_left; (focus ((first | assumption | omega | rfl | decide); done)))); (conv => whnf)))))
    intro a na
    have la := allI_len n
    have lp := pow_le10 (n := n) n10
    have lam : ((allI n).map D.tpk).length ≤ 2048 := by rw [List.length_map]; omega
    ((try dsimp only [List.set_cons_zero, List.set_cons_succ, startD, wip, List.map_cons, List.map_nil, n_sums_of_saying]); (conv => whnf); (repeat (first | ((with_reducible refine SeqP.mk ?_); (try dsimp only [List.set_cons_zero, List.set_cons_succ, startD, wip, List.map_cons, List.map_nil, n_sums_of_saying]); (conv => whnf)) | (with_reducible apply Exists.intro) | ((with_reducible apply And.intro); (exact sdZ); (conv => whnf)) | ((first | with_reducible refine eqO_int_f ?_ | with_reducible refine eqO_int_t ?_ | with_reducible refine eqO_str_f ?_ | with_reducible refine eqO_str_t ?_ | with_reducible refine eqO_bl_f ?_ | with_reducible refine eqO_bl_t ?_ | with_reducible refine eqO_KK_f ?_ | with_reducible refine eqO_KK_t ?_ | with_reducible refine eqO_LL_f ?_ | with_reducible refine eqO_LL_t ?_); (conv => whnf)) | ((try dsimp only); (first | (rw [decide_eq_true]; rotate_left; (focus ((first | assumption | omega | rfl | decide); done))) | (rw [decide_eq_false]; rotate_left; (focus ((first | assumption | omega | rfl | decide); done)))); (conv => whnf)))))
    refine lc_mapT (allI n) D.tpk (fun as => .int (if s.so as = true then 1 else 0)) (asL_ref sput_same) (fun as N has hN => ?_) ?_
    · have hA := (allI_ok n as has).l
      have tt : tn (.tpk as) as := rfl
      ((try dsimp only [List.set_cons_zero, List.set_cons_succ, startD, wip, List.map_cons, List.map_nil, n_sums_of_saying]); (conv => whnf); (repeat (first | ((with_reducible refine SeqP.mk ?_); (try dsimp only [List.set_cons_zero, List.set_cons_succ, startD, wip, List.map_cons, List.map_nil, n_sums_of_saying]); (conv => whnf)) | (with_reducible apply Exists.intro) | ((with_reducible apply And.intro); (exact sdZ); (conv => whnf)) | ((first | with_reducible refine eqO_int_f ?_ | with_reducible refine eqO_int_t ?_ | with_reducible refine eqO_str_f ?_ | with_reducible refine eqO_str_t ?_ | with_reducible refine eqO_bl_f ?_ | with_reducible refine eqO_bl_t ?_ | with_reducible refine eqO_KK_f ?_ | with_reducible refine eqO_KK_t ?_ | with_reducible refine eqO_LL_f ?_ | with_reducible refine eqO_LL_t ?_); (conv => whnf)) | ((try dsimp only); (first | (rw [decide_eq_true]; rotate_left; (focus ((first | assumption | omega | rfl | decide); done))) | (rw [decide_eq_false]; rotate_left; (focus ((first | assumption | omega | rfl | decide); done)))); (conv => whnf)))))
      exact hN
    · have e1 : (allI n).map (fun as => D.int (if s.so as = true then 1 else 0)) = ((allI n).map fun as => if s.so as = true then (1 : Int) else 0).map D.int := by rw [List.map_map]; rfl
      rw [e1]
      have lW : ((allI n).map fun as => if s.so as = true then (1 : Int) else 0).length = 2 ^ n := by rw [List.length_map, la]
      have w3 : (0 : Int) + (n : Int) ≤ 50 := by omega
      have sm : sayM n (fun as => s.so as) = posI3 (sprI n 0 ((allI n).map fun as => if s.so as = true then (1 : Int) else 0)) := rfl
      have hk := spr_keys n 0 ((allI n).map fun as => if s.so as = true then (1 : Int) else 0)
      have ln := spr_len n 0 ((allI n).map fun as => if s.so as = true then (1 : Int) else 0)
      have hv := spr_val n 0 ((allI n).map fun as => if s.so as = true then (1 : Int) else 0) fun x hx => by
        obtain ⟨as, _, rfl⟩ := List.mem_map.mp hx
        split <;> omega
      rw [sm] at q
      generalize ((allI n).map fun as => if s.so as = true then (1 : Int) else 0) = W at *
      ((try dsimp only [List.set_cons_zero, List.set_cons_succ, startD, wip, List.map_cons, List.map_nil, n_sums_of_saying]); (conv => whnf); (repeat (first | ((with_reducible refine SeqP.mk ?_); (try dsimp only [List.set_cons_zero, List.set_cons_succ, startD, wip, List.map_cons, List.map_nil, n_sums_of_saying]); (conv => whnf)) | (with_reducible apply Exists.intro) | ((with_reducible apply And.intro); (exact sdZ); (conv => whnf)) | ((first | with_reducible refine eqO_int_f ?_ | with_reducible refine eqO_int_t ?_ | with_reducible refine eqO_str_f ?_ | with_reducible refine eqO_str_t ?_ | with_reducible refine eqO_bl_f ?_ | with_reducible refine eqO_bl_t ?_ | with_reducible refine eqO_KK_f ?_ | with_reducible refine eqO_KK_t ?_ | with_reducible refine eqO_LL_f ?_ | with_reducible refine eqO_LL_t ?_); (conv => whnf)) | ((try dsimp only); (first | (rw [decide_eq_true]; rotate_left; (focus ((first | assumption | omega | rfl | decide); done))) | (rw [decide_eq_false]; rotate_left; (focus ((first | assumption | omega | rfl | decide); done)))); (conv => whnf)))))
      intro p np
      generalize sprI n 0 W = NN at *
      have ndN : (NN.map (·.1)).Nodup := by rw [hk]; exact sprK_nd _ _
      have kN : keysK (NN.map kvD) = NN.map fun r => D.tpk r.1 := by unfold keysK; rw [List.map_map]; rfl
      have lN : (NN.map fun r => D.tpk r.1).length ≤ 2048 := by rw [List.length_map]; omega
      have pa : p ≠ a := ne_none sput_same np
      have np' : S p = none := (sput_ne pa).symm.trans np
      ((try dsimp only [List.set_cons_zero, List.set_cons_succ, startD, wip, List.map_cons, List.map_nil, n_sums_of_saying]); (conv => whnf); (repeat (first | ((with_reducible refine SeqP.mk ?_); (try dsimp only [List.set_cons_zero, List.set_cons_succ, startD, wip, List.map_cons, List.map_nil, n_sums_of_saying]); (conv => whnf)) | (with_reducible apply Exists.intro) | ((with_reducible apply And.intro); (exact sdZ); (conv => whnf)) | ((first | with_reducible refine eqO_int_f ?_ | with_reducible refine eqO_int_t ?_ | with_reducible refine eqO_str_f ?_ | with_reducible refine eqO_str_t ?_ | with_reducible refine eqO_bl_f ?_ | with_reducible refine eqO_bl_t ?_ | with_reducible refine eqO_KK_f ?_ | with_reducible refine eqO_KK_t ?_ | with_reducible refine eqO_LL_f ?_ | with_reducible refine eqO_LL_t ?_); (conv => whnf)) | ((try dsimp only); (first | (rw [decide_eq_true]; rotate_left; (focus ((first | assumption | omega | rfl | decide); done))) | (rw [decide_eq_false]; rotate_left; (focus ((first | assumption | omega | rfl | decide); done)))); (conv => whnf)))))
      intro z
      rw [kN]
      refine ⟨lt_sz (by omega), ?_⟩
      refine lc_pureT NN (fun r => D.tpk r.1) (fun r => if r.2 > 0 then some (mkD r) else none) sput_same (fun r N hr hN => ?_) ?_
      · have gr : getK (NN.map kvD) r.1 = some (.int r.2) := by
          rw [getK_has (by rw [List.any_eq_true]; exact ⟨r, hr, decide_eq_true rfl⟩), cf_mem ndN hr]
        have gz : sput (sput (sput S a (.lst ((allI n).map D.tpk))) p (.dct (NN.map kvD))) p (.dcf z (NN.map kvD)) p = some (.dcf z (NN.map kvD)) := sput_same
        by_cases h : r.2 > 0
        · rw [if_pos h] at hN
          ((try dsimp only [List.set_cons_zero, List.set_cons_succ, startD, wip, List.map_cons, List.map_nil, n_sums_of_saying]); (conv => whnf); (repeat (first | ((with_reducible refine SeqP.mk ?_); (try dsimp only [List.set_cons_zero, List.set_cons_succ, startD, wip, List.map_cons, List.map_nil, n_sums_of_saying]); (conv => whnf)) | (with_reducible apply Exists.intro) | ((with_reducible apply And.intro); (exact sdZ); (conv => whnf)) | ((first | with_reducible refine eqO_int_f ?_ | with_reducible refine eqO_int_t ?_ | with_reducible refine eqO_str_f ?_ | with_reducible refine eqO_str_t ?_ | with_reducible refine eqO_bl_f ?_ | with_reducible refine eqO_bl_t ?_ | with_reducible refine eqO_KK_f ?_ | with_reducible refine eqO_KK_t ?_ | with_reducible refine eqO_LL_f ?_ | with_reducible refine eqO_LL_t ?_); (conv => whnf)) | ((try dsimp only); (first | (rw [decide_eq_true]; rotate_left; (focus ((first | assumption | omega | rfl | decide); done))) | (rw [decide_eq_false]; rotate_left; (focus ((first | assumption | omega | rfl | decide); done)))); (conv => whnf)))))
          exact hN
        · rw [if_neg h] at hN
          ((try dsimp only [List.set_cons_zero, List.set_cons_succ, startD, wip, List.map_cons, List.map_nil, n_sums_of_saying]); (conv => whnf); (repeat (first | ((with_reducible refine SeqP.mk ?_); (try dsimp only [List.set_cons_zero, List.set_cons_succ, startD, wip, List.map_cons, List.map_nil, n_sums_of_saying]); (conv => whnf)) | (with_reducible apply Exists.intro) | ((with_reducible apply And.intro); (exact sdZ); (conv => whnf)) | ((first | with_reducible refine eqO_int_f ?_ | with_reducible refine eqO_int_t ?_ | with_reducible refine eqO_str_f ?_ | with_reducible refine eqO_str_t ?_ | with_reducible refine eqO_bl_f ?_ | with_reducible refine eqO_bl_t ?_ | with_reducible refine eqO_KK_f ?_ | with_reducible refine eqO_KK_t ?_ | with_reducible refine eqO_LL_f ?_ | with_reducible refine eqO_LL_t ?_); (conv => whnf)) | ((try dsimp only); (first | (rw [decide_eq_true]; rotate_left; (focus ((first | assumption | omega | rfl | decide); done))) | (rw [decide_eq_false]; rotate_left; (focus ((first | assumption | omega | rfl | decide); done)))); (conv => whnf)))))
          exact hN
      · have ef : NN.filterMap (fun r => if r.2 > 0 then some (mkD r) else none) = (posI3 NN).map mkD := by
          unfold posI3
          clear hk ln hv ndN kN lN q sm
          induction NN with
          | nil => rfl
          | cons r NN ih =>
            rw [List.filterMap_cons, List.filter_cons]
            by_cases h : r.2 > 0
            · rw [if_pos h, decide_eq_true h, if_pos rfl, List.map_cons, ih]
            · rw [if_neg h, decide_eq_false h, if_neg Bool.false_ne_true, ih]
        rw [ef]
        have so2 := srtOk_mkD (posI3 NN)
        have lP : ((posI3 NN).map mkD).length ≤ 2048 := by
          rw [List.length_map]
          exact Nat.le_trans (List.length_filter_le _ _) (by omega)
        have lS : ((srtM (posI3 NN)).map mkD).length ≤ 2048 := by
          rw [List.length_map, (srtM_perm _).length_eq, ← List.length_map (f := mkD)]; exact lP
        ((try dsimp only [List.set_cons_zero, List.set_cons_succ, startD, wip, List.map_cons, List.map_nil, n_sums_of_saying]); (conv => whnf); (repeat (first | ((with_reducible refine SeqP.mk ?_); (try dsimp only [List.set_cons_zero, List.set_cons_succ, startD, wip, List.map_cons, List.map_nil, n_sums_of_saying]); (conv => whnf)) | (with_reducible apply Exists.intro) | ((with_reducible apply And.intro); (exact sdZ); (conv => whnf)) | ((first | with_reducible refine eqO_int_f ?_ | with_reducible refine eqO_int_t ?_ | with_reducible refine eqO_str_f ?_ | with_reducible refine eqO_str_t ?_ | with_reducible refine eqO_bl_f ?_ | with_reducible refine eqO_bl_t ?_ | with_reducible refine eqO_KK_f ?_ | with_reducible refine eqO_KK_t ?_ | with_reducible refine eqO_LL_f ?_ | with_reducible refine eqO_LL_t ?_); (conv => whnf)) | ((try dsimp only); (first | (rw [decide_eq_true]; rotate_left; (focus ((first | assumption | omega | rfl | decide); done))) | (rw [decide_eq_false]; rotate_left; (focus ((first | assumption | omega | rfl | decide); done)))); (conv => whnf)))))
        rw [srtD_mkD]
        ((try dsimp only [List.set_cons_zero, List.set_cons_succ, startD, wip, List.map_cons, List.map_nil, n_sums_of_saying]); (conv => whnf); (repeat (first | ((with_reducible refine SeqP.mk ?_); (try dsimp only [List.set_cons_zero, List.set_cons_succ, startD, wip, List.map_cons, List.map_nil, n_sums_of_saying]); (conv => whnf)) | (with_reducible apply Exists.intro) | ((with_reducible apply And.intro); (exact sdZ); (conv => whnf)) | ((first | with_reducible refine eqO_int_f ?_ | with_reducible refine eqO_int_t ?_ | with_reducible refine eqO_str_f ?_ | with_reducible refine eqO_str_t ?_ | with_reducible refine eqO_bl_f ?_ | with_reducible refine eqO_bl_t ?_ | with_reducible refine eqO_KK_f ?_ | with_reducible refine eqO_KK_t ?_ | with_reducible refine eqO_LL_f ?_ | with_reducible refine eqO_LL_t ?_); (conv => whnf)) | ((try dsimp only); (first | (rw [decide_eq_true]; rotate_left; (focus ((first | assumption | omega | rfl | decide); done))) | (rw [decide_eq_false]; rotate_left; (focus ((first | assumption | omega | rfl | decide); done)))); (conv => whnf)))))
        have hx : Ext S (sput (sput (sput S a (.lst ((allI n).map D.tpk))) p (.dct (NN.map kvD))) p (.dcf z (NN.map kvD))) := ((Ext.own Ext.refl na).own np').own np'
        exact fin_same (q _ hx)

def sp__law_sign : SpD := fun ds S Q _ => ∃ m R da as, ds = [.tpk R, da] ∧ tn da as ∧ RowOk m R ∧ m ≤ 1000 ∧ AnsL m as ∧ Q (.int (sgI R as)) S
abbrev s__law_sign : Stmt := topS 16
abbrev n__law_sign : List Str := ["_law_some", "_law_answers", "_law_q"]
abbrev p__law_sign : List Str := ["_law_some", "_law_answers"]
theorem sc__law_sign : FnScope n__law_sign p__law_sign (defScope s__law_sign) := ⟨rfl, rfl, rfl, by decide +kernel, rfl, by decide +kernel, by decide +kernel⟩
theorem ok__law_sign {f : Addr} {fd : FuncData} (F : Fun K "_law_sign" "_law_sign" s__law_sign f fd) : FnD P w K mg base (k + 1) f fd p__law_sign sp__law_sign := by
  refine FnD.of F sc__law_sign ?_ (fun X C E' cdv A outer s H E hX hr hx po hc => by
    subst hX
    exact (dss_one (ds_ret (de_op (or_add false) de_int (de_op or_mod (de_m PySem.F.plainAttrs_list PySem.F.slot_list_count PySem.F.type_list_count mt_cntD (de_lc (own := [("_law_q", 2)]) false rfl sc__law_sign.nd (di_seq (dv 0)) (by show BlkOk n__law_sign (defScope s__law_sign) _ [("_law_q", 2)]; exact blkOk_by (by decide +kernel)) (fun _ _ _ _ _ => (dgc_name (i := 2) sc__law_sign.nd rfl)) (fun _ _ _ _ _ => dts_nil) (fun _ _ _ _ _ => (de_ix (dv 1) (dv 2)))) (da_cons de_int da_nil)) de_int))))) ?_
  · rintro ds S Q E ⟨m, R, da, as, rfl, _⟩; rfl
  · rintro ds S Q E' ⟨m, R, da, as, rfl, ta, hR, hm, ha, q⟩
    have hl := hR.len
    have e3 : ((R.map (ansI as)).count 1 : Int) = (R.map (ansI as)).sum := count_sum fun x hx => by
      obtain ⟨n, hn, rfl⟩ := List.mem_map.mp hx
      obtain ⟨q0, q1⟩ := hR.mem n hn
      exact (ans_at ha q0 q1).2
    ((try dsimp only [List.set_cons_zero, List.set_cons_succ, startD, wip, List.map_cons, List.map_nil, n__law_sign]); (conv => whnf); (repeat (first | ((with_reducible refine SeqP.mk ?_); (try dsimp only [List.set_cons_zero, List.set_cons_succ, startD, wip, List.map_cons, List.map_nil, n__law_sign]); (conv => whnf)) | (with_reducible apply Exists.intro) | ((with_reducible apply And.intro); (exact sdZ); (conv => whnf)) | ((first | with_reducible refine eqO_int_f ?_ | with_reducible refine eqO_int_t ?_ | with_reducible refine eqO_str_f ?_ | with_reducible refine eqO_str_t ?_ | with_reducible refine eqO_bl_f ?_ | with_reducible refine eqO_bl_t ?_ | with_reducible refine eqO_KK_f ?_ | with_reducible refine eqO_KK_t ?_ | with_reducible refine eqO_LL_f ?_ | with_reducible refine eqO_LL_t ?_); (conv => whnf)) | ((try dsimp only); (first | (rw [decide_eq_true]; rotate_left; (focus ((first | assumption | omega | rfl | decide); done))) | (rw [decide_eq_false]; rotate_left; (focus ((first | assumption | omega | rfl | decide); done)))); (conv => whnf)))))
    refine lc_mapT R D.int (fun n => .int (ansI as n)) trivial (fun n N hn hN => ?_) ⟨⟨rfl, rfl⟩, R.map (ansI as), by rw [asL_lst, List.map_map]; rfl, ?_⟩
    · obtain ⟨q0, q1⟩ := hR.mem n hn
      have ea := (ans_at ha q0 q1).1
      have e2 : atI (as.map D.int) n = some (.int (ansI as n)) := by rw [atI_map, atI_p q0, ea]; rfl
      simp only [dNext, dSeq, dBreak, dCont, dDrop, dRet, dRetN, dIf, gN, gsNil, gsCons, gT, dAsg, dSet, dPar, gSb, dAug, dFor, dVar, dC, dOp, dTst, dChain, dNot, dAnd, dOr, dNotV, dAndV, dOrV, dNeg, dNil, dCons, dTup, dLst, dCB, iiR, subR, addR, isNR, eqR_int, eqR_bl, inR, dSo, dNo, dSl, dLc, one, two, tupR, lstR, allR, anyR, sumR, intR, strR, sortR, dTupK, addKR, tupKR, dRg1, dRg2, dTupRg, dLstRg, iD, iR1, iR2, dMt, dMt0, onL, appR, extR, popR, popAtR, revR, clrR, idxR, dTIdx, iEn, iZp, dIsLT, dCall, slot, wip, ixR_tup, ixR_tpk, ixR_lst, ixR_scr, lenR_tup, lenR_tpk, lenR_lst, lenR_scr, lenR_str, walkR_tup, walkR_tpk, walkR_lst, walkR_scr, walkR_str, itsR_tup, itsR_tpk, itsR_lst, slR_tup, slR_tpk, slR_lst, slR_scr, mk_t, mk_f, asL_lst, asL_scr, asQ_tup, asQ_tpk, asQ_lst, asQ_scr, asM_lst, asT_tup, asT_tpk, atI_0, atI_1, List.map_cons, List.map_nil, List.set_cons_zero, List.set_cons_succ, List.getElem?_cons_zero, List.getElem?_cons_succ, Option.some.injEq, exists_eq_left', exists_eq_left, true_and, and_true, setR_ref', ixR_ref', lenR_ref', asQ_ref', asL_ref', isltR_int, isltR_bl, isltR_str, isltR_non, isiR_int_bool, isiR_bl_bool, isiR_str_bool, isiR_non_bool, eqR_str, eqR_non, dPar3, iRv, insR, mulLR, rpiR, atI_2, ixR_d0, ixR_d1, ixR_d2, seqP_eq, ixR_Q (asQ_T ta)]
      exact ⟨_, e2, hN⟩
    · rw [e3]
      ((try dsimp only [List.set_cons_zero, List.set_cons_succ, startD, wip, List.map_cons, List.map_nil, n__law_sign]); (conv => whnf); (repeat (first | ((with_reducible refine SeqP.mk ?_); (try dsimp only [List.set_cons_zero, List.set_cons_succ, startD, wip, List.map_cons, List.map_nil, n__law_sign]); (conv => whnf)) | (with_reducible apply Exists.intro) | ((with_reducible apply And.intro); (exact sdZ); (conv => whnf)) | ((first | with_reducible refine eqO_int_f ?_ | with_reducible refine eqO_int_t ?_ | with_reducible refine eqO_str_f ?_ | with_reducible refine eqO_str_t ?_ | with_reducible refine eqO_bl_f ?_ | with_reducible refine eqO_bl_t ?_ | with_reducible refine eqO_KK_f ?_ | with_reducible refine eqO_KK_t ?_ | with_reducible refine eqO_LL_f ?_ | with_reducible refine eqO_LL_t ?_); (conv => whnf)) | ((try dsimp only); (first | (rw [decide_eq_true]; rotate_left; (focus ((first | assumption | omega | rfl | decide); done))) | (rw [decide_eq_false]; rotate_left; (focus ((first | assumption | omega | rfl | decide); done)))); (conv => whnf)))))
      exact fin_same q

def sp__law_sets : SpD := fun ds S Q _ => ∃ n : Nat, ds = [.int n] ∧ n ≤ 10 ∧ Q (.lst ((setsI n).map D.tpk)) S
abbrev s__law_sets : Stmt := topS 15
abbrev n__law_sets : List Str := ["_law_questions", "_law_found", "_law_q", "_law_some"]
abbrev p__law_sets : List Str := ["_law_questions"]
theorem sc__law_sets : FnScope n__law_sets p__law_sets (defScope s__law_sets) := ⟨rfl, rfl, rfl, by decide +kernel, rfl, by decide +kernel, by decide +kernel⟩
theorem ok__law_sets {f : Addr} {fd : FuncData} (F : Fun K "_law_sets" "_law_sets" s__law_sets f fd) (m_range : mg "range" = none) : FnD P w K mg base (k + 1) f fd p__law_sets sp__law_sets := by
  refine FnD.of F sc__law_sets ?_ (fun X C E' cdv A outer s H E hX hr hx po hc => by
    subst hX
    exact (dss_cons (ds_set (i := 1) sc__law_sets.nd rfl (de_lst false (da_cons (de_tupK da_nil) da_nil)))
      (dss_cons (ds_for po rfl (di_r1 (by rfl) m_range (dv 0)) (dg_name (i := 2) sc__law_sets.nd rfl) (dss_one (ds_set (i := 1) sc__law_sets.nd rfl (de_op (or_add false) (dv 1) (de_lc (own := [("_law_some", 3)]) false rfl sc__law_sets.nd (di_seq (dv 1)) (by show BlkOk n__law_sets (defScope s__law_sets) _ [("_law_some", 3)]; exact blkOk_by (by decide +kernel)) (fun _ _ _ _ _ => (dgc_name (i := 3) sc__law_sets.nd rfl)) (fun _ _ _ _ _ => dts_nil) (fun _ _ _ _ _ => (de_op or_addK (dv 3) (de_tupK (da_cons (dv 2) da_nil)))))))))
      (dss_one (ds_ret (dv 1)))))) ?_
  · rintro ds S Q E ⟨n, rfl, _⟩; rfl
  · rintro ds S Q E' ⟨n, rfl, hn, q⟩
    have lr := rngI_len (n := (n : Int)) (by omega)
    ((try dsimp only [List.set_cons_zero, List.set_cons_succ, startD, wip, List.map_cons, List.map_nil, n__law_sets]); (conv => whnf); (repeat (first | ((with_reducible refine SeqP.mk ?_); (try dsimp only [List.set_cons_zero, List.set_cons_succ, startD, wip, List.map_cons, List.map_nil, n__law_sets]); (conv => whnf)) | (with_reducible apply Exists.intro) | ((with_reducible apply And.intro); (exact sdZ); (conv => whnf)) | ((first | with_reducible refine eqO_int_f ?_ | with_reducible refine eqO_int_t ?_ | with_reducible refine eqO_str_f ?_ | with_reducible refine eqO_str_t ?_ | with_reducible refine eqO_bl_f ?_ | with_reducible refine eqO_bl_t ?_ | with_reducible refine eqO_KK_f ?_ | with_reducible refine eqO_KK_t ?_ | with_reducible refine eqO_LL_f ?_ | with_reducible refine eqO_LL_t ?_); (conv => whnf)) | ((try dsimp only); (first | (rw [decide_eq_true]; rotate_left; (focus ((first | assumption | omega | rfl | decide); done))) | (rw [decide_eq_false]; rotate_left; (focus ((first | assumption | omega | rfl | decide); done)))); (conv => whnf)))))
    refine for_inv (fun i e S2 => ∃ (y2 y3 : Option D), e = [some (.int n), some (.lst ((setsI i).map D.tpk)), y2, y3] ∧ S2 = S) ⟨_, _, rfl, rfl⟩ (fun _ _ _ _ _ => trivial) (fun i z e S2 N hz h hN => ?_) fun e S2 h => ?_
    · obtain ⟨y2, y3, rfl, rfl⟩ := h
      have hi := (List.getElem?_eq_some_iff.mp hz).1
      rw [List.length_map] at hi
      have hil : (i : Int) < (n : Int) := by omega
      rw [List.getElem?_map, rngI_get hil] at hz
      cases hz
      have l1 := sets_len i
      have l2 : 2 ^ i ≤ 1024 := pow_le10 (by omega)
      have l3 : ((setsI i).map D.tpk).length ≤ 1024 := by rw [List.length_map]; omega
      ((try dsimp only [List.set_cons_zero, List.set_cons_succ, startD, wip, List.map_cons, List.map_nil, n__law_sets]); (conv => whnf); (repeat (first | ((with_reducible refine SeqP.mk ?_); (try dsimp only [List.set_cons_zero, List.set_cons_succ, startD, wip, List.map_cons, List.map_nil, n__law_sets]); (conv => whnf)) | (with_reducible apply Exists.intro) | ((with_reducible apply And.intro); (exact sdZ); (conv => whnf)) | ((first | with_reducible refine eqO_int_f ?_ | with_reducible refine eqO_int_t ?_ | with_reducible refine eqO_str_f ?_ | with_reducible refine eqO_str_t ?_ | with_reducible refine eqO_bl_f ?_ | with_reducible refine eqO_bl_t ?_ | with_reducible refine eqO_KK_f ?_ | with_reducible refine eqO_KK_t ?_ | with_reducible refine eqO_LL_f ?_ | with_reducible refine eqO_LL_t ?_); (conv => whnf)) | ((try dsimp only); (first | (rw [decide_eq_true]; rotate_left; (focus ((first | assumption | omega | rfl | decide); done))) | (rw [decide_eq_false]; rotate_left; (focus ((first | assumption | omega | rfl | decide); done)))); (conv => whnf)))))
      refine lc_mapT (setsI i) D.tpk (fun s => .tpk (s ++ [(i : Int)])) trivial (fun s N2 hs hN2 => ?_) ?_
      · have o := (sets_ok i s hs).len
        have ls : s.length ≤ 10 := by omega
        ((try dsimp only [List.set_cons_zero, List.set_cons_succ, startD, wip, List.map_cons, List.map_nil, n__law_sets]); (conv => whnf); (repeat (first | ((with_reducible refine SeqP.mk ?_); (try dsimp only [List.set_cons_zero, List.set_cons_succ, startD, wip, List.map_cons, List.map_nil, n__law_sets]); (conv => whnf)) | (with_reducible apply Exists.intro) | ((with_reducible apply And.intro); (exact sdZ); (conv => whnf)) | ((first | with_reducible refine eqO_int_f ?_ | with_reducible refine eqO_int_t ?_ | with_reducible refine eqO_str_f ?_ | with_reducible refine eqO_str_t ?_ | with_reducible refine eqO_bl_f ?_ | with_reducible refine eqO_bl_t ?_ | with_reducible refine eqO_KK_f ?_ | with_reducible refine eqO_KK_t ?_ | with_reducible refine eqO_LL_f ?_ | with_reducible refine eqO_LL_t ?_); (conv => whnf)) | ((try dsimp only); (first | (rw [decide_eq_true]; rotate_left; (focus ((first | assumption | omega | rfl | decide); done))) | (rw [decide_eq_false]; rotate_left; (focus ((first | assumption | omega | rfl | decide); done)))); (conv => whnf)))))
        exact hN2
      have em : (setsI i).map (fun s => D.tpk (s ++ [(i : Int)])) = ((setsI i).map fun s => s ++ [(i : Int)]).map D.tpk := by rw [List.map_map]; rfl
      rw [em]
      have l4 : (((setsI i).map fun s => s ++ [(i : Int)]).map D.tpk).length ≤ 1024 := by rw [List.length_map, List.length_map]; omega
      have es : (setsI i).map D.tpk ++ ((setsI i).map fun s => s ++ [(i : Int)]).map D.tpk = (setsI (i + 1)).map D.tpk := by
        show _ = (setsI i ++ (setsI i).map fun s => s ++ [(i : Int)]).map D.tpk
        rw [List.map_append]
      ((try dsimp only [List.set_cons_zero, List.set_cons_succ, startD, wip, List.map_cons, List.map_nil, n__law_sets]); (conv => whnf); (repeat (first | ((with_reducible refine SeqP.mk ?_); (try dsimp only [List.set_cons_zero, List.set_cons_succ, startD, wip, List.map_cons, List.map_nil, n__law_sets]); (conv => whnf)) | (with_reducible apply Exists.intro) | ((with_reducible apply And.intro); (exact sdZ); (conv => whnf)) | ((first | with_reducible refine eqO_int_f ?_ | with_reducible refine eqO_int_t ?_ | with_reducible refine eqO_str_f ?_ | with_reducible refine eqO_str_t ?_ | with_reducible refine eqO_bl_f ?_ | with_reducible refine eqO_bl_t ?_ | with_reducible refine eqO_KK_f ?_ | with_reducible refine eqO_KK_t ?_ | with_reducible refine eqO_LL_f ?_ | with_reducible refine eqO_LL_t ?_); (conv => whnf)) | ((try dsimp only); (first | (rw [decide_eq_true]; rotate_left; (focus ((first | assumption | omega | rfl | decide); done))) | (rw [decide_eq_false]; rotate_left; (focus ((first | assumption | omega | rfl | decide); done)))); (conv => whnf)))))
      rw [es]
      exact hN _ _ ⟨_, _, rfl, rfl⟩
    · obtain ⟨y2, y3, rfl, rfl⟩ := h
      rw [List.length_map, show (rngI 0 (n : Int)).length = n by omega]
      ((try dsimp only [List.set_cons_zero, List.set_cons_succ, startD, wip, List.map_cons, List.map_nil, n__law_sets]); (conv => whnf); (repeat (first | ((with_reducible refine SeqP.mk ?_); (try dsimp only [List.set_cons_zero, List.set_cons_succ, startD, wip, List.map_cons, List.map_nil, n__law_sets]); (conv => whnf)) | (with_reducible apply Exists.intro) | ((with_reducible apply And.intro); (exact sdZ); (conv => whnf)) | ((first | with_reducible refine eqO_int_f ?_ | with_reducible refine eqO_int_t ?_ | with_reducible refine eqO_str_f ?_ | with_reducible refine eqO_str_t ?_ | with_reducible refine eqO_bl_f ?_ | with_reducible refine eqO_bl_t ?_ | with_reducible refine eqO_KK_f ?_ | with_reducible refine eqO_KK_t ?_ | with_reducible refine eqO_LL_f ?_ | with_reducible refine eqO_LL_t ?_); (conv => whnf)) | ((try dsimp only); (first | (rw [decide_eq_true]; rotate_left; (focus ((first | assumption | omega | rfl | decide); done))) | (rw [decide_eq_false]; rotate_left; (focus ((first | assumption | omega | rfl | decide); done)))); (conv => whnf)))))
      exact fin_same q
theorem getK_zip {g : List Int → D} {k : List Int} : ∀ {l : List (List Int)}, k ∈ l → getK ((l.map D.tpk).zip (l.map g)) k = some (g k)
  | [], h => nomatch h
  | a :: l, h => by
    unfold getK
    rw [List.map_cons, List.map_cons, List.zip_cons_cons, List.find?_cons]
    by_cases e : a = k
    · subst e
      rw [decide_eq_true (show keyI (D.tpk a) = some a from rfl)]; rfl
    · rw [decide_eq_false (show ¬ keyI (D.tpk a) = some k from fun z => e (Option.some.inj z))]
      exact getK_zip ((List.mem_cons.mp h).resolve_left fun z => e z.symm)
def unitI (n : Nat) (q : Int) : List Int := (rngI 0 n).map fun o => if decide (o = q) = true then 1 else 0
theorem unit_ok {n : Nat} (q : Int) : AnsOk (n : Int) (unitI n q) :=
  ⟨by unfold unitI; rw [List.length_map]; exact rngI_len (by omega), fun x hx => by
    obtain ⟨o, _, rfl⟩ := List.mem_map.mp hx
    split
    · exact .inr rfl
    · exact .inl rfl⟩
theorem ans_unit {n : Nat} {q x : Int} (x0 : 0 ≤ x) (x1 : x < (n : Int)) : ansI (unitI n q) x = if x = q then 1 else 0 := by
  unfold ansI unitI
  rw [List.getElem?_map, rngI_get (by omega), show ((x.toNat : Nat) : Int) = x by omega]
  simp only [Option.map_some, Option.getD_some, decide_eq_true_eq]
theorem sum_unit {n : Nat} {q : Int} : ∀ {R : List Int}, (∀ x ∈ R, 0 ≤ x ∧ x < (n : Int)) → R.Nodup → (R.map (ansI (unitI n q))).sum = if q ∈ R then 1 else 0
  | [], _, _ => rfl
  | x :: R, h, nd => by
    rw [List.nodup_cons] at nd
    obtain ⟨x0, x1⟩ := h x List.mem_cons_self
    rw [List.map_cons, List.sum_cons, sum_unit (fun y hy => h y (List.mem_cons_of_mem _ hy)) nd.2, ans_unit x0 x1]
    by_cases e : x = q
    · subst e
      rw [if_pos rfl, if_neg nd.1, if_pos List.mem_cons_self]; rfl
    · rw [if_neg e]
      by_cases m : q ∈ R
      · rw [if_pos m, if_pos (List.mem_cons_of_mem _ m)]; rfl
      · rw [if_neg m, if_neg fun z => (List.mem_cons.mp z).elim (fun w => e w.symm) m]; rfl
theorem sg_unit {n : Nat} {q : Int} {F : List Int} (o : RowOk (n : Int) F) : sgI F (unitI n q) = if q ∈ F then 2 else 1 := by
  unfold sgI
  rw [sum_unit o.mem (lt_nodup o.srt)]
  split <;> rfl
theorem sg_zero {n : Nat} {F : List Int} : sgI F (List.replicate n 0) = 1 := by
  unfold sgI
  have : (F.map (ansI (List.replicate n 0))).sum = 0 := by
    have h : ∀ q, ansI (List.replicate n 0) q = 0 := fun q => by
      unfold ansI
      rw [List.getElem?_replicate]
      split <;> rfl
    induction F with
    | nil => rfl
    | cons q F ih => rw [List.map_cons, List.sum_cons, h q, ih]; rfl
  rw [this]; rfl
def flI (n : Nat) (F : List Int) : List Int := (rngI 0 n).filter fun q => decide (q ∈ F)
theorem fl_eq {n : Nat} {F : List Int} (o : RowOk (n : Int) F) : flI n F = F := by
  refine row_ext (rowOk_sub (by omega) List.filter_sublist) o fun x => ?_
  unfold flI
  rw [List.mem_filter, decide_eq_true_iff]
  exact ⟨fun h => h.2, fun h => ⟨rngI_mem.mpr (o.mem x h), h⟩⟩
def flT (F : List Int) (i : Nat) : List Int := (rngI 0 i).filter fun q => decide (q ∈ F)
theorem flT_succ {F : List Int} {i : Nat} : flT F (i + 1) = flT F i ++ if (i : Int) ∈ F then [(i : Int)] else [] := by
  unfold flT
  have : rngI 0 ((i + 1 : Nat) : Int) = rngI 0 (i : Int) ++ [(i : Int)] := by
    unfold rngI
    rw [show (((i + 1 : Nat) : Int) - 0).toNat = (((i : Nat) : Int) - 0).toNat + 1 by omega, List.range_succ, List.map_append]
    congr 1
    show [(0 : Int) + ((((i : Nat) : Int) - 0).toNat : Int)] = _
    congr 1; omega
  rw [this, List.filter_append]
  congr 1
  by_cases h : (i : Int) ∈ F
  · rw [if_pos h, List.filter_cons, if_pos (decide_eq_true h)]; rfl
  · rw [if_neg h, List.filter_cons, if_neg (by rw [decide_eq_true_iff]; exact h)]; rfl
theorem zips_map {α : Type} {f g : α → D} : ∀ l : List α, zips (l.map f) (l.map g) = l.map fun a => D.tup [f a, g a]
  | [] => rfl
  | a :: l => congrArg (D.tup [f a, g a] :: ·) (zips_map l)
theorem ex1_drop {S S2 : Sto} {p : Addr} (h : Ext1 p S S2) (n : S p = none) : Drop S2 S := fun b => by
  by_cases e : b = p
  · subst e; exact .inr n
  · rcases h b e with z | z
    · exact .inr z
    · exact .inl z.symm
def mfI (n : Nat) (M : List Mk) (s : List Int) : Option Mk := if numI n M s > 0 then some (s, numI n M s) else none
def sp__law_sums_by_all : SpD := fun ds S Q _ => ∃ (n : Nat) (b : Int) (F : List Int) (M : List Mk), ds = [.int n, .lst ((allI n).map fun as => .tpk (comeI b F M as))] ∧ n ≤ 5 ∧ (0 ≤ b ∧ b ≤ 1) ∧ RowOk (n : Int) F ∧ MsOk (n : Int) M ∧ Q (sumsD b F (srtM M)) S
abbrev s__law_sums_by_all : Stmt := topS 17
abbrev n__law_sums_by_all : List Str := ["_law_questions", "_law_turnings", "_law_every", "_law_begin", "_law_flips", "_law_q", "_law_told", "_law_half", "_law_marks", "_law_some", "_law_number", "_law_other", "_law_answers"]
abbrev p__law_sums_by_all : List Str := ["_law_questions", "_law_turnings"]
theorem sc__law_sums_by_all : FnScope n__law_sums_by_all p__law_sums_by_all (defScope s__law_sums_by_all) := ⟨rfl, rfl, rfl, by decide +kernel, rfl, by decide +kernel, by decide +kernel⟩
theorem ok__law_sums_by_all {f : Addr} {fd : FuncData} (F : Fun K "_law_sums_by_all" "_law_sums_by_all" s__law_sums_by_all f fd) (m_int : mg "int" = none) (m_range : mg "range" = none) (m_dict : mg "dict" = none) (m_zip : mg "zip" = none) (m_tuple : mg "tuple" = none) (m_sorted : mg "sorted" = none) (m_sum : mg "sum" = none) (F__law_all_answers : Fc P w K mg base k "_law_all_answers" p__law_all_answers sp__law_all_answers) (F__law_sets : Fc P w K mg base k "_law_sets" p__law_sets sp__law_sets) (F__law_sign : Fc P w K mg base k "_law_sign" p__law_sign sp__law_sign) : FnD P w K mg base (k + 1) f fd p__law_sums_by_all sp__law_sums_by_all := by
  refine FnD.of F sc__law_sums_by_all ?_ (fun X C E' cdv A outer s H E hX hr hx po hc => by
    subst hX
    exact (dss_cons (ds_set (i := 2) sc__law_sums_by_all.nd rfl (de_call F__law_all_answers hr xok0 (by rfl) (da_cons (dv 0) da_nil)))
      (dss_cons (ds_set (i := 3) sc__law_sums_by_all.nd rfl (de_bt cr_intD (by rfl) m_int b_int (da_cons (de_cmp (or_eq hr.u64) (de_op or_mod (de_op or_sub (de_ix (de_ix (dv 1) de_int) de_int) (de_ix (de_ix (dv 1) de_int) de_int)) de_int) de_int) da_nil)))
      (dss_cons (ds_set (i := 4) sc__law_sums_by_all.nd rfl (de_lst true da_nil))
      (dss_cons (ds_for po rfl (di_r1 (by rfl) m_range (dv 0)) (dg_name (i := 5) sc__law_sums_by_all.nd rfl) (dss_cons (ds_set (i := 6) sc__law_sums_by_all.nd rfl (de_kget hr.u65 (de_dictZip rfl hr.u65 (by rfl) m_dict (by rfl) m_zip (da_cons (dv 2) (da_cons (dv 1) da_nil))) (de_bt cr_tupK (by rfl) m_tuple b_tuple (da_cons (de_lc (own := [("_law_other", 11)]) false rfl sc__law_sums_by_all.nd (di_r1 (by rfl) m_range (dv 0)) (by show BlkOk n__law_sums_by_all (defScope s__law_sums_by_all) _ [("_law_other", 11)]; exact blkOk_by (by decide +kernel)) (fun _ _ _ _ _ => (dgc_name (i := 11) sc__law_sums_by_all.nd rfl)) (fun _ _ _ _ _ => dts_nil) (fun _ _ _ _ _ => (de_bt cr_intD (by rfl) m_int b_int (da_cons (de_cmp (or_eq hr.u64) (dv 11) (dv 5)) da_nil)))) da_nil))))
      (dss_one (ds_if (dt_cmp (or_ne hr.u64) (de_cmp (or_eq hr.u64) (de_op or_mod (de_op or_sub (de_ix (dv 6) de_int) (de_ix (dv 6) de_int)) de_int) de_int) (de_cmp (or_eq hr.u64) (dv 3) de_int)) (dss_one (ds_expr (de_m PySem.F.plainAttrs_list PySem.F.slot_list_append PySem.F.type_list_append mt_app (dv 4) (da_cons (dv 5) da_nil)))) dss_nil))))
      (dss_cons (ds_set (i := 7) sc__law_sums_by_all.nd rfl (de_op (or_add false) de_int (de_op or_mod (dv 0) de_int)))
      (dss_cons (ds_set (i := 8) sc__law_sums_by_all.nd rfl (de_lst true da_nil))
      (dss_cons (ds_for po rfl (di_seq (de_b (cr_sortT0 false hr.u65) (by rfl) m_sorted b_sorted (da_cons (de_call F__law_sets hr xok0 (by rfl) (da_cons (dv 0) da_nil)) da_nil))) (dg_name (i := 9) sc__law_sums_by_all.nd rfl) (dss_cons (ds_set (i := 10) sc__law_sums_by_all.nd rfl (de_op or_mod (de_op or_mul (dv 7) (de_b (cr_sumD rfl) (by rfl) m_sum b_sum (da_cons (de_lc (own := [("_law_answers", 12), ("_law_told", 6)]) false rfl sc__law_sums_by_all.nd (di_zip (by rfl) m_zip (da_cons (dv 2) (da_cons (dv 1) da_nil))) (by show BlkOk n__law_sums_by_all (defScope s__law_sums_by_all) _ [("_law_answers", 12), ("_law_told", 6)]; exact blkOk_by (by decide +kernel)) (fun _ _ _ _ _ => (dgc_tup (n := 2) rfl (dgsc_cons (dgc_name (i := 12) sc__law_sums_by_all.nd rfl) (dgsc_cons (dgc_name (i := 6) sc__law_sums_by_all.nd rfl) dgsc_nil)))) (fun _ _ _ _ _ => dts_nil) (fun _ _ _ _ _ => (de_op or_mul (de_ix (dv 6) de_int) (de_call F__law_sign hr xok0 (by rfl) (da_cons (dv 9) (da_cons (dv 12) da_nil)))))) da_nil))) de_int))
      (dss_one (ds_if (dt_cmp or_gt (dv 10) de_int) (dss_one (ds_expr (de_m PySem.F.plainAttrs_list PySem.F.slot_list_append PySem.F.type_list_append mt_app (dv 8) (da_cons (de_tup (da_cons (dv 9) (da_cons (dv 10) da_nil))) da_nil)))) dss_nil))))
      (dss_one (ds_ret (de_tup (da_cons (dv 3) (da_cons (de_bt cr_tupK (by rfl) m_tuple b_tuple (da_cons (dv 4) da_nil)) (da_cons (de_bt cr_tup (by rfl) m_tuple b_tuple (da_cons (dv 8) da_nil)) da_nil)))))))))))))) ?_
  · rintro ds S Q E ⟨n, b, F, M, rfl, _⟩; rfl
  · rintro ds S Q E' ⟨n, b, F, M, rfl, hn, hb, oF, oM, q⟩
    have n10 : n ≤ 10 := by omega
    have hT : ∀ as, comeI b F M as = [csum M as % 3, (csum M as + sgI F as * (1 + b)) % 3, (csum M as + sgI F as * (1 + b) * 2) % 3] := fun _ => rfl
    have at0 : atI ((allI n).map fun as => D.tpk (comeI b F M as)) 0 = some (.tpk (comeI b F M (List.replicate n 0))) := by
      rw [atI_p (Int.le_refl 0)]
      show ((allI n).map _)[0]? = _
      rw [List.getElem?_map, allI_zero]; rfl
    have e0 : ∀ {x y z : Int}, atI ([x, y, z].map D.int) 0 = some (.int x) := rfl
    have e1 : ∀ {x y z : Int}, atI ([x, y, z].map D.int) 1 = some (.int y) := rfl
    have sg0 := sg_zero (n := n) (F := F)
    generalize hz : List.replicate n (0 : Int) = Z at at0 sg0
    have hTz := hT Z
    rw [sg0] at hTz
    generalize csum M Z = cz at hTz
    rw [hTz] at at0
    have hbeg : ∀ c : Int, (if decide (((c + 1 * (1 + b)) % 3 - c % 3) % 3 = 2) = true then (1 : Int) else 0) = b := fun c => by
      rcases (by omega : b = 0 ∨ b = 1) with rfl | rfl
      · rw [if_neg (by rw [decide_eq_true_iff]; omega)]
      · rw [if_pos (by rw [decide_eq_true_iff]; omega)]
    ((try dsimp only [List.set_cons_zero, List.set_cons_succ, startD, wip, List.map_cons, List.map_nil, n__law_sums_by_all]); (conv => whnf); (repeat (first | ((with_reducible refine SeqP.mk ?_); (try dsimp only [List.set_cons_zero, List.set_cons_succ, startD, wip, List.map_cons, List.map_nil, n__law_sums_by_all]); (conv => whnf)) | (with_reducible apply Exists.intro) | ((with_reducible apply And.intro); (exact sdZ); (conv => whnf)) | ((first | with_reducible refine eqO_int_f ?_ | with_reducible refine eqO_int_t ?_ | with_reducible refine eqO_str_f ?_ | with_reducible refine eqO_str_t ?_ | with_reducible refine eqO_bl_f ?_ | with_reducible refine eqO_bl_t ?_ | with_reducible refine eqO_KK_f ?_ | with_reducible refine eqO_KK_t ?_ | with_reducible refine eqO_LL_f ?_ | with_reducible refine eqO_LL_t ?_); (conv => whnf)) | ((try dsimp only); (first | (rw [decide_eq_true]; rotate_left; (focus ((first | assumption | omega | rfl | decide); done))) | (rw [decide_eq_false]; rotate_left; (focus ((first | assumption | omega | rfl | decide); done)))); (conv => whnf)))))
    intro p np
    ((try dsimp only [List.set_cons_zero, List.set_cons_succ, startD, wip, List.map_cons, List.map_nil, n__law_sums_by_all]); (conv => whnf); (repeat (first | ((with_reducible refine SeqP.mk ?_); (try dsimp only [List.set_cons_zero, List.set_cons_succ, startD, wip, List.map_cons, List.map_nil, n__law_sums_by_all]); (conv => whnf)) | (with_reducible apply Exists.intro) | ((with_reducible apply And.intro); (exact sdZ); (conv => whnf)) | ((first | with_reducible refine eqO_int_f ?_ | with_reducible refine eqO_int_t ?_ | with_reducible refine eqO_str_f ?_ | with_reducible refine eqO_str_t ?_ | with_reducible refine eqO_bl_f ?_ | with_reducible refine eqO_bl_t ?_ | with_reducible refine eqO_KK_f ?_ | with_reducible refine eqO_KK_t ?_ | with_reducible refine eqO_LL_f ?_ | with_reducible refine eqO_LL_t ?_); (conv => whnf)) | ((try dsimp only); (first | (rw [decide_eq_true]; rotate_left; (focus ((first | assumption | omega | rfl | decide); done))) | (rw [decide_eq_false]; rotate_left; (focus ((first | assumption | omega | rfl | decide); done)))); (conv => whnf)))))
    rw [hbeg]
    ((try dsimp only [List.set_cons_zero, List.set_cons_succ, startD, wip, List.map_cons, List.map_nil, n__law_sums_by_all]); (conv => whnf); (repeat (first | ((with_reducible refine SeqP.mk ?_); (try dsimp only [List.set_cons_zero, List.set_cons_succ, startD, wip, List.map_cons, List.map_nil, n__law_sums_by_all]); (conv => whnf)) | (with_reducible apply Exists.intro) | ((with_reducible apply And.intro); (exact sdZ); (conv => whnf)) | ((first | with_reducible refine eqO_int_f ?_ | with_reducible refine eqO_int_t ?_ | with_reducible refine eqO_str_f ?_ | with_reducible refine eqO_str_t ?_ | with_reducible refine eqO_bl_f ?_ | with_reducible refine eqO_bl_t ?_ | with_reducible refine eqO_KK_f ?_ | with_reducible refine eqO_KK_t ?_ | with_reducible refine eqO_LL_f ?_ | with_reducible refine eqO_LL_t ?_); (conv => whnf)) | ((try dsimp only); (first | (rw [decide_eq_true]; rotate_left; (focus ((first | assumption | omega | rfl | decide); done))) | (rw [decide_eq_false]; rotate_left; (focus ((first | assumption | omega | rfl | decide); done)))); (conv => whnf)))))
    intro r nr
    have rp : r ≠ p := ne_none sput_same nr
    have pr : p ≠ r := rp.symm
    have lr := rngI_len (n := (n : Int)) (by omega)
    have hTs : ∃ ts, ts = (allI n).map fun as => D.tpk (comeI b F M as) := ⟨_, rfl⟩
    have lA : (allI n).length ≤ 1024 := by rw [allI_len]; exact pow_le10 n10
    ((try dsimp only [List.set_cons_zero, List.set_cons_succ, startD, wip, List.map_cons, List.map_nil, n__law_sums_by_all]); (conv => whnf); (repeat (first | ((with_reducible refine SeqP.mk ?_); (try dsimp only [List.set_cons_zero, List.set_cons_succ, startD, wip, List.map_cons, List.map_nil, n__law_sums_by_all]); (conv => whnf)) | (with_reducible apply Exists.intro) | ((with_reducible apply And.intro); (exact sdZ); (conv => whnf)) | ((first | with_reducible refine eqO_int_f ?_ | with_reducible refine eqO_int_t ?_ | with_reducible refine eqO_str_f ?_ | with_reducible refine eqO_str_t ?_ | with_reducible refine eqO_bl_f ?_ | with_reducible refine eqO_bl_t ?_ | with_reducible refine eqO_KK_f ?_ | with_reducible refine eqO_KK_t ?_ | with_reducible refine eqO_LL_f ?_ | with_reducible refine eqO_LL_t ?_); (conv => whnf)) | ((try dsimp only); (first | (rw [decide_eq_true]; rotate_left; (focus ((first | assumption | omega | rfl | decide); done))) | (rw [decide_eq_false]; rotate_left; (focus ((first | assumption | omega | rfl | decide); done)))); (conv => whnf)))))
    refine for_inv (fun i e S2 => ∃ (y5 y6 y7 y8 y9 y10 y11 y12 : Option D), e = [some (.int n), some (.lst ((allI n).map fun as => D.tpk (comeI b F M as))), some (.ref p), some (.int b), some (.ref r), y5, y6, y7, y8, y9, y10, y11, y12] ∧ S2 p = some (.lst ((allI n).map D.tpk)) ∧ S2 r = some (.lst ((flT F i).map D.int)) ∧ Ext1 r (sput S p (.lst ((allI n).map D.tpk))) S2) ⟨_, _, _, _, _, _, _, _, rfl, (sput_ne pr).trans sput_same, sput_same, Ext1.refl.put nr⟩ (fun _ _ _ _ _ => trivial) (fun i z e S2 N hz h hN => ?_) fun e S2 h => ?_
    · obtain ⟨y5, y6, y7, y8, y9, y10, y11, y12, rfl, hp, hr, hx⟩ := h
      have hi := (List.getElem?_eq_some_iff.mp hz).1
      rw [List.length_map] at hi
      have hil : (i : Int) < (n : Int) := by omega
      rw [List.getElem?_map, rngI_get hil] at hz
      cases hz
      have hkk : ((allI n).map D.tpk).map keyI = (allI n).map some := by rw [List.map_map]; rfl
      have hnd := allI_nd n
      have hlen : ((allI n).map D.tpk).length = ((allI n).map fun as => D.tpk (comeI b F M as)).length := by rw [List.length_map, List.length_map]
      ((try dsimp only [List.set_cons_zero, List.set_cons_succ, startD, wip, List.map_cons, List.map_nil, n__law_sums_by_all]); (conv => whnf); (repeat (first | ((with_reducible refine SeqP.mk ?_); (try dsimp only [List.set_cons_zero, List.set_cons_succ, startD, wip, List.map_cons, List.map_nil, n__law_sums_by_all]); (conv => whnf)) | (with_reducible apply Exists.intro) | ((with_reducible apply And.intro); (exact sdZ); (conv => whnf)) | ((first | with_reducible refine eqO_int_f ?_ | with_reducible refine eqO_int_t ?_ | with_reducible refine eqO_str_f ?_ | with_reducible refine eqO_str_t ?_ | with_reducible refine eqO_bl_f ?_ | with_reducible refine eqO_bl_t ?_ | with_reducible refine eqO_KK_f ?_ | with_reducible refine eqO_KK_t ?_ | with_reducible refine eqO_LL_f ?_ | with_reducible refine eqO_LL_t ?_); (conv => whnf)) | ((try dsimp only); (first | (rw [decide_eq_true]; rotate_left; (focus ((first | assumption | omega | rfl | decide); done))) | (rw [decide_eq_false]; rotate_left; (focus ((first | assumption | omega | rfl | decide); done)))); (conv => whnf)))))
      intro u nu
      have up : u ≠ p := ne_none hp nu
      have ur : u ≠ r := ne_none hr nu
      have ru : r ≠ u := ur.symm
      have mU : unitI n i ∈ allI n := allI_all n (by have := (unit_ok (n := n) i).len; omega) (unit_ok i).mem
      have hgk := getK_zip (g := fun as => D.tpk (comeI b F M as)) mU
      have sgu := sg_unit (q := (i : Int)) oF
      have hTu := hT (unitI n i)
      generalize csum M (unitI n i) = cu at hTu
      rw [sgu] at hTu
      rw [hTu] at hgk
      generalize ((allI n).map D.tpk).zip ((allI n).map fun as => D.tpk (comeI b F M as)) = Z2 at hgk ⊢
      ((try dsimp only [List.set_cons_zero, List.set_cons_succ, startD, wip, List.map_cons, List.map_nil, n__law_sums_by_all]); (conv => whnf); (repeat (first | ((with_reducible refine SeqP.mk ?_); (try dsimp only [List.set_cons_zero, List.set_cons_succ, startD, wip, List.map_cons, List.map_nil, n__law_sums_by_all]); (conv => whnf)) | (with_reducible apply Exists.intro) | ((with_reducible apply And.intro); (exact sdZ); (conv => whnf)) | ((first | with_reducible refine eqO_int_f ?_ | with_reducible refine eqO_int_t ?_ | with_reducible refine eqO_str_f ?_ | with_reducible refine eqO_str_t ?_ | with_reducible refine eqO_bl_f ?_ | with_reducible refine eqO_bl_t ?_ | with_reducible refine eqO_KK_f ?_ | with_reducible refine eqO_KK_t ?_ | with_reducible refine eqO_LL_f ?_ | with_reducible refine eqO_LL_t ?_); (conv => whnf)) | ((try dsimp only); (first | (rw [decide_eq_true]; rotate_left; (focus ((first | assumption | omega | rfl | decide); done))) | (rw [decide_eq_false]; rotate_left; (focus ((first | assumption | omega | rfl | decide); done)))); (conv => whnf)))))
      refine lc_mapT (rngI 0 n) D.int (fun o => .int (if decide (o = (i : Int)) = true then 1 else 0)) trivial (fun o N2 ho hN2 => ?_) ?_
      · ((try dsimp only [List.set_cons_zero, List.set_cons_succ, startD, wip, List.map_cons, List.map_nil, n__law_sums_by_all]); (conv => whnf); (repeat (first | ((with_reducible refine SeqP.mk ?_); (try dsimp only [List.set_cons_zero, List.set_cons_succ, startD, wip, List.map_cons, List.map_nil, n__law_sums_by_all]); (conv => whnf)) | (with_reducible apply Exists.intro) | ((with_reducible apply And.intro); (exact sdZ); (conv => whnf)) | ((first | with_reducible refine eqO_int_f ?_ | with_reducible refine eqO_int_t ?_ | with_reducible refine eqO_str_f ?_ | with_reducible refine eqO_str_t ?_ | with_reducible refine eqO_bl_f ?_ | with_reducible refine eqO_bl_t ?_ | with_reducible refine eqO_KK_f ?_ | with_reducible refine eqO_KK_t ?_ | with_reducible refine eqO_LL_f ?_ | with_reducible refine eqO_LL_t ?_); (conv => whnf)) | ((try dsimp only); (first | (rw [decide_eq_true]; rotate_left; (focus ((first | assumption | omega | rfl | decide); done))) | (rw [decide_eq_false]; rotate_left; (focus ((first | assumption | omega | rfl | decide); done)))); (conv => whnf)))))
        exact hN2
      have em : (rngI 0 (n : Int)).map (fun o => D.int (if decide (o = (i : Int)) = true then 1 else 0)) = (unitI n i).map D.int := by unfold unitI; rw [List.map_map]; rfl
      rw [em]
      generalize unitI n i = U at hgk hTu mU ⊢
      have md : ∀ c k : Int, ((c + k) % 3 - c % 3) % 3 = k % 3 := fun c k => by omega
      have hc : decide (decide (((cu + (if (i : Int) ∈ F then 2 else 1) * (1 + b)) % 3 - cu % 3) % 3 = 2) = decide (b = 1)) = !decide ((i : Int) ∈ F) := by
        rw [md]
        rcases (by omega : b = 0 ∨ b = 1) with rfl | rfl
        · by_cases m : (i : Int) ∈ F
          · rw [if_pos m, decide_eq_true m]; decide
          · rw [if_neg m, decide_eq_false m]; decide
        · by_cases m : (i : Int) ∈ F
          · rw [if_pos m, decide_eq_true m]; decide
          · rw [if_neg m, decide_eq_false m]; decide
      have hrr : sput S2 u (.dct Z2) r = some (.lst ((flT F i).map D.int)) := (sput_ne ru).trans hr
      have lfl : ((flT F i).map D.int).length ≤ 100 := by
        rw [List.length_map]
        have l1 := List.length_filter_le (fun q => decide (q ∈ F)) (rngI 0 (i : Int))
        have l2 := rngI_len (n := (i : Int)) (by omega)
        show ((rngI 0 (i : Int)).filter _).length ≤ 100
        omega
      ((try dsimp only [List.set_cons_zero, List.set_cons_succ, startD, wip, List.map_cons, List.map_nil, n__law_sums_by_all]); (conv => whnf); (repeat (first | ((with_reducible refine SeqP.mk ?_); (try dsimp only [List.set_cons_zero, List.set_cons_succ, startD, wip, List.map_cons, List.map_nil, n__law_sums_by_all]); (conv => whnf)) | (with_reducible apply Exists.intro) | ((with_reducible apply And.intro); (exact sdZ); (conv => whnf)) | ((first | with_reducible refine eqO_int_f ?_ | with_reducible refine eqO_int_t ?_ | with_reducible refine eqO_str_f ?_ | with_reducible refine eqO_str_t ?_ | with_reducible refine eqO_bl_f ?_ | with_reducible refine eqO_bl_t ?_ | with_reducible refine eqO_KK_f ?_ | with_reducible refine eqO_KK_t ?_ | with_reducible refine eqO_LL_f ?_ | with_reducible refine eqO_LL_t ?_); (conv => whnf)) | ((try dsimp only); (first | (rw [decide_eq_true]; rotate_left; (focus ((first | assumption | omega | rfl | decide); done))) | (rw [decide_eq_false]; rotate_left; (focus ((first | assumption | omega | rfl | decide); done)))); (conv => whnf)))))
      rw [hc]
      by_cases m : (i : Int) ∈ F
      · rw [decide_eq_true m]
        ((try dsimp only [List.set_cons_zero, List.set_cons_succ, startD, wip, List.map_cons, List.map_nil, n__law_sums_by_all]); (conv => whnf); (repeat (first | ((with_reducible refine SeqP.mk ?_); (try dsimp only [List.set_cons_zero, List.set_cons_succ, startD, wip, List.map_cons, List.map_nil, n__law_sums_by_all]); (conv => whnf)) | (with_reducible apply Exists.intro) | ((with_reducible apply And.intro); (exact sdZ); (conv => whnf)) | ((first | with_reducible refine eqO_int_f ?_ | with_reducible refine eqO_int_t ?_ | with_reducible refine eqO_str_f ?_ | with_reducible refine eqO_str_t ?_ | with_reducible refine eqO_bl_f ?_ | with_reducible refine eqO_bl_t ?_ | with_reducible refine eqO_KK_f ?_ | with_reducible refine eqO_KK_t ?_ | with_reducible refine eqO_LL_f ?_ | with_reducible refine eqO_LL_t ?_); (conv => whnf)) | ((try dsimp only); (first | (rw [decide_eq_true]; rotate_left; (focus ((first | assumption | omega | rfl | decide); done))) | (rw [decide_eq_false]; rotate_left; (focus ((first | assumption | omega | rfl | decide); done)))); (conv => whnf)))))
        exact hN _ _ ⟨_, _, _, _, _, _, _, _, rfl, (sput_ne pr).trans ((sput_ne up.symm).trans hp), by rw [sput_same, flT_succ, if_pos m, List.map_append]; rfl, (hx.put nu).at'⟩
      · rw [decide_eq_false m]
        ((try dsimp only [List.set_cons_zero, List.set_cons_succ, startD, wip, List.map_cons, List.map_nil, n__law_sums_by_all]); (conv => whnf); (repeat (first | ((with_reducible refine SeqP.mk ?_); (try dsimp only [List.set_cons_zero, List.set_cons_succ, startD, wip, List.map_cons, List.map_nil, n__law_sums_by_all]); (conv => whnf)) | (with_reducible apply Exists.intro) | ((with_reducible apply And.intro); (exact sdZ); (conv => whnf)) | ((first | with_reducible refine eqO_int_f ?_ | with_reducible refine eqO_int_t ?_ | with_reducible refine eqO_str_f ?_ | with_reducible refine eqO_str_t ?_ | with_reducible refine eqO_bl_f ?_ | with_reducible refine eqO_bl_t ?_ | with_reducible refine eqO_KK_f ?_ | with_reducible refine eqO_KK_t ?_ | with_reducible refine eqO_LL_f ?_ | with_reducible refine eqO_LL_t ?_); (conv => whnf)) | ((try dsimp only); (first | (rw [decide_eq_true]; rotate_left; (focus ((first | assumption | omega | rfl | decide); done))) | (rw [decide_eq_false]; rotate_left; (focus ((first | assumption | omega | rfl | decide); done)))); (conv => whnf)))))
        exact hN _ _ ⟨_, _, _, _, _, _, _, _, rfl, (sput_ne up.symm).trans hp, by rw [sput_ne ru, flT_succ, if_neg m, List.append_nil]; exact hr, hx.put nu⟩
    · obtain ⟨y5, y6, y7, y8, y9, y10, y11, y12, rfl, hp, hr, hx⟩ := h
      rw [List.length_map, show (rngI 0 (n : Int)).length = n by omega, show flT F n = F from fl_eq oF] at hr
      ((try dsimp only [List.set_cons_zero, List.set_cons_succ, startD, wip, List.map_cons, List.map_nil, n__law_sums_by_all]); (conv => whnf); (repeat (first | ((with_reducible refine SeqP.mk ?_); (try dsimp only [List.set_cons_zero, List.set_cons_succ, startD, wip, List.map_cons, List.map_nil, n__law_sums_by_all]); (conv => whnf)) | (with_reducible apply Exists.intro) | ((with_reducible apply And.intro); (exact sdZ); (conv => whnf)) | ((first | with_reducible refine eqO_int_f ?_ | with_reducible refine eqO_int_t ?_ | with_reducible refine eqO_str_f ?_ | with_reducible refine eqO_str_t ?_ | with_reducible refine eqO_bl_f ?_ | with_reducible refine eqO_bl_t ?_ | with_reducible refine eqO_KK_f ?_ | with_reducible refine eqO_KK_t ?_ | with_reducible refine eqO_LL_f ?_ | with_reducible refine eqO_LL_t ?_); (conv => whnf)) | ((try dsimp only); (first | (rw [decide_eq_true]; rotate_left; (focus ((first | assumption | omega | rfl | decide); done))) | (rw [decide_eq_false]; rotate_left; (focus ((first | assumption | omega | rfl | decide); done)))); (conv => whnf)))))
      intro v nv
      have vp : v ≠ p := ne_none hp nv
      have vr : v ≠ r := ne_none hr nv
      obtain ⟨rs, hrs⟩ := sets_head n
      have so : SrtOk0 ((setsI n).map D.tpk) := by rw [hrs]; exact srtOk0_tpk
      ((try dsimp only [List.set_cons_zero, List.set_cons_succ, startD, wip, List.map_cons, List.map_nil, n__law_sums_by_all]); (conv => whnf); (repeat (first | ((with_reducible refine SeqP.mk ?_); (try dsimp only [List.set_cons_zero, List.set_cons_succ, startD, wip, List.map_cons, List.map_nil, n__law_sums_by_all]); (conv => whnf)) | (with_reducible apply Exists.intro) | ((with_reducible apply And.intro); (exact sdZ); (conv => whnf)) | ((first | with_reducible refine eqO_int_f ?_ | with_reducible refine eqO_int_t ?_ | with_reducible refine eqO_str_f ?_ | with_reducible refine eqO_str_t ?_ | with_reducible refine eqO_bl_f ?_ | with_reducible refine eqO_bl_t ?_ | with_reducible refine eqO_KK_f ?_ | with_reducible refine eqO_KK_t ?_ | with_reducible refine eqO_LL_f ?_ | with_reducible refine eqO_LL_t ?_); (conv => whnf)) | ((try dsimp only); (first | (rw [decide_eq_true]; rotate_left; (focus ((first | assumption | omega | rfl | decide); done))) | (rw [decide_eq_false]; rotate_left; (focus ((first | assumption | omega | rfl | decide); done)))); (conv => whnf)))))
      rw [srtD_tpk]
      have hr2 : sput S2 v (.lst []) r = some (.lst (F.map D.int)) := (sput_ne vr.symm).trans hr
      have hp2 : sput S2 v (.lst []) p = some (.lst ((allI n).map D.tpk)) := (sput_ne vp.symm).trans hp
      have lS : (srtR (setsI n)).length ≤ 1024 := by
        rw [(srtR_perm47 _).length_eq, sets_len]
        exact pow_le10 n10
      refine for_inv (fun i e S3 => ∃ (y5 y6 y9 y10 y11 y12 : Option D), e = [some (.int n), some (.lst ((allI n).map fun as => D.tpk (comeI b F M as))), some (.ref p), some (.int b), some (.ref r), y5, y6, some (.int (1 + (n : Int) % 2)), some (.ref v), y9, y10, y11, y12] ∧ S3 p = some (.lst ((allI n).map D.tpk)) ∧ S3 r = some (.lst (F.map D.int)) ∧ S3 v = some (.lst ((((srtR (setsI n)).take i).filterMap (mfI n M)).map mkD)) ∧ Ext1 v S2 S3) ⟨_, _, _, _, _, _, rfl, hp2, hr2, sput_same, Ext1.refl.put nv⟩ (fun _ _ _ _ _ => trivial) (fun i z e S3 N hz h hN => ?_) fun e S3 h => ?_
      · obtain ⟨y5, y6, y9, y10, y11, y12, rfl, hp3, hr3, hv3, hx3⟩ := h
        rw [List.getElem?_map] at hz
        cases hs : (srtR (setsI n))[i]? with
        | none => rw [hs] at hz; cases hz
        | some s =>
          rw [hs] at hz; cases hz
          have ms := (srtR_perm47 _).mem_iff.mp (List.mem_of_getElem? hs)
          have os := sets_ok n s ms
          have hi := (List.getElem?_eq_some_iff.mp hs).1
          have lv : ((((srtR (setsI n)).take i).filterMap (mfI n M)).map mkD).length ≤ 2000 := by
            have h1 := List.length_filterMap_le (mfI n M) ((srtR (setsI n)).take i)
            rw [List.length_map]
            rw [List.length_take] at h1
            omega
          have lz : ((allI n).map fun a => D.tup [.tpk a, .tpk (comeI b F M a)]).length ≤ 1024 := by rw [List.length_map]; exact lA
          have n1000 : (n : Int) ≤ 1000 := by omega
          ((try dsimp only [List.set_cons_zero, List.set_cons_succ, startD, wip, List.map_cons, List.map_nil, n__law_sums_by_all]); (conv => whnf); (repeat (first | ((with_reducible refine SeqP.mk ?_); (try dsimp only [List.set_cons_zero, List.set_cons_succ, startD, wip, List.map_cons, List.map_nil, n__law_sums_by_all]); (conv => whnf)) | (with_reducible apply Exists.intro) | ((with_reducible apply And.intro); (exact sdZ); (conv => whnf)) | ((first | with_reducible refine eqO_int_f ?_ | with_reducible refine eqO_int_t ?_ | with_reducible refine eqO_str_f ?_ | with_reducible refine eqO_str_t ?_ | with_reducible refine eqO_bl_f ?_ | with_reducible refine eqO_bl_t ?_ | with_reducible refine eqO_KK_f ?_ | with_reducible refine eqO_KK_t ?_ | with_reducible refine eqO_LL_f ?_ | with_reducible refine eqO_LL_t ?_); (conv => whnf)) | ((try dsimp only); (first | (rw [decide_eq_true]; rotate_left; (focus ((first | assumption | omega | rfl | decide); done))) | (rw [decide_eq_false]; rotate_left; (focus ((first | assumption | omega | rfl | decide); done)))); (conv => whnf)))))
          rw [zips_map]
          refine ⟨lt_sz (by omega), ?_⟩
          refine lc_mapT (allI n) (fun a => D.tup [.tpk a, .tpk (comeI b F M a)]) (fun a => .int (csum M a % 3 * sgI s a)) ⟨asL_ref hp3, trivial⟩ (fun a N2 ha hN2 => ?_) ?_
          · have al := (allI_ok n a ha).l
            have ta : tn (.tpk a) a := rfl
            rw [hT a]
            ((try dsimp only [List.set_cons_zero, List.set_cons_succ, startD, wip, List.map_cons, List.map_nil, n__law_sums_by_all]); (conv => whnf); (repeat (first | ((with_reducible refine SeqP.mk ?_); (try dsimp only [List.set_cons_zero, List.set_cons_succ, startD, wip, List.map_cons, List.map_nil, n__law_sums_by_all]); (conv => whnf)) | (with_reducible apply Exists.intro) | ((with_reducible apply And.intro); (exact sdZ); (conv => whnf)) | ((first | with_reducible refine eqO_int_f ?_ | with_reducible refine eqO_int_t ?_ | with_reducible refine eqO_str_f ?_ | with_reducible refine eqO_str_t ?_ | with_reducible refine eqO_bl_f ?_ | with_reducible refine eqO_bl_t ?_ | with_reducible refine eqO_KK_f ?_ | with_reducible refine eqO_KK_t ?_ | with_reducible refine eqO_LL_f ?_ | with_reducible refine eqO_LL_t ?_); (conv => whnf)) | ((try dsimp only); (first | (rw [decide_eq_true]; rotate_left; (focus ((first | assumption | omega | rfl | decide); done))) | (rw [decide_eq_false]; rotate_left; (focus ((first | assumption | omega | rfl | decide); done)))); (conv => whnf)))))
            exact hN2
          have e3 : (allI n).map (fun a => D.int (csum M a % 3 * sgI s a)) = ((allI n).map fun a => csum M a % 3 * sgI s a).map D.int := by rw [List.map_map]; rfl
          rw [e3]
          have hnum : (1 + (n : Int) % 2) * ((allI n).map fun a => csum M a % 3 * sgI s a).sum % 3 = numI n M s := rfl
          generalize (allI n).map (fun a => csum M a % 3 * sgI s a) = B at hnum
          ((try dsimp only [List.set_cons_zero, List.set_cons_succ, startD, wip, List.map_cons, List.map_nil, n__law_sums_by_all]); (conv => whnf); (repeat (first | ((with_reducible refine SeqP.mk ?_); (try dsimp only [List.set_cons_zero, List.set_cons_succ, startD, wip, List.map_cons, List.map_nil, n__law_sums_by_all]); (conv => whnf)) | (with_reducible apply Exists.intro) | ((with_reducible apply And.intro); (exact sdZ); (conv => whnf)) | ((first | with_reducible refine eqO_int_f ?_ | with_reducible refine eqO_int_t ?_ | with_reducible refine eqO_str_f ?_ | with_reducible refine eqO_str_t ?_ | with_reducible refine eqO_bl_f ?_ | with_reducible refine eqO_bl_t ?_ | with_reducible refine eqO_KK_f ?_ | with_reducible refine eqO_KK_t ?_ | with_reducible refine eqO_LL_f ?_ | with_reducible refine eqO_LL_t ?_); (conv => whnf)) | ((try dsimp only); (first | (rw [decide_eq_true]; rotate_left; (focus ((first | assumption | omega | rfl | decide); done))) | (rw [decide_eq_false]; rotate_left; (focus ((first | assumption | omega | rfl | decide); done)))); (conv => whnf)))))
          rw [hnum]
          by_cases hp0 : numI n M s > 0
          · ((try dsimp only [List.set_cons_zero, List.set_cons_succ, startD, wip, List.map_cons, List.map_nil, n__law_sums_by_all]); (conv => whnf); (repeat (first | ((with_reducible refine SeqP.mk ?_); (try dsimp only [List.set_cons_zero, List.set_cons_succ, startD, wip, List.map_cons, List.map_nil, n__law_sums_by_all]); (conv => whnf)) | (with_reducible apply Exists.intro) | ((with_reducible apply And.intro); (exact sdZ); (conv => whnf)) | ((first | with_reducible refine eqO_int_f ?_ | with_reducible refine eqO_int_t ?_ | with_reducible refine eqO_str_f ?_ | with_reducible refine eqO_str_t ?_ | with_reducible refine eqO_bl_f ?_ | with_reducible refine eqO_bl_t ?_ | with_reducible refine eqO_KK_f ?_ | with_reducible refine eqO_KK_t ?_ | with_reducible refine eqO_LL_f ?_ | with_reducible refine eqO_LL_t ?_); (conv => whnf)) | ((try dsimp only); (first | (rw [decide_eq_true]; rotate_left; (focus ((first | assumption | omega | rfl | decide); done))) | (rw [decide_eq_false]; rotate_left; (focus ((first | assumption | omega | rfl | decide); done)))); (conv => whnf)))))
            refine hN _ _ ⟨_, _, _, _, _, _, rfl, (sput_ne vp.symm).trans hp3, (sput_ne vr.symm).trans hr3, ?_, hx3.at'⟩
            rw [sput_same, List.take_succ, hs, List.filterMap_append, List.map_append]
            show _ = some (Cell.lst (_ ++ ([s].filterMap (mfI n M)).map mkD))
            rw [show [s].filterMap (mfI n M) = [(s, numI n M s)] by unfold mfI; simp only [List.filterMap_cons, List.filterMap_nil, if_pos hp0], hnum]
            rfl
          · ((try dsimp only [List.set_cons_zero, List.set_cons_succ, startD, wip, List.map_cons, List.map_nil, n__law_sums_by_all]); (conv => whnf); (repeat (first | ((with_reducible refine SeqP.mk ?_); (try dsimp only [List.set_cons_zero, List.set_cons_succ, startD, wip, List.map_cons, List.map_nil, n__law_sums_by_all]); (conv => whnf)) | (with_reducible apply Exists.intro) | ((with_reducible apply And.intro); (exact sdZ); (conv => whnf)) | ((first | with_reducible refine eqO_int_f ?_ | with_reducible refine eqO_int_t ?_ | with_reducible refine eqO_str_f ?_ | with_reducible refine eqO_str_t ?_ | with_reducible refine eqO_bl_f ?_ | with_reducible refine eqO_bl_t ?_ | with_reducible refine eqO_KK_f ?_ | with_reducible refine eqO_KK_t ?_ | with_reducible refine eqO_LL_f ?_ | with_reducible refine eqO_LL_t ?_); (conv => whnf)) | ((try dsimp only); (first | (rw [decide_eq_true]; rotate_left; (focus ((first | assumption | omega | rfl | decide); done))) | (rw [decide_eq_false]; rotate_left; (focus ((first | assumption | omega | rfl | decide); done)))); (conv => whnf)))))
            refine hN _ _ ⟨_, _, _, _, _, _, rfl, hp3, hr3, ?_, hx3⟩
            rw [List.take_succ, hs, List.filterMap_append]
            show _ = some (Cell.lst ((_ ++ [s].filterMap (mfI n M)).map mkD))
            rw [show [s].filterMap (mfI n M) = [] by unfold mfI; simp only [List.filterMap_cons, List.filterMap_nil, if_neg hp0], List.append_nil]
            exact hv3
      · obtain ⟨y5, y6, y9, y10, y11, y12, rfl, hp3, hr3, hv3, hx3⟩ := h
        rw [List.length_map, List.take_length] at hv3
        have em : (srtR (setsI n)).filterMap (mfI n M) = srtM M := marks_srt oM
        rw [em] at hv3
        ((try dsimp only [List.set_cons_zero, List.set_cons_succ, startD, wip, List.map_cons, List.map_nil, n__law_sums_by_all]); (conv => whnf); (repeat (first | ((with_reducible refine SeqP.mk ?_); (try dsimp only [List.set_cons_zero, List.set_cons_succ, startD, wip, List.map_cons, List.map_nil, n__law_sums_by_all]); (conv => whnf)) | (with_reducible apply Exists.intro) | ((with_reducible apply And.intro); (exact sdZ); (conv => whnf)) | ((first | with_reducible refine eqO_int_f ?_ | with_reducible refine eqO_int_t ?_ | with_reducible refine eqO_str_f ?_ | with_reducible refine eqO_str_t ?_ | with_reducible refine eqO_bl_f ?_ | with_reducible refine eqO_bl_t ?_ | with_reducible refine eqO_KK_f ?_ | with_reducible refine eqO_KK_t ?_ | with_reducible refine eqO_LL_f ?_ | with_reducible refine eqO_LL_t ?_); (conv => whnf)) | ((try dsimp only); (first | (rw [decide_eq_true]; rotate_left; (focus ((first | assumption | omega | rfl | decide); done))) | (rw [decide_eq_false]; rotate_left; (focus ((first | assumption | omega | rfl | decide); done)))); (conv => whnf)))))
        exact fin_drop ((ex1_drop hx3 nv).trans ((ex1_drop hx nr).trans (Drop.put np))) q

theorem leaf_at {m q v : Int} (v0 : 0 ≤ v) (v1 : v < 8) (q0 : 0 ≤ q) (q1 : q < m) : ∃ s : Sy, atI [D.tup [.str "ask", .int q], .tup [.str "yes"], .tup [.str "no"]] (if v - 5 > 0 then v - 5 else 0) = some s.d ∧ s.ok m ∧ s.dep = 1 ∧ s.parts = 1 := by
  by_cases h : v - 5 > 0
  · rw [if_pos h]
    have cs : v - 5 = 1 ∨ v - 5 = 2 := by omega
    rcases cs with e | e
    · rw [e]; exact ⟨.yes, rfl, trivial, rfl, rfl⟩
    · rw [e]; exact ⟨.no, rfl, trivial, rfl, rfl⟩
  · rw [if_neg h]; exact ⟨.ask q, rfl, ⟨q0, q1⟩, rfl, rfl⟩
theorem head_at {f : Int} (f0 : 0 ≤ f) : ∃ C : Sy → Sy → Sy, ∃ w : Str, atI [D.str "and", .str "or", .str "either"] (f % 3) = some (.str w) ∧ ∀ a b, (C a b).d = .tup [.str w, a.d, b.d] ∧ (∀ m, (C a b).ok m = (a.ok m ∧ b.ok m)) ∧ (C a b).dep = max a.dep b.dep + 1 ∧ (C a b).parts = a.parts + b.parts + 1 := by
  have cs : f % 3 = 0 ∨ f % 3 = 1 ∨ f % 3 = 2 := by omega
  rcases cs with e | e | e
  · rw [e]; exact ⟨.and, _, rfl, fun a b => ⟨rfl, fun _ => rfl, rfl, rfl⟩⟩
  · rw [e]; exact ⟨.or, _, rfl, fun a b => ⟨rfl, fun _ => rfl, rfl, rfl⟩⟩
  · rw [e]; exact ⟨.either, _, rfl, fun a b => ⟨rfl, fun _ => rfl, rfl, rfl⟩⟩
def sp__law_saying : Nat → SpD
  | 0 => fun _ _ _ _ => False
  | N + 1 => fun ds S Q _ => ∃ a m room down x y, ds = [.ref a, .int m, .int room, .int down] ∧ S a = some (.lst [.int x, .int y]) ∧ 0 ≤ x ∧ 1 ≤ y ∧ 0 < m ∧ m ≤ 1000 ∧ 1 ≤ room ∧ room ≤ 1000 ∧ 1 ≤ down ∧ down ≤ (N : Int) + 1 ∧ ∀ (s : Sy) (x' y' : Int), s.ok m → (s.dep : Int) ≤ down → (s.parts : Int) ≤ room → 0 ≤ x' → 1 ≤ y' → Q s.d (bxd S a x' y')
abbrev s__law_saying : Stmt := topS 12
abbrev n__law_saying : List Str := ["_law_box_here", "_law_questions", "_law_room", "_law_down", "_law_form", "_law_first", "_law_one", "_law_second", "_law_other", "_law_head"]
abbrev p__law_saying : List Str := ["_law_box_here", "_law_questions", "_law_room", "_law_down"]
theorem sc__law_saying : FnScope n__law_saying p__law_saying (defScope s__law_saying) := ⟨rfl, rfl, rfl, by decide +kernel, rfl, by decide +kernel, by decide +kernel⟩
theorem ok__law_saying {f : Addr} {fd : FuncData} {n : Nat} (F : Fun K "_law_saying" "_law_saying" s__law_saying f fd) (m_max : mg "max" = none) (F__law_take : Fc P w K mg base k "_law_take" p__law_take sp__law_take) (F__law_saying : Fc P w K mg base k "_law_saying" p__law_saying (sp__law_saying n)) : FnD P w K mg base (k + 1) f fd p__law_saying (sp__law_saying (n+1)) := by
  refine FnD.of F sc__law_saying ?_ (fun X C E' cdv A outer s H E hX hr hx po hc => by
    subst hX
    exact (dss_cons (ds_set (i := 4) sc__law_saying.nd rfl (de_call F__law_take hr xok0 (by rfl) (da_cons (dv 0) (da_cons de_int da_nil))))
      (dss_cons (ds_if (dw_pt (dw_or (dt_cmp or_lt (dv 2) de_int) (dw_or (dt_cmp or_lt (dv 3) de_int) (dw_or1 (dt_cmp (or_eq hr.u64) (dv 4) de_int))))) (dss_one (ds_ret (de_ix (de_lst false (da_cons (de_tup (da_cons de_str (da_cons (de_call F__law_take hr xok0 (by rfl) (da_cons (dv 0) (da_cons (dv 1) da_nil))) da_nil))) (da_cons (de_tup (da_cons de_str da_nil)) (da_cons (de_tup (da_cons de_str da_nil)) da_nil)))) (de_b (cr_max2D rfl) (by rfl) m_max b_max (da_cons de_int (da_cons (de_op or_sub (de_call F__law_take hr xok0 (by rfl) (da_cons (dv 0) (da_cons de_int da_nil))) de_int) da_nil)))))) dss_nil)
      (dss_cons (ds_if (dw_pt (dw_or (dt_cmp or_lt (dv 4) de_int) (dw_or1 (dt_cmp or_lt (dv 2) de_int)))) (dss_one (ds_ret (de_tup (da_cons de_str (da_cons (de_call F__law_saying hr xok0 (by rfl) (da_cons (dv 0) (da_cons (dv 1) (da_cons (de_op or_sub (dv 2) de_int) (da_cons (de_op or_sub (dv 3) de_int) da_nil))))) da_nil))))) dss_nil)
      (dss_cons (ds_set (i := 5) sc__law_saying.nd rfl (de_op (or_add false) de_int (de_call F__law_take hr xok0 (by rfl) (da_cons (dv 0) (da_cons (de_op or_sub (dv 2) de_int) da_nil)))))
      (dss_cons (ds_set (i := 6) sc__law_saying.nd rfl (de_call F__law_saying hr xok0 (by rfl) (da_cons (dv 0) (da_cons (dv 1) (da_cons (dv 5) (da_cons (de_op or_sub (dv 3) de_int) da_nil))))))
      (dss_cons (ds_if (dw_pt (dw_and (dt_cmp (or_eq hr.u64) (dv 4) de_int) (dw_and (dt_cmp or_gt (dv 2) de_int) (dw_and1 (dt_cmp or_lt (dv 5) (de_op or_sub (dv 2) de_int)))))) (dss_cons (ds_set (i := 7) sc__law_saying.nd rfl (de_op (or_add false) de_int (de_call F__law_take hr xok0 (by rfl) (da_cons (dv 0) (da_cons (de_op or_sub (de_op or_sub (dv 2) de_int) (dv 5)) da_nil)))))
      (dss_cons (ds_set (i := 8) sc__law_saying.nd rfl (de_call F__law_saying hr xok0 (by rfl) (da_cons (dv 0) (da_cons (dv 1) (da_cons (dv 7) (da_cons (de_op or_sub (dv 3) de_int) da_nil))))))
      (dss_one (ds_ret (de_tup (da_cons de_str (da_cons (dv 6) (da_cons (dv 8) (da_cons (de_call F__law_saying hr xok0 (by rfl) (da_cons (dv 0) (da_cons (dv 1) (da_cons (de_op or_sub (de_op or_sub (de_op or_sub (dv 2) de_int) (dv 5)) (dv 7)) (da_cons (de_op or_sub (dv 3) de_int) da_nil))))) da_nil))))))))) dss_nil)
      (dss_cons (ds_set (i := 9) sc__law_saying.nd rfl (de_ix (de_lst false (da_cons de_str (da_cons de_str (da_cons de_str da_nil)))) (de_op or_mod (dv 4) de_int)))
      (dss_one (ds_ret (de_tup (da_cons (dv 9) (da_cons (dv 6) (da_cons (de_call F__law_saying hr xok0 (by rfl) (da_cons (dv 0) (da_cons (dv 1) (da_cons (de_op or_sub (de_op or_sub (dv 2) de_int) (dv 5)) (da_cons (de_op or_sub (dv 3) de_int) da_nil))))) da_nil)))))))))))))) ?_
  · rintro ds S Q E ⟨a, m, room, down, x, y, rfl, _⟩; rfl
  · rintro ds S Q E' ⟨a, m, room, down, x, y, rfl, hs, hx, hy, m0, m1, r1, r2, d1, d2, q⟩
    ((try dsimp only [List.set_cons_zero, List.set_cons_succ, startD, wip, List.map_cons, List.map_nil, n__law_saying]); (conv => whnf); (repeat (first | ((with_reducible refine SeqP.mk ?_); (try dsimp only [List.set_cons_zero, List.set_cons_succ, startD, wip, List.map_cons, List.map_nil, n__law_saying]); (conv => whnf)) | (with_reducible apply Exists.intro) | ((with_reducible apply And.intro); (exact sdZ); (conv => whnf)) | ((first | with_reducible refine eqO_int_f ?_ | with_reducible refine eqO_int_t ?_ | with_reducible refine eqO_str_f ?_ | with_reducible refine eqO_str_t ?_ | with_reducible refine eqO_bl_f ?_ | with_reducible refine eqO_bl_t ?_ | with_reducible refine eqO_KK_f ?_ | with_reducible refine eqO_KK_t ?_ | with_reducible refine eqO_LL_f ?_ | with_reducible refine eqO_LL_t ?_); (conv => whnf)) | ((try dsimp only); (first | (rw [decide_eq_true]; rotate_left; (focus ((first | assumption | omega | rfl | decide); done))) | (rw [decide_eq_false]; rotate_left; (focus ((first | assumption | omega | rfl | decide); done)))); (conv => whnf)))))
    intro f x y f0 f1 hx hy
    have cs : room < 2 ∨ (¬ room < 2 ∧ down < 2) ∨ (¬ room < 2 ∧ ¬ down < 2 ∧ f = 0) ∨ (¬ room < 2 ∧ ¬ down < 2 ∧ ¬ f = 0) := by omega
    rcases cs with h | ⟨h, h'⟩ | ⟨h, h', h''⟩ | ⟨h, h', h''⟩
    iterate 3
      · ((try dsimp only [List.set_cons_zero, List.set_cons_succ, startD, wip, List.map_cons, List.map_nil, n__law_saying]); (conv => whnf); (repeat (first | ((with_reducible refine SeqP.mk ?_); (try dsimp only [List.set_cons_zero, List.set_cons_succ, startD, wip, List.map_cons, List.map_nil, n__law_saying]); (conv => whnf)) | (with_reducible apply Exists.intro) | ((with_reducible apply And.intro); (exact sdZ); (conv => whnf)) | ((first | with_reducible refine eqO_int_f ?_ | with_reducible refine eqO_int_t ?_ | with_reducible refine eqO_str_f ?_ | with_reducible refine eqO_str_t ?_ | with_reducible refine eqO_bl_f ?_ | with_reducible refine eqO_bl_t ?_ | with_reducible refine eqO_KK_f ?_ | with_reducible refine eqO_KK_t ?_ | with_reducible refine eqO_LL_f ?_ | with_reducible refine eqO_LL_t ?_); (conv => whnf)) | ((try dsimp only); (first | (rw [decide_eq_true]; rotate_left; (focus ((first | assumption | omega | rfl | decide); done))) | (rw [decide_eq_false]; rotate_left; (focus ((first | assumption | omega | rfl | decide); done)))); (conv => whnf)))))
        intro q1 x y q10 q11 hx hy
        rw [bxd_bxd]
        ((try dsimp only [List.set_cons_zero, List.set_cons_succ, startD, wip, List.map_cons, List.map_nil, n__law_saying]); (conv => whnf); (repeat (first | ((with_reducible refine SeqP.mk ?_); (try dsimp only [List.set_cons_zero, List.set_cons_succ, startD, wip, List.map_cons, List.map_nil, n__law_saying]); (conv => whnf)) | (with_reducible apply Exists.intro) | ((with_reducible apply And.intro); (exact sdZ); (conv => whnf)) | ((first | with_reducible refine eqO_int_f ?_ | with_reducible refine eqO_int_t ?_ | with_reducible refine eqO_str_f ?_ | with_reducible refine eqO_str_t ?_ | with_reducible refine eqO_bl_f ?_ | with_reducible refine eqO_bl_t ?_ | with_reducible refine eqO_KK_f ?_ | with_reducible refine eqO_KK_t ?_ | with_reducible refine eqO_LL_f ?_ | with_reducible refine eqO_LL_t ?_); (conv => whnf)) | ((try dsimp only); (first | (rw [decide_eq_true]; rotate_left; (focus ((first | assumption | omega | rfl | decide); done))) | (rw [decide_eq_false]; rotate_left; (focus ((first | assumption | omega | rfl | decide); done)))); (conv => whnf)))))
        intro v x y v0 v1 hx hy
        rw [bxd_bxd]
        obtain ⟨s, hs1, so, sd, sp⟩ := leaf_at v0 v1 q10 q11
        ((try dsimp only [List.set_cons_zero, List.set_cons_succ, startD, wip, List.map_cons, List.map_nil, n__law_saying]); (conv => whnf); (repeat (first | ((with_reducible refine SeqP.mk ?_); (try dsimp only [List.set_cons_zero, List.set_cons_succ, startD, wip, List.map_cons, List.map_nil, n__law_saying]); (conv => whnf)) | (with_reducible apply Exists.intro) | ((with_reducible apply And.intro); (exact sdZ); (conv => whnf)) | ((first | with_reducible refine eqO_int_f ?_ | with_reducible refine eqO_int_t ?_ | with_reducible refine eqO_str_f ?_ | with_reducible refine eqO_str_t ?_ | with_reducible refine eqO_bl_f ?_ | with_reducible refine eqO_bl_t ?_ | with_reducible refine eqO_KK_f ?_ | with_reducible refine eqO_KK_t ?_ | with_reducible refine eqO_LL_f ?_ | with_reducible refine eqO_LL_t ?_); (conv => whnf)) | ((try dsimp only); (first | (rw [decide_eq_true]; rotate_left; (focus ((first | assumption | omega | rfl | decide); done))) | (rw [decide_eq_false]; rotate_left; (focus ((first | assumption | omega | rfl | decide); done)))); (conv => whnf)))))
        exact fin_same (q s x y so (by omega) (by omega) hx hy)
    · obtain ⟨N, rfl⟩ : ∃ N, n = N + 1 := ⟨n - 1, by omega⟩
      have cs : f < 3 ∨ (¬ f < 3 ∧ room < 3) ∨ (¬ f < 3 ∧ ¬ room < 3) := by omega
      rcases cs with h1 | ⟨h1, h2⟩ | ⟨h1, h2⟩
      iterate 2
        · ((try dsimp only [List.set_cons_zero, List.set_cons_succ, startD, wip, List.map_cons, List.map_nil, n__law_saying]); (conv => whnf); (repeat (first | ((with_reducible refine SeqP.mk ?_); (try dsimp only [List.set_cons_zero, List.set_cons_succ, startD, wip, List.map_cons, List.map_nil, n__law_saying]); (conv => whnf)) | (with_reducible apply Exists.intro) | ((with_reducible apply And.intro); (exact sdZ); (conv => whnf)) | ((first | with_reducible refine eqO_int_f ?_ | with_reducible refine eqO_int_t ?_ | with_reducible refine eqO_str_f ?_ | with_reducible refine eqO_str_t ?_ | with_reducible refine eqO_bl_f ?_ | with_reducible refine eqO_bl_t ?_ | with_reducible refine eqO_KK_f ?_ | with_reducible refine eqO_KK_t ?_ | with_reducible refine eqO_LL_f ?_ | with_reducible refine eqO_LL_t ?_); (conv => whnf)) | ((try dsimp only); (first | (rw [decide_eq_true]; rotate_left; (focus ((first | assumption | omega | rfl | decide); done))) | (rw [decide_eq_false]; rotate_left; (focus ((first | assumption | omega | rfl | decide); done)))); (conv => whnf)))))
          intro s x y so sd sp hx hy
          rw [bxd_bxd]
          ((try dsimp only [List.set_cons_zero, List.set_cons_succ, startD, wip, List.map_cons, List.map_nil, n__law_saying]); (conv => whnf); (repeat (first | ((with_reducible refine SeqP.mk ?_); (try dsimp only [List.set_cons_zero, List.set_cons_succ, startD, wip, List.map_cons, List.map_nil, n__law_saying]); (conv => whnf)) | (with_reducible apply Exists.intro) | ((with_reducible apply And.intro); (exact sdZ); (conv => whnf)) | ((first | with_reducible refine eqO_int_f ?_ | with_reducible refine eqO_int_t ?_ | with_reducible refine eqO_str_f ?_ | with_reducible refine eqO_str_t ?_ | with_reducible refine eqO_bl_f ?_ | with_reducible refine eqO_bl_t ?_ | with_reducible refine eqO_KK_f ?_ | with_reducible refine eqO_KK_t ?_ | with_reducible refine eqO_LL_f ?_ | with_reducible refine eqO_LL_t ?_); (conv => whnf)) | ((try dsimp only); (first | (rw [decide_eq_true]; rotate_left; (focus ((first | assumption | omega | rfl | decide); done))) | (rw [decide_eq_false]; rotate_left; (focus ((first | assumption | omega | rfl | decide); done)))); (conv => whnf)))))
          exact fin_same (q (.not s) x y so (by show ((s.dep + 1 : Nat) : Int) ≤ _; omega) (by show ((s.parts + 1 : Nat) : Int) ≤ _; omega) hx hy)
      · ((try dsimp only [List.set_cons_zero, List.set_cons_succ, startD, wip, List.map_cons, List.map_nil, n__law_saying]); (conv => whnf); (repeat (first | ((with_reducible refine SeqP.mk ?_); (try dsimp only [List.set_cons_zero, List.set_cons_succ, startD, wip, List.map_cons, List.map_nil, n__law_saying]); (conv => whnf)) | (with_reducible apply Exists.intro) | ((with_reducible apply And.intro); (exact sdZ); (conv => whnf)) | ((first | with_reducible refine eqO_int_f ?_ | with_reducible refine eqO_int_t ?_ | with_reducible refine eqO_str_f ?_ | with_reducible refine eqO_str_t ?_ | with_reducible refine eqO_bl_f ?_ | with_reducible refine eqO_bl_t ?_ | with_reducible refine eqO_KK_f ?_ | with_reducible refine eqO_KK_t ?_ | with_reducible refine eqO_LL_f ?_ | with_reducible refine eqO_LL_t ?_); (conv => whnf)) | ((try dsimp only); (first | (rw [decide_eq_true]; rotate_left; (focus ((first | assumption | omega | rfl | decide); done))) | (rw [decide_eq_false]; rotate_left; (focus ((first | assumption | omega | rfl | decide); done)))); (conv => whnf)))))
        intro u x y u0 u1 hx hy
        rw [bxd_bxd]
        ((try dsimp only [List.set_cons_zero, List.set_cons_succ, startD, wip, List.map_cons, List.map_nil, n__law_saying]); (conv => whnf); (repeat (first | ((with_reducible refine SeqP.mk ?_); (try dsimp only [List.set_cons_zero, List.set_cons_succ, startD, wip, List.map_cons, List.map_nil, n__law_saying]); (conv => whnf)) | (with_reducible apply Exists.intro) | ((with_reducible apply And.intro); (exact sdZ); (conv => whnf)) | ((first | with_reducible refine eqO_int_f ?_ | with_reducible refine eqO_int_t ?_ | with_reducible refine eqO_str_f ?_ | with_reducible refine eqO_str_t ?_ | with_reducible refine eqO_bl_f ?_ | with_reducible refine eqO_bl_t ?_ | with_reducible refine eqO_KK_f ?_ | with_reducible refine eqO_KK_t ?_ | with_reducible refine eqO_LL_f ?_ | with_reducible refine eqO_LL_t ?_); (conv => whnf)) | ((try dsimp only); (first | (rw [decide_eq_true]; rotate_left; (focus ((first | assumption | omega | rfl | decide); done))) | (rw [decide_eq_false]; rotate_left; (focus ((first | assumption | omega | rfl | decide); done)))); (conv => whnf)))))
        intro s x y so sd sp hx hy
        rw [bxd_bxd]
        have cs : (f = 9 ∧ room > 3 ∧ 1 + u < room - 2) ∨ (f = 9 ∧ room > 3 ∧ ¬ 1 + u < room - 2) ∨ (f = 9 ∧ ¬ room > 3) ∨ (¬ f = 9) := by omega
        obtain ⟨C, w, hw, hC⟩ := head_at f0
        rcases cs with ⟨h3, h4, h5⟩ | ⟨h3, h4, h5⟩ | ⟨h3, h4⟩ | h3
        · ((try dsimp only [List.set_cons_zero, List.set_cons_succ, startD, wip, List.map_cons, List.map_nil, n__law_saying]); (conv => whnf); (repeat (first | ((with_reducible refine SeqP.mk ?_); (try dsimp only [List.set_cons_zero, List.set_cons_succ, startD, wip, List.map_cons, List.map_nil, n__law_saying]); (conv => whnf)) | (with_reducible apply Exists.intro) | ((with_reducible apply And.intro); (exact sdZ); (conv => whnf)) | ((first | with_reducible refine eqO_int_f ?_ | with_reducible refine eqO_int_t ?_ | with_reducible refine eqO_str_f ?_ | with_reducible refine eqO_str_t ?_ | with_reducible refine eqO_bl_f ?_ | with_reducible refine eqO_bl_t ?_ | with_reducible refine eqO_KK_f ?_ | with_reducible refine eqO_KK_t ?_ | with_reducible refine eqO_LL_f ?_ | with_reducible refine eqO_LL_t ?_); (conv => whnf)) | ((try dsimp only); (first | (rw [decide_eq_true]; rotate_left; (focus ((first | assumption | omega | rfl | decide); done))) | (rw [decide_eq_false]; rotate_left; (focus ((first | assumption | omega | rfl | decide); done)))); (conv => whnf)))))
          intro u2 x y u20 u21 hx hy
          rw [bxd_bxd]
          ((try dsimp only [List.set_cons_zero, List.set_cons_succ, startD, wip, List.map_cons, List.map_nil, n__law_saying]); (conv => whnf); (repeat (first | ((with_reducible refine SeqP.mk ?_); (try dsimp only [List.set_cons_zero, List.set_cons_succ, startD, wip, List.map_cons, List.map_nil, n__law_saying]); (conv => whnf)) | (with_reducible apply Exists.intro) | ((with_reducible apply And.intro); (exact sdZ); (conv => whnf)) | ((first | with_reducible refine eqO_int_f ?_ | with_reducible refine eqO_int_t ?_ | with_reducible refine eqO_str_f ?_ | with_reducible refine eqO_str_t ?_ | with_reducible refine eqO_bl_f ?_ | with_reducible refine eqO_bl_t ?_ | with_reducible refine eqO_KK_f ?_ | with_reducible refine eqO_KK_t ?_ | with_reducible refine eqO_LL_f ?_ | with_reducible refine eqO_LL_t ?_); (conv => whnf)) | ((try dsimp only); (first | (rw [decide_eq_true]; rotate_left; (focus ((first | assumption | omega | rfl | decide); done))) | (rw [decide_eq_false]; rotate_left; (focus ((first | assumption | omega | rfl | decide); done)))); (conv => whnf)))))
          intro s2 x y so2 sd2 sp2 hx hy
          rw [bxd_bxd]
          ((try dsimp only [List.set_cons_zero, List.set_cons_succ, startD, wip, List.map_cons, List.map_nil, n__law_saying]); (conv => whnf); (repeat (first | ((with_reducible refine SeqP.mk ?_); (try dsimp only [List.set_cons_zero, List.set_cons_succ, startD, wip, List.map_cons, List.map_nil, n__law_saying]); (conv => whnf)) | (with_reducible apply Exists.intro) | ((with_reducible apply And.intro); (exact sdZ); (conv => whnf)) | ((first | with_reducible refine eqO_int_f ?_ | with_reducible refine eqO_int_t ?_ | with_reducible refine eqO_str_f ?_ | with_reducible refine eqO_str_t ?_ | with_reducible refine eqO_bl_f ?_ | with_reducible refine eqO_bl_t ?_ | with_reducible refine eqO_KK_f ?_ | with_reducible refine eqO_KK_t ?_ | with_reducible refine eqO_LL_f ?_ | with_reducible refine eqO_LL_t ?_); (conv => whnf)) | ((try dsimp only); (first | (rw [decide_eq_true]; rotate_left; (focus ((first | assumption | omega | rfl | decide); done))) | (rw [decide_eq_false]; rotate_left; (focus ((first | assumption | omega | rfl | decide); done)))); (conv => whnf)))))
          intro s3 x y so3 sd3 sp3 hx hy
          rw [bxd_bxd]
          ((try dsimp only [List.set_cons_zero, List.set_cons_succ, startD, wip, List.map_cons, List.map_nil, n__law_saying]); (conv => whnf); (repeat (first | ((with_reducible refine SeqP.mk ?_); (try dsimp only [List.set_cons_zero, List.set_cons_succ, startD, wip, List.map_cons, List.map_nil, n__law_saying]); (conv => whnf)) | (with_reducible apply Exists.intro) | ((with_reducible apply And.intro); (exact sdZ); (conv => whnf)) | ((first | with_reducible refine eqO_int_f ?_ | with_reducible refine eqO_int_t ?_ | with_reducible refine eqO_str_f ?_ | with_reducible refine eqO_str_t ?_ | with_reducible refine eqO_bl_f ?_ | with_reducible refine eqO_bl_t ?_ | with_reducible refine eqO_KK_f ?_ | with_reducible refine eqO_KK_t ?_ | with_reducible refine eqO_LL_f ?_ | with_reducible refine eqO_LL_t ?_); (conv => whnf)) | ((try dsimp only); (first | (rw [decide_eq_true]; rotate_left; (focus ((first | assumption | omega | rfl | decide); done))) | (rw [decide_eq_false]; rotate_left; (focus ((first | assumption | omega | rfl | decide); done)))); (conv => whnf)))))
          exact fin_same (q (.most s s2 s3) x y ⟨so, so2, so3⟩ (by show ((max (max s.dep s2.dep) s3.dep + 1 : Nat) : Int) ≤ _; omega) (by show ((s.parts + s2.parts + s3.parts + 1 : Nat) : Int) ≤ _; omega) hx hy)
        iterate 3
          · ((try dsimp only [List.set_cons_zero, List.set_cons_succ, startD, wip, List.map_cons, List.map_nil, n__law_saying]); (conv => whnf); (repeat (first | ((with_reducible refine SeqP.mk ?_); (try dsimp only [List.set_cons_zero, List.set_cons_succ, startD, wip, List.map_cons, List.map_nil, n__law_saying]); (conv => whnf)) | (with_reducible apply Exists.intro) | ((with_reducible apply And.intro); (exact sdZ); (conv => whnf)) | ((first | with_reducible refine eqO_int_f ?_ | with_reducible refine eqO_int_t ?_ | with_reducible refine eqO_str_f ?_ | with_reducible refine eqO_str_t ?_ | with_reducible refine eqO_bl_f ?_ | with_reducible refine eqO_bl_t ?_ | with_reducible refine eqO_KK_f ?_ | with_reducible refine eqO_KK_t ?_ | with_reducible refine eqO_LL_f ?_ | with_reducible refine eqO_LL_t ?_); (conv => whnf)) | ((try dsimp only); (first | (rw [decide_eq_true]; rotate_left; (focus ((first | assumption | omega | rfl | decide); done))) | (rw [decide_eq_false]; rotate_left; (focus ((first | assumption | omega | rfl | decide); done)))); (conv => whnf)))))
            intro s2 x y so2 sd2 sp2 hx hy
            rw [bxd_bxd]
            ((try dsimp only [List.set_cons_zero, List.set_cons_succ, startD, wip, List.map_cons, List.map_nil, n__law_saying]); (conv => whnf); (repeat (first | ((with_reducible refine SeqP.mk ?_); (try dsimp only [List.set_cons_zero, List.set_cons_succ, startD, wip, List.map_cons, List.map_nil, n__law_saying]); (conv => whnf)) | (with_reducible apply Exists.intro) | ((with_reducible apply And.intro); (exact sdZ); (conv => whnf)) | ((first | with_reducible refine eqO_int_f ?_ | with_reducible refine eqO_int_t ?_ | with_reducible refine eqO_str_f ?_ | with_reducible refine eqO_str_t ?_ | with_reducible refine eqO_bl_f ?_ | with_reducible refine eqO_bl_t ?_ | with_reducible refine eqO_KK_f ?_ | with_reducible refine eqO_KK_t ?_ | with_reducible refine eqO_LL_f ?_ | with_reducible refine eqO_LL_t ?_); (conv => whnf)) | ((try dsimp only); (first | (rw [decide_eq_true]; rotate_left; (focus ((first | assumption | omega | rfl | decide); done))) | (rw [decide_eq_false]; rotate_left; (focus ((first | assumption | omega | rfl | decide); done)))); (conv => whnf)))))
            obtain ⟨c1, c2, c3, c4⟩ := hC s s2
            rw [← c1]
            exact fin_same (q (C s s2) x y (by rw [c2]; exact ⟨so, so2⟩) (by rw [c3]; omega) (by rw [c4]; omega) hx hy)
theorem _law_saying_all {f : Addr} {fd : FuncData} (F : Fun K "_law_saying" "_law_saying" s__law_saying f fd) (hm : mg "_law_saying" = some (.ref f)) (m_max : mg "max" = none) (F__law_take : ∀ k, 1 ≤ k → Fc P w K mg base k "_law_take" p__law_take sp__law_take) (hk : PySem.W.keepIn K (.ref f) = true) (hb : Binds K fd p__law_saying []) : ∀ n, Fc P w K mg base (1 + n) "_law_saying" p__law_saying (sp__law_saying n)
  | 0 => ⟨f, fd, hm, hk, hb, ⟨fun _ _ _ _ h => h.elim, fun _ _ _ _ _ _ _ _ _ _ _ _ _ ⟨_, _, _, _, _, _, _, _, z, _⟩ => z.elim⟩⟩
  | n + 1 => ⟨f, fd, hm, hk, hb, ok__law_saying F m_max (F__law_take (1 + n) (by omega)) (_law_saying_all F hm m_max F__law_take hk hb n)⟩

def sp__law_so : Nat → SpD
  | 0 => fun _ _ _ _ => False
  | N + 1 => fun ds S Q _ => ∃ (s : Sy) (m : Int) (da : D) (as : List Int), ds = [s.d, da] ∧ tn da as ∧ s.dep ≤ N + 1 ∧ s.ok m ∧ AnsL m as ∧ Q (.bl (s.so as)) S
abbrev s__law_so : Stmt := topS 13
abbrev n__law_so : List Str := ["_law_saying_here", "_law_answers", "_law_head", "_law_some", "_law_many", "_law_one"]
abbrev p__law_so : List Str := ["_law_saying_here", "_law_answers"]
theorem sc__law_so : FnScope n__law_so p__law_so (defScope s__law_so) := ⟨rfl, rfl, rfl, by decide +kernel, rfl, by decide +kernel, by decide +kernel⟩
theorem ok__law_so {f : Addr} {fd : FuncData} {n : Nat} (F : Fun K "_law_so" "_law_so" s__law_so f fd) (F__law_so : Fc P w K mg base k "_law_so" p__law_so (sp__law_so n)) : FnD P w K mg base (k + 1) f fd p__law_so (sp__law_so (n+1)) := by
  refine FnD.of F sc__law_so ?_ (fun X C E' cdv A outer s H E hX hr hx po hc => by
    subst hX
    exact (dss_cons (ds_set (i := 2) sc__law_so.nd rfl (de_ix (dv 0) de_int))
      (dss_cons (ds_if (dt_cmp (or_eq hr.u64) (dv 2) de_str) (dss_one (ds_ret (de_cmp (or_eq hr.u64) (de_ix (dv 1) (de_ix (dv 0) de_int)) de_int))) dss_nil)
      (dss_cons (ds_setLc (own := [("_law_one", 5)]) false (i := 3) rfl sc__law_so.nd rfl rfl (sw_true rfl rfl rfl (by decide +kernel)) (di_seq (de_sl false (dv 0) (do_so de_int) do_no)) (by show BlkOk n__law_so (defScope s__law_so) _ [("_law_one", 5)]; exact blkOk_by (by decide +kernel)) (fun _ _ _ _ _ => (dgc_name (i := 5) sc__law_so.nd rfl)) (fun _ _ _ _ _ => dts_nil) (fun _ _ _ _ _ => (de_call F__law_so hr xok0 (by rfl) (da_cons (dv 5) (da_cons (dv 1) da_nil)))))
      (dss_cons (ds_if (dt_cmp (or_eq hr.u64) (dv 2) de_str) (dss_one (ds_ret (de_not (de_ix (dv 3) de_int)))) dss_nil)
      (dss_cons (ds_set (i := 4) sc__law_so.nd rfl (de_m PySem.F.plainAttrs_list PySem.F.slot_list_count PySem.F.type_list_count mt_cntD (dv 3) (da_cons de_bl da_nil)))
      (dss_one (ds_ret (de_dIx ["yes", "no", "and", "or", "either", "most"] (by have := hr.u64; omega) (dps_cons de_bl (dps_cons de_bl (dps_cons (de_cmp (or_eq hr.u64) (dv 4) de_int) (dps_cons (de_cmp or_gt (dv 4) de_int) (dps_cons (de_cmp (or_eq hr.u64) (dv 4) de_int) (dps_cons (de_cmp or_gt (dv 4) de_int) dps_nil)))))) (dv 2) rfl rfl (by decide) (by decide) (by decide) (by decide) (fun _ _ => rfl)))))))))) ?_
  · rintro ds S Q E ⟨s, m, da, as, rfl, _⟩; rfl
  · rintro ds S Q E' ⟨s, m, da, as, rfl, ta, hd, ho, ha, q⟩
    cases s with
    | ask q1 =>
      obtain ⟨x, hx, e1, hat⟩ := ha.at ho.1 ho.2
      unfold Sy.so at q
      rw [e1] at q
      rcases tn_cases ta with rfl | rfl <;> rcases hx with rfl | rfl
      all_goals
        ((try dsimp only [List.set_cons_zero, List.set_cons_succ, startD, wip, List.map_cons, List.map_nil, n__law_so]); (conv => whnf); (repeat (first | ((with_reducible refine SeqP.mk ?_); (try dsimp only [List.set_cons_zero, List.set_cons_succ, startD, wip, List.map_cons, List.map_nil, n__law_so]); (conv => whnf)) | ((with_reducible refine LcP.mk ?_); (conv => whnf)) | ((with_reducible refine ForP.mk ?_); (conv => whnf)) | (with_reducible apply Exists.intro) | ((with_reducible apply And.intro); (exact sdZ); (conv => whnf)) | ((first | with_reducible refine eqO_int_f ?_ | with_reducible refine eqO_int_t ?_ | with_reducible refine eqO_str_f ?_ | with_reducible refine eqO_str_t ?_ | with_reducible refine eqO_bl_f ?_ | with_reducible refine eqO_bl_t ?_ | with_reducible refine eqO_KK_f ?_ | with_reducible refine eqO_KK_t ?_ | with_reducible refine eqO_LL_f ?_ | with_reducible refine eqO_LL_t ?_); (conv => whnf)) | ((try dsimp only); (first | (rw [decide_eq_true]; rotate_left; (focus ((first | assumption | omega | rfl | decide); done))) | (rw [decide_eq_false]; rotate_left; (focus ((first | assumption | omega | rfl | decide); done)))); (conv => whnf)))))
        exact fin_same q
    | yes =>
      ((try dsimp only [List.set_cons_zero, List.set_cons_succ, startD, wip, List.map_cons, List.map_nil, n__law_so]); (conv => whnf); (repeat (first | ((with_reducible refine SeqP.mk ?_); (try dsimp only [List.set_cons_zero, List.set_cons_succ, startD, wip, List.map_cons, List.map_nil, n__law_so]); (conv => whnf)) | ((with_reducible refine LcP.mk ?_); (conv => whnf)) | ((with_reducible refine ForP.mk ?_); (conv => whnf)) | (with_reducible apply Exists.intro) | ((with_reducible apply And.intro); (exact sdZ); (conv => whnf)) | ((first | with_reducible refine eqO_int_f ?_ | with_reducible refine eqO_int_t ?_ | with_reducible refine eqO_str_f ?_ | with_reducible refine eqO_str_t ?_ | with_reducible refine eqO_bl_f ?_ | with_reducible refine eqO_bl_t ?_ | with_reducible refine eqO_KK_f ?_ | with_reducible refine eqO_KK_t ?_ | with_reducible refine eqO_LL_f ?_ | with_reducible refine eqO_LL_t ?_); (conv => whnf)) | ((try dsimp only); (first | (rw [decide_eq_true]; rotate_left; (focus ((first | assumption | omega | rfl | decide); done))) | (rw [decide_eq_false]; rotate_left; (focus ((first | assumption | omega | rfl | decide); done)))); (conv => whnf)))))
      refine ⟨show _ = some (([] : List Bool).map D.bl) from rfl, ?_⟩
      ((try dsimp only [List.set_cons_zero, List.set_cons_succ, startD, wip, List.map_cons, List.map_nil, n__law_so]); (conv => whnf); (repeat (first | ((with_reducible refine SeqP.mk ?_); (try dsimp only [List.set_cons_zero, List.set_cons_succ, startD, wip, List.map_cons, List.map_nil, n__law_so]); (conv => whnf)) | ((with_reducible refine LcP.mk ?_); (conv => whnf)) | ((with_reducible refine ForP.mk ?_); (conv => whnf)) | (with_reducible apply Exists.intro) | ((with_reducible apply And.intro); (exact sdZ); (conv => whnf)) | ((first | with_reducible refine eqO_int_f ?_ | with_reducible refine eqO_int_t ?_ | with_reducible refine eqO_str_f ?_ | with_reducible refine eqO_str_t ?_ | with_reducible refine eqO_bl_f ?_ | with_reducible refine eqO_bl_t ?_ | with_reducible refine eqO_KK_f ?_ | with_reducible refine eqO_KK_t ?_ | with_reducible refine eqO_LL_f ?_ | with_reducible refine eqO_LL_t ?_); (conv => whnf)) | ((try dsimp only); (first | (rw [decide_eq_true]; rotate_left; (focus ((first | assumption | omega | rfl | decide); done))) | (rw [decide_eq_false]; rotate_left; (focus ((first | assumption | omega | rfl | decide); done)))); (conv => whnf)))))
      exact fin_same q
    | no =>
      ((try dsimp only [List.set_cons_zero, List.set_cons_succ, startD, wip, List.map_cons, List.map_nil, n__law_so]); (conv => whnf); (repeat (first | ((with_reducible refine SeqP.mk ?_); (try dsimp only [List.set_cons_zero, List.set_cons_succ, startD, wip, List.map_cons, List.map_nil, n__law_so]); (conv => whnf)) | ((with_reducible refine LcP.mk ?_); (conv => whnf)) | ((with_reducible refine ForP.mk ?_); (conv => whnf)) | (with_reducible apply Exists.intro) | ((with_reducible apply And.intro); (exact sdZ); (conv => whnf)) | ((first | with_reducible refine eqO_int_f ?_ | with_reducible refine eqO_int_t ?_ | with_reducible refine eqO_str_f ?_ | with_reducible refine eqO_str_t ?_ | with_reducible refine eqO_bl_f ?_ | with_reducible refine eqO_bl_t ?_ | with_reducible refine eqO_KK_f ?_ | with_reducible refine eqO_KK_t ?_ | with_reducible refine eqO_LL_f ?_ | with_reducible refine eqO_LL_t ?_); (conv => whnf)) | ((try dsimp only); (first | (rw [decide_eq_true]; rotate_left; (focus ((first | assumption | omega | rfl | decide); done))) | (rw [decide_eq_false]; rotate_left; (focus ((first | assumption | omega | rfl | decide); done)))); (conv => whnf)))))
      refine ⟨show _ = some (([] : List Bool).map D.bl) from rfl, ?_⟩
      ((try dsimp only [List.set_cons_zero, List.set_cons_succ, startD, wip, List.map_cons, List.map_nil, n__law_so]); (conv => whnf); (repeat (first | ((with_reducible refine SeqP.mk ?_); (try dsimp only [List.set_cons_zero, List.set_cons_succ, startD, wip, List.map_cons, List.map_nil, n__law_so]); (conv => whnf)) | ((with_reducible refine LcP.mk ?_); (conv => whnf)) | ((with_reducible refine ForP.mk ?_); (conv => whnf)) | (with_reducible apply Exists.intro) | ((with_reducible apply And.intro); (exact sdZ); (conv => whnf)) | ((first | with_reducible refine eqO_int_f ?_ | with_reducible refine eqO_int_t ?_ | with_reducible refine eqO_str_f ?_ | with_reducible refine eqO_str_t ?_ | with_reducible refine eqO_bl_f ?_ | with_reducible refine eqO_bl_t ?_ | with_reducible refine eqO_KK_f ?_ | with_reducible refine eqO_KK_t ?_ | with_reducible refine eqO_LL_f ?_ | with_reducible refine eqO_LL_t ?_); (conv => whnf)) | ((try dsimp only); (first | (rw [decide_eq_true]; rotate_left; (focus ((first | assumption | omega | rfl | decide); done))) | (rw [decide_eq_false]; rotate_left; (focus ((first | assumption | omega | rfl | decide); done)))); (conv => whnf)))))
      exact fin_same q
    | not a =>
      unfold Sy.so at q
      unfold Sy.dep at hd
      have pa := a.dep_pos
      obtain ⟨N, rfl⟩ : ∃ N, n = N + 1 := ⟨n - 1, by omega⟩
      have ha1 : a.ok m := ho
      have sl : (cutL [D.str "not", a.d] (some 1) none) = [a.d] := rfl
      cases hva : a.so as
      all_goals
        simp only [hva] at q
        ((try dsimp only [List.set_cons_zero, List.set_cons_succ, startD, wip, List.map_cons, List.map_nil, n__law_so]); (conv => whnf); (repeat (first | ((with_reducible refine SeqP.mk ?_); (try dsimp only [List.set_cons_zero, List.set_cons_succ, startD, wip, List.map_cons, List.map_nil, n__law_so]); (conv => whnf)) | ((with_reducible refine LcP.mk ?_); (conv => whnf)) | ((with_reducible refine ForP.mk ?_); (conv => whnf)) | (with_reducible apply Exists.intro) | ((with_reducible apply And.intro); (exact sdZ); (conv => whnf)) | ((first | with_reducible refine eqO_int_f ?_ | with_reducible refine eqO_int_t ?_ | with_reducible refine eqO_str_f ?_ | with_reducible refine eqO_str_t ?_ | with_reducible refine eqO_bl_f ?_ | with_reducible refine eqO_bl_t ?_ | with_reducible refine eqO_KK_f ?_ | with_reducible refine eqO_KK_t ?_ | with_reducible refine eqO_LL_f ?_ | with_reducible refine eqO_LL_t ?_); (conv => whnf)) | ((try dsimp only); (first | (rw [decide_eq_true]; rotate_left; (focus ((first | assumption | omega | rfl | decide); done))) | (rw [decide_eq_false]; rotate_left; (focus ((first | assumption | omega | rfl | decide); done)))); (conv => whnf)))))
        simp only [sl]
        ((try dsimp only [List.set_cons_zero, List.set_cons_succ, startD, wip, List.map_cons, List.map_nil, n__law_so]); (conv => whnf); (repeat (first | ((with_reducible refine SeqP.mk ?_); (try dsimp only [List.set_cons_zero, List.set_cons_succ, startD, wip, List.map_cons, List.map_nil, n__law_so]); (conv => whnf)) | ((with_reducible refine LcP.mk ?_); (conv => whnf)) | ((with_reducible refine ForP.mk ?_); (conv => whnf)) | (with_reducible apply Exists.intro) | ((with_reducible apply And.intro); (exact sdZ); (conv => whnf)) | ((first | with_reducible refine eqO_int_f ?_ | with_reducible refine eqO_int_t ?_ | with_reducible refine eqO_str_f ?_ | with_reducible refine eqO_str_t ?_ | with_reducible refine eqO_bl_f ?_ | with_reducible refine eqO_bl_t ?_ | with_reducible refine eqO_KK_f ?_ | with_reducible refine eqO_KK_t ?_ | with_reducible refine eqO_LL_f ?_ | with_reducible refine eqO_LL_t ?_); (conv => whnf)) | ((try dsimp only); (first | (rw [decide_eq_true]; rotate_left; (focus ((first | assumption | omega | rfl | decide); done))) | (rw [decide_eq_false]; rotate_left; (focus ((first | assumption | omega | rfl | decide); done)))); (conv => whnf)))))
        simp only [hva]
        ((try dsimp only [List.set_cons_zero, List.set_cons_succ, startD, wip, List.map_cons, List.map_nil, n__law_so]); (conv => whnf); (repeat (first | ((with_reducible refine SeqP.mk ?_); (try dsimp only [List.set_cons_zero, List.set_cons_succ, startD, wip, List.map_cons, List.map_nil, n__law_so]); (conv => whnf)) | ((with_reducible refine LcP.mk ?_); (conv => whnf)) | ((with_reducible refine ForP.mk ?_); (conv => whnf)) | (with_reducible apply Exists.intro) | ((with_reducible apply And.intro); (exact sdZ); (conv => whnf)) | ((first | with_reducible refine eqO_int_f ?_ | with_reducible refine eqO_int_t ?_ | with_reducible refine eqO_str_f ?_ | with_reducible refine eqO_str_t ?_ | with_reducible refine eqO_bl_f ?_ | with_reducible refine eqO_bl_t ?_ | with_reducible refine eqO_KK_f ?_ | with_reducible refine eqO_KK_t ?_ | with_reducible refine eqO_LL_f ?_ | with_reducible refine eqO_LL_t ?_); (conv => whnf)) | ((try dsimp only); (first | (rw [decide_eq_true]; rotate_left; (focus ((first | assumption | omega | rfl | decide); done))) | (rw [decide_eq_false]; rotate_left; (focus ((first | assumption | omega | rfl | decide); done)))); (conv => whnf)))))
        exact fin_same q
    | and a b =>
      unfold Sy.so at q
      unfold Sy.dep at hd
      have pa := a.dep_pos
      have pb := b.dep_pos
      obtain ⟨N, rfl⟩ : ∃ N, n = N + 1 := ⟨n - 1, by omega⟩
      have ha1 : a.ok m := ho.1
      have hb1 : b.ok m := ho.2
      have sl : (cutL [D.str "and", a.d, b.d] (some 1) none) = [a.d, b.d] := rfl
      cases hva : a.so as <;> cases hvb : b.so as
      all_goals
        simp only [hva, hvb] at q
        ((try dsimp only [List.set_cons_zero, List.set_cons_succ, startD, wip, List.map_cons, List.map_nil, n__law_so]); (conv => whnf); (repeat (first | ((with_reducible refine SeqP.mk ?_); (try dsimp only [List.set_cons_zero, List.set_cons_succ, startD, wip, List.map_cons, List.map_nil, n__law_so]); (conv => whnf)) | ((with_reducible refine LcP.mk ?_); (conv => whnf)) | ((with_reducible refine ForP.mk ?_); (conv => whnf)) | (with_reducible apply Exists.intro) | ((with_reducible apply And.intro); (exact sdZ); (conv => whnf)) | ((first | with_reducible refine eqO_int_f ?_ | with_reducible refine eqO_int_t ?_ | with_reducible refine eqO_str_f ?_ | with_reducible refine eqO_str_t ?_ | with_reducible refine eqO_bl_f ?_ | with_reducible refine eqO_bl_t ?_ | with_reducible refine eqO_KK_f ?_ | with_reducible refine eqO_KK_t ?_ | with_reducible refine eqO_LL_f ?_ | with_reducible refine eqO_LL_t ?_); (conv => whnf)) | ((try dsimp only); (first | (rw [decide_eq_true]; rotate_left; (focus ((first | assumption | omega | rfl | decide); done))) | (rw [decide_eq_false]; rotate_left; (focus ((first | assumption | omega | rfl | decide); done)))); (conv => whnf)))))
        simp only [sl]
        ((try dsimp only [List.set_cons_zero, List.set_cons_succ, startD, wip, List.map_cons, List.map_nil, n__law_so]); (conv => whnf); (repeat (first | ((with_reducible refine SeqP.mk ?_); (try dsimp only [List.set_cons_zero, List.set_cons_succ, startD, wip, List.map_cons, List.map_nil, n__law_so]); (conv => whnf)) | ((with_reducible refine LcP.mk ?_); (conv => whnf)) | ((with_reducible refine ForP.mk ?_); (conv => whnf)) | (with_reducible apply Exists.intro) | ((with_reducible apply And.intro); (exact sdZ); (conv => whnf)) | ((first | with_reducible refine eqO_int_f ?_ | with_reducible refine eqO_int_t ?_ | with_reducible refine eqO_str_f ?_ | with_reducible refine eqO_str_t ?_ | with_reducible refine eqO_bl_f ?_ | with_reducible refine eqO_bl_t ?_ | with_reducible refine eqO_KK_f ?_ | with_reducible refine eqO_KK_t ?_ | with_reducible refine eqO_LL_f ?_ | with_reducible refine eqO_LL_t ?_); (conv => whnf)) | ((try dsimp only); (first | (rw [decide_eq_true]; rotate_left; (focus ((first | assumption | omega | rfl | decide); done))) | (rw [decide_eq_false]; rotate_left; (focus ((first | assumption | omega | rfl | decide); done)))); (conv => whnf)))))
        simp only [hva, hvb]
        ((try dsimp only [List.set_cons_zero, List.set_cons_succ, startD, wip, List.map_cons, List.map_nil, n__law_so]); (conv => whnf); (repeat (first | ((with_reducible refine SeqP.mk ?_); (try dsimp only [List.set_cons_zero, List.set_cons_succ, startD, wip, List.map_cons, List.map_nil, n__law_so]); (conv => whnf)) | ((with_reducible refine LcP.mk ?_); (conv => whnf)) | ((with_reducible refine ForP.mk ?_); (conv => whnf)) | (with_reducible apply Exists.intro) | ((with_reducible apply And.intro); (exact sdZ); (conv => whnf)) | ((first | with_reducible refine eqO_int_f ?_ | with_reducible refine eqO_int_t ?_ | with_reducible refine eqO_str_f ?_ | with_reducible refine eqO_str_t ?_ | with_reducible refine eqO_bl_f ?_ | with_reducible refine eqO_bl_t ?_ | with_reducible refine eqO_KK_f ?_ | with_reducible refine eqO_KK_t ?_ | with_reducible refine eqO_LL_f ?_ | with_reducible refine eqO_LL_t ?_); (conv => whnf)) | ((try dsimp only); (first | (rw [decide_eq_true]; rotate_left; (focus ((first | assumption | omega | rfl | decide); done))) | (rw [decide_eq_false]; rotate_left; (focus ((first | assumption | omega | rfl | decide); done)))); (conv => whnf)))))
        exact fin_same q
    | or a b =>
      unfold Sy.so at q
      unfold Sy.dep at hd
      have pa := a.dep_pos
      have pb := b.dep_pos
      obtain ⟨N, rfl⟩ : ∃ N, n = N + 1 := ⟨n - 1, by omega⟩
      have ha1 : a.ok m := ho.1
      have hb1 : b.ok m := ho.2
      have sl : (cutL [D.str "or", a.d, b.d] (some 1) none) = [a.d, b.d] := rfl
      cases hva : a.so as <;> cases hvb : b.so as
      all_goals
        simp only [hva, hvb] at q
        ((try dsimp only [List.set_cons_zero, List.set_cons_succ, startD, wip, List.map_cons, List.map_nil, n__law_so]); (conv => whnf); (repeat (first | ((with_reducible refine SeqP.mk ?_); (try dsimp only [List.set_cons_zero, List.set_cons_succ, startD, wip, List.map_cons, List.map_nil, n__law_so]); (conv => whnf)) | ((with_reducible refine LcP.mk ?_); (conv => whnf)) | ((with_reducible refine ForP.mk ?_); (conv => whnf)) | (with_reducible apply Exists.intro) | ((with_reducible apply And.intro); (exact sdZ); (conv => whnf)) | ((first | with_reducible refine eqO_int_f ?_ | with_reducible refine eqO_int_t ?_ | with_reducible refine eqO_str_f ?_ | with_reducible refine eqO_str_t ?_ | with_reducible refine eqO_bl_f ?_ | with_reducible refine eqO_bl_t ?_ | with_reducible refine eqO_KK_f ?_ | with_reducible refine eqO_KK_t ?_ | with_reducible refine eqO_LL_f ?_ | with_reducible refine eqO_LL_t ?_); (conv => whnf)) | ((try dsimp only); (first | (rw [decide_eq_true]; rotate_left; (focus ((first | assumption | omega | rfl | decide); done))) | (rw [decide_eq_false]; rotate_left; (focus ((first | assumption | omega | rfl | decide); done)))); (conv => whnf)))))
        simp only [sl]
        ((try dsimp only [List.set_cons_zero, List.set_cons_succ, startD, wip, List.map_cons, List.map_nil, n__law_so]); (conv => whnf); (repeat (first | ((with_reducible refine SeqP.mk ?_); (try dsimp only [List.set_cons_zero, List.set_cons_succ, startD, wip, List.map_cons, List.map_nil, n__law_so]); (conv => whnf)) | ((with_reducible refine LcP.mk ?_); (conv => whnf)) | ((with_reducible refine ForP.mk ?_); (conv => whnf)) | (with_reducible apply Exists.intro) | ((with_reducible apply And.intro); (exact sdZ); (conv => whnf)) | ((first | with_reducible refine eqO_int_f ?_ | with_reducible refine eqO_int_t ?_ | with_reducible refine eqO_str_f ?_ | with_reducible refine eqO_str_t ?_ | with_reducible refine eqO_bl_f ?_ | with_reducible refine eqO_bl_t ?_ | with_reducible refine eqO_KK_f ?_ | with_reducible refine eqO_KK_t ?_ | with_reducible refine eqO_LL_f ?_ | with_reducible refine eqO_LL_t ?_); (conv => whnf)) | ((try dsimp only); (first | (rw [decide_eq_true]; rotate_left; (focus ((first | assumption | omega | rfl | decide); done))) | (rw [decide_eq_false]; rotate_left; (focus ((first | assumption | omega | rfl | decide); done)))); (conv => whnf)))))
        simp only [hva, hvb]
        ((try dsimp only [List.set_cons_zero, List.set_cons_succ, startD, wip, List.map_cons, List.map_nil, n__law_so]); (conv => whnf); (repeat (first | ((with_reducible refine SeqP.mk ?_); (try dsimp only [List.set_cons_zero, List.set_cons_succ, startD, wip, List.map_cons, List.map_nil, n__law_so]); (conv => whnf)) | ((with_reducible refine LcP.mk ?_); (conv => whnf)) | ((with_reducible refine ForP.mk ?_); (conv => whnf)) | (with_reducible apply Exists.intro) | ((with_reducible apply And.intro); (exact sdZ); (conv => whnf)) | ((first | with_reducible refine eqO_int_f ?_ | with_reducible refine eqO_int_t ?_ | with_reducible refine eqO_str_f ?_ | with_reducible refine eqO_str_t ?_ | with_reducible refine eqO_bl_f ?_ | with_reducible refine eqO_bl_t ?_ | with_reducible refine eqO_KK_f ?_ | with_reducible refine eqO_KK_t ?_ | with_reducible refine eqO_LL_f ?_ | with_reducible refine eqO_LL_t ?_); (conv => whnf)) | ((try dsimp only); (first | (rw [decide_eq_true]; rotate_left; (focus ((first | assumption | omega | rfl | decide); done))) | (rw [decide_eq_false]; rotate_left; (focus ((first | assumption | omega | rfl | decide); done)))); (conv => whnf)))))
        exact fin_same q
    | either a b =>
      unfold Sy.so at q
      unfold Sy.dep at hd
      have pa := a.dep_pos
      have pb := b.dep_pos
      obtain ⟨N, rfl⟩ : ∃ N, n = N + 1 := ⟨n - 1, by omega⟩
      have ha1 : a.ok m := ho.1
      have hb1 : b.ok m := ho.2
      have sl : (cutL [D.str "either", a.d, b.d] (some 1) none) = [a.d, b.d] := rfl
      cases hva : a.so as <;> cases hvb : b.so as
      all_goals
        simp only [hva, hvb] at q
        ((try dsimp only [List.set_cons_zero, List.set_cons_succ, startD, wip, List.map_cons, List.map_nil, n__law_so]); (conv => whnf); (repeat (first | ((with_reducible refine SeqP.mk ?_); (try dsimp only [List.set_cons_zero, List.set_cons_succ, startD, wip, List.map_cons, List.map_nil, n__law_so]); (conv => whnf)) | ((with_reducible refine LcP.mk ?_); (conv => whnf)) | ((with_reducible refine ForP.mk ?_); (conv => whnf)) | (with_reducible apply Exists.intro) | ((with_reducible apply And.intro); (exact sdZ); (conv => whnf)) | ((first | with_reducible refine eqO_int_f ?_ | with_reducible refine eqO_int_t ?_ | with_reducible refine eqO_str_f ?_ | with_reducible refine eqO_str_t ?_ | with_reducible refine eqO_bl_f ?_ | with_reducible refine eqO_bl_t ?_ | with_reducible refine eqO_KK_f ?_ | with_reducible refine eqO_KK_t ?_ | with_reducible refine eqO_LL_f ?_ | with_reducible refine eqO_LL_t ?_); (conv => whnf)) | ((try dsimp only); (first | (rw [decide_eq_true]; rotate_left; (focus ((first | assumption | omega | rfl | decide); done))) | (rw [decide_eq_false]; rotate_left; (focus ((first | assumption | omega | rfl | decide); done)))); (conv => whnf)))))
        simp only [sl]
        ((try dsimp only [List.set_cons_zero, List.set_cons_succ, startD, wip, List.map_cons, List.map_nil, n__law_so]); (conv => whnf); (repeat (first | ((with_reducible refine SeqP.mk ?_); (try dsimp only [List.set_cons_zero, List.set_cons_succ, startD, wip, List.map_cons, List.map_nil, n__law_so]); (conv => whnf)) | ((with_reducible refine LcP.mk ?_); (conv => whnf)) | ((with_reducible refine ForP.mk ?_); (conv => whnf)) | (with_reducible apply Exists.intro) | ((with_reducible apply And.intro); (exact sdZ); (conv => whnf)) | ((first | with_reducible refine eqO_int_f ?_ | with_reducible refine eqO_int_t ?_ | with_reducible refine eqO_str_f ?_ | with_reducible refine eqO_str_t ?_ | with_reducible refine eqO_bl_f ?_ | with_reducible refine eqO_bl_t ?_ | with_reducible refine eqO_KK_f ?_ | with_reducible refine eqO_KK_t ?_ | with_reducible refine eqO_LL_f ?_ | with_reducible refine eqO_LL_t ?_); (conv => whnf)) | ((try dsimp only); (first | (rw [decide_eq_true]; rotate_left; (focus ((first | assumption | omega | rfl | decide); done))) | (rw [decide_eq_false]; rotate_left; (focus ((first | assumption | omega | rfl | decide); done)))); (conv => whnf)))))
        simp only [hva, hvb]
        ((try dsimp only [List.set_cons_zero, List.set_cons_succ, startD, wip, List.map_cons, List.map_nil, n__law_so]); (conv => whnf); (repeat (first | ((with_reducible refine SeqP.mk ?_); (try dsimp only [List.set_cons_zero, List.set_cons_succ, startD, wip, List.map_cons, List.map_nil, n__law_so]); (conv => whnf)) | ((with_reducible refine LcP.mk ?_); (conv => whnf)) | ((with_reducible refine ForP.mk ?_); (conv => whnf)) | (with_reducible apply Exists.intro) | ((with_reducible apply And.intro); (exact sdZ); (conv => whnf)) | ((first | with_reducible refine eqO_int_f ?_ | with_reducible refine eqO_int_t ?_ | with_reducible refine eqO_str_f ?_ | with_reducible refine eqO_str_t ?_ | with_reducible refine eqO_bl_f ?_ | with_reducible refine eqO_bl_t ?_ | with_reducible refine eqO_KK_f ?_ | with_reducible refine eqO_KK_t ?_ | with_reducible refine eqO_LL_f ?_ | with_reducible refine eqO_LL_t ?_); (conv => whnf)) | ((try dsimp only); (first | (rw [decide_eq_true]; rotate_left; (focus ((first | assumption | omega | rfl | decide); done))) | (rw [decide_eq_false]; rotate_left; (focus ((first | assumption | omega | rfl | decide); done)))); (conv => whnf)))))
        exact fin_same q
    | most a b c =>
      unfold Sy.so at q
      unfold Sy.dep at hd
      have pa := a.dep_pos
      have pb := b.dep_pos
      have pc := c.dep_pos
      obtain ⟨N, rfl⟩ : ∃ N, n = N + 1 := ⟨n - 1, by omega⟩
      have ha1 : a.ok m := ho.1
      have hb1 : b.ok m := ho.2.1
      have hc1 : c.ok m := ho.2.2
      have sl : (cutL [D.str "most", a.d, b.d, c.d] (some 1) none) = [a.d, b.d, c.d] := rfl
      cases hva : a.so as <;> cases hvb : b.so as <;> cases hvc : c.so as
      all_goals
        simp only [hva, hvb, hvc] at q
        ((try dsimp only [List.set_cons_zero, List.set_cons_succ, startD, wip, List.map_cons, List.map_nil, n__law_so]); (conv => whnf); (repeat (first | ((with_reducible refine SeqP.mk ?_); (try dsimp only [List.set_cons_zero, List.set_cons_succ, startD, wip, List.map_cons, List.map_nil, n__law_so]); (conv => whnf)) | ((with_reducible refine LcP.mk ?_); (conv => whnf)) | ((with_reducible refine ForP.mk ?_); (conv => whnf)) | (with_reducible apply Exists.intro) | ((with_reducible apply And.intro); (exact sdZ); (conv => whnf)) | ((first | with_reducible refine eqO_int_f ?_ | with_reducible refine eqO_int_t ?_ | with_reducible refine eqO_str_f ?_ | with_reducible refine eqO_str_t ?_ | with_reducible refine eqO_bl_f ?_ | with_reducible refine eqO_bl_t ?_ | with_reducible refine eqO_KK_f ?_ | with_reducible refine eqO_KK_t ?_ | with_reducible refine eqO_LL_f ?_ | with_reducible refine eqO_LL_t ?_); (conv => whnf)) | ((try dsimp only); (first | (rw [decide_eq_true]; rotate_left; (focus ((first | assumption | omega | rfl | decide); done))) | (rw [decide_eq_false]; rotate_left; (focus ((first | assumption | omega | rfl | decide); done)))); (conv => whnf)))))
        simp only [sl]
        ((try dsimp only [List.set_cons_zero, List.set_cons_succ, startD, wip, List.map_cons, List.map_nil, n__law_so]); (conv => whnf); (repeat (first | ((with_reducible refine SeqP.mk ?_); (try dsimp only [List.set_cons_zero, List.set_cons_succ, startD, wip, List.map_cons, List.map_nil, n__law_so]); (conv => whnf)) | ((with_reducible refine LcP.mk ?_); (conv => whnf)) | ((with_reducible refine ForP.mk ?_); (conv => whnf)) | (with_reducible apply Exists.intro) | ((with_reducible apply And.intro); (exact sdZ); (conv => whnf)) | ((first | with_reducible refine eqO_int_f ?_ | with_reducible refine eqO_int_t ?_ | with_reducible refine eqO_str_f ?_ | with_reducible refine eqO_str_t ?_ | with_reducible refine eqO_bl_f ?_ | with_reducible refine eqO_bl_t ?_ | with_reducible refine eqO_KK_f ?_ | with_reducible refine eqO_KK_t ?_ | with_reducible refine eqO_LL_f ?_ | with_reducible refine eqO_LL_t ?_); (conv => whnf)) | ((try dsimp only); (first | (rw [decide_eq_true]; rotate_left; (focus ((first | assumption | omega | rfl | decide); done))) | (rw [decide_eq_false]; rotate_left; (focus ((first | assumption | omega | rfl | decide); done)))); (conv => whnf)))))
        simp only [hva, hvb, hvc]
        ((try dsimp only [List.set_cons_zero, List.set_cons_succ, startD, wip, List.map_cons, List.map_nil, n__law_so]); (conv => whnf); (repeat (first | ((with_reducible refine SeqP.mk ?_); (try dsimp only [List.set_cons_zero, List.set_cons_succ, startD, wip, List.map_cons, List.map_nil, n__law_so]); (conv => whnf)) | ((with_reducible refine LcP.mk ?_); (conv => whnf)) | ((with_reducible refine ForP.mk ?_); (conv => whnf)) | (with_reducible apply Exists.intro) | ((with_reducible apply And.intro); (exact sdZ); (conv => whnf)) | ((first | with_reducible refine eqO_int_f ?_ | with_reducible refine eqO_int_t ?_ | with_reducible refine eqO_str_f ?_ | with_reducible refine eqO_str_t ?_ | with_reducible refine eqO_bl_f ?_ | with_reducible refine eqO_bl_t ?_ | with_reducible refine eqO_KK_f ?_ | with_reducible refine eqO_KK_t ?_ | with_reducible refine eqO_LL_f ?_ | with_reducible refine eqO_LL_t ?_); (conv => whnf)) | ((try dsimp only); (first | (rw [decide_eq_true]; rotate_left; (focus ((first | assumption | omega | rfl | decide); done))) | (rw [decide_eq_false]; rotate_left; (focus ((first | assumption | omega | rfl | decide); done)))); (conv => whnf)))))
        exact fin_same q
theorem _law_so_all {f : Addr} {fd : FuncData} (F : Fun K "_law_so" "_law_so" s__law_so f fd) (hm : mg "_law_so" = some (.ref f)) (hk : PySem.W.keepIn K (.ref f) = true) (hb : Binds K fd p__law_so []) : ∀ n, Fc P w K mg base (0 + n) "_law_so" p__law_so (sp__law_so n)
  | 0 => ⟨f, fd, hm, hk, hb, ⟨fun _ _ _ _ h => h.elim, fun _ _ _ _ _ _ _ _ _ _ _ _ _ ⟨_, _, _, _, _, _, _, _, z, _⟩ => z.elim⟩⟩
  | n + 1 => ⟨f, fd, hm, hk, hb, ok__law_so F  (_law_so_all F hm   hk hb n)⟩

/-- one leaf on both sides -/
def Lf (x y : D) : Prop := (∃ i : Int, x = .int i ∧ y = .int i) ∨ (∃ b : Bool, x = .bl b ∧ y = .bl b) ∨ (∃ z : Str, x = .str z ∧ y = .str z) ∨ (x = .non ∧ y = .non)
/-- found and due tell the same data, of the same kinds -/
def Ali : Nat → D → D → Prop
  | 0, x, y => Lf x y
  | n + 1, x, y => Lf x y ∨ ∃ xs ys, ((asT x = some xs ∧ asT y = some ys) ∨ (x = .lst xs ∧ y = .lst ys)) ∧ xs.length ≤ 100000 ∧ xs.length = ys.length ∧ ∀ (i : Nat) (a b : D), xs[i]? = some a → ys[i]? = some b → Ali n a b
theorem ali_ints {m : Nat} {x y : D} {ns : List Int} (hx : asT x = some (ns.map D.int)) (hy : asT y = some (ns.map D.int)) (hl : ns.length ≤ 100000) : Ali (m + 1) x y := by
  refine .inr ⟨_, _, .inl ⟨hx, hy⟩, by rw [List.length_map]; exact hl, rfl, fun i a b h1 h2 => ?_⟩
  rw [h1] at h2; cases h2
  rw [List.getElem?_map] at h1
  cases z : ns[i]? with
  | none => rw [z] at h1; cases h1
  | some n =>
    rw [z] at h1; cases h1
    cases m with
    | zero => exact .inl ⟨n, rfl, rfl⟩
    | succ m => exact .inl (.inl ⟨n, rfl, rfl⟩)
theorem ali_leaf {k : Nat} {x y : D} (h : Lf x y) : Ali k x y := by cases k with
  | zero => exact h
  | succ k => exact .inl h
theorem ali_int {k : Nat} {i : Int} : Ali k (.int i) (.int i) := ali_leaf (.inl ⟨i, rfl, rfl⟩)
theorem ali_tup {k : Nat} {xs : List D} (hl : xs.length ≤ 100000) (h : ∀ x ∈ xs, Ali k x x) : Ali (k + 1) (.tup xs) (.tup xs) :=
  .inr ⟨xs, xs, .inl ⟨rfl, rfl⟩, hl, rfl, fun i a b h1 h2 => by rw [h1] at h2; cases h2; exact h a (List.mem_of_getElem? h1)⟩
theorem ali_lst {k : Nat} {xs : List D} (hl : xs.length ≤ 100000) (h : ∀ x ∈ xs, Ali k x x) : Ali (k + 1) (.lst xs) (.lst xs) :=
  .inr ⟨xs, xs, .inr ⟨rfl, rfl⟩, hl, rfl, fun i a b h1 h2 => by rw [h1] at h2; cases h2; exact h a (List.mem_of_getElem? h1)⟩
theorem ali_tpk {k : Nat} {ns : List Int} (hl : ns.length ≤ 100000) : Ali (k + 1) (.tpk ns) (.tpk ns) := ali_ints rfl rfl hl
theorem ali_step {k : Nat} {n m : Int} {s : Stp} (h0 : 0 ≤ n) (h1 : n ≤ 1000) (h : StOk n m s) : Ali (k + 2) s.d s.d := by
  have a := h.y.ll h0 h1
  have b := h.z.ll h0 h1
  refine ali_tup (show 3 ≤ 100000 by decide) fun x hx => ?_
  simp only [List.mem_cons, List.not_mem_nil, or_false] at hx
  rcases hx with rfl | rfl | rfl
  · exact ali_int
  · exact ali_tpk (by omega)
  · exact ali_tpk (by omega)
theorem ali_dn {k : Nat} {n m : Int} {l : List Stp} (h0 : 0 ≤ n) (h1 : n ≤ 1000) (hl : l.length ≤ 100000) (h : ∀ s ∈ l, StOk n m s) : Ali (k + 4) (dnD n m l) (dnD n m l) := by
  refine ali_tup (show 3 ≤ 100000 by decide) fun x hx => ?_
  simp only [List.mem_cons, List.not_mem_nil, or_false] at hx
  rcases hx with rfl | rfl | rfl
  · exact ali_int
  · exact ali_int
  · refine ali_tup (by rw [List.length_map]; exact hl) fun x hx => ?_
    obtain ⟨s, hs, rfl⟩ := List.mem_map.mp hx
    exact ali_step h0 h1 (h s hs)
def sp_ali : Nat → SpD
  | 0 => fun _ _ _ _ => False
  | n + 1 => fun ds S Q _ => ∃ x y, ds = [x, y] ∧ Ali n (vw S x) (vw S y) ∧ Q (.bl true) S
theorem vw_cases {S : Sto} {a : Addr} : (∃ xs, S a = some (.lst xs) ∧ vw S (.ref a) = .lst xs) ∨ vw S (.ref a) = .ref a := by
  cases h : S a with
  | none => exact .inr (by simp [vw, h])
  | some c => cases c with
    | lst xs => exact .inl ⟨xs, rfl, by simp [vw, h]⟩
    | ins _ _ _ => exact .inr (by simp [vw, h])
    | dic _ => exact .inr (by simp [vw, h])
    | dit _ => exact .inr (by simp [vw, h])
    | exc _ _ => exact .inr (by simp [vw, h])
    | xd _ => exact .inr (by simp [vw, h])
    | dct _ => exact .inr (by simp [vw, h])
    | dcf _ _ => exact .inr (by simp [vw, h])
theorem vw_cell {S : Sto} {a : Addr} {xs : List D} (h : S a = some (.lst xs)) : vw S (.ref a) = .lst xs := by simp [vw, h]
theorem vw_int {S : Sto} {x : D} {i : Int} (h : vw S x = .int i) : x = .int i := by
  cases x with
  | ref a => rcases vw_cases (S := S) (a := a) with ⟨_, _, e⟩ | e <;> (rw [e] at h; cases h)
  | _ => exact h
theorem vw_bl {S : Sto} {x : D} {i : Bool} (h : vw S x = .bl i) : x = .bl i := by
  cases x with
  | ref a => rcases vw_cases (S := S) (a := a) with ⟨_, _, e⟩ | e <;> (rw [e] at h; cases h)
  | _ => exact h
theorem vw_str {S : Sto} {x : D} {i : Str} (h : vw S x = .str i) : x = .str i := by
  cases x with
  | ref a => rcases vw_cases (S := S) (a := a) with ⟨_, _, e⟩ | e <;> (rw [e] at h; cases h)
  | _ => exact h
theorem vw_non {S : Sto} {x : D} (h : vw S x = .non) : x = .non := by
  cases x with
  | ref a => rcases vw_cases (S := S) (a := a) with ⟨_, _, e⟩ | e <;> (rw [e] at h; cases h)
  | _ => exact h
theorem vw_T {S : Sto} {x : D} {xs : List D} (h : asT (vw S x) = some xs) : asT x = some xs := by
  cases x with
  | ref a => rcases vw_cases (S := S) (a := a) with ⟨_, _, e⟩ | e <;> (rw [e] at h; cases h)
  | _ => exact h
theorem vw_lst {S : Sto} {x : D} {xs : List D} (h : vw S x = .lst xs) : x = .lst xs ∨ ∃ a, x = .ref a ∧ S a = some (.lst xs) := by
  cases x with
  | ref a =>
    rcases vw_cases (S := S) (a := a) with ⟨_, e0, e⟩ | e
    · rw [e] at h; cases h; exact .inr ⟨a, rfl, e0⟩
    · rw [e] at h; cases h
  | _ => exact .inl h
/-- what alike asks of a list -/
theorem lst_facts {S : Sto} {x : D} {xs : List D} (h : vw S x = .lst xs) : tyD S x = "list" ∧ asQ S x = some xs ∧ lk x = true ∧ ∃ ok : Sto → Prop, ok S ∧ ∀ R, itsR x S R = R xs ok S := by
  rcases vw_lst h with rfl | ⟨a, rfl, e⟩
  · exact ⟨rfl, rfl, rfl, _, trivial, fun R => rfl⟩
  · exact ⟨by simp [tyD, e], asQ_ref e, rfl, _, asL_ref e, fun R => itsR_ref e⟩
theorem Ali.split {n : Nat} {x y : D} (h : Ali n x y) : Lf x y ∨ ∃ m, n = m + 1 ∧ ∃ xs ys, ((asT x = some xs ∧ asT y = some ys) ∨ (x = .lst xs ∧ y = .lst ys)) ∧ xs.length ≤ 100000 ∧ xs.length = ys.length ∧ ∀ (i : Nat) (a b : D), xs[i]? = some a → ys[i]? = some b → Ali m a b := by
  cases n with
  | zero => exact .inl h
  | succ m => exact h.imp id fun h => ⟨m, rfl, h⟩
theorem vw_asT {S : Sto} {x : D} {xs : List D} (h : asT x = some xs) : vw S x = x := by
  cases x with
  | ref a => cases h
  | _ => rfl
theorem Ali.vw {S : Sto} {n : Nat} {x y : D} (h : Ali n x y) : Ali n (vw S x) (vw S y) := by
  have e : DL.vw S x = x ∧ DL.vw S y = y := by
    rcases h.split with h | ⟨m, _, xs, ys, ⟨h1, h2⟩ | ⟨rfl, rfl⟩, _⟩
    · rcases h with ⟨i, rfl, rfl⟩ | ⟨b, rfl, rfl⟩ | ⟨z, rfl, rfl⟩ | ⟨rfl, rfl⟩ <;> exact ⟨rfl, rfl⟩
    · exact ⟨vw_asT h1, vw_asT h2⟩
    · exact ⟨rfl, rfl⟩
  rw [e.1, e.2]; exact h
abbrev s__law_alike : Stmt := topS 11
abbrev n__law_alike : List Str := ["_law_found", "_law_due_here", "_law_one", "_law_other"]
abbrev p__law_alike : List Str := ["_law_found", "_law_due_here"]
theorem sc__law_alike : FnScope n__law_alike p__law_alike (defScope s__law_alike) := ⟨rfl, rfl, rfl, by decide +kernel, rfl, by decide +kernel, by decide +kernel⟩
theorem ok__law_alike {f : Addr} {fd : FuncData} {n : Nat} (F : Fun K "_law_alike" "_law_alike" s__law_alike f fd) (m_isinstance : mg "isinstance" = none) (m_list : mg "list" = none) (m_tuple : mg "tuple" = none) (m_len : mg "len" = none) (m_all : mg "all" = none) (m_zip : mg "zip" = none) (m_bool : mg "bool" = none) (F__law_alike : Fc P w K mg base k "_law_alike" p__law_alike (sp_ali n)) : FnD P w K mg base (k + 1) f fd p__law_alike (sp_ali (n+1)) := by
  refine FnD.of F sc__law_alike ?_ (fun X C E' cdv A outer s H E hX hr hx po hc => by
    subst hX
    exact (dss_cons (ds_if (dt_val (de_isLT (by rfl) m_isinstance (by rfl) m_list (by rfl) m_tuple (dv 1))) (dss_cons (ds_if (dw_pt (dw_or (dt_cmp (or_ne hr.u64) (de_b cr_isi (by rfl) m_isinstance b_isinstance (da_cons (dv 0) (da_cons (dty (by rfl) m_tuple b_tuple) da_nil))) (de_b cr_isi (by rfl) m_isinstance b_isinstance (da_cons (dv 1) (da_cons (dty (by rfl) m_tuple b_tuple) da_nil)))) (dw_or1 (dt_cmp (or_ne hr.u64) (de_b cr_isi (by rfl) m_isinstance b_isinstance (da_cons (dv 0) (da_cons (dty (by rfl) m_list b_list) da_nil))) (de_b cr_isi (by rfl) m_isinstance b_isinstance (da_cons (dv 1) (da_cons (dty (by rfl) m_list b_list) da_nil))))))) (dss_one (ds_ret de_bl)) dss_nil)
      (dss_one (ds_ret (de_and (de_cmp (or_eq hr.u64) (de_b cr_len (by rfl) m_len b_len (da_cons (dv 0) da_nil)) (de_b cr_len (by rfl) m_len b_len (da_cons (dv 1) da_nil))) (de_one (de_b (cr_allD rfl) (by rfl) m_all b_all (da_cons (de_lc (own := [("_law_one", 2), ("_law_other", 3)]) false rfl sc__law_alike.nd (di_zip (by rfl) m_zip (da_cons (dv 0) (da_cons (dv 1) da_nil))) (by show BlkOk n__law_alike (defScope s__law_alike) _ [("_law_one", 2), ("_law_other", 3)]; exact blkOk_by (by decide +kernel)) (fun _ _ _ _ _ => (dgc_tup (n := 2) rfl (dgsc_cons (dgc_name (i := 2) sc__law_alike.nd rfl) (dgsc_cons (dgc_name (i := 3) sc__law_alike.nd rfl) dgsc_nil)))) (fun _ _ _ _ _ => dts_nil) (fun _ _ _ _ _ => (de_call F__law_alike hr xok0 (by rfl) (da_cons (dv 2) (da_cons (dv 3) da_nil))))) da_nil))))))) dss_nil)
      (dss_one (ds_ret (de_and (de_cmp (or_eq hr.u64) (de_b cr_isi (by rfl) m_isinstance b_isinstance (da_cons (dv 0) (da_cons (dty (by rfl) m_bool b_bool) da_nil))) (de_b cr_isi (by rfl) m_isinstance b_isinstance (da_cons (dv 1) (da_cons (dty (by rfl) m_bool b_bool) da_nil)))) (de_one (de_cmp (or_eq hr.u64) (dv 0) (dv 1)))))))) ?_
  · rintro ds S Q E ⟨x, y, rfl, _⟩; rfl
  · rintro ds S Q E' ⟨x, y, rfl, ha, q⟩
    rw [show startD n__law_alike [x, y] = [some x, some y, none, none] from rfl]
    rcases ha.split with h | ⟨m, rfl, xs, ys, hk, hl, he, hi⟩
    · rcases h with ⟨i, hx, hy⟩ | ⟨b, hx, hy⟩ | ⟨z, hx, hy⟩ | ⟨hx, hy⟩
      · obtain rfl := vw_int hx
        obtain rfl := vw_int hy
        simp only [dNext, dSeq, dBreak, dCont, dDrop, dRet, dRetN, dIf, gN, gsNil, gsCons, gT, dAsg, dSet, dPar, gSb, dAug, dFor, dVar, dC, dOp, dTst, dChain, dNot, dAnd, dOr, dNotV, dAndV, dOrV, dNeg, dNil, dCons, dTup, dLst, dCB, iiR, subR, addR, isNR, eqR_int, eqR_bl, inR, dSo, dNo, dSl, dLc, one, two, tupR, lstR, allR, anyR, sumR, intR, strR, sortR, dTupK, addKR, tupKR, dRg1, dRg2, dTupRg, dLstRg, iD, iR1, iR2, dMt, dMt0, onL, appR, extR, popR, popAtR, revR, clrR, idxR, dTIdx, iEn, iZp, dIsLT, dCall, slot, wip, ixR_tup, ixR_tpk, ixR_lst, ixR_scr, lenR_tup, lenR_tpk, lenR_lst, lenR_scr, lenR_str, walkR_tup, walkR_tpk, walkR_lst, walkR_scr, walkR_str, itsR_tup, itsR_tpk, itsR_lst, slR_tup, slR_tpk, slR_lst, slR_scr, mk_t, mk_f, asL_lst, asL_scr, asQ_tup, asQ_tpk, asQ_lst, asQ_scr, asM_lst, asT_tup, asT_tpk, atI_0, atI_1, List.map_cons, List.map_nil, List.set_cons_zero, List.set_cons_succ, List.getElem?_cons_zero, List.getElem?_cons_succ, Option.some.injEq, exists_eq_left', exists_eq_left, true_and, and_true, setR_ref', ixR_ref', lenR_ref', asQ_ref', asL_ref', isltR_int, isltR_bl, isltR_str, isltR_non, isiR_int_bool, isiR_bl_bool, isiR_str_bool, isiR_non_bool, eqR_str, eqR_non, dPar3, iRv, insR, mulLR, rpiR, atI_2, ixR_d0, ixR_d1, ixR_d2, seqP_eq, decide_true]
        exact fin_same  q
      · obtain rfl := vw_bl hx
        obtain rfl := vw_bl hy
        simp only [dNext, dSeq, dBreak, dCont, dDrop, dRet, dRetN, dIf, gN, gsNil, gsCons, gT, dAsg, dSet, dPar, gSb, dAug, dFor, dVar, dC, dOp, dTst, dChain, dNot, dAnd, dOr, dNotV, dAndV, dOrV, dNeg, dNil, dCons, dTup, dLst, dCB, iiR, subR, addR, isNR, eqR_int, eqR_bl, inR, dSo, dNo, dSl, dLc, one, two, tupR, lstR, allR, anyR, sumR, intR, strR, sortR, dTupK, addKR, tupKR, dRg1, dRg2, dTupRg, dLstRg, iD, iR1, iR2, dMt, dMt0, onL, appR, extR, popR, popAtR, revR, clrR, idxR, dTIdx, iEn, iZp, dIsLT, dCall, slot, wip, ixR_tup, ixR_tpk, ixR_lst, ixR_scr, lenR_tup, lenR_tpk, lenR_lst, lenR_scr, lenR_str, walkR_tup, walkR_tpk, walkR_lst, walkR_scr, walkR_str, itsR_tup, itsR_tpk, itsR_lst, slR_tup, slR_tpk, slR_lst, slR_scr, mk_t, mk_f, asL_lst, asL_scr, asQ_tup, asQ_tpk, asQ_lst, asQ_scr, asM_lst, asT_tup, asT_tpk, atI_0, atI_1, List.map_cons, List.map_nil, List.set_cons_zero, List.set_cons_succ, List.getElem?_cons_zero, List.getElem?_cons_succ, Option.some.injEq, exists_eq_left', exists_eq_left, true_and, and_true, setR_ref', ixR_ref', lenR_ref', asQ_ref', asL_ref', isltR_int, isltR_bl, isltR_str, isltR_non, isiR_int_bool, isiR_bl_bool, isiR_str_bool, isiR_non_bool, eqR_str, eqR_non, dPar3, iRv, insR, mulLR, rpiR, atI_2, ixR_d0, ixR_d1, ixR_d2, seqP_eq, decide_true]
        exact fin_same  q
      · obtain rfl := vw_str hx
        obtain rfl := vw_str hy
        simp only [dNext, dSeq, dBreak, dCont, dDrop, dRet, dRetN, dIf, gN, gsNil, gsCons, gT, dAsg, dSet, dPar, gSb, dAug, dFor, dVar, dC, dOp, dTst, dChain, dNot, dAnd, dOr, dNotV, dAndV, dOrV, dNeg, dNil, dCons, dTup, dLst, dCB, iiR, subR, addR, isNR, eqR_int, eqR_bl, inR, dSo, dNo, dSl, dLc, one, two, tupR, lstR, allR, anyR, sumR, intR, strR, sortR, dTupK, addKR, tupKR, dRg1, dRg2, dTupRg, dLstRg, iD, iR1, iR2, dMt, dMt0, onL, appR, extR, popR, popAtR, revR, clrR, idxR, dTIdx, iEn, iZp, dIsLT, dCall, slot, wip, ixR_tup, ixR_tpk, ixR_lst, ixR_scr, lenR_tup, lenR_tpk, lenR_lst, lenR_scr, lenR_str, walkR_tup, walkR_tpk, walkR_lst, walkR_scr, walkR_str, itsR_tup, itsR_tpk, itsR_lst, slR_tup, slR_tpk, slR_lst, slR_scr, mk_t, mk_f, asL_lst, asL_scr, asQ_tup, asQ_tpk, asQ_lst, asQ_scr, asM_lst, asT_tup, asT_tpk, atI_0, atI_1, List.map_cons, List.map_nil, List.set_cons_zero, List.set_cons_succ, List.getElem?_cons_zero, List.getElem?_cons_succ, Option.some.injEq, exists_eq_left', exists_eq_left, true_and, and_true, setR_ref', ixR_ref', lenR_ref', asQ_ref', asL_ref', isltR_int, isltR_bl, isltR_str, isltR_non, isiR_int_bool, isiR_bl_bool, isiR_str_bool, isiR_non_bool, eqR_str, eqR_non, dPar3, iRv, insR, mulLR, rpiR, atI_2, ixR_d0, ixR_d1, ixR_d2, seqP_eq, decide_true]
        exact fin_same  q
      · obtain rfl := vw_non hx
        obtain rfl := vw_non hy
        simp only [dNext, dSeq, dBreak, dCont, dDrop, dRet, dRetN, dIf, gN, gsNil, gsCons, gT, dAsg, dSet, dPar, gSb, dAug, dFor, dVar, dC, dOp, dTst, dChain, dNot, dAnd, dOr, dNotV, dAndV, dOrV, dNeg, dNil, dCons, dTup, dLst, dCB, iiR, subR, addR, isNR, eqR_int, eqR_bl, inR, dSo, dNo, dSl, dLc, one, two, tupR, lstR, allR, anyR, sumR, intR, strR, sortR, dTupK, addKR, tupKR, dRg1, dRg2, dTupRg, dLstRg, iD, iR1, iR2, dMt, dMt0, onL, appR, extR, popR, popAtR, revR, clrR, idxR, dTIdx, iEn, iZp, dIsLT, dCall, slot, wip, ixR_tup, ixR_tpk, ixR_lst, ixR_scr, lenR_tup, lenR_tpk, lenR_lst, lenR_scr, lenR_str, walkR_tup, walkR_tpk, walkR_lst, walkR_scr, walkR_str, itsR_tup, itsR_tpk, itsR_lst, slR_tup, slR_tpk, slR_lst, slR_scr, mk_t, mk_f, asL_lst, asL_scr, asQ_tup, asQ_tpk, asQ_lst, asQ_scr, asM_lst, asT_tup, asT_tpk, atI_0, atI_1, List.map_cons, List.map_nil, List.set_cons_zero, List.set_cons_succ, List.getElem?_cons_zero, List.getElem?_cons_succ, Option.some.injEq, exists_eq_left', exists_eq_left, true_and, and_true, setR_ref', ixR_ref', lenR_ref', asQ_ref', asL_ref', isltR_int, isltR_bl, isltR_str, isltR_non, isiR_int_bool, isiR_bl_bool, isiR_str_bool, isiR_non_bool, eqR_str, eqR_non, dPar3, iRv, insR, mulLR, rpiR, atI_2, ixR_d0, ixR_d1, ixR_d2, seqP_eq, decide_true]
        exact fin_same  q
    · obtain ⟨tb, lb, okx, oky, f1, f2, f3, f4, f5, f6, f7, f8, f9, f10, f11, f12⟩ : ∃ (tb lb : Bool) (okx oky : Sto → Prop), (∀ Q, isiR x (.ty "tuple") S Q = Q (.bl tb) S) ∧ (∀ Q, isiR y (.ty "tuple") S Q = Q (.bl tb) S) ∧ (∀ Q, isiR x (.ty "list") S Q = Q (.bl lb) S) ∧ (∀ Q, isiR y (.ty "list") S Q = Q (.bl lb) S) ∧
          (∀ Q, isltR y S Q = Q (.bl true) S) ∧ asQ S x = some xs ∧ asQ S y = some ys ∧ (∀ R, itsR x S R = R xs okx S) ∧ (∀ R, itsR y S R = R ys oky S) ∧ lk x = lk y ∧ okx S ∧ oky S := by
        rcases hk with ⟨h1, h2⟩ | ⟨h1, h2⟩
        · have h1 := vw_T h1
          have h2 := vw_T h2
          exact ⟨true, false, fun _ => True, fun _ => True, fun Q => isiR_of (ty_T h1) (by decide) (by decide) (by decide), fun Q => isiR_of (ty_T h2) (by decide) (by decide) (by decide), fun Q => isiR_of (ty_T h1) (by decide) (by decide) (by decide), fun Q => isiR_of (ty_T h2) (by decide) (by decide) (by decide),
            fun Q => isltR_of (ty_T h2) (by decide) (by decide), asQ_T h1, asQ_T h2, fun R => itsR_T h1, fun R => itsR_T h2, (lk_T h1).trans (lk_T h2).symm, trivial, trivial⟩
        · obtain ⟨a1, a2, a3, okx, a4, a5⟩ := lst_facts h1
          obtain ⟨b1, b2, b3, oky, b4, b5⟩ := lst_facts h2
          exact ⟨false, true, okx, oky, fun Q => isiR_of a1 (by decide) (by decide) (by decide), fun Q => isiR_of b1 (by decide) (by decide) (by decide), fun Q => isiR_of a1 (by decide) (by decide) (by decide), fun Q => isiR_of b1 (by decide) (by decide) (by decide),
            fun Q => isltR_of b1 (by decide) (by decide), a2, b2, a5, b5, a3.trans b3.symm, a4, b4⟩
      simp only [dNext, dSeq, dBreak, dCont, dDrop, dRet, dRetN, dIf, gN, gsNil, gsCons, gT, dAsg, dSet, dPar, gSb, dAug, dFor, dVar, dC, dOp, dTst, dChain, dNot, dAnd, dOr, dNotV, dAndV, dOrV, dNeg, dNil, dCons, dTup, dLst, dCB, iiR, subR, addR, isNR, eqR_int, eqR_bl, inR, dSo, dNo, dSl, dLc, one, two, tupR, lstR, allR, anyR, sumR, intR, strR, sortR, dTupK, addKR, tupKR, dRg1, dRg2, dTupRg, dLstRg, iD, iR1, iR2, dMt, dMt0, onL, appR, extR, popR, popAtR, revR, clrR, idxR, dTIdx, iEn, iZp, dIsLT, dCall, slot, wip, ixR_tup, ixR_tpk, ixR_lst, ixR_scr, lenR_tup, lenR_tpk, lenR_lst, lenR_scr, lenR_str, walkR_tup, walkR_tpk, walkR_lst, walkR_scr, walkR_str, itsR_tup, itsR_tpk, itsR_lst, slR_tup, slR_tpk, slR_lst, slR_scr, mk_t, mk_f, asL_lst, asL_scr, asQ_tup, asQ_tpk, asQ_lst, asQ_scr, asM_lst, asT_tup, asT_tpk, atI_0, atI_1, List.map_cons, List.map_nil, List.set_cons_zero, List.set_cons_succ, List.getElem?_cons_zero, List.getElem?_cons_succ, Option.some.injEq, exists_eq_left', exists_eq_left, true_and, and_true, setR_ref', ixR_ref', lenR_ref', asQ_ref', asL_ref', isltR_int, isltR_bl, isltR_str, isltR_non, isiR_int_bool, isiR_bl_bool, isiR_str_bool, isiR_non_bool, eqR_str, eqR_non, dPar3, iRv, insR, mulLR, rpiR, atI_2, ixR_d0, ixR_d1, ixR_d2, seqP_eq, f1, f2, f3, f4, f5, lenR_Q f6, lenR_Q f7, f8, f9, he, decide_true, Bool.not_true, if_true]
      refine ⟨f10, lt_sz (by rw [zips_length]; omega), ?_⟩
      refine lc_inv (fun i acc S2 => acc = (List.replicate i true).map D.bl ∧ S2 = S) ⟨rfl, rfl⟩ (fun i acc S2 _ h => by rw [h.2]; exact ⟨f11, f12⟩) (fun i z acc S2 N hz h hN => ?_) fun acc S2 h => ?_
      · obtain ⟨rfl, rfl⟩ := h
        obtain ⟨a, b, ea, eb, rfl⟩ := zips_get hz
        simp only [dNext, dSeq, dBreak, dCont, dDrop, dRet, dRetN, dIf, gN, gsNil, gsCons, gT, dAsg, dSet, dPar, gSb, dAug, dFor, dVar, dC, dOp, dTst, dChain, dNot, dAnd, dOr, dNotV, dAndV, dOrV, dNeg, dNil, dCons, dTup, dLst, dCB, iiR, subR, addR, isNR, eqR_int, eqR_bl, inR, dSo, dNo, dSl, dLc, one, two, tupR, lstR, allR, anyR, sumR, intR, strR, sortR, dTupK, addKR, tupKR, dRg1, dRg2, dTupRg, dLstRg, iD, iR1, iR2, dMt, dMt0, onL, appR, extR, popR, popAtR, revR, clrR, idxR, dTIdx, iEn, iZp, dIsLT, dCall, slot, wip, ixR_tup, ixR_tpk, ixR_lst, ixR_scr, lenR_tup, lenR_tpk, lenR_lst, lenR_scr, lenR_str, walkR_tup, walkR_tpk, walkR_lst, walkR_scr, walkR_str, itsR_tup, itsR_tpk, itsR_lst, slR_tup, slR_tpk, slR_lst, slR_scr, mk_t, mk_f, asL_lst, asL_scr, asQ_tup, asQ_tpk, asQ_lst, asQ_scr, asM_lst, asT_tup, asT_tpk, atI_0, atI_1, List.map_cons, List.map_nil, List.set_cons_zero, List.set_cons_succ, List.getElem?_cons_zero, List.getElem?_cons_succ, Option.some.injEq, exists_eq_left', exists_eq_left, true_and, and_true, setR_ref', ixR_ref', lenR_ref', asQ_ref', asL_ref', isltR_int, isltR_bl, isltR_str, isltR_non, isiR_int_bool, isiR_bl_bool, isiR_str_bool, isiR_non_bool, eqR_str, eqR_non, dPar3, iRv, insR, mulLR, rpiR, atI_2, ixR_d0, ixR_d1, ixR_d2, seqP_eq, dYes, List.length_cons, List.length_nil]
        refine ⟨a, b, rfl, (hi i a b ea eb).vw, hN _ _ ⟨?_, rfl⟩⟩
        rw [List.replicate_succ', List.map_append]; rfl
      · obtain ⟨rfl, rfl⟩ := h
        refine ⟨_, rfl, ?_⟩
        rw [all_true]
        exact fin_same q
theorem ali_all {f : Addr} {fd : FuncData} (F : Fun K "_law_alike" "_law_alike" s__law_alike f fd) (hm : mg "_law_alike" = some (.ref f)) (m1 : mg "isinstance" = none) (m2 : mg "list" = none) (m3 : mg "tuple" = none) (m4 : mg "len" = none) (m5 : mg "all" = none) (m6 : mg "zip" = none) (m7 : mg "bool" = none) (hk : PySem.W.keepIn K (.ref f) = true) (hb : Binds K fd p__law_alike []) :
    ∀ n, Fc P w K mg base n "_law_alike" p__law_alike (sp_ali n)
  | 0 => ⟨f, fd, hm, hk, hb, ⟨fun _ _ _ _ h => h.elim, fun _ _ _ _ _ _ _ _ _ _ _ _ _ ⟨_, _, _, _, _, _, _, _, z, _⟩ => z.elim⟩⟩
  | n + 1 => ⟨f, fd, hm, hk, hb, ok__law_alike F m1 m2 m3 m4 m5 m6 m7 (ali_all F hm m1 m2 m3 m4 m5 m6 m7 hk hb n)⟩

theorem ali_sums {k : Nat} {b : Int} {F : List Int} {M : List Mk} (hF : F.length ≤ 100000) (hM : M.length ≤ 100000) (h : ∀ p ∈ M, p.1.length ≤ 100000) : Ali (k + 4) (sumsD b F M) (sumsD b F M) :=
  ali_tup (show 3 ≤ 100000 by decide) fun x hx => by
    simp only [List.mem_cons, List.not_mem_nil, or_false] at hx
    rcases hx with rfl | rfl | rfl
    · exact ali_int
    · exact ali_tpk hF
    · refine ali_tup (by rw [List.length_map]; exact hM) fun x hx => ?_
      obtain ⟨p, hp, rfl⟩ := List.mem_map.mp hx
      refine ali_tup (show 2 ≤ 100000 by decide) fun x hx => ?_
      simp only [List.mem_cons, List.not_mem_nil, or_false] at hx
      rcases hx with rfl | rfl
      · exact ali_tpk (h p hp)
      · exact ali_int
theorem ex1_ext {S S2 S3 : Sto} {p : Addr} (h : Ext1 p S S2) (x : Ext S2 S3) : Ext1 p S S3 := fun b hb => by
  rcases h b hb with z | z
  · exact .inl z
  · rcases x b with w | w
    · rw [w] at z; exact .inl z.symm
    · exact .inr (w.trans z)
def smS (n : Nat) (s : Sy) : D := sumsD 0 [] (srtM (sayM n fun as => s.so as))
def sp__law_due : SpD := fun ds S Q _ => ∃ (n : Nat) (s : Sy), ds = [s.d, .int n] ∧ n ≤ 5 ∧ s.ok n ∧ s.dep ≤ 6 ∧ ∀ S', Ext S S' → Q (smS n s) S'
abbrev s__law_due : Stmt := topS 18
abbrev n__law_due : List Str := ["_law_saying_here", "_law_questions", "_law_some", "_law_answers", "_law_one"]
abbrev p__law_due : List Str := ["_law_saying_here", "_law_questions"]
theorem sc__law_due : FnScope n__law_due p__law_due (defScope s__law_due) := ⟨rfl, rfl, rfl, by decide +kernel, rfl, by decide +kernel, by decide +kernel⟩
theorem ok__law_due {f : Addr} {fd : FuncData} (F : Fun K "_law_due" "_law_due" s__law_due f fd) (m_int : mg "int" = none) (F__law_all_answers : Fc P w K mg base k "_law_all_answers" p__law_all_answers sp__law_all_answers) (F__law_so : Fc P w K mg base k "_law_so" p__law_so (sp__law_so 6)) (F__law_sums_by_all : Fc P w K mg base k "_law_sums_by_all" p__law_sums_by_all sp__law_sums_by_all) : FnD P w K mg base (k + 1) f fd p__law_due sp__law_due := by
  refine FnD.of F sc__law_due ?_ (fun X C E' cdv A outer s H E hX hr hx po hc => by
    subst hX
    exact (dss_cons (ds_setLc (own := [("_law_answers", 3)]) false (i := 2) rfl sc__law_due.nd rfl rfl (sw_true rfl rfl rfl (by decide +kernel)) (di_seq (de_call F__law_all_answers hr xok0 (by rfl) (da_cons (dv 1) da_nil))) (by show BlkOk n__law_due (defScope s__law_due) _ [("_law_answers", 3)]; exact blkOk_by (by decide +kernel)) (fun _ _ _ _ _ => (dgc_name (i := 3) sc__law_due.nd rfl)) (fun _ _ _ _ _ => dts_nil) (fun _ _ _ _ _ => (de_call F__law_so hr xok0 (by rfl) (da_cons (dv 0) (da_cons (dv 3) da_nil)))))
      (dss_one (ds_ret (de_call F__law_sums_by_all hr xok0 (by rfl) (da_cons (dv 1) (da_cons (de_lc (own := [("_law_one", 4)]) false rfl sc__law_due.nd (di_seq (dv 2)) (by show BlkOk n__law_due (defScope s__law_due) _ [("_law_one", 4)]; exact blkOk_by (by decide +kernel)) (fun _ _ _ _ _ => (dgc_name (i := 4) sc__law_due.nd rfl)) (fun _ _ _ _ _ => dts_nil) (fun _ _ _ _ _ => (de_ix (de_lst false (da_cons (de_tupK (da_cons de_int (da_cons de_int (da_cons de_int da_nil)))) (da_cons (de_tupK (da_cons de_int (da_cons de_int (da_cons de_int da_nil)))) da_nil))) (de_bt cr_intD (by rfl) m_int b_int (da_cons (dv 4) da_nil))))) da_nil))))))) ?_
  · rintro ds S Q E ⟨n, s, rfl, _⟩; rfl
  · rintro ds S Q E' ⟨n, s, rfl, hn, so, sd, q⟩
    have n10 : n ≤ 10 := by omega
    have sd6 : s.dep ≤ 5 + 1 := by omega
    have lA : (allI n).length ≤ 1024 := by rw [allI_len]; exact pow_le10 n10
    have bb : (0 : Int) ≤ 0 ∧ (0 : Int) ≤ 1 := by decide
    have oF : RowOk (n : Int) [] := rowOk_nil (by omega)
    have oM := say_ok n fun as => s.so as
    ((try dsimp only [List.set_cons_zero, List.set_cons_succ, startD, wip, List.map_cons, List.map_nil, n__law_due]); (conv => whnf); (repeat (first | ((with_reducible refine SeqP.mk ?_); (try dsimp only [List.set_cons_zero, List.set_cons_succ, startD, wip, List.map_cons, List.map_nil, n__law_due]); (conv => whnf)) | (with_reducible apply Exists.intro) | ((with_reducible apply And.intro); (exact sdZ); (conv => whnf)) | ((first | with_reducible refine eqO_int_f ?_ | with_reducible refine eqO_int_t ?_ | with_reducible refine eqO_str_f ?_ | with_reducible refine eqO_str_t ?_ | with_reducible refine eqO_bl_f ?_ | with_reducible refine eqO_bl_t ?_ | with_reducible refine eqO_KK_f ?_ | with_reducible refine eqO_KK_t ?_ | with_reducible refine eqO_LL_f ?_ | with_reducible refine eqO_LL_t ?_); (conv => whnf)) | ((try dsimp only); (first | (rw [decide_eq_true]; rotate_left; (focus ((first | assumption | omega | rfl | decide); done))) | (rw [decide_eq_false]; rotate_left; (focus ((first | assumption | omega | rfl | decide); done)))); (conv => whnf)))))
    intro p np
    ((try dsimp only [List.set_cons_zero, List.set_cons_succ, startD, wip, List.map_cons, List.map_nil, n__law_due]); (conv => whnf); (repeat (first | ((with_reducible refine SeqP.mk ?_); (try dsimp only [List.set_cons_zero, List.set_cons_succ, startD, wip, List.map_cons, List.map_nil, n__law_due]); (conv => whnf)) | (with_reducible apply Exists.intro) | ((with_reducible apply And.intro); (exact sdZ); (conv => whnf)) | ((first | with_reducible refine eqO_int_f ?_ | with_reducible refine eqO_int_t ?_ | with_reducible refine eqO_str_f ?_ | with_reducible refine eqO_str_t ?_ | with_reducible refine eqO_bl_f ?_ | with_reducible refine eqO_bl_t ?_ | with_reducible refine eqO_KK_f ?_ | with_reducible refine eqO_KK_t ?_ | with_reducible refine eqO_LL_f ?_ | with_reducible refine eqO_LL_t ?_); (conv => whnf)) | ((try dsimp only); (first | (rw [decide_eq_true]; rotate_left; (focus ((first | assumption | omega | rfl | decide); done))) | (rw [decide_eq_false]; rotate_left; (focus ((first | assumption | omega | rfl | decide); done)))); (conv => whnf)))))
    refine lc_mapT (allI n) D.tpk (fun as => .bl (s.so as)) (asL_ref sput_same) (fun as N ha hN => ?_) ?_
    · have oa := (allI_ok n as ha).l
      have ta : tn (.tpk as) as := rfl
      ((try dsimp only [List.set_cons_zero, List.set_cons_succ, startD, wip, List.map_cons, List.map_nil, n__law_due]); (conv => whnf); (repeat (first | ((with_reducible refine SeqP.mk ?_); (try dsimp only [List.set_cons_zero, List.set_cons_succ, startD, wip, List.map_cons, List.map_nil, n__law_due]); (conv => whnf)) | (with_reducible apply Exists.intro) | ((with_reducible apply And.intro); (exact sdZ); (conv => whnf)) | ((first | with_reducible refine eqO_int_f ?_ | with_reducible refine eqO_int_t ?_ | with_reducible refine eqO_str_f ?_ | with_reducible refine eqO_str_t ?_ | with_reducible refine eqO_bl_f ?_ | with_reducible refine eqO_bl_t ?_ | with_reducible refine eqO_KK_f ?_ | with_reducible refine eqO_KK_t ?_ | with_reducible refine eqO_LL_f ?_ | with_reducible refine eqO_LL_t ?_); (conv => whnf)) | ((try dsimp only); (first | (rw [decide_eq_true]; rotate_left; (focus ((first | assumption | omega | rfl | decide); done))) | (rw [decide_eq_false]; rotate_left; (focus ((first | assumption | omega | rfl | decide); done)))); (conv => whnf)))))
      exact hN
    ((try dsimp only [List.set_cons_zero, List.set_cons_succ, startD, wip, List.map_cons, List.map_nil, n__law_due]); (conv => whnf); (repeat (first | ((with_reducible refine SeqP.mk ?_); (try dsimp only [List.set_cons_zero, List.set_cons_succ, startD, wip, List.map_cons, List.map_nil, n__law_due]); (conv => whnf)) | (with_reducible apply Exists.intro) | ((with_reducible apply And.intro); (exact sdZ); (conv => whnf)) | ((first | with_reducible refine eqO_int_f ?_ | with_reducible refine eqO_int_t ?_ | with_reducible refine eqO_str_f ?_ | with_reducible refine eqO_str_t ?_ | with_reducible refine eqO_bl_f ?_ | with_reducible refine eqO_bl_t ?_ | with_reducible refine eqO_KK_f ?_ | with_reducible refine eqO_KK_t ?_ | with_reducible refine eqO_LL_f ?_ | with_reducible refine eqO_LL_t ?_); (conv => whnf)) | ((try dsimp only); (first | (rw [decide_eq_true]; rotate_left; (focus ((first | assumption | omega | rfl | decide); done))) | (rw [decide_eq_false]; rotate_left; (focus ((first | assumption | omega | rfl | decide); done)))); (conv => whnf)))))
    refine lc_mapT (allI n) (fun as => .bl (s.so as)) (fun as => if s.so as = true then .tpk [1, 2, 0] else .tpk [0, 1, 2]) trivial (fun as N ha hN => ?_) ?_
    · cases hso : s.so as
      · rw [hso] at hN
        ((try dsimp only [List.set_cons_zero, List.set_cons_succ, startD, wip, List.map_cons, List.map_nil, n__law_due]); (conv => whnf); (repeat (first | ((with_reducible refine SeqP.mk ?_); (try dsimp only [List.set_cons_zero, List.set_cons_succ, startD, wip, List.map_cons, List.map_nil, n__law_due]); (conv => whnf)) | (with_reducible apply Exists.intro) | ((with_reducible apply And.intro); (exact sdZ); (conv => whnf)) | ((first | with_reducible refine eqO_int_f ?_ | with_reducible refine eqO_int_t ?_ | with_reducible refine eqO_str_f ?_ | with_reducible refine eqO_str_t ?_ | with_reducible refine eqO_bl_f ?_ | with_reducible refine eqO_bl_t ?_ | with_reducible refine eqO_KK_f ?_ | with_reducible refine eqO_KK_t ?_ | with_reducible refine eqO_LL_f ?_ | with_reducible refine eqO_LL_t ?_); (conv => whnf)) | ((try dsimp only); (first | (rw [decide_eq_true]; rotate_left; (focus ((first | assumption | omega | rfl | decide); done))) | (rw [decide_eq_false]; rotate_left; (focus ((first | assumption | omega | rfl | decide); done)))); (conv => whnf)))))
        exact hN
      · rw [hso] at hN
        ((try dsimp only [List.set_cons_zero, List.set_cons_succ, startD, wip, List.map_cons, List.map_nil, n__law_due]); (conv => whnf); (repeat (first | ((with_reducible refine SeqP.mk ?_); (try dsimp only [List.set_cons_zero, List.set_cons_succ, startD, wip, List.map_cons, List.map_nil, n__law_due]); (conv => whnf)) | (with_reducible apply Exists.intro) | ((with_reducible apply And.intro); (exact sdZ); (conv => whnf)) | ((first | with_reducible refine eqO_int_f ?_ | with_reducible refine eqO_int_t ?_ | with_reducible refine eqO_str_f ?_ | with_reducible refine eqO_str_t ?_ | with_reducible refine eqO_bl_f ?_ | with_reducible refine eqO_bl_t ?_ | with_reducible refine eqO_KK_f ?_ | with_reducible refine eqO_KK_t ?_ | with_reducible refine eqO_LL_f ?_ | with_reducible refine eqO_LL_t ?_); (conv => whnf)) | ((try dsimp only); (first | (rw [decide_eq_true]; rotate_left; (focus ((first | assumption | omega | rfl | decide); done))) | (rw [decide_eq_false]; rotate_left; (focus ((first | assumption | omega | rfl | decide); done)))); (conv => whnf)))))
        exact hN
    have em : (allI n).map (fun as => if s.so as = true then D.tpk [1, 2, 0] else .tpk [0, 1, 2]) = (allI n).map fun as => D.tpk (comeI 0 [] (sayM n fun as => s.so as) as) := by
      refine List.map_congr_left fun as ha => ?_
      rw [say_come (allI_ok n as ha)]
      split <;> rfl
    rw [em]
    ((try dsimp only [List.set_cons_zero, List.set_cons_succ, startD, wip, List.map_cons, List.map_nil, n__law_due]); (conv => whnf); (repeat (first | ((with_reducible refine SeqP.mk ?_); (try dsimp only [List.set_cons_zero, List.set_cons_succ, startD, wip, List.map_cons, List.map_nil, n__law_due]); (conv => whnf)) | (with_reducible apply Exists.intro) | ((with_reducible apply And.intro); (exact sdZ); (conv => whnf)) | ((first | with_reducible refine eqO_int_f ?_ | with_reducible refine eqO_int_t ?_ | with_reducible refine eqO_str_f ?_ | with_reducible refine eqO_str_t ?_ | with_reducible refine eqO_bl_f ?_ | with_reducible refine eqO_bl_t ?_ | with_reducible refine eqO_KK_f ?_ | with_reducible refine eqO_KK_t ?_ | with_reducible refine eqO_LL_f ?_ | with_reducible refine eqO_LL_t ?_); (conv => whnf)) | ((try dsimp only); (first | (rw [decide_eq_true]; rotate_left; (focus ((first | assumption | omega | rfl | decide); done))) | (rw [decide_eq_false]; rotate_left; (focus ((first | assumption | omega | rfl | decide); done)))); (conv => whnf)))))
    exact fin_same (q _ (Ext.refl.put np))

def prD54 (p : Nat × Sy) : D := .tup [p.2.d, .int p.1, smS p.1 p.2]
def Pr54 (p : Nat × Sy) : Prop := p.1 ≤ 5 ∧ p.2.dep ≤ 6 ∧ p.2.ok p.1
def sp_law : SpD := fun ds S Q _ => ∃ ns : List Int, ds = [.scr ns] ∧ ns.length ≤ 63 ∧ Q (.bl true) S
abbrev s_law : Stmt := topS 19
abbrev n_law : List Str := ["_law_script", "_law_asked", "_law_k", "_law_box_here", "_law_questions", "_law_saying_here", "_law_many", "_law_due_here"]
abbrev p_law : List Str := ["_law_script"]
theorem sc_law : FnScope n_law p_law (defScope s_law) := ⟨rfl, rfl, rfl, by decide +kernel, rfl, by decide +kernel, by decide +kernel⟩
theorem ok_law {f : Addr} {fd : FuncData} (F : Fun K "law" "law" s_law f fd) (m_range : mg "range" = none) (m_max : mg "max" = none) (m_min : mg "min" = none) (m_len : mg "len" = none) (m_all : mg "all" = none) (F__law_box : Fc P w K mg base k "_law_box" p__law_box sp__law_box) (F__law_take : Fc P w K mg base k "_law_take" p__law_take sp__law_take) (F__law_saying : Fc P w K mg base k "_law_saying" p__law_saying (sp__law_saying 6)) (F__law_due : Fc P w K mg base k "_law_due" p__law_due sp__law_due) (F__law_alike : Fc P w K mg base k "_law_alike" p__law_alike (sp_ali 5)) (F_sums_of_saying : Fc P w K mg base k "sums_of_saying" p_sums_of_saying sp_sums_of_saying) : FnD P w K mg base (k + 1) f fd p_law sp_law := by
  refine FnD.of F sc_law ?_ (fun X C E' cdv A outer s H E hX hr hx po hc => by
    subst hX
    exact (dss_cons (ds_set (i := 1) sc_law.nd rfl (de_lst true da_nil))
      (dss_cons (ds_for po rfl (di_r1 (by rfl) m_range (de_b (cr_max2D rfl) (by rfl) m_max b_max (da_cons de_int (da_cons (de_b (cr_min2D rfl) (by rfl) m_min b_min (da_cons (de_b cr_len (by rfl) m_len b_len (da_cons (dv 0) da_nil)) (da_cons de_int da_nil))) da_nil)))) (dg_name (i := 2) sc_law.nd rfl) (dss_cons (ds_set (i := 3) sc_law.nd rfl (de_call F__law_box hr xok0 (by rfl) (da_cons (dv 0) (da_cons (dv 2) da_nil))))
      (dss_cons (ds_set (i := 4) sc_law.nd rfl (de_op (or_add false) de_int (de_call F__law_take hr xok0 (by rfl) (da_cons (dv 3) (da_cons de_int da_nil)))))
      (dss_cons (ds_set (i := 5) sc_law.nd rfl (de_call F__law_saying hr xok0 (by rfl) (da_cons (dv 3) (da_cons (de_op (or_add false) de_int (de_call F__law_take hr xok0 (by rfl) (da_cons (dv 3) (da_cons (dv 4) da_nil)))) (da_cons de_int (da_cons de_int da_nil))))))
      (dss_one (ds_expr (de_m PySem.F.plainAttrs_list PySem.F.slot_list_append PySem.F.type_list_append mt_app (dv 1) (da_cons (de_tup (da_cons (dv 5) (da_cons (dv 4) (da_cons (de_call F__law_due hr xok0 (by rfl) (da_cons (dv 5) (da_cons (dv 4) da_nil))) da_nil)))) da_nil))))))))
      (dss_one (ds_ret (de_b (cr_allD rfl) (by rfl) m_all b_all (da_cons (de_lc (own := [("_law_saying_here", 5), ("_law_many", 6), ("_law_due_here", 7)]) false rfl sc_law.nd (di_seq (de_op (or_add false) (dv 1) (de_sl false (dv 1) do_no (do_so de_int)))) (by show BlkOk n_law (defScope s_law) _ [("_law_saying_here", 5), ("_law_many", 6), ("_law_due_here", 7)]; exact blkOk_by (by decide +kernel)) (fun _ _ _ _ _ => (dgc_tup (n := 3) rfl (dgsc_cons (dgc_name (i := 5) sc_law.nd rfl) (dgsc_cons (dgc_name (i := 6) sc_law.nd rfl) (dgsc_cons (dgc_name (i := 7) sc_law.nd rfl) dgsc_nil))))) (fun _ _ _ _ _ => dts_nil) (fun _ _ _ _ _ => (de_call F__law_alike hr xok0 (by rfl) (da_cons (de_call F_sums_of_saying hr xok0 (by rfl) (da_cons (dv 5) (da_cons (dv 6) da_nil))) (da_cons (dv 7) da_nil))))) da_nil))))))) ?_
  · rintro ds S Q E ⟨ns, rfl, _⟩; rfl
  · rintro ds S Q E' ⟨ns, rfl, hl, q⟩
    ((try dsimp only [List.set_cons_zero, List.set_cons_succ, startD, wip, List.map_cons, List.map_nil, n_law]); (conv => whnf); (repeat (first | ((with_reducible refine SeqP.mk ?_); (try dsimp only [List.set_cons_zero, List.set_cons_succ, startD, wip, List.map_cons, List.map_nil, n_law]); (conv => whnf)) | (with_reducible apply Exists.intro) | ((with_reducible apply And.intro); (exact sdZ); (conv => whnf)) | ((first | with_reducible refine eqO_int_f ?_ | with_reducible refine eqO_int_t ?_ | with_reducible refine eqO_str_f ?_ | with_reducible refine eqO_str_t ?_ | with_reducible refine eqO_bl_f ?_ | with_reducible refine eqO_bl_t ?_ | with_reducible refine eqO_KK_f ?_ | with_reducible refine eqO_KK_t ?_ | with_reducible refine eqO_LL_f ?_ | with_reducible refine eqO_LL_t ?_); (conv => whnf)) | ((try dsimp only); (first | (rw [decide_eq_true]; rotate_left; (focus ((first | assumption | omega | rfl | decide); done))) | (rw [decide_eq_false]; rotate_left; (focus ((first | assumption | omega | rfl | decide); done)))); (conv => whnf)))))
    intro p np
    ((try dsimp only [List.set_cons_zero, List.set_cons_succ, startD, wip, List.map_cons, List.map_nil, n_law]); (conv => whnf); (repeat (first | ((with_reducible refine SeqP.mk ?_); (try dsimp only [List.set_cons_zero, List.set_cons_succ, startD, wip, List.map_cons, List.map_nil, n_law]); (conv => whnf)) | (with_reducible apply Exists.intro) | ((with_reducible apply And.intro); (exact sdZ); (conv => whnf)) | ((first | with_reducible refine eqO_int_f ?_ | with_reducible refine eqO_int_t ?_ | with_reducible refine eqO_str_f ?_ | with_reducible refine eqO_str_t ?_ | with_reducible refine eqO_bl_f ?_ | with_reducible refine eqO_bl_t ?_ | with_reducible refine eqO_KK_f ?_ | with_reducible refine eqO_KK_t ?_ | with_reducible refine eqO_LL_f ?_ | with_reducible refine eqO_LL_t ?_); (conv => whnf)) | ((try dsimp only); (first | (rw [decide_eq_true]; rotate_left; (focus ((first | assumption | omega | rfl | decide); done))) | (rw [decide_eq_false]; rotate_left; (focus ((first | assumption | omega | rfl | decide); done)))); (conv => whnf)))))
    generalize hr : (if (if (3 : Int) < ((ns.map D.int).length : Int) then (3 : Int) else ((ns.map D.int).length : Int)) > 2 then (if (3 : Int) < ((ns.map D.int).length : Int) then (3 : Int) else ((ns.map D.int).length : Int)) else 2) = r
    have r0 : 2 ≤ r ∧ r ≤ 3 := by rw [← hr]; split <;> split <;> omega
    have lr := rngI_len (n := r) (by omega)
    refine for_inv (fun i e S2 => ∃ (L : List (Nat × Sy)) (y2 y3 y4 y5 y6 y7 : Option D), e = [some (.scr ns), some (.ref p), y2, y3, y4, y5, y6, y7] ∧ S2 p = some (.lst (L.map prD54)) ∧ Ext1 p S S2 ∧ L.length = i ∧ ∀ d ∈ L, Pr54 d) ⟨[], _, _, _, _, _, _, rfl, sput_same, Ext1.refl.put np, rfl, (fun _ h => nomatch h)⟩ (fun _ _ _ _ _ => trivial) (fun i z e S2 N hz h hN => ?_) fun e S2 h => ?_
    · obtain ⟨L, y2, y3, y4, y5, y6, y7, rfl, hp, hx, li, hL⟩ := h
      have hi := (List.getElem?_eq_some_iff.mp hz).1
      rw [List.length_map] at hi
      obtain ⟨k, hk, rfl⟩ := List.mem_map.mp (List.mem_of_getElem? hz)
      have hk := rngI_mem.mp hk
      ((try dsimp only [List.set_cons_zero, List.set_cons_succ, startD, wip, List.map_cons, List.map_nil, n_law]); (conv => whnf); (repeat (first | ((with_reducible refine SeqP.mk ?_); (try dsimp only [List.set_cons_zero, List.set_cons_succ, startD, wip, List.map_cons, List.map_nil, n_law]); (conv => whnf)) | (with_reducible apply Exists.intro) | ((with_reducible apply And.intro); (exact sdZ); (conv => whnf)) | ((first | with_reducible refine eqO_int_f ?_ | with_reducible refine eqO_int_t ?_ | with_reducible refine eqO_str_f ?_ | with_reducible refine eqO_str_t ?_ | with_reducible refine eqO_bl_f ?_ | with_reducible refine eqO_bl_t ?_ | with_reducible refine eqO_KK_f ?_ | with_reducible refine eqO_KK_t ?_ | with_reducible refine eqO_LL_f ?_ | with_reducible refine eqO_LL_t ?_); (conv => whnf)) | ((try dsimp only); (first | (rw [decide_eq_true]; rotate_left; (focus ((first | assumption | omega | rfl | decide); done))) | (rw [decide_eq_false]; rotate_left; (focus ((first | assumption | omega | rfl | decide); done)))); (conv => whnf)))))
      intro b x y nb hx1 hy1
      have bp : b ≠ p := ne_none hp nb
      have pb := bp.symm
      ((try dsimp only [List.set_cons_zero, List.set_cons_succ, startD, wip, List.map_cons, List.map_nil, n_law]); (conv => whnf); (repeat (first | ((with_reducible refine SeqP.mk ?_); (try dsimp only [List.set_cons_zero, List.set_cons_succ, startD, wip, List.map_cons, List.map_nil, n_law]); (conv => whnf)) | (with_reducible apply Exists.intro) | ((with_reducible apply And.intro); (exact sdZ); (conv => whnf)) | ((first | with_reducible refine eqO_int_f ?_ | with_reducible refine eqO_int_t ?_ | with_reducible refine eqO_str_f ?_ | with_reducible refine eqO_str_t ?_ | with_reducible refine eqO_bl_f ?_ | with_reducible refine eqO_bl_t ?_ | with_reducible refine eqO_KK_f ?_ | with_reducible refine eqO_KK_t ?_ | with_reducible refine eqO_LL_f ?_ | with_reducible refine eqO_LL_t ?_); (conv => whnf)) | ((try dsimp only); (first | (rw [decide_eq_true]; rotate_left; (focus ((first | assumption | omega | rfl | decide); done))) | (rw [decide_eq_false]; rotate_left; (focus ((first | assumption | omega | rfl | decide); done)))); (conv => whnf)))))
      intro v x y v0 v5 hx1 hy1
      rw [bxd_bxd]
      obtain ⟨n, hn, n0, n5⟩ : ∃ n : Nat, 1 + v = (n : Int) ∧ 0 < n ∧ n ≤ 5 := ⟨(1 + v).toNat, by omega, by omega, by omega⟩
      ((try dsimp only [List.set_cons_zero, List.set_cons_succ, startD, wip, List.map_cons, List.map_nil, n_law]); (conv => whnf); (repeat (first | ((with_reducible refine SeqP.mk ?_); (try dsimp only [List.set_cons_zero, List.set_cons_succ, startD, wip, List.map_cons, List.map_nil, n_law]); (conv => whnf)) | (with_reducible apply Exists.intro) | ((with_reducible apply And.intro); (exact sdZ); (conv => whnf)) | ((first | with_reducible refine eqO_int_f ?_ | with_reducible refine eqO_int_t ?_ | with_reducible refine eqO_str_f ?_ | with_reducible refine eqO_str_t ?_ | with_reducible refine eqO_bl_f ?_ | with_reducible refine eqO_bl_t ?_ | with_reducible refine eqO_KK_f ?_ | with_reducible refine eqO_KK_t ?_ | with_reducible refine eqO_LL_f ?_ | with_reducible refine eqO_LL_t ?_); (conv => whnf)) | ((try dsimp only); (first | (rw [decide_eq_true]; rotate_left; (focus ((first | assumption | omega | rfl | decide); done))) | (rw [decide_eq_false]; rotate_left; (focus ((first | assumption | omega | rfl | decide); done)))); (conv => whnf)))))
      rw [hn]
      have n0' : (0 : Int) < (n : Int) := by omega
      have nb' : (n : Int) < 1073741824 := by omega
      ((try dsimp only [List.set_cons_zero, List.set_cons_succ, startD, wip, List.map_cons, List.map_nil, n_law]); (conv => whnf); (repeat (first | ((with_reducible refine SeqP.mk ?_); (try dsimp only [List.set_cons_zero, List.set_cons_succ, startD, wip, List.map_cons, List.map_nil, n_law]); (conv => whnf)) | (with_reducible apply Exists.intro) | ((with_reducible apply And.intro); (exact sdZ); (conv => whnf)) | ((first | with_reducible refine eqO_int_f ?_ | with_reducible refine eqO_int_t ?_ | with_reducible refine eqO_str_f ?_ | with_reducible refine eqO_str_t ?_ | with_reducible refine eqO_bl_f ?_ | with_reducible refine eqO_bl_t ?_ | with_reducible refine eqO_KK_f ?_ | with_reducible refine eqO_KK_t ?_ | with_reducible refine eqO_LL_f ?_ | with_reducible refine eqO_LL_t ?_); (conv => whnf)) | ((try dsimp only); (first | (rw [decide_eq_true]; rotate_left; (focus ((first | assumption | omega | rfl | decide); done))) | (rw [decide_eq_false]; rotate_left; (focus ((first | assumption | omega | rfl | decide); done)))); (conv => whnf)))))
      intro u x y u0 u1 hx1 hy1
      rw [bxd_bxd]
      have u6 : 1 + u ≤ (n : Int) := by omega
      have u7 : 0 < 1 + u := by omega
      have u8 : 1 + u ≤ 1000 := by omega
      refine ⟨b, 1 + u, 16, 6, x, y, rfl, bxd_get, hx1, hy1, u7, u8, by decide, by decide, by decide, by decide, fun s x y so sd sp hx1 hy1 => ?_⟩
      rw [bxd_bxd]
      have so' : s.ok n := Sy.ok_mono u6 s so
      have sd6 : s.dep ≤ 6 := by omega
      ((try dsimp only [List.set_cons_zero, List.set_cons_succ, startD, wip, List.map_cons, List.map_nil, n_law]); (conv => whnf); (repeat (first | ((with_reducible refine SeqP.mk ?_); (try dsimp only [List.set_cons_zero, List.set_cons_succ, startD, wip, List.map_cons, List.map_nil, n_law]); (conv => whnf)) | (with_reducible apply Exists.intro) | ((with_reducible apply And.intro); (exact sdZ); (conv => whnf)) | ((first | with_reducible refine eqO_int_f ?_ | with_reducible refine eqO_int_t ?_ | with_reducible refine eqO_str_f ?_ | with_reducible refine eqO_str_t ?_ | with_reducible refine eqO_bl_f ?_ | with_reducible refine eqO_bl_t ?_ | with_reducible refine eqO_KK_f ?_ | with_reducible refine eqO_KK_t ?_ | with_reducible refine eqO_LL_f ?_ | with_reducible refine eqO_LL_t ?_); (conv => whnf)) | ((try dsimp only); (first | (rw [decide_eq_true]; rotate_left; (focus ((first | assumption | omega | rfl | decide); done))) | (rw [decide_eq_false]; rotate_left; (focus ((first | assumption | omega | rfl | decide); done)))); (conv => whnf)))))
      intro S3 x3
      have hp3 : S3 p = some (.lst (L.map prD54)) := x3.get ((sput_ne pb).trans hp)
      have lLm : (L.map prD54).length ≤ 100 := by rw [List.length_map]; omega
      ((try dsimp only [List.set_cons_zero, List.set_cons_succ, startD, wip, List.map_cons, List.map_nil, n_law]); (conv => whnf); (repeat (first | ((with_reducible refine SeqP.mk ?_); (try dsimp only [List.set_cons_zero, List.set_cons_succ, startD, wip, List.map_cons, List.map_nil, n_law]); (conv => whnf)) | (with_reducible apply Exists.intro) | ((with_reducible apply And.intro); (exact sdZ); (conv => whnf)) | ((first | with_reducible refine eqO_int_f ?_ | with_reducible refine eqO_int_t ?_ | with_reducible refine eqO_str_f ?_ | with_reducible refine eqO_str_t ?_ | with_reducible refine eqO_bl_f ?_ | with_reducible refine eqO_bl_t ?_ | with_reducible refine eqO_KK_f ?_ | with_reducible refine eqO_KK_t ?_ | with_reducible refine eqO_LL_f ?_ | with_reducible refine eqO_LL_t ?_); (conv => whnf)) | ((try dsimp only); (first | (rw [decide_eq_true]; rotate_left; (focus ((first | assumption | omega | rfl | decide); done))) | (rw [decide_eq_false]; rotate_left; (focus ((first | assumption | omega | rfl | decide); done)))); (conv => whnf)))))
      refine hN _ _ ⟨L ++ [(n, s)], _, _, _, _, _, _, rfl, by rw [sput_same, List.map_append]; rfl, (ex1_ext (hx.put nb) x3).at', by rw [List.length_append, li]; rfl, fun d hd => ?_⟩
      rcases List.mem_append.mp hd with hd | hd
      · exact hL d hd
      · rw [List.mem_singleton.mp hd]; exact ⟨n5, sd6, so'⟩
    · obtain ⟨L, y2, y3, y4, y5, y6, y7, rfl, hp, hx, li, hL⟩ := h
      rw [List.length_map] at li
      have c3 := cutL_len (xs := L) (lo := none) (hi := some 1)
      have lLm : (L.map prD54).length ≤ 100 := by rw [List.length_map]; omega
      have lc : (L.map prD54).length + (cutL (L.map prD54) none (some 1)).length ≤ 200 := by rw [cutL_map, List.length_map, List.length_map]; omega
      ((try dsimp only [List.set_cons_zero, List.set_cons_succ, startD, wip, List.map_cons, List.map_nil, n_law]); (conv => whnf); (repeat (first | ((with_reducible refine SeqP.mk ?_); (try dsimp only [List.set_cons_zero, List.set_cons_succ, startD, wip, List.map_cons, List.map_nil, n_law]); (conv => whnf)) | (with_reducible apply Exists.intro) | ((with_reducible apply And.intro); (exact sdZ); (conv => whnf)) | ((first | with_reducible refine eqO_int_f ?_ | with_reducible refine eqO_int_t ?_ | with_reducible refine eqO_str_f ?_ | with_reducible refine eqO_str_t ?_ | with_reducible refine eqO_bl_f ?_ | with_reducible refine eqO_bl_t ?_ | with_reducible refine eqO_KK_f ?_ | with_reducible refine eqO_KK_t ?_ | with_reducible refine eqO_LL_f ?_ | with_reducible refine eqO_LL_t ?_); (conv => whnf)) | ((try dsimp only); (first | (rw [decide_eq_true]; rotate_left; (focus ((first | assumption | omega | rfl | decide); done))) | (rw [decide_eq_false]; rotate_left; (focus ((first | assumption | omega | rfl | decide); done)))); (conv => whnf)))))
      rw [cutL_map, ← List.map_append]
      have hL2 : ∀ d ∈ L ++ cutL L none (some 1), Pr54 d := fun d hd => by
        rcases List.mem_append.mp hd with hd | hd
        · exact hL d hd
        · exact hL d (cutL_mem hd)
      have lL2 : (L ++ cutL L none (some 1)).length ≤ 200 := by rw [List.length_append]; omega
      generalize L ++ cutL L none (some 1) = Z at hL2 lL2
      have lZ : (Z.map prD54).length ≤ 200 := by rw [List.length_map]; exact lL2
      ((try dsimp only [List.set_cons_zero, List.set_cons_succ, startD, wip, List.map_cons, List.map_nil, n_law]); (conv => whnf); (repeat (first | ((with_reducible refine SeqP.mk ?_); (try dsimp only [List.set_cons_zero, List.set_cons_succ, startD, wip, List.map_cons, List.map_nil, n_law]); (conv => whnf)) | (with_reducible apply Exists.intro) | ((with_reducible apply And.intro); (exact sdZ); (conv => whnf)) | ((first | with_reducible refine eqO_int_f ?_ | with_reducible refine eqO_int_t ?_ | with_reducible refine eqO_str_f ?_ | with_reducible refine eqO_str_t ?_ | with_reducible refine eqO_bl_f ?_ | with_reducible refine eqO_bl_t ?_ | with_reducible refine eqO_KK_f ?_ | with_reducible refine eqO_KK_t ?_ | with_reducible refine eqO_LL_f ?_ | with_reducible refine eqO_LL_t ?_); (conv => whnf)) | ((try dsimp only); (first | (rw [decide_eq_true]; rotate_left; (focus ((first | assumption | omega | rfl | decide); done))) | (rw [decide_eq_false]; rotate_left; (focus ((first | assumption | omega | rfl | decide); done)))); (conv => whnf)))))
      refine lc_inv (fun i acc S3 => acc = (List.replicate i true).map D.bl ∧ Ext S2 S3) ⟨rfl, Ext.refl⟩ (fun _ _ _ _ _ => trivial) (fun i z acc S3 N hz h hN => ?_) fun acc S3 h => ?_
      · obtain ⟨rfl, x3⟩ := h
        obtain ⟨d, hd, rfl⟩ := List.mem_map.mp (List.mem_of_getElem? hz)
        obtain ⟨n5, sd6, so⟩ := hL2 d hd
        obtain ⟨n, s⟩ := d
        have n5 : n ≤ 5 := n5
        have sd6 : s.dep ≤ 6 := sd6
        have so : s.ok n := so
        have sd7 : s.dep ≤ 7 := by omega
        have om := say_ok n fun as => s.so as
        have lm := say_len n fun as => s.so as
        have l2 : 2 ^ n ≤ 1024 := pow_le10 (by omega)
        have al : Ali 4 (smS n s) (smS n s) := ali_sums (Nat.zero_le _) (by rw [(srtM_perm _).length_eq]; omega) fun p hp => by
          have : (p.1.length : Int) ≤ (n : Int) := (om.srt.ok p hp).row.len
          omega
        ((try dsimp only [List.set_cons_zero, List.set_cons_succ, startD, wip, List.map_cons, List.map_nil, n_law]); (conv => whnf); (repeat (first | ((with_reducible refine SeqP.mk ?_); (try dsimp only [List.set_cons_zero, List.set_cons_succ, startD, wip, List.map_cons, List.map_nil, n_law]); (conv => whnf)) | (with_reducible apply Exists.intro) | ((with_reducible apply And.intro); (exact sdZ); (conv => whnf)) | ((first | with_reducible refine eqO_int_f ?_ | with_reducible refine eqO_int_t ?_ | with_reducible refine eqO_str_f ?_ | with_reducible refine eqO_str_t ?_ | with_reducible refine eqO_bl_f ?_ | with_reducible refine eqO_bl_t ?_ | with_reducible refine eqO_KK_f ?_ | with_reducible refine eqO_KK_t ?_ | with_reducible refine eqO_LL_f ?_ | with_reducible refine eqO_LL_t ?_); (conv => whnf)) | ((try dsimp only); (first | (rw [decide_eq_true]; rotate_left; (focus ((first | assumption | omega | rfl | decide); done))) | (rw [decide_eq_false]; rotate_left; (focus ((first | assumption | omega | rfl | decide); done)))); (conv => whnf)))))
        intro S4 x4
        have al : Ali 4 (sumsD 0 [] (srtM (sayM n fun as => s.so as))) (smS n s) := al
        ((try dsimp only [List.set_cons_zero, List.set_cons_succ, startD, wip, List.map_cons, List.map_nil, n_law]); (conv => whnf); (repeat (first | ((with_reducible refine SeqP.mk ?_); (try dsimp only [List.set_cons_zero, List.set_cons_succ, startD, wip, List.map_cons, List.map_nil, n_law]); (conv => whnf)) | (with_reducible apply Exists.intro) | ((with_reducible apply And.intro); (exact sdZ); (conv => whnf)) | ((first | with_reducible refine eqO_int_f ?_ | with_reducible refine eqO_int_t ?_ | with_reducible refine eqO_str_f ?_ | with_reducible refine eqO_str_t ?_ | with_reducible refine eqO_bl_f ?_ | with_reducible refine eqO_bl_t ?_ | with_reducible refine eqO_KK_f ?_ | with_reducible refine eqO_KK_t ?_ | with_reducible refine eqO_LL_f ?_ | with_reducible refine eqO_LL_t ?_); (conv => whnf)) | ((try dsimp only); (first | (rw [decide_eq_true]; rotate_left; (focus ((first | assumption | omega | rfl | decide); done))) | (rw [decide_eq_false]; rotate_left; (focus ((first | assumption | omega | rfl | decide); done)))); (conv => whnf)))))
        refine hN _ _ ⟨?_, x3.trans x4⟩
        rw [List.replicate_succ', List.map_append]; rfl
      · obtain ⟨rfl, x3⟩ := h
        ((try dsimp only [List.set_cons_zero, List.set_cons_succ, startD, wip, List.map_cons, List.map_nil, n_law]); (conv => whnf); (repeat (first | ((with_reducible refine SeqP.mk ?_); (try dsimp only [List.set_cons_zero, List.set_cons_succ, startD, wip, List.map_cons, List.map_nil, n_law]); (conv => whnf)) | (with_reducible apply Exists.intro) | ((with_reducible apply And.intro); (exact sdZ); (conv => whnf)) | ((first | with_reducible refine eqO_int_f ?_ | with_reducible refine eqO_int_t ?_ | with_reducible refine eqO_str_f ?_ | with_reducible refine eqO_str_t ?_ | with_reducible refine eqO_bl_f ?_ | with_reducible refine eqO_bl_t ?_ | with_reducible refine eqO_KK_f ?_ | with_reducible refine eqO_KK_t ?_ | with_reducible refine eqO_LL_f ?_ | with_reducible refine eqO_LL_t ?_); (conv => whnf)) | ((try dsimp only); (first | (rw [decide_eq_true]; rotate_left; (focus ((first | assumption | omega | rfl | decide); done))) | (rw [decide_eq_false]; rotate_left; (focus ((first | assumption | omega | rfl | decide); done)))); (conv => whnf)))))
        rw [all_true]
        exact fin_drop (x3.drop.trans (ex1_drop hx np)) q


end
structure FAt (K : PySem.W.Frag) (mg : Str → Option Value) (x : Str) (st : Stmt) : Prop where
  ex : ∃ (f : Addr) (fd : FuncData), L2.Fun K x x st f fd ∧ mg x = some (.ref f) ∧ PySem.W.keepIn K (.ref f) = true
theorem FAt.of {K : PySem.W.Frag} {h : Heap} {mg : Str → Option Value} {x : Str} {st : Stmt} {f : Addr} {oc : Value} {od an : Option Addr} {osl : Array (Option Value)} {kV doc pm cdv ct : Value} (X : K.In h) (G : h.Ns mainGlobals mg) (a : PySem.W.nsIn K mainGlobals x = some (some (.ref f))) (l : K.lookup f = some ⟨oc, od, .func (PySem.W.fnOf x x (defArgs st) (defBody st) (defScope st) .none kV doc pm an cdv ct), osl⟩) (c : PySem.W.codeIn K cdv x = true) (k : PySem.W.keepIn K (.ref f) = true) : FAt K mg x st := ⟨⟨f, _, fun_mk l c k, PySem.W.mg_of X G a, k⟩⟩
theorem hd_all_answers {P : Program} {w : World} {K : PySem.W.Frag} {mg : Str → Option Value} {base : Heap} (d : FAt K mg "all_answers" s_all_answers) (m_range : mg "range" = none) : ∀ k, 1 ≤ k → Fc P w K mg base k "all_answers" p_all_answers sp_all_answers := by
  obtain ⟨f, fd, F, hm, hk⟩ := d.ex
  have b := F.binds (ps := p_all_answers) fun _ _ _ _ _ _ us hl => match us, hl with | [_], _ => rfl
  exact fun k h => ⟨f, fd, hm, hk, b, (ok_all_answers (k := 0) F m_range ).mono h⟩
theorem hd_inner {P : Program} {w : World} {K : PySem.W.Frag} {mg : Str → Option Value} {base : Heap} (d : FAt K mg "inner" s_inner)  : ∀ k, 1 ≤ k → Fc P w K mg base k "inner" p_inner sp_inner := by
  obtain ⟨f, fd, F, hm, hk⟩ := d.ex
  have b := F.binds (ps := p_inner) fun _ _ _ _ _ _ us hl => match us, hl with | [_], _ => rfl
  exact fun k h => ⟨f, fd, hm, hk, b, (ok_inner (k := 0) F  ).mono h⟩
theorem hd_is_so {P : Program} {w : World} {K : PySem.W.Frag} {mg : Str → Option Value} {base : Heap} (d : FAt K mg "is_so" s_is_so) (m_len : mg "len" = none) (fcm_inner : ∀ k, 1 ≤ k → Fc P w K mg base k "inner" p_inner sp_inner) : ∀ k, 8 ≤ k → Fc P w K mg base k "is_so" p_is_so (sp_is_so 7) := by
  obtain ⟨f, fd, F, hm, hk⟩ := d.ex
  have b := F.binds (ps := p_is_so) fun _ _ _ _ _ _ us hl => match us, hl with | [_, _], _ => rfl
  have q : Fc P w K mg base 8 "is_so" p_is_so (sp_is_so 7) := is_so_all F hm m_len (fun k h => fcm_inner k (Nat.le_trans (by decide) h)) hk b 7
  exact fun k h => by obtain ⟨f, fd, q1, q2, q3, q4⟩ := q.ex; exact ⟨f, fd, q1, q2, q3, q4.mono h⟩
theorem hd_spread {P : Program} {w : World} {K : PySem.W.Frag} {mg : Str → Option Value} {base : Heap} (d : FAt K mg "spread" s_spread) (m_len : mg "len" = none) : ∀ k, 6 ≤ k → Fc P w K mg base k "spread" p_spread (sp_spread 6) := by
  obtain ⟨f, fd, F, hm, hk⟩ := d.ex
  have b := F.binds (ps := p_spread) fun _ _ _ _ _ _ us hl => match us, hl with | [_, _], _ => rfl
  have q : Fc P w K mg base 6 "spread" p_spread (sp_spread 6) := spread_all F hm m_len  hk b 6
  exact fun k h => by obtain ⟨f, fd, q1, q2, q3, q4⟩ := q.ex; exact ⟨f, fd, q1, q2, q3, q4.mono h⟩
theorem hd_sums_of_saying {P : Program} {w : World} {K : PySem.W.Frag} {mg : Str → Option Value} {base : Heap} (d : FAt K mg "sums_of_saying" s_sums_of_saying) (m_int : mg "int" = none) (m_tuple : mg "tuple" = none) (m_sorted : mg "sorted" = none) (fcm_spread : ∀ k, 6 ≤ k → Fc P w K mg base k "spread" p_spread (sp_spread 6)) (fcm_all_answers : ∀ k, 1 ≤ k → Fc P w K mg base k "all_answers" p_all_answers sp_all_answers) (fcm_is_so : ∀ k, 8 ≤ k → Fc P w K mg base k "is_so" p_is_so (sp_is_so 7)) : ∀ k, 9 ≤ k → Fc P w K mg base k "sums_of_saying" p_sums_of_saying sp_sums_of_saying := by
  obtain ⟨f, fd, F, hm, hk⟩ := d.ex
  have b := F.binds (ps := p_sums_of_saying) fun _ _ _ _ _ _ us hl => match us, hl with | [_, _], _ => rfl
  exact fun k h => ⟨f, fd, hm, hk, b, (ok_sums_of_saying (k := 8) F m_int m_tuple m_sorted (fcm_spread 8 (by decide)) (fcm_all_answers 8 (by decide)) (fcm_is_so 8 (by decide))).mono h⟩
theorem hd__law_box {P : Program} {w : World} {K : PySem.W.Frag} {mg : Str → Option Value} {base : Heap} (d : FAt K mg "_law_box" s__law_box) (m_len : mg "len" = none) (m_int : mg "int" = none) : ∀ k, 1 ≤ k → Fc P w K mg base k "_law_box" p__law_box sp__law_box := by
  obtain ⟨f, fd, F, hm, hk⟩ := d.ex
  have b := F.binds (ps := p__law_box) fun _ _ _ _ _ _ us hl => match us, hl with | [_, _], _ => rfl
  exact fun k h => ⟨f, fd, hm, hk, b, (ok__law_box (k := 0) F m_len m_int ).mono h⟩
theorem hd__law_take {P : Program} {w : World} {K : PySem.W.Frag} {mg : Str → Option Value} {base : Heap} (d : FAt K mg "_law_take" s__law_take)  : ∀ k, 1 ≤ k → Fc P w K mg base k "_law_take" p__law_take sp__law_take := by
  obtain ⟨f, fd, F, hm, hk⟩ := d.ex
  have b := F.binds (ps := p__law_take) fun _ _ _ _ _ _ us hl => match us, hl with | [_, _], _ => rfl
  exact fun k h => ⟨f, fd, hm, hk, b, (ok__law_take (k := 0) F  ).mono h⟩
theorem hd__law_saying {P : Program} {w : World} {K : PySem.W.Frag} {mg : Str → Option Value} {base : Heap} (d : FAt K mg "_law_saying" s__law_saying) (m_max : mg "max" = none) (fcm__law_take : ∀ k, 1 ≤ k → Fc P w K mg base k "_law_take" p__law_take sp__law_take) : ∀ k, 7 ≤ k → Fc P w K mg base k "_law_saying" p__law_saying (sp__law_saying 6) := by
  obtain ⟨f, fd, F, hm, hk⟩ := d.ex
  have b := F.binds (ps := p__law_saying) fun _ _ _ _ _ _ us hl => match us, hl with | [_, _, _, _], _ => rfl
  have q : Fc P w K mg base 7 "_law_saying" p__law_saying (sp__law_saying 6) := _law_saying_all F hm m_max (fun k h => fcm__law_take k (Nat.le_trans (by decide) h)) hk b 6
  exact fun k h => by obtain ⟨f, fd, q1, q2, q3, q4⟩ := q.ex; exact ⟨f, fd, q1, q2, q3, q4.mono h⟩
theorem hd__law_so {P : Program} {w : World} {K : PySem.W.Frag} {mg : Str → Option Value} {base : Heap} (d : FAt K mg "_law_so" s__law_so)  : ∀ k, 6 ≤ k → Fc P w K mg base k "_law_so" p__law_so (sp__law_so 6) := by
  obtain ⟨f, fd, F, hm, hk⟩ := d.ex
  have b := F.binds (ps := p__law_so) fun _ _ _ _ _ _ us hl => match us, hl with | [_, _], _ => rfl
  have q : Fc P w K mg base 6 "_law_so" p__law_so (sp__law_so 6) := _law_so_all F hm   hk b 6
  exact fun k h => by obtain ⟨f, fd, q1, q2, q3, q4⟩ := q.ex; exact ⟨f, fd, q1, q2, q3, q4.mono h⟩
theorem hd__law_all_answers {P : Program} {w : World} {K : PySem.W.Frag} {mg : Str → Option Value} {base : Heap} (d : FAt K mg "_law_all_answers" s__law_all_answers) (m_range : mg "range" = none) : ∀ k, 1 ≤ k → Fc P w K mg base k "_law_all_answers" p__law_all_answers sp__law_all_answers := by
  obtain ⟨f, fd, F, hm, hk⟩ := d.ex
  have b := F.binds (ps := p__law_all_answers) fun _ _ _ _ _ _ us hl => match us, hl with | [_], _ => rfl
  exact fun k h => ⟨f, fd, hm, hk, b, (ok__law_all_answers (k := 0) F m_range ).mono h⟩
theorem hd__law_sets {P : Program} {w : World} {K : PySem.W.Frag} {mg : Str → Option Value} {base : Heap} (d : FAt K mg "_law_sets" s__law_sets) (m_range : mg "range" = none) : ∀ k, 1 ≤ k → Fc P w K mg base k "_law_sets" p__law_sets sp__law_sets := by
  obtain ⟨f, fd, F, hm, hk⟩ := d.ex
  have b := F.binds (ps := p__law_sets) fun _ _ _ _ _ _ us hl => match us, hl with | [_], _ => rfl
  exact fun k h => ⟨f, fd, hm, hk, b, (ok__law_sets (k := 0) F m_range ).mono h⟩
theorem hd__law_sign {P : Program} {w : World} {K : PySem.W.Frag} {mg : Str → Option Value} {base : Heap} (d : FAt K mg "_law_sign" s__law_sign)  : ∀ k, 1 ≤ k → Fc P w K mg base k "_law_sign" p__law_sign sp__law_sign := by
  obtain ⟨f, fd, F, hm, hk⟩ := d.ex
  have b := F.binds (ps := p__law_sign) fun _ _ _ _ _ _ us hl => match us, hl with | [_, _], _ => rfl
  exact fun k h => ⟨f, fd, hm, hk, b, (ok__law_sign (k := 0) F  ).mono h⟩
theorem hd__law_sums_by_all {P : Program} {w : World} {K : PySem.W.Frag} {mg : Str → Option Value} {base : Heap} (d : FAt K mg "_law_sums_by_all" s__law_sums_by_all) (m_int : mg "int" = none) (m_range : mg "range" = none) (m_dict : mg "dict" = none) (m_zip : mg "zip" = none) (m_tuple : mg "tuple" = none) (m_sorted : mg "sorted" = none) (m_sum : mg "sum" = none) (fcm__law_all_answers : ∀ k, 1 ≤ k → Fc P w K mg base k "_law_all_answers" p__law_all_answers sp__law_all_answers) (fcm__law_sets : ∀ k, 1 ≤ k → Fc P w K mg base k "_law_sets" p__law_sets sp__law_sets) (fcm__law_sign : ∀ k, 1 ≤ k → Fc P w K mg base k "_law_sign" p__law_sign sp__law_sign) : ∀ k, 2 ≤ k → Fc P w K mg base k "_law_sums_by_all" p__law_sums_by_all sp__law_sums_by_all := by
  obtain ⟨f, fd, F, hm, hk⟩ := d.ex
  have b := F.binds (ps := p__law_sums_by_all) fun _ _ _ _ _ _ us hl => match us, hl with | [_, _], _ => rfl
  exact fun k h => ⟨f, fd, hm, hk, b, (ok__law_sums_by_all (k := 1) F m_int m_range m_dict m_zip m_tuple m_sorted m_sum (fcm__law_all_answers 1 (by decide)) (fcm__law_sets 1 (by decide)) (fcm__law_sign 1 (by decide))).mono h⟩
theorem hd__law_due {P : Program} {w : World} {K : PySem.W.Frag} {mg : Str → Option Value} {base : Heap} (d : FAt K mg "_law_due" s__law_due) (m_int : mg "int" = none) (fcm__law_all_answers : ∀ k, 1 ≤ k → Fc P w K mg base k "_law_all_answers" p__law_all_answers sp__law_all_answers) (fcm__law_so : ∀ k, 6 ≤ k → Fc P w K mg base k "_law_so" p__law_so (sp__law_so 6)) (fcm__law_sums_by_all : ∀ k, 2 ≤ k → Fc P w K mg base k "_law_sums_by_all" p__law_sums_by_all sp__law_sums_by_all) : ∀ k, 7 ≤ k → Fc P w K mg base k "_law_due" p__law_due sp__law_due := by
  obtain ⟨f, fd, F, hm, hk⟩ := d.ex
  have b := F.binds (ps := p__law_due) fun _ _ _ _ _ _ us hl => match us, hl with | [_, _], _ => rfl
  exact fun k h => ⟨f, fd, hm, hk, b, (ok__law_due (k := 6) F m_int (fcm__law_all_answers 6 (by decide)) (fcm__law_so 6 (by decide)) (fcm__law_sums_by_all 6 (by decide))).mono h⟩
theorem all_mk {P : Program} {w : World} {K : PySem.W.Frag} {h : Heap} {mg : Str → Option Value} {fa f7 f15 : Addr} (X : K.In h) (G : h.Ns mainGlobals mg) (hfa : mg "law" = some (.ref fa)) 
    {od7 an7 od15 an15 : Option Addr} {sl7 sl15 : Array (Option Value)} {oc7 kV7 dc7 pm7 cd7 ct7 oc15 kV15 dc15 pm15 cd15 ct15 : Value}
    (d0 : FAt K mg "all_answers" s_all_answers)
    (d1 : FAt K mg "inner" s_inner)
    (d2 : FAt K mg "is_so" s_is_so)
    (d3 : FAt K mg "spread" s_spread)
    (d4 : FAt K mg "sums_of_saying" s_sums_of_saying)
    (d5 : FAt K mg "_law_box" s__law_box)
    (d6 : FAt K mg "_law_take" s__law_take)
    (a7 : PySem.W.nsIn K mainGlobals "_law_alike" = some (some (.ref f7))) (l7 : K.lookup f7 = some ⟨oc7, od7, .func (PySem.W.fnOf "_law_alike" "_law_alike" (defArgs s__law_alike) (defBody s__law_alike) (defScope s__law_alike) .none kV7 dc7 pm7 an7 cd7 ct7), sl7⟩) (c7 : PySem.W.codeIn K cd7 "_law_alike" = true) (k7 : PySem.W.keepIn K (.ref f7) = true)
    (d8 : FAt K mg "_law_saying" s__law_saying)
    (d9 : FAt K mg "_law_so" s__law_so)
    (d10 : FAt K mg "_law_all_answers" s__law_all_answers)
    (d11 : FAt K mg "_law_sets" s__law_sets)
    (d12 : FAt K mg "_law_sign" s__law_sign)
    (d13 : FAt K mg "_law_sums_by_all" s__law_sums_by_all)
    (d14 : FAt K mg "_law_due" s__law_due)
    (a15 : PySem.W.nsIn K mainGlobals "law" = some (some (.ref f15))) (l15 : K.lookup f15 = some ⟨oc15, od15, .func (PySem.W.fnOf "law" "law" (defArgs s_law) (defBody s_law) (defScope s_law) .none kV15 dc15 pm15 an15 cd15 ct15), sl15⟩) (c15 : PySem.W.codeIn K cd15 "law" = true) (k15 : PySem.W.keepIn K (.ref f15) = true)
    (z_range : PySem.W.nsIn K mainGlobals "range" = some none) (z_len : PySem.W.nsIn K mainGlobals "len" = some none) (z_int : PySem.W.nsIn K mainGlobals "int" = some none) (z_tuple : PySem.W.nsIn K mainGlobals "tuple" = some none) (z_sorted : PySem.W.nsIn K mainGlobals "sorted" = some none) (z_isinstance : PySem.W.nsIn K mainGlobals "isinstance" = some none) (z_list : PySem.W.nsIn K mainGlobals "list" = some none) (z_all : PySem.W.nsIn K mainGlobals "all" = some none) (z_zip : PySem.W.nsIn K mainGlobals "zip" = some none) (z_bool : PySem.W.nsIn K mainGlobals "bool" = some none) (z_max : PySem.W.nsIn K mainGlobals "max" = some none) (z_dict : PySem.W.nsIn K mainGlobals "dict" = some none) (z_sum : PySem.W.nsIn K mainGlobals "sum" = some none) (z_min : PySem.W.nsIn K mainGlobals "min" = some none) :
    ∃ fd : FuncData, (∀ (s : Shared) (v : Value), BindsTo s fd ⟨[v], []⟩ [("_law_script", v)]) ∧ ∀ base : Heap, K.In base → base.Ns mainGlobals mg → FnD P w K mg base 10 fa fd ["_law_script"] sp_law := by
  have e := hfa.symm.trans (PySem.W.mg_of X G a15)
  cases e
  have m_range := PySem.W.mg_none_of X G z_range
  have m_len := PySem.W.mg_none_of X G z_len
  have m_int := PySem.W.mg_none_of X G z_int
  have m_tuple := PySem.W.mg_none_of X G z_tuple
  have m_sorted := PySem.W.mg_none_of X G z_sorted
  have m_isinstance := PySem.W.mg_none_of X G z_isinstance
  have m_list := PySem.W.mg_none_of X G z_list
  have m_all := PySem.W.mg_none_of X G z_all
  have m_zip := PySem.W.mg_none_of X G z_zip
  have m_bool := PySem.W.mg_none_of X G z_bool
  have m_max := PySem.W.mg_none_of X G z_max
  have m_dict := PySem.W.mg_none_of X G z_dict
  have m_sum := PySem.W.mg_none_of X G z_sum
  have m_min := PySem.W.mg_none_of X G z_min
  refine ⟨PySem.W.fnOf "law" "law" (defArgs s_law) (defBody s_law) (defScope s_law) .none kV15 dc15 pm15 an15 cd15 ct15, fun s v => .of_eq rfl, fun base _ _ => ?_⟩
  have fcm_all_answers := hd_all_answers (P := P) (w := w) (base := base) d0 m_range
  have fcm_inner := hd_inner (P := P) (w := w) (base := base) d1 
  have fcm_is_so := hd_is_so (P := P) (w := w) (base := base) d2 m_len fcm_inner
  have fcm_spread := hd_spread (P := P) (w := w) (base := base) d3 m_len
  have fcm_sums_of_saying := hd_sums_of_saying (P := P) (w := w) (base := base) d4 m_int m_tuple m_sorted fcm_spread fcm_all_answers fcm_is_so
  have fcm__law_box := hd__law_box (P := P) (w := w) (base := base) d5 m_len m_int
  have fcm__law_take := hd__law_take (P := P) (w := w) (base := base) d6 
  have F7 := fun_mk (st := s__law_alike) l7 c7 k7
  have b7 := F7.binds (ps := p__law_alike) fun _ _ _ _ _ _ us hl => match us, hl with | [_, _], _ => rfl
  have fc__law_alike : Fc P w K mg base 5 "_law_alike" p__law_alike (sp_ali 5) := ali_all F7 (PySem.W.mg_of X G a7) m_isinstance m_list m_tuple m_len m_all m_zip m_bool k7 b7 5
  have fcm__law_alike : ∀ k, 5 ≤ k → Fc P w K mg base k "_law_alike" p__law_alike (sp_ali 5) := fun k h => by obtain ⟨f, fd, q1, q2, q3, q4⟩ := fc__law_alike.ex; exact ⟨f, fd, q1, q2, q3, q4.mono h⟩
  have fcm__law_saying := hd__law_saying (P := P) (w := w) (base := base) d8 m_max fcm__law_take
  have fcm__law_so := hd__law_so (P := P) (w := w) (base := base) d9 
  have fcm__law_all_answers := hd__law_all_answers (P := P) (w := w) (base := base) d10 m_range
  have fcm__law_sets := hd__law_sets (P := P) (w := w) (base := base) d11 m_range
  have fcm__law_sign := hd__law_sign (P := P) (w := w) (base := base) d12 
  have fcm__law_sums_by_all := hd__law_sums_by_all (P := P) (w := w) (base := base) d13 m_int m_range m_dict m_zip m_tuple m_sorted m_sum fcm__law_all_answers fcm__law_sets fcm__law_sign
  have fcm__law_due := hd__law_due (P := P) (w := w) (base := base) d14 m_int fcm__law_all_answers fcm__law_so fcm__law_sums_by_all
  have F15 := fun_mk (st := s_law) l15 c15 k15
  exact ok_law (k := 9) F15 m_range m_max m_min m_len m_all (fcm__law_box 9 (by decide)) (fcm__law_take 9 (by decide)) (fcm__law_saying 9 (by decide)) (fcm__law_due 9 (by decide)) (fcm__law_alike 9 (by decide)) (fcm_sums_of_saying 9 (by decide))
end DL
open PySem PySem.W PyProof.Rows
set_option maxHeartbeats 0 in
theorem PySem.Challenge.cw_fivecups_k54_sums_of_sayings_holds : PySem.Challenge.rw_fivecups_k54_sums_of_sayings.Holds := by
  w_on; o_law; k_head; (case hw => w_witness2)
  k_fill
  refine DL.walk_ofD (l := PySem.Challenge.rw_fivecups_k54_sums_of_sayings) (n := 63) (k := 10) (x := "_law_script") (sp := DL.sp_law) rfl (by decide) rfl ⟨⟨rfl, by decide, by decide⟩, rfl⟩ (fun w h Y => PySem.W.kIn_of Y) ?F (fun ns hl => ⟨ns, rfl, hl, rfl⟩)
  case F =>
    intro w mg fa h KX G hmg
    refine' DL.all_mk KX G hmg ?d0 ?d1 ?d2 ?d3 ?d4 ?d5 ?d6 ?a7 ?l7 ?c7 ?k7 ?d8 ?d9 ?d10 ?d11 ?d12 ?d13 ?d14 ?a15 ?l15 ?c15 ?k15 ?z_range ?z_len ?z_int ?z_tuple ?z_sorted ?z_isinstance ?z_list ?z_all ?z_zip ?z_bool ?z_max ?z_dict ?z_sum ?z_min
    (case d0 => as_aux_lemma => (refine' DL.FAt.of KX G ?a ?l ?c ?k; (case a => k_is); (case l => k_is); (case c => k_is); (case k => k_is)))
    (case d1 => as_aux_lemma => (refine' DL.FAt.of KX G ?a ?l ?c ?k; (case a => k_is); (case l => k_is); (case c => k_is); (case k => k_is)))
    (case d2 => as_aux_lemma => (refine' DL.FAt.of KX G ?a ?l ?c ?k; (case a => k_is); (case l => k_is); (case c => k_is); (case k => k_is)))
    (case d3 => as_aux_lemma => (refine' DL.FAt.of KX G ?a ?l ?c ?k; (case a => k_is); (case l => k_is); (case c => k_is); (case k => k_is)))
    (case d4 => as_aux_lemma => (refine' DL.FAt.of KX G ?a ?l ?c ?k; (case a => k_is); (case l => k_is); (case c => k_is); (case k => k_is)))
    (case d5 => as_aux_lemma => (refine' DL.FAt.of KX G ?a ?l ?c ?k; (case a => k_is); (case l => k_is); (case c => k_is); (case k => k_is)))
    (case d6 => as_aux_lemma => (refine' DL.FAt.of KX G ?a ?l ?c ?k; (case a => k_is); (case l => k_is); (case c => k_is); (case k => k_is)))
    (case a7 => k_is); (case l7 => k_is); (case c7 => k_is); (case k7 => k_is)
    (case d8 => as_aux_lemma => (refine' DL.FAt.of KX G ?a ?l ?c ?k; (case a => k_is); (case l => k_is); (case c => k_is); (case k => k_is)))
    (case d9 => as_aux_lemma => (refine' DL.FAt.of KX G ?a ?l ?c ?k; (case a => k_is); (case l => k_is); (case c => k_is); (case k => k_is)))
    (case d10 => as_aux_lemma => (refine' DL.FAt.of KX G ?a ?l ?c ?k; (case a => k_is); (case l => k_is); (case c => k_is); (case k => k_is)))
    (case d11 => as_aux_lemma => (refine' DL.FAt.of KX G ?a ?l ?c ?k; (case a => k_is); (case l => k_is); (case c => k_is); (case k => k_is)))
    (case d12 => as_aux_lemma => (refine' DL.FAt.of KX G ?a ?l ?c ?k; (case a => k_is); (case l => k_is); (case c => k_is); (case k => k_is)))
    (case d13 => as_aux_lemma => (refine' DL.FAt.of KX G ?a ?l ?c ?k; (case a => k_is); (case l => k_is); (case c => k_is); (case k => k_is)))
    (case d14 => as_aux_lemma => (refine' DL.FAt.of KX G ?a ?l ?c ?k; (case a => k_is); (case l => k_is); (case c => k_is); (case k => k_is)))
    (case a15 => k_is); (case l15 => k_is); (case c15 => k_is); (case k15 => k_is)
    (case z_range => k_is); (case z_len => k_is); (case z_int => k_is); (case z_tuple => k_is); (case z_sorted => k_is); (case z_isinstance => k_is); (case z_list => k_is); (case z_all => k_is); (case z_zip => k_is); (case z_bool => k_is); (case z_max => k_is); (case z_dict => k_is); (case z_sum => k_is); (case z_min => k_is)
