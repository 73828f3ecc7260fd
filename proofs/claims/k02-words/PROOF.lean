import PyProof.Rows.All
import Wide.All
import OpenK.AllK
import Wide.FinOn
import KE.KStateDown
import Lean
import HandS.Base
import HandS.Call
import HandS.List
import HandS.Ends
import HandS.Exc
import HandS.ExcInit
import HandS.ExcIs
import HandS.ExcField
import HandS.Defaults
import HandS.IsInst
import HandS.Head0
import HandS.Head1
import HandS.Head2
import HandS.HeadEnd
import HandS.Words
import HandS.WordsExc
import HandS.HeadHook1
import HandS.HeadHook2
import HandS.Comp
import HandS.Dict
import HandS.Iter
import HandS.Text
import HandS.More
import HandS.Flow
import HandS.Style
import HandS.StrMore
import HandS.Zip
import HandS.Codes
import HandS.Deep
import HandS.Star
import HandS.TupAny
import HandS.TupLe
import HandS.CallSlots
import HandS.TryOnly
import HandS.WordsList
import HandS.WordsDict
import KE.LtData
import KE.SortData
import HandS.TupMul
import HandS.Wide
import HandS.ExcOwn
import HandS.Small
import KE.SortKeyHeap
import KE.KSortKey
import HandS.SortKw
import KE.KRevSl
import PySem.Challenge.RW_onetable_k02_words
section
set_option Elab.async false
set_option linter.all false
set_option maxRecDepth 100000
set_option maxHeartbeats 2000000
/-! The head's facts, for any law. -/
namespace DH
open PySem PySem.Spec PyProof.Rows L2 He

/-- one fact that the head is asked -/
inductive Fc where
  | free (x : Str)
  | int (x : Str) (i : Int)
  | str (x z : Str)
  | glo (x : Str)
  /-- an own error class x with the field f, set by its own __init__ -/
  | exc (x f : Str)
  /-- an own error class without __init__ -/
  | exc0 (x : Str)
  /-- is x below y -/
  | sub (x y : Str) (b : Bool)
deriving DecidableEq

def oexB (K : PySem.W.Frag) (C : Addr) : Bool := match K.lookup C with
  | some ⟨.type "type", _, .cls cd, sl⟩ => (match cd.mro, sl.toList with
    | .ref C' :: bm, [_, _, _, _, some (.builtin n), _] => C' == C && n == "ValueError.__new__" && !cd.hasDel && cd.hasDict && PySem.HandSPX.refsVE bm
    | _, _ => false)
  | _ => false

def dcd (p : Prop) [Decidable p] : Bool := decide p
def excB (K : PySem.W.Frag) (C : Addr) : Bool :=
  oexB K C && decide (PySem.W.findIn K (.ref C) "__setattr__" = some (some (.builtin "object.__setattr__"))) &&
  decide (PySem.W.subIn K (.ref C) (.type "BaseException") = some true) && decide (PySem.W.typeIn K (.ref C) = some (.type "type")) &&
  PySem.W.keepIn K (.ref C) &&
  decide (PySem.W.findIn K (.ref C) "__getattribute__" = some (some (.builtin "BaseException.__getattribute__"))) &&
  decide (PySem.W.findIn K (.ref C) "__getattr__" = some none) && PySem.W.hasDictIn K C &&
  decide (PySem.W.findIn K (.ref C) "__class__" = some (some (.builtin "object.__class__"))) &&
  decide (PySem.W.specialIn K (.builtin "object.__class__") "__get__" = some (some (.builtin "getset_descriptor.__get__"))) &&
  decide (PySem.W.takesIn K (.builtin "object.__class__") = some true) && decide (PySem.W.mroIn K C (.type "object") = some true) &&
  PySem.W.isClsIn K C
def ini (K : PySem.W.Frag) (C : Addr) : Addr := ma K C "__init__"
def Fc.ok (K : PySem.W.Frag) : Fc → Bool
  | .free x => Fa.ok K (.free x)
  | .int x i => Fa.ok K (.int x i)
  | .str x z => Fa.ok K (.str x z)
  | .glo x => Fa.ok K (.glo x)
  | .exc x f => Fa.ok K (.glo x) && excB K (ga K x) && decide (PySem.W.findIn K (.ref (ga K x)) f = some none) &&
      decide (PySem.W.findIn K (.ref (ga K x)) "__init__" = some (some (.ref (ini K (ga K x))))) && decide (PySem.W.typeIn K (.ref (ini K (ga K x))) = some (.type "function"))
  | .exc0 x => Fa.ok K (.glo x) && excB K (ga K x) && PySem.W.excIn K (ga K x) (.ref (ga K "BoxError") :: veBase) "ValueError.__new__"
  | .sub x y b => decide (PySem.W.exmOne K (.ref (ga K x)) (.ref (ga K y)) = some b) && decide (PySem.W.kitOne K (.ref (ga K x)) (.ref (ga K y)) = some b)

abbrev Al : Type := Bool × List FnW
def obsP (fa : List Fc) (fn : List DefD) (K : PySem.W.Frag) : Al := ((fa.all fun f => f.ok K) && fn.all fun d => d.ok K, fn.map fun d => fnW K d.at_)
def SaysP (fa : List Fc) (fn : List DefD) (K : PySem.W.Frag) : Prop := obsP fa fn K = valD fn
def obsPG (n : Nat) (fa : List Fc) (fn : List DefD) (g : Addr → Option Obj) : Al := obsP fa fn (frG g (asD g n))
def hookP (n : Nat) (fa : List Fc) (fn : List DefD) : PySem.W.Hook where
  α := Al
  obs := fun s => obsPG n fa fn s.heap.get?
  val := fun _ => valD fn
  says := fun _ h => ∃ K : PySem.W.Frag, K.In h ∧ SaysP fa fn K
  of := fun _ _ e => ⟨_, frG_in, e⟩
  keeps := fun _ _ _ ⟨K, hK, c⟩ k => ⟨K, PySem.W.Frag.In.keeps hK k, c⟩
theorem obsPG_eq {n : Nat} {fa : List Fc} {fn : List DefD} {g : Addr → Option Obj} {s : Shared} (h : ∀ a, g a = s.heap.get? a) : obsPG n fa fn g = (hookP n fa fn).obs s := by
  have e : g = s.heap.get? := funext h
  rw [e] <;> rfl
section
variable {fa : List Fc} {fn : List DefD} {K : PySem.W.Frag}
theorem SaysP.fact (c : SaysP fa fn K) {f : Fc} (h : f ∈ fa) : f.ok K = true := by
  have c1 := (ba (show ((fa.all fun f => f.ok K) && fn.all fun d => d.ok K) = true from congrArg (fun z : Al => z.1) c)).1
  exact List.all_eq_true.mp c1 f h
theorem SaysP.def_ (c : SaysP fa fn K) (i : Nat) {d : DefD} (h : fn[i]? = some d) : ∃ fd, FunD K d.name d.qual d.params d.body d.scope (d.dvs K) (d.kws K) (fAd K d.at_) fd := by
  have c2 := (ba (show ((fa.all fun f => f.ok K) && fn.all fun d => d.ok K) = true from congrArg (fun z : Al => z.1) c)).2
  have e : fn.map (fun d => fnW K d.at_) = fn.map DefD.val := congrArg (fun z : Al => z.2) c
  have e2 : (fn.map fun d => fnW K d.at_)[i]? = (fn.map DefD.val)[i]? := by rw [e]
  rw [List.getElem?_map, List.getElem?_map, h] at e2
  exact DefD.funD (Option.some.inj e2) (List.all_eq_true.mp c2 d (List.mem_of_getElem? h))
end
end DH

end

section
set_option Elab.async false
set_option linter.all false
set_option autoImplicit false
set_option maxRecDepth 100000
set_option maxHeartbeats 2000000
/-! Data: values of plain Lean, how they stand in the abstract heap, cells that may change. -/
namespace DD
open PySem PySem.Spec PyProof.Rows L2

/-- a datum: lists, tuples and dicts are as they are (nobody changes them); ref n: the n-th cell (a list or dict that may change) -/
inductive D where
  | non | bl (b : Bool) | int (i : Int) | str (s : List Nat) | tup (xs : List D) | lst (xs : List D) | dct (kvs : List (Key × D)) | ref (n : Nat) | ty (n : String) | glb (x : Str)
  /-- the error that an except suite holds: where it stands, its class, its dict; its class's name, its field -/
  | exn (a C dd : Addr) (cls f : Str) (d : D)

inductive Cell where
  | lst (xs : List D) | dct (kvs : List (Key × D)) | box

abbrev Cells := List (Option Cell)
def S' (s : List Nat) : Str := ⟨s.toArray⟩
@[simp] theorem S'_length (s : List Nat) : (S' s).length = s.length := by simp [S', Str.length]
@[simp] theorem S'_toList (s : List Nat) : (S' s).cps.toList = s := by simp [S']
theorem S'_of (x : Str) : S' x.cps.toList = x := by cases x; simp [S']
theorem S'_inj {a b : List Nat} : S' a = S' b ↔ a = b := by
  constructor
  · intro h; have := congrArg (fun x : Str => x.cps.toList) h; simpa using this
  · intro h; rw [h]

/-- where the cells stand; lists that are being made (nobody but their maker sees them) -/
structure Mu where
  ad : List Addr
  hid : List Addr
/-- what may change -/
def Lv (μ : Mu) (S : Cells) (a : Addr) : Prop := (∃ (n : Nat) (c : Cell), S[n]? = some (some c) ∧ μ.ad[n]? = some a) ∨ a ∈ μ.hid

section
variable (K : PySem.W.Frag) (mg : Str → Option Value)
def HasT (lv : Addr → Prop) (H : Hp) (a : Addr) (vs : List V) : Prop := (Rd H a (.tup vs) ∧ ¬ lv a) ∨ ∀ H, SqT K H a vs
def HasL (lv : Addr → Prop) (H : Hp) (a : Addr) (vs : List V) : Prop := (Rd H a (.lst vs) ∧ ¬ lv a) ∨ ∀ H, SqL K H a vs
mutual
inductive Val (μ : Mu) (lv : Addr → Prop) (H : Hp) : D → V → Prop
  | non : Val μ lv H .non .non
  | bl (b : Bool) : Val μ lv H (.bl b) (.bl b)
  | int (i : Int) : Val μ lv H (.int i) (.int i)
  | str (s : List Nat) : Val μ lv H (.str s) (.str (S' s))
  | ty (n : String) : Val μ lv H (.ty n) (.ty n)
  | ref {n : Nat} {a : Addr} : μ.ad[n]? = some a → Val μ lv H (.ref n) (.ref a)
  | glb {x : Str} {a : Addr} : mg x = some (.ref a) → Val μ lv H (.glb x) (.ref a)
  | tup {a : Addr} {vs : List V} {ds : List D} : HasT K lv H a vs → ValL μ lv H ds vs → Val μ lv H (.tup ds) (.ref a)
  | lst {a : Addr} {vs : List V} {ds : List D} : HasL K lv H a vs → ValL μ lv H ds vs → Val μ lv H (.lst ds) (.ref a)
  | dct {a : Addr} {o : Obj} {kvs : List (Key × V)} {kds : List (Key × D)} : H a = some (.frz o (.dK kvs)) → ¬ lv a → ValK μ lv H kds kvs → Val μ lv H (.dct kds) (.ref a)
  | exn {a C dd : Addr} {cls f : Str} {d : D} {v : V} : mg cls = some (.ref C) → H dd = some (.xd [(f, v)]) → ¬ lv dd → Val μ lv H d v → Val μ lv H (.exn a C dd cls f d) (.ref a)
inductive ValL (μ : Mu) (lv : Addr → Prop) (H : Hp) : List D → List V → Prop
  | nil : ValL μ lv H [] []
  | cons {d : D} {v : V} {ds : List D} {vs : List V} : Val μ lv H d v → ValL μ lv H ds vs → ValL μ lv H (d :: ds) (v :: vs)
inductive ValK (μ : Mu) (lv : Addr → Prop) (H : Hp) : List (Key × D) → List (Key × V) → Prop
  | nil : ValK μ lv H [] []
  | cons {k : Key} {d : D} {v : V} {ds : List (Key × D)} {vs : List (Key × V)} : Val μ lv H d v → ValK μ lv H ds vs → ValK μ lv H ((k, d) :: ds) ((k, v) :: vs)
end
end

variable {K : PySem.W.Frag} {mg : Str → Option Value}

/-- from one state to a later one, as far as data see it -/
structure Ext0 (μ : Mu) (S : Cells) (H : Hp) (μ' : Mu) (S' : Cells) (H' : Hp) : Prop where
  keep : ∀ a o, H a = some o → ¬ Lv μ S a → H' a = some o ∧ ¬ Lv μ' S' a
  pre : ∀ (n : Nat) a, μ.ad[n]? = some a → μ'.ad[n]? = some a
/-- from one state to a later one -/
structure Ext (μ : Mu) (S : Cells) (H : Hp) (μ' : Mu) (S' : Cells) (H' : Hp) : Prop extends Ext0 μ S H μ' S' H' where
  there : ∀ a o, H a = some o → ∃ o', H' a = some o'
  hid : μ'.hid = μ.hid
  same : ∀ a ∈ μ.hid, H' a = H a
theorem Ext0.trans {μ μ' μ'' : Mu} {S S' S'' : Cells} {H H' H'' : Hp} (x : Ext0 μ S H μ' S' H') (y : Ext0 μ' S' H' μ'' S'' H'') : Ext0 μ S H μ'' S'' H'' :=
  ⟨fun a o h n => let ⟨h1, n1⟩ := x.keep a o h n; y.keep a o h1 n1, fun n a h => y.pre n a (x.pre n a h)⟩
theorem Ext.refl {μ : Mu} {S : Cells} {H : Hp} : Ext μ S H μ S H := ⟨⟨fun _ _ h n => ⟨h, n⟩, fun _ _ h => h⟩, fun _ o h => ⟨o, h⟩, rfl, fun _ _ => rfl⟩
theorem Ext.trans {μ μ' μ'' : Mu} {S S' S'' : Cells} {H H' H'' : Hp} (x : Ext μ S H μ' S' H') (y : Ext μ' S' H' μ'' S'' H'') : Ext μ S H μ'' S'' H'' :=
  ⟨x.toExt0.trans y.toExt0, fun a o h => let ⟨o1, h1⟩ := x.there a o h; y.there a o1 h1, y.hid.trans x.hid, fun a h => (y.same a (by rw [x.hid]; exact h)).trans (x.same a h)⟩

section
variable {μ μ' : Mu} {S S' : Cells} {H H' : Hp}
theorem Ext0.rd (x : Ext0 μ S H μ' S' H') {a : Addr} {o : HO} (h : Rd H a o) (n : ¬ Lv μ S a) : Rd H' a o ∧ ¬ Lv μ' S' a := by
  rcases h with h | ⟨ob, h⟩
  · obtain ⟨h1, n1⟩ := x.keep a _ h n; exact ⟨.inl h1, n1⟩
  · obtain ⟨h1, n1⟩ := x.keep a _ h n; exact ⟨.inr ⟨ob, h1⟩, n1⟩
theorem Ext0.hasT (x : Ext0 μ S H μ' S' H') {a : Addr} {vs : List V} (h : HasT K (Lv μ S) H a vs) : HasT K (Lv μ' S') H' a vs := by
  rcases h with ⟨h, n⟩ | h
  · exact .inl (x.rd h n)
  · exact .inr h
theorem Ext0.hasL (x : Ext0 μ S H μ' S' H') {a : Addr} {vs : List V} (h : HasL K (Lv μ S) H a vs) : HasL K (Lv μ' S') H' a vs := by
  rcases h with ⟨h, n⟩ | h
  · exact .inl (x.rd h n)
  · exact .inr h
mutual
theorem Val.ext0 (x : Ext0 μ S H μ' S' H') : ∀ {d : D} {v : V}, Val K mg μ (Lv μ S) H d v → Val K mg μ' (Lv μ' S') H' d v
  | _, _, .non => .non
  | _, _, .bl b => .bl b
  | _, _, .int i => .int i
  | _, _, .str s => .str s
  | _, _, .ty n => .ty n
  | _, _, .ref h => .ref (x.pre _ _ h)
  | _, _, .glb h => .glb h
  | _, _, .tup h hs => .tup (x.hasT h) (ValL.ext0 x hs)
  | _, _, .lst h hs => .lst (x.hasL h) (ValL.ext0 x hs)
  | _, _, .dct h n hs => .dct (x.keep _ _ h n).1 (x.keep _ _ h n).2 (ValK.ext0 x hs)
  | _, _, .exn m h n hs => .exn m (x.keep _ _ h n).1 (x.keep _ _ h n).2 (Val.ext0 x hs)
theorem ValL.ext0 (x : Ext0 μ S H μ' S' H') : ∀ {d : List D} {v : List V}, ValL K mg μ (Lv μ S) H d v → ValL K mg μ' (Lv μ' S') H' d v
  | _, _, .nil => .nil
  | _, _, .cons h hs => .cons (Val.ext0 x h) (ValL.ext0 x hs)
theorem ValK.ext0 (x : Ext0 μ S H μ' S' H') : ∀ {d : List (Key × D)} {v : List (Key × V)}, ValK K mg μ (Lv μ S) H d v → ValK K mg μ' (Lv μ' S') H' d v
  | _, _, .nil => .nil
  | _, _, .cons h hs => .cons (Val.ext0 x h) (ValK.ext0 x hs)
end
theorem Val.ext (x : Ext μ S H μ' S' H') {d : D} {v : V} (h : Val K mg μ (Lv μ S) H d v) : Val K mg μ' (Lv μ' S') H' d v := h.ext0 x.toExt0
theorem ValL.ext (x : Ext μ S H μ' S' H') {d : List D} {v : List V} (h : ValL K mg μ (Lv μ S) H d v) : ValL K mg μ' (Lv μ' S') H' d v := h.ext0 x.toExt0
theorem ValK.ext (x : Ext μ S H μ' S' H') {d : List (Key × D)} {v : List (Key × V)} (h : ValK K mg μ (Lv μ S) H d v) : ValK K mg μ' (Lv μ' S') H' d v := h.ext0 x.toExt0
theorem HasT.sq {lv : Addr → Prop} {a : Addr} {vs : List V} (h : HasT K lv H a vs) : SqT K H a vs := by
  rcases h with ⟨h, _⟩ | h
  · exact .inl h
  · exact h H
theorem HasL.sq {lv : Addr → Prop} {a : Addr} {vs : List V} (h : HasL K lv H a vs) : SqL K H a vs := by
  rcases h with ⟨h, _⟩ | h
  · exact .inl h
  · exact h H
theorem ValL.length {lv : Addr → Prop} : ∀ {ds : List D} {vs : List V}, ValL K mg μ lv H ds vs → ds.length = vs.length
  | _, _, .nil => rfl
  | _, _, .cons _ t => by rw [List.length_cons, List.length_cons, ValL.length t]
theorem ValL.get {lv : Addr → Prop} : ∀ {ds : List D} {vs : List V} {i : Nat} {d : D}, ValL K mg μ lv H ds vs → ds[i]? = some d → ∃ v, vs[i]? = some v ∧ Val K mg μ lv H d v
  | _, _, _, _, .nil, e => by simp at e
  | _, _, 0, _, .cons h _, e => by simp at e; subst e; exact ⟨_, rfl, h⟩
  | _, _, i + 1, _, .cons _ t, e => by
    obtain ⟨v, e1, h1⟩ := ValL.get (i := i) t (by simpa using e)
    exact ⟨v, by simpa using e1, h1⟩
theorem ValL.append {lv : Addr → Prop} : ∀ {ds es : List D} {vs ws : List V}, ValL K mg μ lv H ds vs → ValL K mg μ lv H es ws → ValL K mg μ lv H (ds ++ es) (vs ++ ws)
  | _, _, _, _, .nil, s => s
  | _, _, _, _, .cons h t, s => .cons h (ValL.append t s)
theorem ValL.take {lv : Addr → Prop} : ∀ {ds : List D} {vs : List V} (n : Nat), ValL K mg μ lv H ds vs → ValL K mg μ lv H (ds.take n) (vs.take n)
  | _, _, 0, _ => by simpa using .nil
  | _, _, _ + 1, .nil => by simpa using .nil
  | _, _, n + 1, .cons h t => .cons h (ValL.take n t)
theorem ValL.drop {lv : Addr → Prop} : ∀ {ds : List D} {vs : List V} (n : Nat), ValL K mg μ lv H ds vs → ValL K mg μ lv H (ds.drop n) (vs.drop n)
  | _, _, 0, h => by simpa using h
  | _, _, _ + 1, .nil => by simpa using .nil
  | _, _, n + 1, .cons _ t => by simpa using ValL.drop n t
theorem ValL.set {lv : Addr → Prop} {d : D} {v : V} (h : Val K mg μ lv H d v) : ∀ {ds : List D} {vs : List V} (n : Nat), ValL K mg μ lv H ds vs → ValL K mg μ lv H (ds.set n d) (vs.set n v)
  | _, _, _, .nil => .nil
  | _, _, 0, .cons _ t => .cons h t
  | _, _, n + 1, .cons q t => .cons q (ValL.set h n t)
theorem ValL.of_get {lv : Addr → Prop} : ∀ {ds : List D} {vs : List V}, ds.length = vs.length → (∀ (i : Nat) d v, ds[i]? = some d → vs[i]? = some v → Val K mg μ lv H d v) → ValL K mg μ lv H ds vs
  | [], [], _, _ => .nil
  | [], _ :: _, h, _ => by simp at h
  | _ :: _, [], h, _ => by simp at h
  | d :: ds, v :: vs, h, f => .cons (f 0 d v rfl rfl) (ValL.of_get (by simpa using h) fun i d v h1 h2 => f (i + 1) d v (by simpa using h1) (by simpa using h2))
end

/-! ### cells -/
def BIG : Nat := 2 ^ 10000000
section
variable (K mg)
def CellOk (R : Nat) (μ : Mu) (lv : Addr → Prop) (H : Hp) (a : Addr) : Cell → Prop
  | .lst ds => ∃ vs, H a = some (.lst vs) ∧ ValL K mg μ lv H ds vs
  | .dct kds => ∃ kvs, H a = some (.dK kvs) ∧ ValK K mg μ lv H kds kvs
  | .box => ∃ (g m k : Int) (b : Bool), H a = some (.lst [.int g, .bl b, .int m, .int k]) ∧ 0 ≤ m ∧ m < 2 ^ 31 ∧ 0 ≤ k ∧ k.toNat + R ≤ BIG
structure Sat (R : Nat) (μ : Mu) (S : Cells) (H : Hp) : Prop where
  bud : R ≤ BIG
  len : μ.ad.length = S.length
  inj : ∀ (n m : Nat) c c' a, S[n]? = some (some c) → S[m]? = some (some c') → μ.ad[n]? = some a → μ.ad[m]? = some a → n = m
  ok : ∀ (n : Nat) c a, S[n]? = some (some c) → μ.ad[n]? = some a → CellOk K mg R μ (Lv μ S) H a c
  hid : ∀ a ∈ μ.hid, (∃ vs, H a = some (.lst vs)) ∧ ∀ (n : Nat) c, S[n]? = some (some c) → μ.ad[n]? ≠ some a
end
section
variable {R R' : Nat} {μ μ' : Mu} {S : Cells} {H : Hp}
theorem CellOk.mono {lv : Addr → Prop} {a : Addr} {c : Cell} (h : CellOk K mg R μ lv H a c) (e : R' ≤ R) : CellOk K mg R' μ lv H a c := by
  cases c with
  | lst ds => exact h
  | dct kds => exact h
  | box => obtain ⟨g, m, k, b, h1, h2, h3, h4, h5⟩ := h; exact ⟨g, m, k, b, h1, h2, h3, h4, by omega⟩
theorem Sat.mono (h : Sat K mg R μ S H) (e : R' ≤ R) : Sat K mg R' μ S H := ⟨Nat.le_trans e h.bud, h.len, h.inj, fun n c a h1 h2 => (h.ok n c a h1 h2).mono e, h.hid⟩
theorem CellOk.there {lv : Addr → Prop} {a : Addr} {c : Cell} (h : CellOk K mg R μ lv H a c) : ∃ o, H a = some o := by
  cases c with
  | lst ds => obtain ⟨vs, h, _⟩ := h; exact ⟨_, h⟩
  | dct kds => obtain ⟨vs, h, _⟩ := h; exact ⟨_, h⟩
  | box => obtain ⟨g, m, k, b, h1, _⟩ := h; exact ⟨_, h1⟩
theorem Sat.lv (h : Sat K mg R μ S H) {a : Addr} (l : Lv μ S a) : ∃ o, H a = some o := by
  rcases l with ⟨n, c, h1, h2⟩ | l
  · exact (h.ok n c a h1 h2).there
  · obtain ⟨⟨vs, e⟩, _⟩ := h.hid a l; exact ⟨_, e⟩
theorem Sat.fresh (h : Sat K mg R μ S H) {a : Addr} (n : H a = none) : ¬ Lv μ S a := fun l => by
  obtain ⟨o, e⟩ := h.lv l
  rw [n] at e; cases e
/-- a cell's content, carried on -/
theorem CellOk.carry {μ1 : Mu} {S1 : Cells} {H1 : Hp} {a : Addr} {c : Cell} (x : Ext0 μ S H μ1 S1 H1) (e : H1 a = H a) (q : CellOk K mg R μ (Lv μ S) H a c) : CellOk K mg R μ1 (Lv μ1 S1) H1 a c := by
  cases c with
  | lst ds => obtain ⟨vs, h, v⟩ := q; exact ⟨vs, e.trans h, v.ext0 x⟩
  | dct ds => obtain ⟨vs, h, v⟩ := q; exact ⟨vs, e.trans h, v.ext0 x⟩
  | box => obtain ⟨g, m, k, b, h, r⟩ := q; exact ⟨g, m, k, b, e.trans h, r⟩
/-- a heap that only grew -/
theorem Sat.grow (h : Sat K mg R μ S H) {H' : Hp} (k : ∀ a o, H a = some o → H' a = some o) : Ext μ S H μ S H' ∧ Sat K mg R μ S H' := by
  have x : Ext μ S H μ S H' := ⟨⟨fun a u e l => ⟨k a u e, l⟩, fun _ _ e => e⟩, fun a u e => ⟨u, k a u e⟩, rfl, fun a ha => by
    obtain ⟨⟨vs, e⟩, _⟩ := h.hid a ha
    rw [e, k _ _ e]⟩
  refine ⟨x, h.bud, h.len, h.inj, fun n c a h1 h2 => ?_, fun a ha => ?_⟩
  · have q := h.ok n c a h1 h2
    obtain ⟨o, e⟩ := q.there
    exact q.carry x.toExt0 (by rw [e, k _ _ e])
  · obtain ⟨⟨vs, e⟩, n⟩ := h.hid a ha
    exact ⟨⟨vs, k _ _ e⟩, n⟩
/-- a new object, not a cell -/
theorem Sat.new (h : Sat K mg R μ S H) {p : Addr} (n : H p = none) (o : HO) : Ext μ S H μ S (upd H p o) ∧ Sat K mg R μ S (upd H p o) :=
  h.grow fun a u e => by rw [upd_ne (ne_of_none e n)]; exact e
def Mu.push (μ : Mu) (p : Addr) : Mu := ⟨μ.ad ++ [p], μ.hid⟩
theorem lv_push {p : Addr} {c : Cell} (hl : μ.ad.length = S.length) (a : Addr) : Lv (μ.push p) (S ++ [some c]) a ↔ Lv μ S a ∨ a = p := by
  unfold Lv Mu.push
  constructor
  · rintro (⟨n, c', h1, h2⟩ | h)
    · dsimp only at h2
      by_cases e : n < S.length
      · rw [List.getElem?_append_left e] at h1
        rw [List.getElem?_append_left (by omega)] at h2
        exact .inl (.inl ⟨n, c', h1, h2⟩)
      · rw [List.getElem?_append_right (by omega)] at h1 h2
        have : n - S.length = 0 := by
          cases q : n - S.length with
          | zero => rfl
          | succ k => rw [q] at h1; simp at h1
        rw [hl, this] at h2
        simp at h2
        exact .inr h2.symm
    · exact .inl (.inr h)
  · rintro ((⟨n, c', h1, h2⟩ | h) | e)
    · exact .inl ⟨n, c', by rw [List.getElem?_append_left (by have := (List.getElem?_eq_some_iff.mp h1).1; exact this)]; exact h1, by rw [List.getElem?_append_left (List.getElem?_eq_some_iff.mp h2).1]; exact h2⟩
    · exact .inr h
    · subst e
      exact .inl ⟨S.length, c, by simp, by rw [← hl]; simp⟩
/-- what a new cell holds -/
def CellNew (K : PySem.W.Frag) (mg : Str → Option Value) (R : Nat) (μ : Mu) (lv : Addr → Prop) (H : Hp) (o : HO) : Cell → Prop
  | .lst ds => ∃ vs, o = .lst vs ∧ ValL K mg μ lv H ds vs
  | .dct kds => ∃ kvs, o = .dK kvs ∧ ValK K mg μ lv H kds kvs
  | .box => ∃ (g m k : Int) (b : Bool), o = .lst [.int g, .bl b, .int m, .int k] ∧ 0 ≤ m ∧ m < 2 ^ 31 ∧ 0 ≤ k ∧ k.toNat + R ≤ BIG
theorem CellNew.carry {μ1 : Mu} {S1 : Cells} {H1 : Hp} {a : Addr} {o : HO} {c : Cell} (x : Ext0 μ S H μ1 S1 H1) (e : H1 a = some o) (q : CellNew K mg R μ (Lv μ S) H o c) : CellOk K mg R μ1 (Lv μ1 S1) H1 a c := by
  cases c with
  | lst ds => obtain ⟨vs, rfl, v⟩ := q; exact ⟨vs, e, v.ext0 x⟩
  | dct ds => obtain ⟨vs, rfl, v⟩ := q; exact ⟨vs, e, v.ext0 x⟩
  | box => obtain ⟨g, m, k, b, rfl, r⟩ := q; exact ⟨g, m, k, b, e, r⟩
/-- a new cell -/
theorem Sat.cell (h : Sat K mg R μ S H) {p : Addr} (n : H p = none) (o : HO) (c : Cell) (hc : CellNew K mg R μ (Lv μ S) H o c) :
    Ext μ S H (μ.push p) (S ++ [some c]) (upd H p o) ∧ Sat K mg R (μ.push p) (S ++ [some c]) (upd H p o) := by
  obtain ⟨x0, h0⟩ := h.new n o
  have nehid : ∀ a ∈ μ.hid, a ≠ p := fun a ha => by
    obtain ⟨⟨vs, e⟩, _⟩ := h.hid a ha
    exact ne_of_none e n
  have xx : Ext μ S H (μ.push p) (S ++ [some c]) (upd H p o) :=
    ⟨⟨fun a u e l => ⟨(x0.keep a u e l).1, fun q => ((lv_push h.len a).mp q).elim l fun z => by rw [z, n] at e; cases e⟩, fun k a e => by
      show (μ.ad ++ [p])[k]? = some a
      rw [List.getElem?_append_left (List.getElem?_eq_some_iff.mp e).1]; exact e⟩, x0.there, rfl, fun a ha => upd_ne (nehid a ha)⟩
  have old : ∀ (k : Nat) c' a, (S ++ [some c])[k]? = some (some c') → (μ.ad ++ [p])[k]? = some a → (S[k]? = some (some c') ∧ μ.ad[k]? = some a) ∨ (k = S.length ∧ a = p ∧ c' = c) := by
    intro k c' a h1 h2
    by_cases e : k < S.length
    · rw [List.getElem?_append_left e] at h1
      rw [List.getElem?_append_left (by rw [h.len]; exact e)] at h2
      exact .inl ⟨h1, h2⟩
    · rw [List.getElem?_append_right (by omega)] at h1
      rw [List.getElem?_append_right (by rw [h.len]; omega)] at h2
      have z : k - S.length = 0 := by
        cases q : k - S.length with
        | zero => rfl
        | succ k => rw [q] at h1; simp at h1
      rw [z] at h1
      rw [h.len, z] at h2
      simp at h1 h2
      exact .inr ⟨by omega, h2.symm, h1.symm⟩
  have lvp : ¬ Lv μ S p := h.fresh n
  refine ⟨xx, h.bud, by simp [Mu.push, h.len], fun k m c1 c2 a h1 h2 h3 h4 => ?_, fun k c' a h1 h2 => ?_, fun a ha => ?_⟩
  · rcases old k c1 a h1 h3 with ⟨p1, p2⟩ | ⟨rfl, rfl, rfl⟩
    · rcases old m c2 a h2 h4 with ⟨q1, q2⟩ | ⟨rfl, rfl, rfl⟩
      · exact h.inj k m c1 c2 a p1 q1 p2 q2
      · exact absurd (.inl ⟨k, c1, p1, p2⟩) lvp
    · rcases old m c2 _ h2 h4 with ⟨q1, q2⟩ | ⟨rfl, _, rfl⟩
      · exact absurd (.inl ⟨m, c2, q1, q2⟩) lvp
      · rfl
  · rcases old k c' a h1 h2 with ⟨p1, p2⟩ | ⟨rfl, rfl, rfl⟩
    · have q := h.ok k c' a p1 p2
      have ne : a ≠ p := by
        obtain ⟨u, e⟩ := q.there
        exact ne_of_none e n
      exact q.carry xx.toExt0 (upd_ne ne)
    · exact hc.carry xx.toExt0 upd_same
  · obtain ⟨⟨vs, e⟩, k⟩ := h.hid a ha
    refine ⟨⟨vs, by rw [upd_ne (nehid a ha)]; exact e⟩, fun m c' h1 h2 => ?_⟩
    rcases old m c' a h1 h2 with ⟨p1, p2⟩ | ⟨_, z, _⟩
    · exact k m c' p1 p2
    · exact nehid a ha z
theorem set_get {α : Type} {S : List α} {n k : Nat} {c x : α} (h : (S.set n c)[k]? = some x) : (k = n ∧ x = c ∧ n < S.length) ∨ (k ≠ n ∧ S[k]? = some x) := by
  by_cases e : k = n
  · subst e
    have hl : k < S.length := by
      have := (List.getElem?_eq_some_iff.mp h).1
      simpa using this
    rw [List.getElem?_set_self hl] at h
    exact .inl ⟨rfl, (Option.some.inj h).symm, hl⟩
  · rw [List.getElem?_set_ne (Ne.symm e)] at h
    exact .inr ⟨e, h⟩
/-- a cell changes -/
theorem Sat.put (h : Sat K mg R μ S H) {n : Nat} {a : Addr} {c0 : Cell} (h0 : S[n]? = some (some c0)) (ha : μ.ad[n]? = some a) (o : HO) (c : Cell) (hc : CellNew K mg R μ (Lv μ S) H o c) :
    Ext μ S H μ (S.set n (some c)) (upd H a o) ∧ Sat K mg R μ (S.set n (some c)) (upd H a o) := by
  have hl : n < S.length := (List.getElem?_eq_some_iff.mp h0).1
  have back : ∀ (k : Nat) c', (S.set n (some c))[k]? = some (some c') → ∃ c'', S[k]? = some (some c'') := fun k c' e => by
    rcases set_get e with ⟨rfl, _, _⟩ | ⟨_, e⟩
    · exact ⟨_, h0⟩
    · exact ⟨_, e⟩
  have lvB : ∀ b, Lv μ (S.set n (some c)) b → Lv μ S b := fun b l => by
    rcases l with ⟨k, c', h1, h2⟩ | l
    · obtain ⟨c'', e⟩ := back k c' h1
      exact .inl ⟨k, c'', e, h2⟩
    · exact .inr l
  have lva : Lv μ S a := .inl ⟨n, c0, h0, ha⟩
  have nhid : ∀ b ∈ μ.hid, b ≠ a := fun b hb z => (h.hid b hb).2 n c0 h0 (z ▸ ha)
  have x : Ext μ S H μ (S.set n (some c)) (upd H a o) := ⟨⟨fun b u e l => by
      have ne : b ≠ a := fun z => l (z ▸ lva)
      exact ⟨by rw [upd_ne ne]; exact e, fun q => l (lvB b q)⟩, fun _ _ e => e⟩, fun b u e => by
      by_cases ne : b = a
      · exact ⟨o, by rw [ne, upd_same]⟩
      · exact ⟨u, by rw [upd_ne ne]; exact e⟩, rfl, fun b hb => upd_ne (nhid b hb)⟩
  refine ⟨x, h.bud, by simp [h.len], fun k m c1 c2 b h1 h2 h3 h4 => ?_, fun k c' b h1 h2 => ?_, fun b hb => ?_⟩
  · obtain ⟨_, g1⟩ := back k c1 h1
    obtain ⟨_, g2⟩ := back m c2 h2
    exact h.inj k m _ _ b g1 g2 h3 h4
  · rcases set_get h1 with ⟨rfl, e, _⟩ | ⟨hk, e⟩
    · have e2 : c' = c := Option.some.inj e
      subst e2
      rw [ha] at h2
      obtain rfl := Option.some.inj h2
      exact hc.carry x.toExt0 upd_same
    · have q := h.ok k c' b e h2
      have ne : b ≠ a := fun z => hk (h.inj k n c' c0 a e h0 (z ▸ h2) ha)
      exact q.carry x.toExt0 (upd_ne ne)
  · obtain ⟨⟨vs, e⟩, k⟩ := h.hid b hb
    refine ⟨⟨vs, by rw [upd_ne (nhid b hb)]; exact e⟩, fun m c' h1 h2 => ?_⟩
    obtain ⟨c'', g⟩ := back m c' h1
    exact k m c'' g h2
/-- the n-th cell is given up (what it holds stays for good) -/
theorem Sat.freeze (h : Sat K mg R μ S H) (n : Nat) : Ext μ S H μ (S.set n none) H ∧ Sat K mg R μ (S.set n none) H := by
  have hs : ∀ (k : Nat) c, (S.set n none)[k]? = some (some c) → S[k]? = some (some c) ∧ k ≠ n := fun k c e => by
    rcases set_get e with ⟨_, e, _⟩ | ⟨hk, e⟩
    · cases e
    · exact ⟨e, hk⟩
  have x : Ext μ S H μ (S.set n none) H := ⟨⟨fun a o e l => ⟨e, fun z => l (z.imp (fun ⟨k, c, h1, h2⟩ => ⟨k, c, (hs k c h1).1, h2⟩) id)⟩, fun _ _ e => e⟩, fun a o e => ⟨o, e⟩, rfl, fun _ _ => rfl⟩
  exact ⟨x, h.bud, by simp [h.len], fun k m c c' a h1 h2 h3 h4 => h.inj k m c c' a (hs k c h1).1 (hs m c' h2).1 h3 h4, fun k c a h1 h2 => (h.ok k c a (hs k c h1).1 h2).carry x.toExt0 rfl,
    fun a ha => ⟨(h.hid a ha).1, fun k c h1 => (h.hid a ha).2 k c (hs k c h1).1⟩⟩
/-- a list that is being made: hidden -/
def Mu.hide (μ : Mu) (p : Addr) : Mu := ⟨μ.ad, p :: μ.hid⟩
theorem lv_hide {p : Addr} (a : Addr) : Lv (μ.hide p) S a ↔ Lv μ S a ∨ a = p := by
  unfold Lv Mu.hide
  simp only [List.mem_cons]
  constructor
  · rintro (h | h | h)
    · exact .inl (.inl h)
    · exact .inr h
    · exact .inl (.inr h)
  · rintro ((h | h) | h)
    · exact .inl h
    · exact .inr (.inr h)
    · exact .inr (.inl h)
theorem Sat.hide (h : Sat K mg R μ S H) {p : Addr} (n : H p = none) (vs : List V) : Ext0 μ S H (μ.hide p) S (upd H p (.lst vs)) ∧ Sat K mg R (μ.hide p) S (upd H p (.lst vs)) := by
  have x : Ext0 μ S H (μ.hide p) S (upd H p (.lst vs)) := ⟨fun a u e l => by
    have ne := ne_of_none e n
    exact ⟨by rw [upd_ne ne]; exact e, fun z => ((lv_hide a).mp z).elim l ne⟩, fun _ _ e => e⟩
  refine ⟨x, h.bud, h.len, h.inj, fun k c a h1 h2 => ?_, fun a ha => ?_⟩
  · have q := h.ok k c a h1 h2
    obtain ⟨u, e⟩ := q.there
    exact q.carry x (upd_ne (ne_of_none e n))
  · rcases List.mem_cons.mp ha with rfl | ha
    · exact ⟨⟨vs, upd_same⟩, fun k c h1 h2 => (h.fresh n) (.inl ⟨k, c, h1, h2⟩)⟩
    · obtain ⟨⟨ws, e⟩, k⟩ := h.hid a ha
      exact ⟨⟨ws, by rw [upd_ne (ne_of_none e n)]; exact e⟩, k⟩
/-- the hidden list grows -/
theorem Sat.hput {p : Addr} (h : Sat K mg R (μ.hide p) S H) (vs : List V) : Ext0 (μ.hide p) S H (μ.hide p) S (upd H p (.lst vs)) ∧ Sat K mg R (μ.hide p) S (upd H p (.lst vs)) := by
  have lp : Lv (μ.hide p) S p := .inr List.mem_cons_self
  have x : Ext0 (μ.hide p) S H (μ.hide p) S (upd H p (.lst vs)) := ⟨fun a u e l => by
    have ne : a ≠ p := fun z => l (z ▸ lp)
    exact ⟨by rw [upd_ne ne]; exact e, l⟩, fun _ _ e => e⟩
  have hp := (h.hid p List.mem_cons_self).2
  refine ⟨x, h.bud, h.len, h.inj, fun k c a h1 h2 => ?_, fun a ha => ?_⟩
  · have q := h.ok k c a h1 h2
    exact q.carry x (upd_ne fun z => hp k c h1 (z ▸ h2))
  · obtain ⟨⟨ws, e⟩, k⟩ := h.hid a ha
    by_cases z : a = p
    · subst z; exact ⟨⟨vs, upd_same⟩, k⟩
    · exact ⟨⟨ws, by rw [upd_ne z]; exact e⟩, k⟩
/-- .. and is shown -/
theorem Sat.show {p : Addr} (h : Sat K mg R (μ.hide p) S H) (np : p ∉ μ.hid) : Ext0 (μ.hide p) S H μ S H ∧ Sat K mg R μ S H ∧ ¬ Lv μ S p := by
  have x : Ext0 (μ.hide p) S H μ S H := ⟨fun a u e l => ⟨e, fun z => l ((lv_hide a).mpr (.inl z))⟩, fun _ _ e => e⟩
  have hp := (h.hid p List.mem_cons_self).2
  exact ⟨x, ⟨h.bud, h.len, h.inj, fun k c a h1 h2 => (h.ok k c a h1 h2).carry x rfl, fun a ha => h.hid a (List.mem_cons_of_mem _ ha)⟩, fun z => z.elim (fun ⟨k, c, h1, h2⟩ => hp k c h1 h2) np⟩
/-- .. or becomes a cell -/
theorem Sat.toCell {p : Addr} {ds : List D} {vs : List V} (h : Sat K mg R (μ.hide p) S H) (np : p ∉ μ.hid) (e : H p = some (.lst vs)) (r : ValL K mg (μ.hide p) (Lv (μ.hide p) S) H ds vs) :
    Ext0 (μ.hide p) S H (μ.push p) (S ++ [some (.lst ds)]) H ∧ Sat K mg R (μ.push p) (S ++ [some (.lst ds)]) H := by
  have hl : μ.ad.length = S.length := h.len
  have x : Ext0 (μ.hide p) S H (μ.push p) (S ++ [some (.lst ds)]) H := ⟨fun a o q l => ⟨q, fun z => l ((lv_hide a).mpr ((lv_push hl a).mp z))⟩, fun n a q => by
    have q : μ.ad[n]? = some a := q
    show (μ.ad ++ [p])[n]? = some a
    rw [List.getElem?_append_left (List.getElem?_eq_some_iff.mp q).1]; exact q⟩
  have hp := (h.hid p List.mem_cons_self).2
  have old : ∀ (k : Nat) c' a, (S ++ [some (Cell.lst ds)])[k]? = some (some c') → (μ.ad ++ [p])[k]? = some a → (S[k]? = some (some c') ∧ μ.ad[k]? = some a) ∨ (k = S.length ∧ a = p ∧ c' = .lst ds) := by
    intro k c' a h1 h2
    by_cases e : k < S.length
    · rw [List.getElem?_append_left e] at h1
      rw [List.getElem?_append_left (by rw [hl]; exact e)] at h2
      exact .inl ⟨h1, h2⟩
    · rw [List.getElem?_append_right (by omega)] at h1
      rw [List.getElem?_append_right (by rw [hl]; omega)] at h2
      have z : k - S.length = 0 := by
        cases q : k - S.length with
        | zero => rfl
        | succ k => rw [q] at h1; simp at h1
      rw [z] at h1
      rw [hl, z] at h2
      simp at h1 h2
      exact .inr ⟨by omega, h2.symm, h1.symm⟩
  refine ⟨x, h.bud, by simp [Mu.push, hl], fun k m c1 c2 a h1 h2 h3 h4 => ?_, fun k c' a h1 h2 => ?_, fun a ha => ⟨(h.hid a (List.mem_cons_of_mem _ ha)).1, fun m c' h1 h2 => ?_⟩⟩
  · rcases old k c1 a h1 h3 with ⟨p1, p2⟩ | ⟨rfl, rfl, rfl⟩
    · rcases old m c2 a h2 h4 with ⟨q1, q2⟩ | ⟨rfl, rfl, rfl⟩
      · exact h.inj k m c1 c2 a p1 q1 p2 q2
      · exact absurd p2 (hp k c1 p1)
    · rcases old m c2 _ h2 h4 with ⟨q1, q2⟩ | ⟨rfl, _, rfl⟩
      · exact absurd q2 (hp m c2 q1)
      · rfl
  · rcases old k c' a h1 h2 with ⟨p1, p2⟩ | ⟨rfl, rfl, rfl⟩
    · exact (h.ok k c' a p1 p2).carry x rfl
    · exact ⟨vs, e, r.ext0 x⟩
  · rcases old m c' a h1 h2 with ⟨p1, p2⟩ | ⟨_, z, _⟩
    · exact (h.hid a (List.mem_cons_of_mem _ ha)).2 m c' p1 p2
    · exact np (z ▸ ha)
end
/-! ### the last cells are forgotten -/
mutual
def D.rb (n : Nat) : D → Bool
  | .ref k => decide (k < n)
  | .tup xs => rbL n xs
  | .lst xs => rbL n xs
  | .dct kvs => rbK n kvs
  | .exn _ _ _ _ _ d => d.rb n
  | _ => true
def rbL (n : Nat) : List D → Bool
  | [] => true
  | d :: ds => d.rb n && rbL n ds
def rbK (n : Nat) : List (Key × D) → Bool
  | [] => true
  | (_, d) :: ds => d.rb n && rbK n ds
end
section
variable {R : Nat} {μ : Mu} {S : Cells} {H : Hp}
theorem take_get {α : Type} {l : List α} {n k : Nat} {x : α} (h : (l.take n)[k]? = some x) : l[k]? = some x ∧ k < n := by
  by_cases e : k < n
  · rw [List.getElem?_take_of_lt e] at h; exact ⟨h, e⟩
  · rw [List.getElem?_eq_none (by simp; omega)] at h; cases h
def Mu.take (μ : Mu) (n : Nat) : Mu := ⟨μ.ad.take n, μ.hid⟩
theorem Lv.take {n : Nat} {a : Addr} (h : Lv (μ.take n) (S.take n) a) : Lv μ S a := by
  rcases h with ⟨k, c, h1, h2⟩ | h
  · exact .inl ⟨k, c, (take_get h1).1, (take_get h2).1⟩
  · exact .inr h
mutual
theorem Val.take {n : Nat} : ∀ {d : D} {v : V}, Val K mg μ (Lv μ S) H d v → d.rb n = true → Val K mg (μ.take n) (Lv (μ.take n) (S.take n)) H d v
  | _, _, .non, _ => .non
  | _, _, .bl b, _ => .bl b
  | _, _, .int i, _ => .int i
  | _, _, .str s, _ => .str s
  | _, _, .ty n, _ => .ty n
  | _, _, .ref (n := k) h, e => .ref (by
    show (μ.ad.take n)[k]? = _
    rw [List.getElem?_take_of_lt (by simpa [D.rb] using e)]; exact h)
  | _, _, .glb h, _ => .glb h
  | _, _, .tup h hs, e => .tup (h.imp (fun ⟨h, l⟩ => ⟨h, fun z => l z.take⟩) id) (ValL.takeC hs (by simpa [D.rb] using e))
  | _, _, .lst h hs, e => .lst (h.imp (fun ⟨h, l⟩ => ⟨h, fun z => l z.take⟩) id) (ValL.takeC hs (by simpa [D.rb] using e))
  | _, _, .dct h l hs, e => .dct h (fun z => l z.take) (ValK.takeC hs (by simpa [D.rb] using e))
  | _, _, .exn m h l hs, e => .exn m h (fun z => l z.take) (Val.take hs (by simpa [D.rb] using e))
theorem ValL.takeC {n : Nat} : ∀ {d : List D} {v : List V}, ValL K mg μ (Lv μ S) H d v → rbL n d = true → ValL K mg (μ.take n) (Lv (μ.take n) (S.take n)) H d v
  | _, _, .nil, _ => .nil
  | _, _, .cons h hs, e => by
    simp only [rbL, Bool.and_eq_true] at e
    exact .cons (Val.take h e.1) (ValL.takeC hs e.2)
theorem ValK.takeC {n : Nat} : ∀ {d : List (Key × D)} {v : List (Key × V)}, ValK K mg μ (Lv μ S) H d v → rbK n d = true → ValK K mg (μ.take n) (Lv (μ.take n) (S.take n)) H d v
  | _, _, .nil, _ => .nil
  | _, _, .cons h hs, e => by
    simp only [rbK, Bool.and_eq_true] at e
    exact .cons (Val.take h e.1) (ValK.takeC hs e.2)
end
def Cell.rb (n : Nat) : Cell → Bool
  | .lst xs => rbL n xs
  | .dct kvs => rbK n kvs
  | .box => true
def cellsRb (n : Nat) (S : Cells) : Bool := S.all fun c => match c with
  | some c => c.rb n
  | none => true
theorem Sat.take (h : Sat K mg R μ S H) {n : Nat} (e : cellsRb n (S.take n) = true) : Sat K mg R (μ.take n) (S.take n) H := by
  refine ⟨h.bud, by simp [Mu.take, h.len], fun k m c c' a h1 h2 h3 h4 => h.inj k m c c' a (take_get h1).1 (take_get h2).1 (take_get h3).1 (take_get h4).1, fun k c a h1 h2 => ?_, fun a ha => ⟨(h.hid a ha).1, fun k c h1 h2 => (h.hid a ha).2 k c (take_get h1).1 (take_get h2).1⟩⟩
  have q := h.ok k c a (take_get h1).1 (take_get h2).1
  have b : Cell.rb n c = true := by
    have := List.all_eq_true.mp e _ (List.mem_of_getElem? h1)
    simpa using this
  cases c with
  | lst ds => obtain ⟨vs, e, v⟩ := q; exact ⟨vs, e, v.takeC b⟩
  | dct ds => obtain ⟨vs, e, v⟩ := q; exact ⟨vs, e, v.takeC b⟩
  | box => exact q
mutual
theorem Val.rb {lv : Addr → Prop} : ∀ {d : D} {v : V}, Val K mg μ lv H d v → d.rb μ.ad.length = true
  | _, _, .non => rfl
  | _, _, .bl b => rfl
  | _, _, .int i => rfl
  | _, _, .str s => rfl
  | _, _, .ty n => rfl
  | _, _, .ref h => by simpa [D.rb] using (List.getElem?_eq_some_iff.mp h).1
  | _, _, .glb h => rfl
  | _, _, .tup h hs => by simpa [D.rb] using ValL.rb hs
  | _, _, .lst h hs => by simpa [D.rb] using ValL.rb hs
  | _, _, .dct h l hs => by simpa [D.rb] using ValK.rb hs
  | _, _, .exn m h l hs => by simpa [D.rb] using Val.rb hs
theorem ValL.rb {lv : Addr → Prop} : ∀ {d : List D} {v : List V}, ValL K mg μ lv H d v → rbL μ.ad.length d = true
  | _, _, .nil => rfl
  | _, _, .cons h hs => by simp [rbL, Val.rb h, ValL.rb hs]
theorem ValK.rb {lv : Addr → Prop} : ∀ {d : List (Key × D)} {v : List (Key × V)}, ValK K mg μ lv H d v → rbK μ.ad.length d = true
  | _, _, .nil => rfl
  | _, _, .cons h hs => by simp [rbK, Val.rb h, ValK.rb hs]
end
theorem Sat.rb (h : Sat K mg R μ S H) : cellsRb S.length S = true := by
  refine List.all_eq_true.mpr fun c hc => ?_
  cases c with
  | none => rfl
  | some c =>
    obtain ⟨n, hn⟩ := List.getElem?_of_mem hc
    obtain ⟨hn1, hn2⟩ := List.getElem?_eq_some_iff.mp hn
    have ha : μ.ad[n]? = some (μ.ad[n]'(by rw [h.len]; exact hn1)) := by simp [h.len, hn1]
    have q := h.ok n c _ hn ha
    rw [← h.len]
    cases c with
    | lst ds => obtain ⟨vs, _, v⟩ := q; exact v.rb
    | dct ds => obtain ⟨vs, _, v⟩ := q; exact v.rb
    | box => rfl
/-- behind a call, its own cells are forgotten -/
theorem Ext.take {μ' : Mu} {S' : Cells} {H' : Hp} (x : Ext μ S H μ' S' H') (hl : μ.ad.length ≤ S.length) : Ext μ S H (μ'.take S.length) (S'.take S.length) H' :=
  ⟨⟨fun a o e l => ⟨(x.keep a o e l).1, fun z => (x.keep a o e l).2 z.take⟩, fun n a e => by
    show (μ'.ad.take S.length)[n]? = some a
    rw [List.getElem?_take_of_lt (by have := (List.getElem?_eq_some_iff.mp e).1; omega)]; exact x.pre n a e⟩, x.there, x.hid, x.same⟩
end
end DD

end

section
set_option Elab.async false
set_option linter.all false
set_option autoImplicit false
set_option maxRecDepth 100000
set_option maxHeartbeats 2000000
/-! Readings by data: what an expression, a test, a statement comes to over data, and the rules. -/
namespace DD
open PySem PySem.Spec PyProof.Rows L2

abbrev Rho := List (Option D)
structure Exn where
  cls : Str
  flds : List (Str × D)
abbrev Q1 := D → Cells → Prop
abbrev EQ := Exn → Cells → Prop
abbrev WE := Rho → Cells → Q1 → EQ → Prop
abbrev WT := Rho → Cells → (Bool → Cells → Prop) → EQ → Prop
abbrev WA := Rho → Cells → (List D → Cells → Prop) → EQ → Prop
structure EndsD where
  nx : Rho → Cells → Prop
  rt : Q1
  bk : Rho → Cells → Prop
  ct : Rho → Cells → Prop
  ex : Exn → Rho → Cells → Prop
abbrev WS := Rho → Cells → EndsD → Prop

section
variable (K : PySem.W.Frag) (mg : Str → Option Value)
structure EnvOk (μ : Mu) (S : Cells) (H : Hp) (ρ : Rho) (σ : L2.St) : Prop where
  len : ρ.length = σ.length
  at_ : ∀ (i : Nat) d, ρ[i]? = some (some d) → ∃ v, σ[i]? = some (some v) ∧ Val K mg μ (Lv μ S) H d v
def XOk (μ : Mu) (S : Cells) (H : Hp) (x : Exn) (cls : Value) (dd : Option Addr) : Prop :=
  ∃ C : Addr, cls = .ref C ∧ mg x.cls = some (.ref C) ∧ ((x.flds = [] ∧ dd = none) ∨ ∃ a f d v, dd = some a ∧ x.flds = [(f, d)] ∧ H a = some (.xd [(f, v)]) ∧ ¬ Lv μ S a ∧ Val K mg μ (Lv μ S) H d v)
def Out1 (R : Nat) (μ : Mu) (S : Cells) (H : Hp) (P : Q1) (Q : VK) : Prop :=
  ∀ d S1 μ1 v H1, Ext μ S H μ1 S1 H1 → Sat K mg R μ1 S1 H1 → Val K mg μ1 (Lv μ1 S1) H1 d v → P d S1 → Q v H1
def OutX (R : Nat) (μ : Mu) (S : Cells) (H : Hp) (E : EQ) (W : XK) : Prop :=
  ∀ x S1 μ1 cls dd H1, Ext μ S H μ1 S1 H1 → Sat K mg R μ1 S1 H1 → XOk K mg μ1 S1 H1 x cls dd → E x S1 → W cls dd H1
def tE (W : WX) (c : Nat) (w : WE) : TE := fun σ H Q => ∃ R μ S ρ P E, Sat K mg (R + c) μ S H ∧ EnvOk K mg μ S H ρ σ ∧ w ρ S P E ∧ Out1 K mg R μ S H P Q ∧ OutX K mg R μ S H E (fun cls d H' => W cls d σ H')
def tT (W : WX) (c : Nat) (w : WT) : TT := fun σ H Q => ∃ R μ S ρ P E, Sat K mg (R + c) μ S H ∧ EnvOk K mg μ S H ρ σ ∧ w ρ S P E ∧
  (∀ b S1 μ1 H1, Ext μ S H μ1 S1 H1 → Sat K mg R μ1 S1 H1 → P b S1 → Q b H1) ∧ OutX K mg R μ S H E (fun cls d H' => W cls d σ H')
def tA (W : WX) (c : Nat) (w : WA) : TA := fun σ H Q => ∃ R μ S ρ P E, Sat K mg (R + c) μ S H ∧ EnvOk K mg μ S H ρ σ ∧ w ρ S P E ∧
  (∀ ds S1 μ1 vs H1, Ext μ S H μ1 S1 H1 → Sat K mg R μ1 S1 H1 → ValL K mg μ1 (Lv μ1 S1) H1 ds vs → P ds S1 → Q vs H1) ∧ OutX K mg R μ S H E (fun cls d H' => W cls d σ H')
def OutR (R : Nat) (μ : Mu) (S : Cells) (H : Hp) (P : Rho → Cells → Prop) (Q : L2.St → Hp → Prop) : Prop :=
  ∀ ρ1 S1 μ1 σ1 H1, Ext μ S H μ1 S1 H1 → Sat K mg R μ1 S1 H1 → EnvOk K mg μ1 S1 H1 ρ1 σ1 → P ρ1 S1 → Q σ1 H1
structure OutS (R : Nat) (μ : Mu) (S : Cells) (H : Hp) (P : EndsD) (D : Ends) (W : WX) : Prop where
  nx : OutR K mg R μ S H P.nx D.nx
  rt : Out1 K mg R μ S H P.rt D.rt
  bk : OutR K mg R μ S H P.bk D.bk
  ct : OutR K mg R μ S H P.ct D.ct
  ex : ∀ x ρ1 S1 μ1 σ1 cls dd H1, Ext μ S H μ1 S1 H1 → Sat K mg R μ1 S1 H1 → EnvOk K mg μ1 S1 H1 ρ1 σ1 → XOk K mg μ1 S1 H1 x cls dd → P.ex x ρ1 S1 → W cls dd σ1 H1
def tS (W : WX) (c : Nat) (w : WS) : TS := fun D σ H => ∃ R μ S ρ P, Sat K mg (R + c) μ S H ∧ EnvOk K mg μ S H ρ σ ∧ w ρ S P ∧ OutS K mg R μ S H P D W
end

section
variable {K : PySem.W.Frag} {mg : Str → Option Value} {R R' : Nat} {μ μ1 μ2 : Mu} {S S1 S2 : Cells} {H H1 H2 : Hp} {ρ : Rho} {σ : L2.St} {W : WX}
theorem EnvOk.ext0 (x : Ext0 μ S H μ1 S1 H1) (e : EnvOk K mg μ S H ρ σ) : EnvOk K mg μ1 S1 H1 ρ σ := ⟨e.len, fun i d h => let ⟨v, h1, h2⟩ := e.at_ i d h; ⟨v, h1, h2.ext0 x⟩⟩
theorem EnvOk.ext (x : Ext μ S H μ1 S1 H1) (e : EnvOk K mg μ S H ρ σ) : EnvOk K mg μ1 S1 H1 ρ σ := e.ext0 x.toExt0
theorem EnvOk.set {i : Nat} {d : D} {v : V} (e : EnvOk K mg μ S H ρ σ) (h : Val K mg μ (Lv μ S) H d v) : EnvOk K mg μ S H (ρ.set i (some d)) (σ.set i (some v)) := by
  refine ⟨by rw [List.length_set, List.length_set, e.len], fun k d' q => ?_⟩
  rcases set_get q with ⟨rfl, q, hl⟩ | ⟨hk, q⟩
  · obtain rfl := Option.some.inj q
    exact ⟨v, by rw [List.getElem?_set_self (by rw [← e.len]; exact hl)], h⟩
  · obtain ⟨u, h1, h2⟩ := e.at_ k d' q
    exact ⟨u, by rw [List.getElem?_set_ne (Ne.symm hk)]; exact h1, h2⟩
theorem EnvOk.unset {i : Nat} {o : Option V} (e : EnvOk K mg μ S H ρ σ) : EnvOk K mg μ S H (ρ.set i none) (σ.set i o) := by
  refine ⟨by rw [List.length_set, List.length_set, e.len], fun k d' q => ?_⟩
  rcases set_get q with ⟨rfl, q, hl⟩ | ⟨hk, q⟩
  · cases q
  · obtain ⟨u, h1, h2⟩ := e.at_ k d' q
    exact ⟨u, by rw [List.getElem?_set_ne (Ne.symm hk)]; exact h1, h2⟩
theorem OutX.mono {E : EQ} {Z : XK} (h : OutX K mg R μ S H E Z) (e : R ≤ R') : OutX K mg R' μ S H E Z := fun x S1 μ1 cls dd H1 a b c d => h x S1 μ1 cls dd H1 a (b.mono e) c d
theorem OutX.ext {E : EQ} {Z : XK} (h : OutX K mg R μ S H E Z) (x : Ext μ S H μ1 S1 H1) : OutX K mg R μ1 S1 H1 E Z := fun y S2 μ2 cls dd H2 a b c d => h y S2 μ2 cls dd H2 (x.trans a) b c d
theorem Out1.ext {P : Q1} {Z : VK} (h : Out1 K mg R μ S H P Z) (x : Ext μ S H μ1 S1 H1) : Out1 K mg R μ1 S1 H1 P Z := fun y S2 μ2 v H2 a b c d => h y S2 μ2 v H2 (x.trans a) b c d
theorem Out1.mono {P : Q1} {Z : VK} (h : Out1 K mg R μ S H P Z) (e : R ≤ R') : Out1 K mg R' μ S H P Z := fun y S2 μ2 v H2 a b c d => h y S2 μ2 v H2 a (b.mono e) c d
theorem Out1.now {P : Q1} {Z : VK} {d : D} {v : V} (h : Out1 K mg R μ S H P Z) (s : Sat K mg R μ S H) (r : Val K mg μ (Lv μ S) H d v) (p : P d S) : Z v H := h d S μ v H .refl s r p
theorem OutR.ext {P : Rho → Cells → Prop} {Z : L2.St → Hp → Prop} (h : OutR K mg R μ S H P Z) (x : Ext μ S H μ1 S1 H1) : OutR K mg R μ1 S1 H1 P Z := fun y S2 μ2 v H2 a b c d => h y S2 μ2 v H2 (x.trans a) b c d
theorem OutR.mono {P : Rho → Cells → Prop} {Z : L2.St → Hp → Prop} (h : OutR K mg R μ S H P Z) (e : R ≤ R') : OutR K mg R' μ S H P Z := fun y S2 μ2 v H2 a b c d => h y S2 μ2 v H2 a (b.mono e) c d
theorem OutS.ext {P : EndsD} {D : Ends} (h : OutS K mg R μ S H P D W) (x : Ext μ S H μ1 S1 H1) : OutS K mg R μ1 S1 H1 P D W :=
  ⟨h.nx.ext x, h.rt.ext x, h.bk.ext x, h.ct.ext x, fun y ρ1 S2 μ2 σ1 cls dd H2 a b c d e => h.ex y ρ1 S2 μ2 σ1 cls dd H2 (x.trans a) b c d e⟩
theorem OutS.mono {P : EndsD} {D : Ends} (h : OutS K mg R μ S H P D W) (e : R ≤ R') : OutS K mg R' μ S H P D W :=
  ⟨h.nx.mono e, h.rt.mono e, h.bk.mono e, h.ct.mono e, fun y ρ1 S2 μ2 σ1 cls dd H2 a b c d z => h.ex y ρ1 S2 μ2 σ1 cls dd H2 a (b.mono e) c d z⟩
theorem OutS.exX {P : EndsD} {D : Ends} (h : OutS K mg R μ S H P D W) (e : EnvOk K mg μ S H ρ σ) : OutX K mg R μ S H (fun x S1 => P.ex x ρ S1) (fun cls d H' => W cls d σ H') :=
  fun x S1 μ1 cls dd H1 a b c d => h.ex x ρ S1 μ1 σ cls dd H1 a b (e.ext a) c d

theorem tE_of {c : Nat} {w : WE} {P : Q1} {E : EQ} {Q : VK} (s : Sat K mg (R + c) μ S H) (e : EnvOk K mg μ S H ρ σ) (h : w ρ S P E)
    (q : ∀ d S1 μ1 v H1, Ext μ S H μ1 S1 H1 → Sat K mg R μ1 S1 H1 → EnvOk K mg μ1 S1 H1 ρ σ → Val K mg μ1 (Lv μ1 S1) H1 d v → P d S1 → Q v H1) (x : OutX K mg R μ S H E (fun cls d H' => W cls d σ H')) : tE K mg W c w σ H Q :=
  ⟨R, μ, S, ρ, P, E, s, e, h, fun d S1 μ1 v H1 a b c z => q d S1 μ1 v H1 a b (e.ext a) c z, x⟩
theorem tT_of {c : Nat} {w : WT} {P : Bool → Cells → Prop} {E : EQ} {Q : Bool → Hp → Prop} (s : Sat K mg (R + c) μ S H) (e : EnvOk K mg μ S H ρ σ) (h : w ρ S P E)
    (q : ∀ d S1 μ1 H1, Ext μ S H μ1 S1 H1 → Sat K mg R μ1 S1 H1 → EnvOk K mg μ1 S1 H1 ρ σ → P d S1 → Q d H1) (x : OutX K mg R μ S H E (fun cls d H' => W cls d σ H')) : tT K mg W c w σ H Q :=
  ⟨R, μ, S, ρ, P, E, s, e, h, fun d S1 μ1 H1 a b z => q d S1 μ1 H1 a b (e.ext a) z, x⟩
theorem tA_of {c : Nat} {w : WA} {P : List D → Cells → Prop} {E : EQ} {Q : List V → Hp → Prop} (s : Sat K mg (R + c) μ S H) (e : EnvOk K mg μ S H ρ σ) (h : w ρ S P E)
    (q : ∀ ds S1 μ1 vs H1, Ext μ S H μ1 S1 H1 → Sat K mg R μ1 S1 H1 → EnvOk K mg μ1 S1 H1 ρ σ → ValL K mg μ1 (Lv μ1 S1) H1 ds vs → P ds S1 → Q vs H1) (x : OutX K mg R μ S H E (fun cls d H' => W cls d σ H')) : tA K mg W c w σ H Q :=
  ⟨R, μ, S, ρ, P, E, s, e, h, fun d S1 μ1 v H1 a b c z => q d S1 μ1 v H1 a b (e.ext a) c z, x⟩
end

/-! ### the judgements -/
abbrev DE (X : Cx) (W : WX) (e : Expr) (c : Nat) (w : WE) : Prop := PE X e (tE X.K X.mg W c w)
abbrev DT (X : Cx) (W : WX) (e : Expr) (c : Nat) (w : WT) : Prop := PT X e (tT X.K X.mg W c w)
abbrev DW (X : Cx) (W : WX) (e : Expr) (c : Nat) (w : WT) : Prop := PW X e (tT X.K X.mg W c w)
abbrev DA (X : Cx) (W : WX) (es : List Expr) (c : Nat) (w : WA) : Prop := PA X es (tA X.K X.mg W c w)
abbrev DS (X : Cx) (W : WX) (st : Stmt) (c : Nat) (w : WS) : Prop := PS X st (tS X.K X.mg W c w)
abbrev DSs (X : Cx) (W : WX) (st : List Stmt) (c : Nat) (w : WS) : Prop := PSs X st (tS X.K X.mg W c w)
theorem PE.imp {X : Cx} {e : Expr} {t t' : TE} (h : PE X e t) (k : ∀ σ H Q, t' σ H Q → t σ H Q) : PE X e t' := ⟨fun pins s σ H Q I q => h.run pins s σ H Q I (k σ H Q q)⟩
theorem PT.imp {X : Cx} {e : Expr} {t t' : TT} (h : PT X e t) (k : ∀ σ H Q, t' σ H Q → t σ H Q) : PT X e t' := ⟨fun pins s σ H Q I q => h.run pins s σ H Q I (k σ H Q q)⟩
theorem PW.imp {X : Cx} {e : Expr} {t t' : TT} (h : PW X e t) (k : ∀ σ H Q, t' σ H Q → t σ H Q) : PW X e t' := ⟨fun w pins s σ H Q I q => h.run w pins s σ H Q I (k σ H Q q)⟩
theorem PA.imp {X : Cx} {e : List Expr} {t t' : TA} (h : PA X e t) (k : ∀ σ H Q, t' σ H Q → t σ H Q) : PA X e t' := ⟨fun pos pins s σ H Q I q => h.run pos pins s σ H Q I (k σ H Q q)⟩
theorem PS.imp {X : Cx} {e : Stmt} {t t' : TS} (h : PS X e t) (k : ∀ D σ H, t' D σ H → t D σ H) : PS X e t' := ⟨fun pins s σ H D I q => h.run pins s σ H D I (k D σ H q)⟩
theorem PSs.imp {X : Cx} {e : List Stmt} {t t' : TS} (h : PSs X e t) (k : ∀ D σ H, t' D σ H → t D σ H) : PSs X e t' := ⟨fun pins s σ H D I q => h.run pins s σ H D I (k D σ H q)⟩

section
variable {X : Cx} {W : WX}
/-! ### names and constants -/
def wVar (i : Nat) : WE := fun ρ S P _ => ∃ d, ρ[i]? = some (some d) ∧ P d S
def wC (d : D) : WE := fun _ S P _ => P d S
theorem d_var (i : Nat) {x : Str} {pos : Pos} (hN : X.N[i]? = some x := by rfl) (hv : Vis X.env.scope x := by first | exact Or.inl rfl | exact Or.inr (Or.inl rfl) | exact Or.inr (Or.inr rfl)) (hd : (x == ("__debug__" : Str)) = false := by decide)
    (hcd : (x == ("__classdict__" : Str)) = false := by decide) : DE X W (.Name x pos) 0 (wVar i) := by
  refine PE.imp (pe_var hN hv hd hcd) fun σ H Q ⟨R, μ, S, ρ, P, E, s, e, ⟨d, hi, p⟩, o, _⟩ => ?_
  obtain ⟨v, h1, h2⟩ := e.at_ i d hi
  exact ⟨v, h1, o.now s h2 p⟩
theorem d_c {e : Expr} {d : D} {v : V} (h : PE X e (tC v)) (hv : ∀ μ lv H, Val X.K X.mg μ lv H d v) : DE X W e 0 (wC d) := by
  refine PE.imp h fun σ H Q ⟨R, μ, S, ρ, P, E, s, e, p, o, _⟩ => ?_
  exact o.now s (hv _ _ _) p
theorem d_int {i j pos} : DE X W (.Constant (.int i) j pos) 0 (wC (.int i)) := d_c pe_int fun _ _ _ => .int i
theorem d_bl {b j pos} : DE X W (.Constant (.bool b) j pos) 0 (wC (.bl b)) := d_c pe_bl fun _ _ _ => .bl b
theorem d_non {j pos} : DE X W (.Constant .none j pos) 0 (wC .non) := d_c pe_non fun _ _ _ => .non
theorem d_str (s : List Nat) {x : Str} {j pos} (e : x = S' s := by decide +kernel) : DE X W (.Constant (.str x) j pos) 0 (wC (.str s)) := d_c pe_str fun _ _ _ => by rw [e]; exact .str s
theorem d_gint {x : Str} {i : Int} {pos : Pos} (hm : ∃ t, X.mg x = some (.int i t)) (hg : Gl X x := by rfl) (hd : (x == ("__debug__" : Str)) = false := by decide) : DE X W (.Name x pos) 0 (wC (.int i)) := by
  obtain ⟨t, hm⟩ := hm
  exact d_c (pe_glob hg hm (v := .int i) ⟨t, rfl⟩ hd) fun _ _ _ => .int i
theorem d_gstr {x : Str} (s : List Nat) {z : Str} {pos : Pos} (hm : ∃ t, X.mg x = some (.str z t)) (e : z = S' s := by decide +kernel) (hg : Gl X x := by rfl) (hd : (x == ("__debug__" : Str)) = false := by decide) : DE X W (.Name x pos) 0 (wC (.str s)) := by
  obtain ⟨t, hm⟩ := hm
  exact d_c (pe_glob hg hm (v := .str z) ⟨t, rfl⟩ hd) fun _ _ _ => by rw [e]; exact .str s
theorem d_glb {x : Str} {a : Addr} {pos : Pos} (hm : X.mg x = some (.ref a)) (hg : Gl X x := by rfl) (hd : (x == ("__debug__" : Str)) = false := by decide) : DE X W (.Name x pos) 0 (wC (.glb x)) :=
  d_c (pe_glob hg hm (v := .ref a) rfl hd) fun _ _ _ => .glb hm

/-! ### two values, an operation -/
def wBin (g : D → D → Cells → Q1 → Prop) (w1 w2 : WE) : WE := fun ρ S P E => w1 ρ S (fun d1 S1 => w2 ρ S1 (fun d2 S2 => g d1 d2 S2 P) E) E
def wUn (g : D → Cells → Q1 → Prop) (w1 : WE) : WE := fun ρ S P E => w1 ρ S (fun d1 S1 => g d1 S1 P) E
def OpD (K : PySem.W.Frag) (mg : Str → Option Value) (r : R2) (g : D → D → Cells → Q1 → Prop) : Prop :=
  ∀ R μ S H d1 d2 v1 v2 P Q, Sat K mg R μ S H → Val K mg μ (Lv μ S) H d1 v1 → Val K mg μ (Lv μ S) H d2 v2 → g d1 d2 S P → Out1 K mg R μ S H P Q → r v1 v2 H Q
def UnD (K : PySem.W.Frag) (mg : Str → Option Value) (r : V → Hp → VK → Prop) (g : D → Cells → Q1 → Prop) : Prop :=
  ∀ R μ S H d1 v1 P Q, Sat K mg R μ S H → Val K mg μ (Lv μ S) H d1 v1 → g d1 S P → Out1 K mg R μ S H P Q → r v1 H Q
theorem tOp_of {r : R2} {g : D → D → Cells → Q1 → Prop} {c1 c2 : Nat} {w1 w2 : WE} (hr : OpD X.K X.mg r g) (σ : L2.St) (H : Hp) (Q : VK) (h : tE X.K X.mg W (c1 + c2) (wBin g w1 w2) σ H Q) : tOp r (tE X.K X.mg W c1 w1) (tE X.K X.mg W c2 w2) σ H Q := by
  obtain ⟨R, μ, S, ρ, P, E, s, e, h, o, x⟩ := h
  refine tE_of (R := R + c2) (s.mono (by omega)) e h (fun d1 S1 μ1 v1 H1 x1 s1 e1 r1 h1 => ?_) (x.mono (by omega))
  refine tE_of (R := R) s1 e1 h1 (fun d2 S2 μ2 v2 H2 x2 s2 e2 r2 h2 => ?_) (x.ext x1)
  exact hr R μ2 S2 H2 d1 d2 v1 v2 P Q s2 (r1.ext x2) r2 h2 (o.ext (x1.trans x2))
theorem tUn_of {r : V → Hp → VK → Prop} {g : D → Cells → Q1 → Prop} {c1 : Nat} {w1 : WE} (hr : UnD X.K X.mg r g) (σ : L2.St) (H : Hp) (Q : VK) (h : tE X.K X.mg W c1 (wUn g w1) σ H Q) : tUn r (tE X.K X.mg W c1 w1) σ H Q := by
  obtain ⟨R, μ, S, ρ, P, E, s, e, h, o, x⟩ := h
  refine tE_of (R := R) s e h (fun d1 S1 μ1 v1 H1 x1 s1 e1 r1 h1 => ?_) x
  exact hr R μ1 S1 H1 d1 v1 P Q s1 r1 h1 (o.ext x1)
theorem d_op {op : Operator} {r : R2} {g : D → D → Cells → Q1 → Prop} {a b : Expr} {c1 c2 : Nat} {w1 w2 : WE} {pos : Pos} (ho : OpR X (binaryOp op) r) (hr : OpD X.K X.mg r g) (ha : DE X W a c1 w1) (hb : DE X W b c2 w2) :
    DE X W (.BinOp a op b pos) (c1 + c2) (wBin g w1 w2) := PE.imp (pe_op ho ha hb) (tOp_of hr)
theorem d_cmp {op : CmpOp} {r : R2} {g : D → D → Cells → Q1 → Prop} {a b : Expr} {c1 c2 : Nat} {w1 w2 : WE} {pos : Pos} (ho : OpR X (compareOp op) r) (hr : OpD X.K X.mg r g) (ha : DE X W a c1 w1) (hb : DE X W b c2 w2) (hm : behindInMarks op b = false) :
    DE X W (.Compare a [op] [b] pos) (c1 + c2) (wBin g w1 w2) := PE.imp (pe_cmpR ho ha hb hm) (tOp_of hr)
theorem d_un {op : UnaryOp} {r : V → Hp → VK → Prop} {g : D → Cells → Q1 → Prop} {a : Expr} {c1 : Nat} {w1 : WE} {pos : Pos} (ho : UnR X (unaryOp op) r) (hr : UnD X.K X.mg r g) (ha : DE X W a c1 w1) :
    DE X W (.UnaryOp op a pos) c1 (wUn g w1) := PE.imp (pe_un ho ha) (tUn_of hr)

/-! ### lists by what they hold -/
def seqL (S : Cells) : D → Option (List D)
  | .lst xs => some xs
  | .ref n => match S[n]? with
    | some (some (.lst xs)) => some xs
    | _ => none
  | _ => none
def seqT : D → Option (List D)
  | .tup xs => some xs
  | _ => none
/-- a list or a tuple -/
def seqA (S : Cells) (d : D) : Option (List D) := match d with
  | .tup xs => some xs
  | d => seqL S d
variable {K : PySem.W.Frag} {mg : Str → Option Value} {R : Nat} {μ : Mu} {S : Cells} {H : Hp} {ρ : Rho} {σ : L2.St}
theorem seqL_ok {d : D} {v : V} {xs : List D} (s : Sat K mg R μ S H) (r : Val K mg μ (Lv μ S) H d v) (e : seqL S d = some xs) : ∃ a vs, v = .ref a ∧ SqL K H a vs ∧ ValL K mg μ (Lv μ S) H xs vs := by
  cases r with
  | lst h hs => cases e; exact ⟨_, _, rfl, h.sq, hs⟩
  | @ref n a h =>
    simp only [seqL] at e
    split at e
    · rename_i ys q
      cases e
      obtain ⟨vs, h1, h2⟩ := s.ok n _ a q h
      exact ⟨a, vs, rfl, SqL.of h1, h2⟩
    · cases e
  | _ => cases e
theorem seqT_ok {d : D} {v : V} {xs : List D} (r : Val K mg μ (Lv μ S) H d v) (e : seqT d = some xs) : ∃ a vs, v = .ref a ∧ SqT K H a vs ∧ ValL K mg μ (Lv μ S) H xs vs := by
  cases r with
  | tup h hs => cases e; exact ⟨_, _, rfl, h.sq, hs⟩
  | _ => cases e
theorem seqA_ok {d : D} {v : V} {xs : List D} (s : Sat K mg R μ S H) (r : Val K mg μ (Lv μ S) H d v) (e : seqA S d = some xs) : ∃ a vs, v = .ref a ∧ (SqL K H a vs ∨ SqT K H a vs) ∧ ValL K mg μ (Lv μ S) H xs vs := by
  cases d with
  | tup ys =>
    obtain ⟨a, vs, h1, h2, h3⟩ := seqT_ok (xs := xs) r e
    exact ⟨a, vs, h1, .inr h2, h3⟩
  | lst ys =>
    obtain ⟨a, vs, h1, h2, h3⟩ := seqL_ok (xs := xs) s r e
    exact ⟨a, vs, h1, .inl h2, h3⟩
  | ref n =>
    obtain ⟨a, vs, h1, h2, h3⟩ := seqL_ok (xs := xs) s r e
    exact ⟨a, vs, h1, .inl h2, h3⟩
  | _ => cases e
/-- a new list, a new tuple that nobody changes -/
theorem Out1.newL {P : Q1} {Q : VK} {ds : List D} {vs : List V} {p : Addr} (o : Out1 K mg R μ S H P Q) (s : Sat K mg R μ S H) (r : ValL K mg μ (Lv μ S) H ds vs) (n : H p = none) (h : P (.lst ds) S) : Q (.ref p) (upd H p (.lst vs)) := by
  obtain ⟨x, s1⟩ := s.new n (.lst vs)
  exact o _ S μ _ _ x s1 (.lst (.inl ⟨.inl upd_same, fun l => s.fresh n l⟩) (r.ext x)) h
theorem Out1.newT {P : Q1} {Q : VK} {ds : List D} {vs : List V} {p : Addr} (o : Out1 K mg R μ S H P Q) (s : Sat K mg R μ S H) (r : ValL K mg μ (Lv μ S) H ds vs) (n : H p = none) (h : P (.tup ds) S) : Q (.ref p) (upd H p (.tup vs)) := by
  obtain ⟨x, s1⟩ := s.new n (.tup vs)
  exact o _ S μ _ _ x s1 (.tup (.inl ⟨.inl upd_same, fun l => s.fresh n l⟩) (r.ext x)) h
/-- a new list that is a cell -/
theorem Out1.newC {P : Q1} {Q : VK} {ds : List D} {vs : List V} {p : Addr} (o : Out1 K mg R μ S H P Q) (s : Sat K mg R μ S H) (r : ValL K mg μ (Lv μ S) H ds vs) (n : H p = none) (h : P (.ref S.length) (S ++ [some (.lst ds)])) : Q (.ref p) (upd H p (.lst vs)) := by
  obtain ⟨x, s1⟩ := s.cell n (.lst vs) (.lst ds) ⟨vs, rfl, r⟩
  exact o _ _ _ _ _ x s1 (.ref (by unfold Mu.push; rw [← s.len]; simp)) h
/-- a list that is made: as it is, or as a cell -/
def mkL (m : Bool) (ds : List D) (S : Cells) (P : Q1) : Prop := match m with
  | false => P (.lst ds) S
  | true => P (.ref S.length) (S ++ [some (.lst ds)])
theorem Out1.mk {P : Q1} {Q : VK} {m : Bool} {ds : List D} {vs : List V} {p : Addr} (o : Out1 K mg R μ S H P Q) (s : Sat K mg R μ S H) (r : ValL K mg μ (Lv μ S) H ds vs) (n : H p = none) (h : mkL m ds S P) : Q (.ref p) (upd H p (.lst vs)) := by
  cases m with
  | false => exact o.newL s r n h
  | true => exact o.newC s r n h
end
end DD

end

section
set_option Elab.async false
set_option linter.all false
set_option autoImplicit false
set_option maxRecDepth 100000
set_option maxHeartbeats 2000000
/-! Operators and comparisons over data. -/
namespace DD
open PySem PySem.Spec PyProof.Rows L2

/-! ### data as the library's data -/
mutual
def D.py : D → PyData
  | .non => .none
  | .bl b => .bool b
  | .int i => .int i
  | .str s => .str (S' s)
  | .tup xs => .tuple (pyL xs)
  | .lst xs => .list (pyL xs)
  | _ => .none
def pyL : List D → List PyData
  | [] => []
  | d :: ds => d.py :: pyL ds
end
mutual
/-- plain data: no cells, dicts, classes in it; signs are signs -/
def D.pl : D → Bool
  | .non => true
  | .bl _ => true
  | .int _ => true
  | .str s => s.all (· < 0x110000)
  | .tup xs => plL xs
  | .lst xs => plL xs
  | _ => false
def plL : List D → Bool
  | [] => true
  | d :: ds => d.pl && plL ds
end
mutual
def D.dep : D → Nat
  | .tup xs => depL xs + 1
  | .lst xs => depL xs + 1
  | _ => 0
def depL : List D → Nat
  | [] => 0
  | d :: ds => max d.dep (depL ds)
end
mutual
/-- == of plain data -/
def D.eqb : D → D → Bool
  | .non, .non => true
  | .bl a, .bl b => a == b
  | .bl a, .int j => (if a then 1 else 0) == j
  | .int i, .bl b => i == (if b then 1 else 0)
  | .int i, .int j => i == j
  | .str x, .str y => x == y
  | .lst xs, .lst ys => eqbL xs ys
  | .tup xs, .tup ys => eqbL xs ys
  | _, _ => false
def eqbL : List D → List D → Bool
  | [], [] => true
  | x :: xs, y :: ys => x.eqb y && eqbL xs ys
  | _, _ => false
end
theorem pyL_map (ds : List D) : pyL ds = ds.map D.py := by
  induction ds with
  | nil => rfl
  | cons d ds ih => rw [pyL, ih]; rfl
theorem plL_all (ds : List D) : plL ds = ds.all D.pl := by
  induction ds with
  | nil => rfl
  | cons d ds ih => rw [plL, ih]; rfl
mutual
theorem eqb_py : ∀ (a b : D), a.pl = true → b.pl = true → PyData.eqv a.py b.py = a.eqb b
  | .non, b, _, hb => by cases b <;> first | (simp [D.pl] at hb; done) | rfl | (simp [D.py, PyData.eqv, D.eqb])
  | .bl _, b, _, hb => by cases b <;> first | (simp [D.pl] at hb; done) | rfl | (simp [D.py, PyData.eqv, D.eqb])
  | .int _, b, _, hb => by cases b <;> first | (simp [D.pl] at hb; done) | rfl | (simp [D.py, PyData.eqv, D.eqb])
  | .str x, b, _, hb => by
    cases b with
    | str y =>
      simp only [D.py, PyData.eqv, D.eqb]
      rw [Bool.eq_iff_iff, beq_iff_eq, beq_iff_eq]
      exact S'_inj
    | _ => first | (simp [D.pl] at hb; done) | rfl | (simp [D.py, PyData.eqv, D.eqb])
  | .tup xs, b, ha, hb => by
    cases b with
    | tup ys => simp only [D.py, PyData.eqv, D.eqb]; exact eqb_pyL xs ys (by simpa [D.pl] using ha) (by simpa [D.pl] using hb)
    | _ => first | (simp [D.pl] at hb; done) | rfl | (simp [D.py, PyData.eqv, D.eqb])
  | .lst xs, b, ha, hb => by
    cases b with
    | lst ys => simp only [D.py, PyData.eqv, D.eqb]; exact eqb_pyL xs ys (by simpa [D.pl] using ha) (by simpa [D.pl] using hb)
    | _ => first | (simp [D.pl] at hb; done) | rfl | (simp [D.py, PyData.eqv, D.eqb])
  | .dct _, _, ha, _ => by simp [D.pl] at ha
  | .ref _, _, ha, _ => by simp [D.pl] at ha
  | .ty _, _, ha, _ => by simp [D.pl] at ha
  | .glb _, _, ha, _ => by simp [D.pl] at ha
theorem eqb_pyL : ∀ (a b : List D), plL a = true → plL b = true → PyData.eqvAll (pyL a) (pyL b) = eqbL a b
  | [], [], _, _ => by simp [pyL, PyData.eqvAll, eqbL]
  | [], y :: ys, _, _ => by simp [pyL, PyData.eqvAll, eqbL]
  | x :: xs, [], _, _ => by simp [pyL, PyData.eqvAll, eqbL]
  | x :: xs, y :: ys, ha, hb => by
    simp only [plL, Bool.and_eq_true] at ha hb
    simp only [pyL, PyData.eqvAll, eqbL, eqb_py x y ha.1 hb.1, eqb_pyL xs ys ha.2 hb.2]
end
mutual
theorem canLay_py : ∀ d : D, d.pl = true → d.py.canLay0 = true
  | .non, _ => by simp [D.py, PyData.canLay0]
  | .bl _, _ => by simp [D.py, PyData.canLay0]
  | .int _, _ => by simp [D.py, PyData.canLay0]
  | .str s, h => by
    simp only [D.py, PyData.canLay0, PyData.strOk, S']
    simpa [D.pl] using h
  | .tup xs, h => by simp only [D.py, PyData.canLay0]; exact canLay_pyL xs (by simpa [D.pl] using h)
  | .lst xs, h => by simp only [D.py, PyData.canLay0]; exact canLay_pyL xs (by simpa [D.pl] using h)
  | .dct _, ha => by simp [D.pl] at ha
  | .ref _, ha => by simp [D.pl] at ha
  | .ty _, ha => by simp [D.pl] at ha
  | .glb _, ha => by simp [D.pl] at ha
  | .exn .., ha => by simp [D.pl] at ha
theorem canLay_pyL : ∀ ds : List D, plL ds = true → PyData.canLayAll0 (pyL ds) = true
  | [], _ => by simp [pyL, PyData.canLayAll0]
  | d :: ds, h => by
    simp only [plL, Bool.and_eq_true] at h
    simp only [pyL, PyData.canLayAll0, canLay_py d h.1, canLay_pyL ds h.2, Bool.and_self]
end
mutual
theorem dep_py : ∀ d : D, d.py.depth = d.dep
  | .non => rfl
  | .bl _ => rfl
  | .int _ => rfl
  | .str _ => by simp [D.py, PyData.depth, D.dep]
  | .tup xs => by simp only [D.py, PyData.depth, D.dep, dep_pyL xs]
  | .lst xs => by simp only [D.py, PyData.depth, D.dep, dep_pyL xs]
  | .dct _ => by simp [D.py, PyData.depth, D.dep]
  | .ref _ => by simp [D.py, PyData.depth, D.dep]
  | .ty _ => by simp [D.py, PyData.depth, D.dep]
  | .glb _ => by simp [D.py, PyData.depth, D.dep]
  | .exn .. => by simp [D.py, PyData.depth, D.dep]
theorem dep_pyL : ∀ ds : List D, PyData.depthAll (pyL ds) = depL ds
  | [] => rfl
  | d :: ds => by simp only [pyL, PyData.depthAll, depL, dep_py d, dep_pyL ds]
end
section
variable {K : PySem.W.Frag} {mg : Str → Option Value} {R : Nat} {μ : Mu} {S : Cells} {H : Hp}
mutual
theorem Val.dp {lv : Addr → Prop} : ∀ {d : D} {v : V}, Val K mg μ lv H d v → d.pl = true → Dp K H v d.py
  | _, _, .non, _ => .non
  | _, _, .bl b, _ => .bl b
  | _, _, .int i, _ => .int i
  | _, _, .str s, _ => .str _
  | _, _, .tup h hs, e => .tup h.sq (ValL.dp hs (by simpa [D.pl] using e))
  | _, _, .lst h hs, e => .lst h.sq (ValL.dp hs (by simpa [D.pl] using e))
  | _, _, .dct _ _ _, e => by simp [D.pl] at e
  | _, _, .ref _, e => by simp [D.pl] at e
  | _, _, .ty _, e => by simp [D.pl] at e
  | _, _, .glb _, e => by simp [D.pl] at e
theorem ValL.dp {lv : Addr → Prop} : ∀ {d : List D} {v : List V}, ValL K mg μ lv H d v → plL d = true → DpAll K H v (pyL d)
  | _, _, .nil, _ => .nil
  | _, _, .cons h hs, e => by
    simp only [plL, Bool.and_eq_true] at e
    exact .cons (Val.dp h e.1) (ValL.dp hs e.2)
end
/-- a cell by what it holds -/
def res (S : Cells) : D → D
  | .ref n => match S[n]? with
    | some (some (.lst xs)) => .lst xs
    | _ => .ref n
  | d => d
theorem Val.dpR {d : D} {v : V} (s : Sat K mg R μ S H) (r : Val K mg μ (Lv μ S) H d v) (e : (res S d).pl = true) : Dp K H v (res S d).py := by
  cases d with
  | ref n =>
    simp only [res] at e ⊢
    split at e
    · rename_i xs q
      cases r with
      | ref h =>
        obtain ⟨vs, h1, h2⟩ := s.ok n _ _ q h
        exact .lst (SqL.of h1) (ValL.dp h2 (by simpa [D.pl] using e))
    · simp [D.pl] at e
  | _ => exact Val.dp r e
theorem shaped_py {d : D} (h : d.pl = true) (k : d.dep ≤ 64) : SeqAt.shaped d.py = true := by
  unfold SeqAt.shaped
  rw [canLay_py d h, dep_py d]
  simpa using k
end

/-! ### == and != -/
/-- == of scalars, as one reads it; of other data -/
def eqR (S : Cells) : D → D → Option Bool
  | .non, .non => some true
  | .non, .int _ => some false
  | .int _, .non => some false
  | .non, .bl _ => some false
  | .bl _, .non => some false
  | .non, .str _ => some false
  | .str _, .non => some false
  | .int i, .int j => some (decide (i = j))
  | .bl i, .bl j => some (decide (i = j))
  | .str i, .str j => some (decide (i = j))
  | .int _, .str _ => some false
  | .str _, .int _ => some false
  | .bl _, .str _ => some false
  | .str _, .bl _ => some false
  | a, b => if (res S a).pl = true ∧ (res S b).pl = true ∧ (res S a).dep ≤ 64 ∧ (res S b).dep ≤ 64 then some ((res S a).eqb (res S b)) else none
def gEq (a b : D) (S : Cells) (P : Q1) : Prop := ∃ c, eqR S a b = some c ∧ P (.bl c) S
def gNe (a b : D) (S : Cells) (P : Q1) : Prop := ∃ c, eqR S a b = some c ∧ P (.bl (!c)) S
section
variable {K : PySem.W.Frag} {mg : Str → Option Value} {X : Cx} {W : WX}
theorem str_dec {a b : List Nat} : decide (V.str (S' a) = V.str (S' b)) = decide (a = b) := by
  have h : (V.str (S' a) = V.str (S' b)) ↔ a = b := ⟨fun e => S'_inj.mp (V.str.inj e), fun e => by rw [e]⟩
  exact decide_eq_decide.mpr h
theorem eqR_or {R : Nat} {μ : Mu} {S : Cells} {H : Hp} {a b : D} {v u : V} {c : Bool} (s : Sat K mg R μ S H) (ra : Val K mg μ (Lv μ S) H a v) (rb : Val K mg μ (Lv μ S) H b u) (h : eqR S a b = some c) :
    (scal v u = true ∧ decide (v = u) = c) ∨ ∃ d e, Dp K H v d ∧ Dp K H u e ∧ SeqAt.shaped d = true ∧ SeqAt.shaped e = true ∧ PyData.eqv d e = c := by
  have gen : (if (res S a).pl = true ∧ (res S b).pl = true ∧ (res S a).dep ≤ 64 ∧ (res S b).dep ≤ 64 then some ((res S a).eqb (res S b)) else none) = some c → ∃ d e, Dp K H v d ∧ Dp K H u e ∧ SeqAt.shaped d = true ∧ SeqAt.shaped e = true ∧ PyData.eqv d e = c := by
    intro q
    split at q
    · rename_i z
      obtain ⟨z1, z2, z3, z4⟩ := z
      refine ⟨_, _, ra.dpR s z1, rb.dpR s z2, shaped_py z1 z3, shaped_py z2 z4, ?_⟩
      rw [eqb_py _ _ z1 z2]
      exact Option.some.inj q
    · cases q
  unfold eqR at h
  split at h
  case h_15 => exact .inr (gen h)
  all_goals
    cases ra
    cases rb
    refine .inl ⟨rfl, ?_⟩
    first
      | (have e := Option.some.inj h; rw [← e]; rfl)
      | (have e := Option.some.inj h; rw [← e]; exact str_dec)
      | (have e := Option.some.inj h; rw [← e]; simp)
theorem od_eq : OpD K mg (fun x y H Q => rEq x y H Q ∨ rEqD K x y H Q) gEq := by
  intro R μ S H a b v u P Q s ra rb h o
  obtain ⟨c, e, p⟩ := h
  rcases eqR_or s ra rb e with ⟨h1, h2⟩ | ⟨d, f, h1, h2, h3, h4, h5⟩
  · exact .inl ⟨h1, by rw [h2]; exact o.now s (.bl c) p⟩
  · exact .inr ⟨d, f, h1, h2, h3, h4, by rw [h5]; exact o.now s (.bl c) p⟩
theorem od_ne : OpD K mg (fun x y H Q => rNe x y H Q ∨ rNeD K x y H Q) gNe := by
  intro R μ S H a b v u P Q s ra rb h o
  obtain ⟨c, e, p⟩ := h
  rcases eqR_or s ra rb e with ⟨h1, h2⟩ | ⟨d, f, h1, h2, h3, h4, h5⟩
  · exact .inl ⟨h1, by rw [h2]; exact o.now s (.bl _) p⟩
  · exact .inr ⟨d, f, h1, h2, h3, h4, by rw [h5]; exact o.now s (.bl _) p⟩
section
variable {a b c : Expr} {c1 c2 c3 : Nat} {w1 w2 w3 : WE} {pos : Pos}
theorem d_eq (hr : X.A.units + 100 < cLine) (ha : DE X W a c1 w1) (hb : DE X W b c2 w2) : DE X W (.Compare a [.Eq] [b] pos) (c1 + c2) (wBin gEq w1 w2) := d_cmp (op_eq.or (op_eqD (by omega))) od_eq ha hb (nomark _)
theorem d_ne (hr : X.A.units + 100 < cLine) (ha : DE X W a c1 w1) (hb : DE X W b c2 w2) : DE X W (.Compare a [.NotEq] [b] pos) (c1 + c2) (wBin gNe w1 w2) := d_cmp (op_ne.or (op_neD (by omega))) od_ne ha hb (nomark _)

/-! ### order: ints, texts, alike data -/
def dLt (a b : D) : Bool := PySem.W.dataLt a.py b.py
def D.seq : D → Bool
  | .tup _ => true
  | .lst _ => true
  | _ => false
def dAlike (a b : D) : Bool := PySem.W.alike a.py b.py
def ltR (S : Cells) : D → D → Option Bool
  | .int i, .int j => some (decide (i < j))
  | .str i, .str j => some (decide (i < j))
  | a, b => if (res S a).pl = true ∧ (res S b).pl = true ∧ (res S a).dep ≤ 64 ∧ (res S b).dep ≤ 64 ∧ dAlike (res S a) (res S b) = true ∧ (res S a).seq = true then some (dLt (res S a) (res S b)) else none
def gLt (a b : D) (S : Cells) (P : Q1) : Prop := ∃ c, ltR S a b = some c ∧ P (.bl c) S
def rLtD (K : PySem.W.Frag) : R2 := fun x y H Q => ∃ d e, Dp K H x d ∧ Dp K H y e ∧ PySem.W.alike d e = true ∧ d ≠ .none ∧ d.depth ≤ 64 ∧ Q (.bl (PySem.W.dataLt d e)) H
theorem op_ltD (hu : X.A.units + 64 < cLine) : OpR X (compareOp .Lt) (rLtD X.K) := by
  intro pins s σ H x y v u Q I rx ry h
  obtain ⟨d, e, hd, he, hl, hn, hk, q⟩ := h
  obtain ⟨as, r1⟩ := Dp.reads I d x v hd rx
  obtain ⟨bs, r2⟩ := Dp.reads I e y u he ry
  have hmin : min d.depth e.depth ≤ d.depth := Nat.min_le_left _ _
  exact PySem.W.rcLt_alike d e X.A s v u as bs r1 r2 hl hn (by omega) _ _ _ _ (fin_bl I q rfl)
def rLtS : R2 := fun x y H Q => ∃ i j, x = .str i ∧ y = .str j ∧ Q (.bl (decide (i.cps.toList < j.cps.toList))) H
theorem od_lt : OpD K mg (fun x y H Q => rI0 (fun i j => .bl (decide (i < j))) x y H Q ∨ rLtS x y H Q ∨ rLtD K x y H Q) gLt := by
  intro R μ S H a b v u P Q s ra rb h o
  obtain ⟨c, e, p⟩ := h
  unfold ltR at e
  split at e
  · cases ra; cases rb; cases e
    exact .inl ⟨_, _, rfl, rfl, o.now s (.bl _) p⟩
  · cases ra; cases rb; cases e
    exact .inr (.inl ⟨_, _, rfl, rfl, by simpa using o.now s (.bl _) p⟩)
  · split at e
    · rename_i z
      obtain ⟨z1, z2, z3, z4, z5, z6⟩ := z
      cases e
      refine .inr (.inr ⟨_, _, ra.dpR s z1, rb.dpR s z2, z5, ?_, by rw [dep_py]; exact z3, o.now s (.bl _) p⟩)
      intro z
      cases q : res S a <;> rw [q] at z z6 <;> simp [D.py, D.seq] at z z6
    · cases e
theorem d_lt (hr : X.A.units + 100 < cLine) (ha : DE X W a c1 w1) (hb : DE X W b c2 w2) : DE X W (.Compare a [.Lt] [b] pos) (c1 + c2) (wBin gLt w1 w2) := d_cmp (op_lt.or (op_lt_str.or (op_ltD (by omega)))) od_lt ha hb (nomark _)
/-! ### ints: the other comparisons; arithmetic -/
def gI (f : Int → Int → D) (C : Int → Int → Prop) (a b : D) (S : Cells) (P : Q1) : Prop := ∃ i j, a = .int i ∧ b = .int j ∧ C i j ∧ P (f i j) S
theorem od_I0 {f : Int → Int → V} {g : Int → Int → D} (hv : ∀ i j μ lv H, Val K mg μ lv H (g i j) (f i j)) : OpD K mg (rI0 f) (gI g fun _ _ => True) := by
  intro R μ S H a b v u P Q s ra rb h o
  obtain ⟨i, j, rfl, rfl, _, p⟩ := h
  cases ra; cases rb
  exact ⟨i, j, rfl, rfl, o.now s (hv i j _ _ _) p⟩
theorem od_I {C : Int → Int → Prop} {f : Int → Int → V} {g : Int → Int → D} (hv : ∀ i j μ lv H, Val K mg μ lv H (g i j) (f i j)) : OpD K mg (rI C f) (gI g C) := by
  intro R μ S H a b v u P Q s ra rb h o
  obtain ⟨i, j, rfl, rfl, hc, p⟩ := h
  cases ra; cases rb
  exact ⟨i, j, rfl, rfl, hc, o.now s (hv i j _ _ _) p⟩
abbrev gLe := gI (fun i j => .bl (decide (i ≤ j))) fun _ _ => True
abbrev gGt := gI (fun i j => .bl (decide (j < i))) fun _ _ => True
abbrev gGe := gI (fun i j => .bl (decide (j ≤ i))) fun _ _ => True
theorem d_le (ha : DE X W a c1 w1) (hb : DE X W b c2 w2) : DE X W (.Compare a [.LtE] [b] pos) (c1 + c2) (wBin gLe w1 w2) := d_cmp op_le (od_I0 fun _ _ _ _ _ => .bl _) ha hb (nomark _)
theorem d_gt (ha : DE X W a c1 w1) (hb : DE X W b c2 w2) : DE X W (.Compare a [.Gt] [b] pos) (c1 + c2) (wBin gGt w1 w2) := d_cmp op_gt (od_I0 fun _ _ _ _ _ => .bl _) ha hb (nomark _)
theorem d_ge (ha : DE X W a c1 w1) (hb : DE X W b c2 w2) : DE X W (.Compare a [.GtE] [b] pos) (c1 + c2) (wBin gGe w1 w2) := d_cmp op_ge (od_I0 fun _ _ _ _ _ => .bl _) ha hb (nomark _)
abbrev gSub := gI (fun i j => .int (i - j)) fun _ _ => True
theorem d_sub (ha : DE X W a c1 w1) (hb : DE X W b c2 w2) : DE X W (.BinOp a .Sub b pos) (c1 + c2) (wBin gSub w1 w2) := d_op op_sub (od_I0 fun _ _ _ _ _ => .int _) ha hb
abbrev gMod := gI (fun i j => .int (i % j)) fun _ j => 0 < j
theorem d_mod (ha : DE X W a c1 w1) (hb : DE X W b c2 w2) : DE X W (.BinOp a .Mod b pos) (c1 + c2) (wBin gMod w1 w2) := d_op op_mod (od_I fun _ _ _ _ _ => .int _) ha hb
abbrev gDiv := gI (fun i j => .int (i / j)) CDiv
theorem d_div (ha : DE X W a c1 w1) (hb : DE X W b c2 w2) : DE X W (.BinOp a .FloorDiv b pos) (c1 + c2) (wBin gDiv w1 w2) := d_op op_fdiv (od_I fun _ _ _ _ _ => .int _) ha hb
def CPw (i j : Int) : Prop := 0 ≤ j ∧ (Builtin.Int.intBits i : Int) * j ≤ 2 ^ 27
theorem intBits_le {i : Int} {n : Nat} (h : i.natAbs < 2 ^ n) : Builtin.Int.intBits i ≤ n := by
  unfold Builtin.Int.intBits
  split
  · exact Nat.zero_le _
  · rename_i hi
    have h0 : i.natAbs ≠ 0 := fun z => hi (by simpa using z)
    have := (Nat.log2_lt h0).mpr h
    omega
theorem CPw.of {i j : Int} (n : Nat) (h : i.natAbs < 2 ^ n) (h0 : 0 ≤ j) (hj : (n : Int) * j ≤ 2 ^ 27) : CPw i j := by
  refine ⟨h0, Int.le_trans (Int.mul_le_mul_of_nonneg_right ?_ h0) hj⟩
  exact_mod_cast intBits_le h
theorem op_powB : OpR X (binaryOp .Pow) (rI CPw fun i j => .int (i ^ j.toNat)) := opI fun _ _ _ _ _ _ _ hc q => pow_int hc.1 hc.2 q
abbrev gPow := gI (fun i j => .int (i ^ j.toNat)) CPw
theorem d_pow (ha : DE X W a c1 w1) (hb : DE X W b c2 w2) : DE X W (.BinOp a .Pow b pos) (c1 + c2) (wBin gPow w1 w2) := d_op op_powB (od_I fun _ _ _ _ _ => .int _) ha hb
def gNeg (a : D) (S : Cells) (P : Q1) : Prop := ∃ i, a = .int i ∧ P (.int (-i)) S
theorem d_neg (ha : DE X W a c1 w1) : DE X W (.UnaryOp .USub a pos) c1 (wUn gNeg w1) := by
  refine d_un un_neg ?_ ha
  intro R μ S H a v P Q s ra h o
  obtain ⟨i, rfl, p⟩ := h
  cases ra
  exact ⟨i, rfl, o.now s (.int _) p⟩
/-! ### + and * -/
/-- the sum of two things; of lists: as it is -/
def gAdd (a b : D) (S : Cells) (P : Q1) : Prop := match a, b with
  | .int i, .int j => P (.int (i + j)) S
  | .str x, .str y => x.length + y.length ≤ sizeLine ∧ P (.str (x ++ y)) S
  | .tup xs, .tup ys => xs ≠ [] ∧ ys ≠ [] ∧ xs.length + ys.length ≤ sizeLine ∧ P (.tup (xs ++ ys)) S
  | a, b => ∃ xs ys, seqL S a = some xs ∧ seqL S b = some ys ∧ xs.length + ys.length ≤ sizeLine ∧ P (.lst (xs ++ ys)) S
theorem rd_lst {R : Nat} {μ : Mu} {S : Cells} {H : Hp} {d : D} {v : V} {xs : List D} (s : Sat K mg R μ S H) (r : Val K mg μ (Lv μ S) H d v) (e : seqL S d = some xs) : ∃ a vs, v = .ref a ∧ SqL K H a vs ∧ ValL K mg μ (Lv μ S) H xs vs := seqL_ok s r e
end
end
end DD

namespace DD
open PySem PySem.Spec PyProof.Rows L2
section
variable {X : Cx} {W : WX} {K : PySem.W.Frag} {mg : Str → Option Value}
def rCatL (K : PySem.W.Frag) : R2 := fun x y H Q => ∃ l b xs zs, x = .ref l ∧ y = .ref b ∧ SqL K H l xs ∧ SqL K H b zs ∧ xs.length + zs.length ≤ sizeLine ∧ ∀ p, H p = none → Q (.ref p) (upd H p (.lst (xs ++ zs)))
theorem op_catL : OpR X (binaryOp .Add) (rCatL X.K) := by
  intro pins s σ H x y v u Q I rx ry h
  obtain ⟨l, b, xs, zs, rfl, rfl, hH, hB, hz, q⟩ := h
  cases rx
  cases ry
  obtain ⟨its, r, p1, z1⟩ := I.list hH
  obtain ⟨its2, r2, p2, z2⟩ := I.list hB
  obtain ⟨⟨cls, dd, data, sl⟩, ho, hc, n, hd⟩ := p1.isList
  obtain ⟨⟨cls2, dd2, data2, sl2⟩, ho2, hc2, n2, hd2⟩ := p2.isList
  simp only at hc hd hc2 hd2
  subst hc hd hc2 hd2
  have e1 := r.length
  have e2 := r2.length
  have ea : its.toArray ++ its2.toArray = (its ++ its2).toArray := by simp
  refine concat_meets ⟨_, ho, rfl⟩ ⟨_, ho2, rfl⟩ noFill_list_add seq_list_add PySem.F.slot_list_add PySem.F.entry_list_add (PySem.F.args_list_add_2 _ _) (list_addW l b its.toArray its2.toArray n n2 dd dd2 sl sl2 (by rw [List.size_toArray, List.size_toArray]; omega)) ⟨ho, ho2, ?_⟩
  rw [ea]
  exact ⟨.ref _, _, I.lnew (t' := s.toks) (r.append r2) (by rw [List.length_append]; omega), rfl, q _ I.fresh⟩
def rRepL (K : PySem.W.Frag) : R2 := fun x y H Q => ∃ l k xs, x = .ref l ∧ y = .int k ∧ SqL K H l xs ∧ -(2 ^ 63) ≤ k ∧ k < 2 ^ 63 ∧ xs.length * k.toNat ≤ sizeLine ∧
  ∀ p, H p = none → Q (.ref p) (upd H p (.lst (List.replicate k.toNat xs).flatten))
theorem vals_rep {xs : List V} {its : List Value} (r : Vals xs its) : ∀ n : Nat, Vals (List.replicate n xs).flatten (List.replicate n its).flatten
  | 0 => .nil
  | n + 1 => by
    rw [List.replicate_succ, List.replicate_succ, List.flatten_cons, List.flatten_cons]
    exact r.append (vals_rep r n)
theorem op_repL : OpR X (binaryOp .Mult) (rRepL X.K) := by
  intro pins s σ H x y v u Q I rx ry h
  obtain ⟨l, k, xs, rfl, rfl, hH, h1, h2, hz, q⟩ := h
  cases rx
  obtain ⟨t, rfl⟩ := ry
  obtain ⟨its, r, p1, z1⟩ := I.list hH
  obtain ⟨⟨cls, d, data, sl⟩, ho, hcl, n, hd⟩ := p1.isList
  simp only at hcl hd
  subst hcl hd
  have e1 := r.length
  have hs : sizeLine = 2 ^ 24 := sizeLine_eq
  have hsz' : its.toArray.size * k.toNat ≤ 2 ^ 24 := by rw [List.size_toArray, ← e1, ← hs]; exact hz
  refine wpAny_binaryOp_repeat_ref (T := "list") (U := "int") (by decide) ⟨_, ho, rfl⟩ (fun s' => typeIs_int s' k t) noFill_list_mul F.fills_int_mul F.slot_int_rmul repeat_list F.slot_int_index.lookup
    (call_meets F.slot_int_rmul (typeIs_int s k t) F.entry_int_rmul (F.args_int_rmul_2 _ _) (lm_int_rmul_list_any k t l its.toArray n d sl)
      ⟨ho, rfl, ⟨_, ho, rfl⟩, call_meets F.slot_list_mul ⟨_, ho, rfl⟩ F.entry_list_mul (F.args_list_mul_2 _ _)
        (lm_list_mul_any l its.toArray n d sl k t (by simp [Builtin.List.listFitsIndex]; omega) (by omega) (by simp [Builtin.List.listTooLong, sizeLine]; omega))
        ⟨ho, ?_⟩⟩)
  have hn : Data.seq (List.foldl (fun x1 x2 => x1 ++ x2) #[] (List.replicate (if its.toArray.isEmpty = true then 0 else k.toNat) its.toArray)) = Data.seq (List.replicate k.toNat its).flatten.toArray := by
    rw [listMul_foldl_if]
  rw [hn]
  refine ⟨.ref _, _, I.lnew (t' := s.toks) (vals_rep r k.toNat) ?_, rfl, q _ I.fresh⟩
  rw [List.length_flatten, List.map_replicate, List.sum_replicate_nat, Nat.mul_comm]
  exact hz
theorem op_mulStr : OpR X (binaryOp .Mult) (fun x y H Q => ∃ (z : Str) (k : Int), x = .str z ∧ y = .int k ∧ 0 ≤ k ∧ k < 2 ^ 30 ∧ z.length * k.toNat ≤ sizeLine ∧ Q (.str ⟨(List.replicate k.toNat z.cps.toList).flatten.toArray⟩) H) := by
  intro pins s σ H x y v u Q I rx ry h
  obtain ⟨z, k, rfl, rfl, h1, h2, hz, q⟩ := h
  obtain ⟨t, rfl⟩ := rx
  obtain ⟨t', rfl⟩ := ry
  have fold : ∀ (n : Nat) (a : Array Nat), List.foldl (fun x1 x2 => x1 ++ x2) a (List.replicate n z.cps) = a ++ (List.replicate n z.cps.toList).flatten.toArray := by
    intro n
    induction n with
    | zero => intro a; simp
    | succ n ih => 
      intro a
      rw [List.replicate_succ, List.foldl_cons, ih]
      apply Array.ext'
      simp [List.replicate_succ]
  refine PySem.P.mul_str ?_ (fun a b => ?_) (fun a b => ?_) ?_
  · simp; omega
  · have hl : sizeLine = 16777216 := sizeLine_eq
    have hk : (1 : Int) ≤ k := by omega
    have : (z.length : Int) * k ≤ 16777216 := by
      have e : ((z.length * k.toNat : Nat) : Int) ≤ 16777216 := by omega
      rw [Int.natCast_mul, Int.toNat_of_nonneg h1] at e
      exact e
    intro c
    have d : (2 ^ 63 - 1) / k ≥ 16777216 := by
      apply Int.le_ediv_of_mul_le (by omega)
      omega
    have : (z.length : Int) ≤ z.length * k := by
      have := Int.mul_le_mul_of_nonneg_left hk (Int.natCast_nonneg z.length)
      omega
    omega
  · unfold Builtin.Str.tooLong
    exact decide_eq_false (by omega)
  · by_cases c : k < 1
    · have : k = 0 := by omega
      subst this
      rw [if_pos c]
      exact ⟨by decide, ⟨.str Str.empty, H, I.tok _, ⟨_, rfl⟩, q⟩⟩
    · rw [if_neg c]
      by_cases d : (k == 1 || z.length == 0) = true
      · rw [if_pos d]
        have e : (⟨(List.replicate k.toNat z.cps.toList).flatten.toArray⟩ : Str) = z := by
          rw [Bool.or_eq_true, beq_iff_eq, beq_iff_eq] at d
          rcases d with d | d
          · subst d; simp
          · have : z.cps.toList = [] := by
              have : z.cps.toList.length = 0 := by simpa [Str.length] using d
              exact List.eq_nil_of_length_eq_zero this
            rw [this]
            cases z with
            | mk c =>
              have : c = #[] := by
                have : c.toList = [] := by simpa using this
                cases c; simpa using this
              subst this
              simp
        rw [e] at q
        exact ⟨.str z, H, I, ⟨_, rfl⟩, q⟩
      · rw [if_neg d]
        have e := fold k.toNat #[]
        rw [e]
        have e2 : (#[] : Array Nat) ++ (List.replicate k.toNat z.cps.toList).flatten.toArray = (List.replicate k.toNat z.cps.toList).flatten.toArray := by simp
        rw [e2]
        refine ⟨?_, ⟨.str _, H, I.tok _, ⟨_, rfl⟩, q⟩⟩
        have : (List.replicate k.toNat z.cps.toList).flatten.length = z.length * k.toNat := by
          rw [List.length_flatten, List.map_replicate, List.sum_replicate_nat, Nat.mul_comm]
          simp [Str.length]
        show (List.replicate k.toNat z.cps.toList).flatten.toArray.size ≤ sizeLine
        rw [List.size_toArray, this]
        exact hz
end
end DD

end

section
set_option Elab.async false
set_option linter.all false
set_option autoImplicit false
set_option maxRecDepth 100000
set_option maxHeartbeats 2000000
/-! Expressions over data: sums, subscripts, slices, displays, built-ins, tests. -/
namespace DD
open PySem PySem.Spec PyProof.Rows L2
section
variable {X : Cx} {W : WX} {K : PySem.W.Frag} {mg : Str → Option Value} {R : Nat} {μ : Mu} {S : Cells} {H : Hp}
variable {a b c : Expr} {c1 c2 c3 : Nat} {w1 w2 w3 : WE} {pos : Pos}

/-! ### + and * -/
theorem od_add : OpD K mg (fun x y H Q => rI0 (fun i j => .int (i + j)) x y H Q ∨ (∃ i j, x = .str i ∧ y = .str j ∧ i.length + j.length ≤ sizeLine ∧ Q (.str (i ++ j)) H) ∨ rCatT K x y H Q ∨ rCatL K x y H Q) gAdd := by
  intro R μ S H d1 d2 v u P Q s ra rb h o
  have gen : (∃ xs ys, seqL S d1 = some xs ∧ seqL S d2 = some ys ∧ xs.length + ys.length ≤ sizeLine ∧ P (.lst (xs ++ ys)) S) → rCatL K v u H Q := by
    rintro ⟨xs, ys, e1, e2, hl, p⟩
    obtain ⟨a, vs, rfl, h1, h2⟩ := seqL_ok s ra e1
    obtain ⟨b, us, rfl, k1, k2⟩ := seqL_ok s rb e2
    exact ⟨a, b, vs, us, rfl, rfl, h1, k1, by rw [← h2.length, ← k2.length]; exact hl, fun p n => o.newL s (h2.append k2) n ‹_›⟩
  unfold gAdd at h
  split at h
  · cases ra; cases rb; exact .inl ⟨_, _, rfl, rfl, o.now s (.int _) h⟩
  · cases ra; cases rb
    refine .inr (.inl ⟨_, _, rfl, rfl, by simpa using h.1, ?_⟩)
    have e : ∀ x y : List Nat, S' x ++ S' y = S' (x ++ y) := fun x y => by
      show (⟨x.toArray ++ y.toArray⟩ : Str) = ⟨(x ++ y).toArray⟩
      simp
    rw [e]
    exact o.now s (.str _) h.2
  · obtain ⟨h1, h2, hl, p⟩ := h
    obtain ⟨a, vs, rfl, k1, k2⟩ := seqT_ok ra rfl
    obtain ⟨b, us, rfl, k3, k4⟩ := seqT_ok rb rfl
    have e1 := k2.length
    have e2 := k4.length
    refine .inr (.inr (.inl ⟨a, b, vs, us, rfl, rfl, k1, k3, fun z => h1 (List.eq_nil_of_length_eq_zero (by rw [e1, z]; rfl)), by omega, ?_⟩))
    first
      | exact ⟨fun z => absurd (List.eq_nil_of_length_eq_zero (by rw [e2, z]; rfl)) h2, fun _ q n => o.newT s (k2.append k4) n p⟩
      | exact fun _ q n => o.newT s (k2.append k4) n p
  · exact .inr (.inr (.inr (gen h)))
theorem d_add (ha : DE X W a c1 w1) (hb : DE X W b c2 w2) : DE X W (.BinOp a .Add b pos) (c1 + c2) (wBin gAdd w1 w2) := d_op (op_add.or (op_add_str.or (op_catT.or op_catL))) od_add ha hb
def gMul (a b : D) (S : Cells) (P : Q1) : Prop := match a, b with
  | .int i, .int j => CMul i j ∧ P (.int (i * j)) S
  | .str x, .int k => 0 ≤ k ∧ k < 2 ^ 30 ∧ x.length * k.toNat ≤ sizeLine ∧ P (.str (List.replicate k.toNat x).flatten) S
  | a, .int k => ∃ xs, seqL S a = some xs ∧ -(2 ^ 63) ≤ k ∧ k < 2 ^ 63 ∧ xs.length * k.toNat ≤ sizeLine ∧ P (.lst (List.replicate k.toNat xs).flatten) S
  | _, _ => False
theorem valL_rep {lv : Addr → Prop} {ds : List D} {vs : List V} (r : ValL K mg μ lv H ds vs) : ∀ n : Nat, ValL K mg μ lv H (List.replicate n ds).flatten (List.replicate n vs).flatten
  | 0 => .nil
  | n + 1 => by
    rw [List.replicate_succ, List.replicate_succ, List.flatten_cons, List.flatten_cons]
    exact r.append (valL_rep r n)
theorem od_mul : OpD K mg (fun x y H Q => rI CMul (fun i j => .int (i * j)) x y H Q ∨ (∃ (z : Str) (k : Int), x = .str z ∧ y = .int k ∧ 0 ≤ k ∧ k < 2 ^ 30 ∧ z.length * k.toNat ≤ sizeLine ∧ Q (.str ⟨(List.replicate k.toNat z.cps.toList).flatten.toArray⟩) H) ∨ rRepL K x y H Q) gMul := by
  intro R μ S H d1 d2 v u P Q s ra rb h o
  unfold gMul at h
  split at h
  · cases ra; cases rb; exact .inl ⟨_, _, rfl, rfl, h.1, o.now s (.int _) h.2⟩
  · cases ra; cases rb
    obtain ⟨h1, h2, h3, p⟩ := h
    exact .inr (.inl ⟨_, _, rfl, rfl, h1, h2, by simpa using h3, by simpa [S'] using o.now s (.str _) p⟩)
  · cases rb
    obtain ⟨xs, e, h1, h2, h3, p⟩ := h
    obtain ⟨a, vs, rfl, k1, k2⟩ := seqL_ok s ra e
    exact .inr (.inr ⟨a, _, vs, rfl, rfl, k1, h1, h2, by rw [← k2.length]; exact h3, fun q n => o.newL s (valL_rep k2 _) n p⟩)
  · exact h.elim
theorem d_mul (ha : DE X W a c1 w1) (hb : DE X W b c2 w2) : DE X W (.BinOp a .Mult b pos) (c1 + c2) (wBin gMul w1 w2) := d_op (op_mul.or (op_mulStr.or op_repL)) od_mul ha hb

/-! ### subscripts -/
def gIx (a i : D) (S : Cells) (P : Q1) : Prop := match a, i with
  | .str s, .int k => s.length ≤ sizeLine ∧ ∃ c, atI s k = some c ∧ P (.str [c]) S
  | a, .int k => ∃ xs d, seqA S a = some xs ∧ atI xs k = some d ∧ P d S
  | _, _ => False
theorem atI_val {lv : Addr → Prop} {ds : List D} {vs : List V} {k : Int} {d : D} (r : ValL K mg μ lv H ds vs) (h : atI ds k = some d) : ∃ v, atI vs k = some v ∧ Val K mg μ lv H d v := by
  unfold atI at h ⊢
  rw [r.length] at h
  cases e : ixN vs.length k with
  | none => rw [e] at h; cases h
  | some j => rw [e] at h; exact r.get h
theorem od_ix : OpD K mg (rIx K) gIx := by
  intro R μ S H d1 d2 v u P Q s ra rb h o
  unfold gIx at h
  split at h
  · cases ra; cases rb
    obtain ⟨hl, c, e, p⟩ := h
    exact .inr (.inr ⟨_, _, c, rfl, rfl, by simpa using hl, by simpa using e, o.now s (.str [c]) p⟩)
  · cases rb
    obtain ⟨xs, d, e1, e2, p⟩ := h
    obtain ⟨a, vs, rfl, k1, k2⟩ := seqA_ok s ra e1
    obtain ⟨w, z1, z2⟩ := atI_val k2 e2
    rcases k1 with k1 | k1
    · exact .inl ⟨a, vs, _, w, rfl, rfl, k1, z1, o.now s z2 p⟩
    · exact .inr (.inl ⟨a, vs, _, w, rfl, rfl, k1, z1, o.now s z2 p⟩)
  · exact h.elim
theorem d_ix (ha : DE X W a c1 w1) (hb : DE X W b c2 w2) (hs : PlainIx b := by intro _ _; rfl) : DE X W (.Subscript a b pos) (c1 + c2) (wBin gIx w1 w2) := PE.imp (pe_ix ix_seq ha hb hs) (tOp_of od_ix)

/-! ### slices -/
abbrev WO := Rho → Cells → (Option Int → Cells → Prop) → EQ → Prop
def tO (K : PySem.W.Frag) (mg : Str → Option Value) (W : WX) (c : Nat) (w : WO) : TO := fun σ H Q => ∃ R μ S ρ P E, Sat K mg (R + c) μ S H ∧ EnvOk K mg μ S H ρ σ ∧ w ρ S P E ∧
  (∀ b S1 μ1 H1, Ext μ S H μ1 S1 H1 → Sat K mg R μ1 S1 H1 → P b S1 → Q b H1) ∧ OutX K mg R μ S H E (fun cls d H' => W cls d σ H')
abbrev DO (X : Cx) (W : WX) (e : Option Expr) (c : Nat) (w : WO) : Prop := PO X e (tO X.K X.mg W c w)
theorem PO.imp {X : Cx} {e : Option Expr} {t t' : TO} (h : PO X e t) (k : ∀ σ H Q, t' σ H Q → t σ H Q) : PO X e t' := ⟨fun pins s σ H Q I q => h.run pins s σ H Q I (k σ H Q q)⟩
def wNoO : WO := fun _ S P _ => P none S
def wSmO (w : WE) : WO := fun ρ S P E => w ρ S (fun d S1 => ∃ i, d = .int i ∧ P (some i) S1) E
theorem do_none : DO X W none 0 wNoO := PO.imp po_none fun σ H Q ⟨R, μ, S, ρ, P, E, s, e, p, o, _⟩ => o none S μ H .refl s p
theorem do_some (h : DE X W a c1 w1) : DO X W (some a) c1 (wSmO w1) := PO.imp (po_some h) fun σ H Q ⟨R, μ, S, ρ, P, E, s, e, p, o, x⟩ =>
  tE_of s e p (fun d S1 μ1 v H1 x1 s1 e1 r1 ⟨i, hd, p1⟩ => by subst hd; cases r1; exact ⟨i, rfl, o _ S1 μ1 H1 x1 s1 p1⟩) x
/-- the part from lo to hi -/
def cutD {α : Type} (xs : List α) (lo hi : Option Int) : List α := (xs.drop (HT.sIx xs.length 0 lo)).take (HT.sIx xs.length xs.length hi - HT.sIx xs.length 0 lo)
def gSl (m : Bool) (a : D) (lo hi : Option Int) (S : Cells) (P : Q1) : Prop := match a with
  | .str s => s.length ≤ sizeLine ∧ P (.str (cutD s lo hi)) S
  | .tup xs => P (.tup (cutD xs lo hi)) S
  | a => ∃ xs, seqL S a = some xs ∧ mkL m (cutD xs lo hi) S P
def wSl (m : Bool) (w1 : WE) (wl wh : WO) : WE := fun ρ S P E => w1 ρ S (fun d S1 => wl ρ S1 (fun lo S2 => wh ρ S2 (fun hi S3 => gSl m d lo hi S3 P) E) E) E
theorem cutD_whole {α : Type} {xs : List α} {lo hi : Option Int} (h : HT.sIx xs.length 0 lo = 0 ∧ HT.sIx xs.length xs.length hi = xs.length) : cutD xs lo hi = xs := by
  unfold cutD
  rw [h.1, h.2]
  simp
theorem d_sl (m : Bool) {lo hi : Option Expr} {p2 : Pos} {wl wh : WO} (ha : DE X W a c1 w1) (hl : DO X W lo c2 wl) (hh : DO X W hi c3 wh) : DE X W (.Subscript a (.Slice lo hi none p2) pos) (c1 + c2 + c3) (wSl m w1 wl wh) := by
  refine PE.imp (pe_slice (sl_list.or (sl_tupA.or sl_str)) ha hl hh) fun σ H Q ⟨R, μ, S, ρ, P, E, s, e, h, o, x⟩ => ?_
  refine tE_of (R := R + c3 + c2) (s.mono (by omega)) e h (fun d1 S1 μ1 v1 H1 x1 s1 e1 r1 h1 => ?_) (x.mono (by omega))
  refine ⟨R + c3, μ1, S1, ρ, _, E, s1, e1, h1, fun lo S2 μ2 H2 x2 s2 h2 => ?_, (x.ext x1).mono (by omega)⟩
  refine ⟨R, μ2, S2, ρ, _, E, s2, e1.ext x2, h2, fun hi S3 μ3 H3 x3 s3 h3 => ?_, (x.ext (x1.trans x2))⟩
  have o3 := o.ext (x1.trans (x2.trans x3))
  have r3 := r1.ext (x2.trans x3)
  unfold gSl at h3
  split at h3
  · cases r3
    refine .inr (.inr ⟨_, rfl, by simpa using h3.1, ?_⟩)
    have e : ∀ z : List Nat, cutS (S' z) lo hi = S' (cutD z lo hi) := fun z => by unfold cutS cutD S'; simp [Str.length]
    rw [e]
    exact o3.now s3 (.str _) h3.2
  · obtain ⟨a, vs, rfl, k1, k2⟩ := seqT_ok r3 rfl
    have hl := k2.length
    refine .inr (.inl ⟨a, vs, rfl, k1, fun hw => ?_, fun _ p n => ?_⟩)
    · rw [cutD_whole (by rw [hl]; exact hw)] at h3
      exact o3.now s3 r3 h3
    · have z : cutV vs lo hi = cutD vs lo hi := rfl
      rw [z]
      refine o3.newT s3 ?_ n h3
      unfold cutD
      rw [hl]
      exact (k2.drop _).take _
  · obtain ⟨xs, ex, p⟩ := h3
    obtain ⟨a, vs, rfl, k1, k2⟩ := seqL_ok s3 r3 ex
    have hl := k2.length
    refine .inl ⟨a, vs, rfl, k1, fun q n => ?_⟩
    have z : cutV vs lo hi = cutD vs lo hi := rfl
    rw [z]
    refine o3.mk s3 ?_ n p
    unfold cutD
    rw [hl]
    exact (k2.drop _).take _

/-! ### arguments, displays -/
def wNil : WA := fun _ S P _ => P [] S
def wCons (w : WE) (ws : WA) : WA := fun ρ S P E => w ρ S (fun d S1 => ws ρ S1 (fun ds S2 => P (d :: ds) S2) E) E
theorem da_nil : DA X W [] 0 wNil := PA.imp pa_nil fun σ H Q ⟨R, μ, S, ρ, P, E, s, e, p, o, _⟩ => o [] S μ [] H .refl s .nil p
theorem da_cons {es : List Expr} {ws : WA} (h : DE X W a c1 w1) (hs : DA X W es c2 ws) (he : starEach (a :: es) X.env = (false, eval a X.env) :: starEach es X.env := by rfl) : DA X W (a :: es) (c1 + c2) (wCons w1 ws) := by
  refine PA.imp (pa_cons h hs he) fun σ H Q ⟨R, μ, S, ρ, P, E, s, e, p, o, x⟩ => ?_
  refine tE_of (R := R + c2) (s.mono (by omega)) e p (fun d1 S1 μ1 v1 H1 x1 s1 e1 r1 h1 => ?_) (x.mono (by omega))
  refine tA_of (R := R) s1 e1 h1 (fun ds S2 μ2 vs H2 x2 s2 e2 r2 h2 => ?_) (x.ext x1)
  exact o _ S2 μ2 _ H2 (x1.trans x2) s2 (.cons (r1.ext x2) r2) h2
def wTup (ws : WA) : WE := fun ρ S P E => ws ρ S (fun ds S1 => ds.length ≤ sizeLine ∧ P (.tup ds) S1) E
def wLst (m : Bool) (ws : WA) : WE := fun ρ S P E => ws ρ S (fun ds S1 => ds.length ≤ sizeLine ∧ mkL m ds S1 P) E
theorem d_tup {es : List Expr} {ws : WA} {x1} (h : DA X W es c1 ws) : DE X W (.Tuple es x1 pos) c1 (wTup ws) := by
  refine PE.imp (pe_tup h) fun σ H Q ⟨R, μ, S, ρ, P, E, s, e, p, o, x⟩ => ?_
  refine tA_of s e p (fun ds S1 μ1 vs H1 x1 s1 e1 r1 h1 => ?_) x
  exact ⟨by rw [← r1.length]; exact h1.1, fun p n => (o.ext x1).newT s1 r1 n h1.2⟩
theorem d_lst (m : Bool) {es : List Expr} {ws : WA} (h : DA X W es c1 ws) : DE X W (.List es pos) c1 (wLst m ws) := by
  refine PE.imp (pe_lst h) fun σ H Q ⟨R, μ, S, ρ, P, E, s, e, p, o, x⟩ => ?_
  refine tA_of s e p (fun ds S1 μ1 vs H1 x1 s1 e1 r1 h1 => ?_) x
  exact ⟨by rw [← r1.length]; exact h1.1, fun p n => (o.ext x1).mk s1 r1 n h1.2⟩

/-! ### tests -/
def wTest (w : WE) : WT := fun ρ S P E => w ρ S (fun d S1 => ∃ k, d = .bl k ∧ P k S1) E
theorem dt_val (h : DE X W a c1 w1) (he : ∀ whole, isTrue a X.env whole = (do let v ← whole; standAt a.pos; holding [v] (truthy v)) := by intro _; rfl) : DT X W a c1 (wTest w1) := by
  refine PT.imp (pt_val h he) fun σ H Q ⟨R, μ, S, ρ, P, E, s, e, p, o, x⟩ => ?_
  refine tE_of s e p (fun d1 S1 μ1 v1 H1 x1 s1 e1 r1 h1 => ?_) x
  obtain ⟨k, rfl, h1⟩ := h1
  cases r1
  exact ⟨k, rfl, o k S1 μ1 H1 x1 s1 h1⟩
theorem tTest_of {r : R2} {g : D → D → Cells → Q1 → Prop} (hr : OpD X.K X.mg r g) (σ : L2.St) (H : Hp) (Q : Bool → Hp → Prop) (h : tT X.K X.mg W (c1 + c2) (wTest (wBin g w1 w2)) σ H Q) : tTest (tOp r (tE X.K X.mg W c1 w1) (tE X.K X.mg W c2 w2)) σ H Q := by
  obtain ⟨R, μ, S, ρ, P, E, s, e, p, o, x⟩ := h
  refine tOp_of hr σ H _ ⟨R, μ, S, ρ, _, E, s, e, p, fun d1 S1 μ1 v1 H1 x1 s1 r1 h1 => ?_, x⟩
  obtain ⟨k, rfl, h1⟩ := h1
  cases r1
  exact ⟨k, rfl, o k S1 μ1 H1 x1 s1 h1⟩
theorem dt_cmp {op : CmpOp} {r : R2} {g : D → D → Cells → Q1 → Prop} (ho : OpR X (compareOp op) r) (hr : OpD X.K X.mg r g) (ha : DE X W a c1 w1) (hb : DE X W b c2 w2) (hm : behindInMarks op b = false) :
    DT X W (.Compare a [op] [b] pos) (c1 + c2) (wTest (wBin g w1 w2)) := PT.imp (pt_cmpR ho ha hb hm) (tTest_of hr)
theorem dt_eq (hr : X.A.units + 100 < cLine) (ha : DE X W a c1 w1) (hb : DE X W b c2 w2) : DT X W (.Compare a [.Eq] [b] pos) (c1 + c2) (wTest (wBin gEq w1 w2)) := dt_cmp (op_eq.or (op_eqD (by omega))) od_eq ha hb (nomark _)
theorem dt_ne (hr : X.A.units + 100 < cLine) (ha : DE X W a c1 w1) (hb : DE X W b c2 w2) : DT X W (.Compare a [.NotEq] [b] pos) (c1 + c2) (wTest (wBin gNe w1 w2)) := dt_cmp (op_ne.or (op_neD (by omega))) od_ne ha hb (nomark _)
theorem dt_lt (hr : X.A.units + 100 < cLine) (ha : DE X W a c1 w1) (hb : DE X W b c2 w2) : DT X W (.Compare a [.Lt] [b] pos) (c1 + c2) (wTest (wBin gLt w1 w2)) := dt_cmp (op_lt.or (op_lt_str.or (op_ltD (by omega)))) od_lt ha hb (nomark _)
theorem dt_le (ha : DE X W a c1 w1) (hb : DE X W b c2 w2) : DT X W (.Compare a [.LtE] [b] pos) (c1 + c2) (wTest (wBin gLe w1 w2)) := dt_cmp op_le (od_I0 fun _ _ _ _ _ => .bl _) ha hb (nomark _)
theorem dt_gt (ha : DE X W a c1 w1) (hb : DE X W b c2 w2) : DT X W (.Compare a [.Gt] [b] pos) (c1 + c2) (wTest (wBin gGt w1 w2)) := dt_cmp op_gt (od_I0 fun _ _ _ _ _ => .bl _) ha hb (nomark _)
theorem dt_ge (ha : DE X W a c1 w1) (hb : DE X W b c2 w2) : DT X W (.Compare a [.GtE] [b] pos) (c1 + c2) (wTest (wBin gGe w1 w2)) := dt_cmp op_ge (od_I0 fun _ _ _ _ _ => .bl _) ha hb (nomark _)
def wAndT (wa wb : WT) : WT := fun ρ S P E => wa ρ S (fun c S1 => if c = true then wb ρ S1 P E else P false S1) E
def wOrT (wa wb : WT) : WT := fun ρ S P E => wa ρ S (fun c S1 => if c = true then P true S1 else wb ρ S1 P E) E
def wNotT (wa : WT) : WT := fun ρ S P E => wa ρ S (fun c S1 => P (!c) S1) E
variable {t1 t2 : WT} {es : List Expr}
theorem dw_and1 (h : DT X W a c1 t1) : DW X W (.BoolOp .And [a] pos) c1 t1 := pw_and1 h
theorem dw_or1 (h : DT X W a c1 t1) : DW X W (.BoolOp .Or [a] pos) c1 t1 := pw_or1 h
theorem dw_and (h : DT X W a c1 t1) (hs : DW X W (.BoolOp .And (b :: es) pos) c2 t2) : DW X W (.BoolOp .And (a :: b :: es) pos) (c1 + c2) (wAndT t1 t2) := by
  refine PW.imp (pw_and h hs) fun σ H Q ⟨R, μ, S, ρ, P, E, s, e, p, o, x⟩ => ?_
  refine tT_of (R := R + c2) (s.mono (by omega)) e p (fun k S1 μ1 H1 x1 s1 e1 h1 => ?_) (x.mono (by omega))
  cases k with
  | true => exact ⟨R, μ1, S1, ρ, P, E, s1, e1, h1, fun b S2 μ2 H2 x2 s2 p2 => o b S2 μ2 H2 (x1.trans x2) s2 p2, x.ext x1⟩
  | false => exact o false S1 μ1 H1 x1 (s1.mono (by omega)) h1
theorem dw_or (h : DT X W a c1 t1) (hs : DW X W (.BoolOp .Or (b :: es) pos) c2 t2) : DW X W (.BoolOp .Or (a :: b :: es) pos) (c1 + c2) (wOrT t1 t2) := by
  refine PW.imp (pw_or h hs) fun σ H Q ⟨R, μ, S, ρ, P, E, s, e, p, o, x⟩ => ?_
  refine tT_of (R := R + c2) (s.mono (by omega)) e p (fun k S1 μ1 H1 x1 s1 e1 h1 => ?_) (x.mono (by omega))
  cases k with
  | false => exact ⟨R, μ1, S1, ρ, P, E, s1, e1, h1, fun b S2 μ2 H2 x2 s2 p2 => o b S2 μ2 H2 (x1.trans x2) s2 p2, x.ext x1⟩
  | true => exact o true S1 μ1 H1 x1 (s1.mono (by omega)) h1
theorem dt_w (h : DW X W a c1 t1) : DT X W a c1 t1 := h.pt
theorem dt_not (h : DT X W a c1 t1) : DT X W (.UnaryOp .Not a pos) c1 (wNotT t1) := by
  refine PT.imp (pt_not h) fun σ H Q ⟨R, μ, S, ρ, P, E, s, e, p, o, x⟩ => ?_
  exact tT_of s e p (fun k S1 μ1 H1 x1 s1 e1 h1 => o (!k) S1 μ1 H1 x1 s1 h1) x
/-- and, or, not as values of truth values -/
def wAnd (wa wb : WE) : WE := fun ρ S P E => wa ρ S (fun d S1 => ∃ c, d = .bl c ∧ if c = true then wb ρ S1 P E else P (.bl false) S1) E
def wOr (wa wb : WE) : WE := fun ρ S P E => wa ρ S (fun d S1 => ∃ c, d = .bl c ∧ if c = true then P (.bl true) S1 else wb ρ S1 P E) E
def wNot (wa : WE) : WE := fun ρ S P E => wa ρ S (fun d S1 => ∃ c, d = .bl c ∧ P (.bl (!c)) S1) E
theorem d_one {op} (h : DE X W a c1 w1) : DE X W (.BoolOp op [a] pos) c1 w1 := pe_one h
theorem d_and (h : DE X W a c1 w1) (hs : DE X W (.BoolOp .And (b :: es) pos) c2 w2) : DE X W (.BoolOp .And (a :: b :: es) pos) (c1 + c2) (wAnd w1 w2) := by
  refine PE.imp (pe_and h hs) fun σ H Q ⟨R, μ, S, ρ, P, E, s, e, p, o, x⟩ => ?_
  refine tE_of (R := R + c2) (s.mono (by omega)) e p (fun k S1 μ1 v1 H1 x1 s1 e1 r1 h1 => ?_) (x.mono (by omega))
  obtain ⟨k, rfl, h1⟩ := h1
  cases r1
  refine ⟨k, rfl, ?_⟩
  cases k with
  | true => exact ⟨R, μ1, S1, ρ, P, E, s1, e1, h1, o.ext x1, x.ext x1⟩
  | false => exact o (.bl false) S1 μ1 _ H1 x1 (s1.mono (by omega)) (.bl false) h1
theorem d_or (h : DE X W a c1 w1) (hs : DE X W (.BoolOp .Or (b :: es) pos) c2 w2) : DE X W (.BoolOp .Or (a :: b :: es) pos) (c1 + c2) (wOr w1 w2) := by
  refine PE.imp (pe_or h hs) fun σ H Q ⟨R, μ, S, ρ, P, E, s, e, p, o, x⟩ => ?_
  refine tE_of (R := R + c2) (s.mono (by omega)) e p (fun k S1 μ1 v1 H1 x1 s1 e1 r1 h1 => ?_) (x.mono (by omega))
  obtain ⟨k, rfl, h1⟩ := h1
  cases r1
  refine ⟨k, rfl, ?_⟩
  cases k with
  | false => exact ⟨R, μ1, S1, ρ, P, E, s1, e1, h1, o.ext x1, x.ext x1⟩
  | true => exact o (.bl true) S1 μ1 _ H1 x1 (s1.mono (by omega)) (.bl true) h1
theorem d_not (h : DE X W a c1 w1) : DE X W (.UnaryOp .Not a pos) c1 (wNot w1) := by
  refine PE.imp (pe_not h) fun σ H Q ⟨R, μ, S, ρ, P, E, s, e, p, o, x⟩ => ?_
  refine tE_of s e p (fun k S1 μ1 v1 H1 x1 s1 e1 r1 h1 => ?_) x
  obtain ⟨k, rfl, h1⟩ := h1
  cases r1
  exact ⟨k, rfl, o _ S1 μ1 _ H1 x1 s1 (.bl _) h1⟩
def wIte (t : WT) (wa wb : WE) : WE := fun ρ S P E => t ρ S (fun c S1 => if c = true then wa ρ S1 P E else wb ρ S1 P E) E
theorem d_ite (h : DT X W c c1 t1) (ha : DE X W a c2 w1) (hb : DE X W b c3 w2) : DE X W (.IfExp c a b pos) (c1 + (c2 + c3)) (wIte t1 w1 w2) := by
  refine PE.imp (pe_ifExp h ha hb) fun σ H Q ⟨R, μ, S, ρ, P, E, s, e, p, o, x⟩ => ?_
  refine tT_of (R := R + (c2 + c3)) (s.mono (by omega)) e p (fun k S1 μ1 H1 x1 s1 e1 h1 => ?_) (x.mono (by omega))
  cases k with
  | true => exact ⟨R, μ1, S1, ρ, P, E, s1.mono (by omega), e1, h1, o.ext x1, x.ext x1⟩
  | false => exact ⟨R, μ1, S1, ρ, P, E, s1.mono (by omega), e1, h1, o.ext x1, x.ext x1⟩
/-- a chain of two comparisons -/
def wChain (g1 g2 : D → D → Cells → Q1 → Prop) (wa wb wc : WE) : WE := fun ρ S P E => wa ρ S (fun d1 S1 => wb ρ S1 (fun d2 S2 => g1 d1 d2 S2 fun z S3 => ∃ k, z = .bl k ∧ if k = true then wc ρ S3 (fun d3 S4 => g2 d2 d3 S4 P) E else P (.bl false) S3) E) E
theorem d_chain {op op' : CmpOp} {r r' : R2} {g1 g2 : D → D → Cells → Q1 → Prop} (ho : OpR X (compareOp op) r) (ho' : OpR X (compareOp op') r') (hr : OpD X.K X.mg r g1) (hr' : OpD X.K X.mg r' g2) (ha : DE X W a c1 w1) (hb : DE X W b c2 w2) (hc : DE X W c c3 w3)
    (h : PE X (.Compare a [op, op'] [b, c] pos) (tChain r r' (tE X.K X.mg W c1 w1) (tE X.K X.mg W c2 w2) (tE X.K X.mg W c3 w3))) : DE X W (.Compare a [op, op'] [b, c] pos) (c1 + c2 + c3) (wChain g1 g2 w1 w2 w3) := by
  refine PE.imp h fun σ H Q ⟨R, μ, S, ρ, P, E, s, e, p, o, x⟩ => ?_
  refine tE_of (R := R + c3 + c2) (s.mono (by omega)) e p (fun d1 S1 μ1 v1 H1 x1 s1 e1 r1 h1 => ?_) (x.mono (by omega))
  refine tE_of (R := R + c3) s1 e1 h1 (fun d2 S2 μ2 v2 H2 x2 s2 e2 r2 h2 => ?_) ((x.ext x1).mono (by omega))
  refine hr (R + c3) μ2 S2 H2 d1 d2 v1 v2 _ _ s2 (r1.ext x2) r2 h2 fun d S3 μ3 v3 H3 x3 s3 r3 h3 => ?_
  obtain ⟨k, rfl, h3⟩ := h3
  cases r3
  refine ⟨k, rfl, ?_⟩
  have xx := x1.trans (x2.trans x3)
  cases k with
  | true =>
    refine tE_of (R := R) s3 (e2.ext x3) h3 (fun d4 S4 μ4 v4 H4 x4 s4 e4 r4 h4 => ?_) (x.ext xx)
    exact hr' R μ4 S4 H4 d2 d4 v2 v4 P Q s4 (r2.ext (x3.trans x4)) r4 h4 (o.ext (xx.trans x4))
  | false => exact o (.bl false) S3 μ3 _ H3 xx (s3.mono (by omega)) (.bl false) h3

/-! ### calls of built-ins by values -/
def CallD (K : PySem.W.Frag) (mg : Str → Option Value) (r : List V → Hp → VK → Prop) (g : List D → Cells → Q1 → Prop) : Prop :=
  ∀ R μ S H ds vs P Q, Sat K mg R μ S H → ValL K mg μ (Lv μ S) H ds vs → g ds S P → Out1 K mg R μ S H P Q → r vs H Q
def wB (g : List D → Cells → Q1 → Prop) (ws : WA) : WE := fun ρ S P E => ws ρ S (fun ds S1 => g ds S1 P) E
theorem tCB_of {r : List V → Hp → VK → Prop} {g : List D → Cells → Q1 → Prop} {ws : WA} (hr : CallD X.K X.mg r g) (σ : L2.St) (H : Hp) (Q : VK) (h : tE X.K X.mg W c1 (wB g ws) σ H Q) : tCB r (tA X.K X.mg W c1 ws) σ H Q := by
  obtain ⟨R, μ, S, ρ, P, E, s, e, h, o, x⟩ := h
  refine tA_of (R := R) s e h (fun ds S1 μ1 vs H1 x1 s1 e1 r1 h1 => ?_) x
  exact hr R μ1 S1 H1 ds vs P Q s1 r1 h1 (o.ext x1)
variable {ws : WA} {x : Str} {p : Pos} {bid T : String} {r : List V → Hp → VK → Prop} {g : List D → Cells → Q1 → Prop}
theorem d_callB (hc : CallR X (.builtin bid) r) (hr : CallD X.K X.mg r g) (hm : X.mg x = none) (ha : DA X W (a :: es) c1 ws) (hv : bootBuiltins x = some (.builtin bid) := by decide +kernel) (hg : Gl X x := by rfl) (hn : x ≠ "__name__" := by decide) (hdb : (x == ("__debug__" : Str)) = false := by decide)
    (he : starEach (a :: es) X.env = (false, eval a X.env) :: starEach es X.env := by rfl) (hpl : (backTo pos (starEach es X.env)).any (·.1) = false := by rfl) : DE X W (.Call (.Name x p) (a :: es) [] pos) c1 (wB g ws) :=
  PE.imp (pe_callB hc hg hm hv ha hn hdb he hpl) (tCB_of hr)
theorem d_callTy (hc : CallR X (.type T) r) (hr : CallD X.K X.mg r g) (hm : X.mg x = none) (ha : DA X W (a :: es) c1 ws) (hv : bootBuiltins x = some (.type T) := by decide +kernel) (hg : Gl X x := by rfl) (hn : x ≠ "__name__" := by decide) (hdb : (x == ("__debug__" : Str)) = false := by decide)
    (he : starEach (a :: es) X.env = (false, eval a X.env) :: starEach es X.env := by rfl) (hpl : (backTo pos (starEach es X.env)).any (·.1) = false := by rfl) : DE X W (.Call (.Name x p) (a :: es) [] pos) c1 (wB g ws) :=
  PE.imp (pe_callTy hc hg hm hv ha hn hdb he hpl) (tCB_of hr)
theorem valL1 {lv : Addr → Prop} {d : D} {vs : List V} (r : ValL K mg μ lv H [d] vs) : ∃ v, vs = [v] ∧ Val K mg μ lv H d v := by
  cases r with
  | cons h t => cases t; exact ⟨_, rfl, h⟩
theorem valL2 {lv : Addr → Prop} {d e : D} {vs : List V} (r : ValL K mg μ lv H [d, e] vs) : ∃ v u, vs = [v, u] ∧ Val K mg μ lv H d v ∧ Val K mg μ lv H e u := by
  cases r with
  | cons h t => obtain ⟨u, rfl, k⟩ := valL1 t; exact ⟨_, _, rfl, h, k⟩
/-- len -/
def lenD (S : Cells) (d : D) : Option Nat := match d with
  | .str s => if s.length ≤ sizeLine then some s.length else none
  | d => (seqA S d).map List.length
def gLen (ds : List D) (S : Cells) (P : Q1) : Prop := ∃ d n, ds = [d] ∧ lenD S d = some n ∧ P (.int n) S
theorem cd_len : CallD K mg (fun xs H Q => ∃ x n, xs = [x] ∧ LenV K x H n ∧ Q (.int n) H) gLen := by
  intro R μ S H ds vs P Q s r h o
  obtain ⟨d, n, rfl, e, p⟩ := h
  obtain ⟨v, rfl, rv⟩ := valL1 r
  refine ⟨v, n, rfl, ?_, o.now s (.int _) p⟩
  unfold lenD at e
  split at e
  · cases rv
    split at e
    · cases e
      exact ⟨by simpa, by simp⟩
    · cases e
  · cases q : seqA S d with
    | none => rw [q] at e; cases e
    | some xs =>
      rw [q] at e
      obtain ⟨a, vs, rfl, k1, k2⟩ := seqA_ok s rv q
      have en : n = vs.length := by rw [← k2.length]; exact (Option.some.inj e).symm
      exact k1.imp (fun k => ⟨vs, k, en⟩) fun k => ⟨vs, k, en⟩
theorem d_len (hm : X.mg "len" = none) {es : List Expr} (ha : DA X W (a :: es) c1 ws) (hg : Gl X "len" := by rfl)
    (he : starEach (a :: es) X.env = (false, eval a X.env) :: starEach es X.env := by rfl) (hpl : (backTo pos (starEach es X.env)).any (·.1) = false := by rfl) : DE X W (.Call (.Name "len" p) (a :: es) [] pos) c1 (wB gLen ws) :=
  d_callB call_len cd_len hm ha (by decide +kernel) hg (by decide) (by decide) he hpl
/-- list(x), tuple(x) of lists, tuples -/
def gList (m : Bool) (ds : List D) (S : Cells) (P : Q1) : Prop := ∃ d xs, ds = [d] ∧ seqA S d = some xs ∧ mkL m xs S P
theorem cd_list (m : Bool) : CallD K mg (fun xs H Q => ∃ p ys, xs = [.ref p] ∧ (SqL K H p ys ∨ SqT K H p ys) ∧ ∀ l, H l = none → Q (.ref l) (upd H l (.lst ys))) (gList m) := by
  intro R μ S H ds vs P Q s r h o
  obtain ⟨d, xs, rfl, e, p⟩ := h
  obtain ⟨v, rfl, rv⟩ := valL1 r
  obtain ⟨a, vs, rfl, k1, k2⟩ := seqA_ok s rv e
  exact ⟨a, vs, rfl, k1, fun l n => o.mk s k2 n p⟩
def gTupOf (ds : List D) (S : Cells) (P : Q1) : Prop := ∃ d xs, ds = [d] ∧ seqA S d = some xs ∧ P (.tup xs) S
theorem cd_tup : CallD K mg (fun xs H Q => ∃ p ys, xs = [.ref p] ∧ ((SqL K H p ys ∧ ∀ l, H l = none → Q (.ref l) (upd H l (.tup ys))) ∨ (SqT K H p ys ∧ Q (.ref p) H))) gTupOf := by
  intro R μ S H ds vs P Q s r h o
  obtain ⟨d, xs, rfl, e, p⟩ := h
  obtain ⟨v, rfl, rv⟩ := valL1 r
  by_cases z : ∃ ys, d = .tup ys
  · obtain ⟨ys, rfl⟩ := z
    obtain ⟨a, vs, rfl, k1, k2⟩ := seqT_ok rv rfl
    cases e
    exact ⟨a, vs, rfl, .inr ⟨k1, o.now s rv p⟩⟩
  · have e' : seqL S d = some xs := by
      cases d with
      | tup ys => exact absurd ⟨ys, rfl⟩ z
      | _ => exact e
    obtain ⟨a, vs, rfl, k1, k2⟩ := seqL_ok s rv e'
    exact ⟨a, vs, rfl, .inl ⟨k1, fun l n => o.newT s k2 n p⟩⟩
/-- all, any -/
def boolsOf : List D → Option (List Bool)
  | [] => some []
  | .bl b :: r => (boolsOf r).map (b :: ·)
  | _ => none
def gAll (ds : List D) (S : Cells) (P : Q1) : Prop := ∃ d xs bs, ds = [d] ∧ seqL S d = some xs ∧ boolsOf xs = some bs ∧ P (.bl (bs.all id)) S
def gAny (ds : List D) (S : Cells) (P : Q1) : Prop := ∃ d xs bs, ds = [d] ∧ seqL S d = some xs ∧ boolsOf xs = some bs ∧ P (.bl (bs.any id)) S
theorem bools_val {lv : Addr → Prop} : ∀ {xs : List D} {bs : List Bool} {vs : List V}, ValL K mg μ lv H xs vs → boolsOf xs = some bs → vs = bs.map V.bl
  | [], _, _, .nil, e => by cases e; rfl
  | .bl b :: xs, bs, _, .cons h t, e => by
    simp only [boolsOf] at e
    cases q : boolsOf xs with
    | none => rw [q] at e; cases e
    | some cs =>
      rw [q] at e
      cases e
      cases h
      rw [bools_val t q]
      rfl
  | .non :: _, _, _, _, e => by simp [boolsOf] at e
  | .int _ :: _, _, _, _, e => by simp [boolsOf] at e
  | .str _ :: _, _, _, _, e => by simp [boolsOf] at e
  | .tup _ :: _, _, _, _, e => by simp [boolsOf] at e
  | .lst _ :: _, _, _, _, e => by simp [boolsOf] at e
  | .dct _ :: _, _, _, _, e => by simp [boolsOf] at e
  | .ref _ :: _, _, _, _, e => by simp [boolsOf] at e
  | .ty _ :: _, _, _, _, e => by simp [boolsOf] at e
  | .glb _ :: _, _, _, _, e => by simp [boolsOf] at e
theorem cd_all : CallD K mg (rAll K) gAll := by
  intro R μ S H ds vs P Q s r h o
  obtain ⟨d, xs, bs, rfl, e, eb, p⟩ := h
  obtain ⟨v, rfl, rv⟩ := valL1 r
  obtain ⟨a, vs, rfl, k1, k2⟩ := seqL_ok s rv e
  exact ⟨a, bs, rfl, by rw [← bools_val k2 eb]; exact k1, o.now s (.bl _) p⟩
theorem cd_any : CallD K mg (rAny K) gAny := by
  intro R μ S H ds vs P Q s r h o
  obtain ⟨d, xs, bs, rfl, e, eb, p⟩ := h
  obtain ⟨v, rfl, rv⟩ := valL1 r
  obtain ⟨a, vs, rfl, k1, k2⟩ := seqL_ok s rv e
  exact ⟨a, bs, rfl, by rw [← bools_val k2 eb]; exact k1, o.now s (.bl _) p⟩
/-- scalars' calls -/
def gAbs (ds : List D) (S : Cells) (P : Q1) : Prop := ∃ i, ds = [.int i] ∧ P (.int (if i < 0 then -i else i)) S
theorem cd_abs : CallD K mg (fun xs H Q => ∃ i, xs = [.int i] ∧ Q (.int (if i < 0 then -i else i)) H) gAbs := by
  intro R μ S H ds vs P Q s r ⟨i, e, p⟩ o
  subst e
  obtain ⟨v, rfl, rv⟩ := valL1 r
  cases rv
  exact ⟨i, rfl, o.now s (.int _) p⟩
def gMax2 (ds : List D) (S : Cells) (P : Q1) : Prop := ∃ i j, ds = [.int i, .int j] ∧ P (.int (if j > i then j else i)) S
theorem cd_max2 : CallD K mg (fun xs H Q => ∃ i j, xs = [.int i, .int j] ∧ Q (.int (if j > i then j else i)) H) gMax2 := by
  intro R μ S H ds vs P Q s r ⟨i, j, e, p⟩ o
  subst e
  obtain ⟨v, u, rfl, rv, ru⟩ := valL2 r
  cases rv; cases ru
  exact ⟨i, j, rfl, o.now s (.int _) p⟩
def gMin2 (ds : List D) (S : Cells) (P : Q1) : Prop := ∃ i j, ds = [.int i, .int j] ∧ P (.int (if j < i then j else i)) S
theorem cd_min2 : CallD K mg (fun xs H Q => ∃ i j, xs = [.int i, .int j] ∧ Q (.int (if j < i then j else i)) H) gMin2 := by
  intro R μ S H ds vs P Q s r ⟨i, j, e, p⟩ o
  subst e
  obtain ⟨v, u, rfl, rv, ru⟩ := valL2 r
  cases rv; cases ru
  exact ⟨i, j, rfl, o.now s (.int _) p⟩
def gInt (ds : List D) (S : Cells) (P : Q1) : Prop := (∃ i, ds = [.int i] ∧ P (.int i) S) ∨ ∃ k : Bool, ds = [.bl k] ∧ P (.int (if k then 1 else 0)) S
theorem cd_int : CallD K mg (fun xs H Q => (∃ i, xs = [.int i] ∧ Q (.int i) H) ∨ ∃ k : Bool, xs = [.bl k] ∧ Q (.int (if k then 1 else 0)) H) gInt := by
  intro R μ S H ds vs P Q s r h o
  rcases h with ⟨i, e, p⟩ | ⟨i, e, p⟩
  · subst e
    obtain ⟨v, rfl, rv⟩ := valL1 r
    cases rv
    exact .inl ⟨i, rfl, o.now s (.int _) p⟩
  · subst e
    obtain ⟨v, rfl, rv⟩ := valL1 r
    cases rv
    exact .inr ⟨i, rfl, o.now s (.int _) p⟩
def gStrI (ds : List D) (S : Cells) (P : Q1) : Prop := ∃ i : Int, ds = [.int i] ∧ i.natAbs.log2 < 1920 ∧ P (.str (Str.ofString (toString i)).cps.toList) S
theorem cd_strI : CallD K mg (fun xs H Q => ∃ i : Int, xs = [.int i] ∧ i.natAbs.log2 < 1920 ∧ Q (.str (toString i)) H) gStrI := by
  intro R μ S H ds vs P Q s r ⟨i, e, hl, p⟩ o
  subst e
  obtain ⟨v, rfl, rv⟩ := valL1 r
  cases rv
  have z := o.now s (.str _) p
  rw [S'_of] at z
  exact ⟨i, rfl, hl, z⟩
def intsOf : List D → Option (List Int)
  | [] => some []
  | .int b :: r => (intsOf r).map (b :: ·)
  | _ => none
theorem ints_val {lv : Addr → Prop} : ∀ {xs : List D} {bs : List Int} {vs : List V}, ValL K mg μ lv H xs vs → intsOf xs = some bs → vs = bs.map V.int
  | [], _, _, .nil, e => by cases e; rfl
  | .int b :: xs, bs, _, .cons h t, e => by
    simp only [intsOf] at e
    cases q : intsOf xs with
    | none => rw [q] at e; cases e
    | some cs =>
      rw [q] at e
      cases e
      cases h
      rw [ints_val t q]
      rfl
  | .non :: _, _, _, _, e => by simp [intsOf] at e
  | .bl _ :: _, _, _, _, e => by simp [intsOf] at e
  | .str _ :: _, _, _, _, e => by simp [intsOf] at e
  | .tup _ :: _, _, _, _, e => by simp [intsOf] at e
  | .lst _ :: _, _, _, _, e => by simp [intsOf] at e
  | .dct _ :: _, _, _, _, e => by simp [intsOf] at e
  | .ref _ :: _, _, _, _, e => by simp [intsOf] at e
  | .ty _ :: _, _, _, _, e => by simp [intsOf] at e
  | .glb _ :: _, _, _, _, e => by simp [intsOf] at e
def gSum (ds : List D) (S : Cells) (P : Q1) : Prop := ∃ d xs ns, ds = [d] ∧ seqL S d = some xs ∧ intsOf xs = some ns ∧ P (.int ns.sum) S
theorem cd_sum : CallD K mg (rSum K) gSum := by
  intro R μ S H ds vs P Q s r h o
  obtain ⟨d, xs, bs, rfl, e, eb, p⟩ := h
  obtain ⟨v, rfl, rv⟩ := valL1 r
  obtain ⟨a, vs, rfl, k1, k2⟩ := seqL_ok s rv e
  exact ⟨a, bs, rfl, by rw [← ints_val k2 eb]; exact k1, o.now s (.int _) p⟩

/-! ### isinstance of built-in classes -/
def tyN (S : Cells) : D → Option String
  | .non => some "NoneType"
  | .bl _ => some "bool"
  | .int _ => some "int"
  | .str _ => some "str"
  | .tup _ => some "tuple"
  | .lst _ => some "list"
  | .dct _ => some "dict"
  | .ref n => match S[n]? with
    | some (some (.lst _)) => some "list"
    | some (some (.dct _)) => some "dict"
    | some (some .box) => some "list"
    | _ => none
  | _ => none
def isTy (a b : String) : Bool := a == b || (a == "bool" && b == "int")
theorem tyN_ok {d : D} {v : V} {n : String} (s : Sat K mg R μ S H) (r : Val K mg μ (Lv μ S) H d v) (e : tyN S d = some n) : TyX K H v (.type n) ∧ n ∈ ["NoneType", "bool", "int", "str", "tuple", "list", "dict"] := by
  cases r with
  | non => cases e; exact ⟨.base .non, by decide⟩
  | bl b => cases e; exact ⟨.base (.bl b), by decide⟩
  | int b => cases e; exact ⟨.base (.int b), by decide⟩
  | str b => cases e; exact ⟨.base (.str _), by decide⟩
  | tup h hs =>
    cases e
    refine ⟨?_, by decide⟩
    rcases h with ⟨(h | ⟨o, h⟩), _⟩ | h
    · exact .base (.tup h)
    · exact .fTuple h
    · rcases h (fun _ => none) with (z | ⟨o, z⟩) | ⟨o, its, n, z, zc, _⟩
      · cases z
      · cases z
      · exact .kTuple z zc
  | lst h hs =>
    cases e
    refine ⟨?_, by decide⟩
    rcases h with ⟨(h | ⟨o, h⟩), _⟩ | h
    · exact .base (.lst h)
    · exact .base (.frz h)
    · rcases h (fun _ => none) with (z | ⟨o, z⟩) | ⟨o, its, n, z, zc, _⟩
      · cases z
      · cases z
      · exact .kList z zc
  | dct h hl hs =>
    cases e
    refine ⟨?_, by decide⟩
    exact .fDict h
  | ref h =>
    simp only [tyN] at e
    split at e
    · rename_i q; cases e
      obtain ⟨vs, z, _⟩ := s.ok _ _ _ q h
      exact ⟨.base (.lst z), by decide⟩
    · rename_i q; cases e
      obtain ⟨vs, z, _⟩ := s.ok _ _ _ q h
      exact ⟨.base (.dK z), by decide⟩
    · rename_i q; cases e
      obtain ⟨g, m, k, b, z, _⟩ := s.ok _ _ _ q h
      exact ⟨.base (.lst z), by decide⟩
    · cases e
  | ty _ => cases e
  | glb _ => cases e
  | exn _ _ _ _ => cases e
theorem kit_all : (["NoneType", "bool", "int", "str", "tuple", "list", "dict"].all fun a => ["bool", "int", "str", "tuple", "list", "dict"].all fun b => kitB a b == some (isTy a b)) = true := by decide +kernel
theorem kit_is {n T : String} (h : n ∈ ["NoneType", "bool", "int", "str", "tuple", "list", "dict"]) (k : T ∈ ["bool", "int", "str", "tuple", "list", "dict"]) : PySem.W.kitOne K (.type n) (.type T) = some (isTy n T) := by
  have e := List.all_eq_true.mp (List.all_eq_true.mp kit_all n h) T k
  exact kit_ty (by simpa using e)
def gIsi (ds : List D) (S : Cells) (P : Q1) : Prop := ∃ d T n, ds = [d, .ty T] ∧ T ∈ ["bool", "int", "str", "tuple", "list", "dict"] ∧ tyN S d = some n ∧ P (.bl (isTy n T)) S
theorem cd_isi : CallD K mg (rIsi K) gIsi := by
  intro R μ S H ds vs P Q s r h o
  obtain ⟨d, T, n, rfl, hT, e, p⟩ := h
  obtain ⟨v, u, rfl, rv, ru⟩ := valL2 r
  cases ru
  obtain ⟨ty, hn⟩ := tyN_ok s rv e
  exact ⟨v, _, _, _, _, rfl, .ty T, ty, kit_is hn hT, o.now s (.bl _) p⟩
/-- isinstance(x, (list, tuple)) -/
def gIsi2 (ds : List D) (S : Cells) (P : Q1) : Prop := ∃ d T U n, ds = [d, .tup [.ty T, .ty U]] ∧ T ∈ ["bool", "int", "str", "tuple", "list", "dict"] ∧ U ∈ ["bool", "int", "str", "tuple", "list", "dict"] ∧ tyN S d = some n ∧ P (.bl (isTy n T || isTy n U)) S
theorem d_ty {y : Str} (T : String) (hm : X.mg y = none) (hv : bootBuiltins y = some (.type T) := by decide +kernel) (hg : Gl X y := by rfl) (hn : y ≠ "__name__" := by decide) (hd : (y == ("__debug__" : Str)) = false := by decide) : DE X W (.Name y pos) 0 (wC (.ty T)) :=
  d_c (pe_bltn hg hm hv (v := .ty T) rfl hn hd) fun _ _ _ => .ty T
/-- x in a row of scalars -/
def flatD : D → Bool
  | .non => true
  | .bl _ => true
  | .int _ => true
  | .str _ => true
  | _ => false
theorem flat_val {lv : Addr → Prop} {d : D} {v : V} (r : Val K mg μ lv H d v) (h : flatD d = true) : flatV v = true := by
  cases r <;> first | rfl | cases h
theorem flat_valL {lv : Addr → Prop} : ∀ {ds : List D} {vs : List V}, ValL K mg μ lv H ds vs → ds.all flatD = true → vs.all flatV = true
  | _, _, .nil, _ => rfl
  | _, _, .cons h t, e => by
    rw [List.all_cons, Bool.and_eq_true] at e ⊢
    exact ⟨flat_val h e.1, flat_valL t e.2⟩
theorem eqV_val {lv : Addr → Prop} {d e : D} {v u : V} (r : Val K mg μ lv H d v) (q : Val K mg μ lv H e u) (h : flatD d = true) (k : flatD e = true) : eqV v u = d.eqb e := by
  cases r <;> (try cases h) <;> cases q <;> (try cases k) <;> first
    | rfl
    | (simp [eqV, D.eqb]; done)
    | (rename_i a b; show (decide (S' a = S' b)) = (a == b); rw [Bool.eq_iff_iff]; simp [S'_inj])
    | (rename_i a b; show (S' a == S' b) = (a == b); rw [Bool.eq_iff_iff]; simp [S'_inj])
theorem inV_val {lv : Addr → Prop} {d : D} {v : V} (r : Val K mg μ lv H d v) (h : flatD d = true) : ∀ {ds : List D} {vs : List V}, ValL K mg μ lv H ds vs → ds.all flatD = true → inV v vs = ds.any fun y => y.eqb d
  | _, _, .nil, _ => rfl
  | _, _, .cons q t, e => by
    rw [List.all_cons, Bool.and_eq_true] at e
    unfold inV
    rw [List.any_cons, List.any_cons, eqV_val q r e.1 h]
    exact congrArg _ (inV_val r h t e.2)
def gIn (neg : Bool) (d xs : D) (S : Cells) (P : Q1) : Prop := ∃ ys, seqA S xs = some ys ∧ flatD d = true ∧ ys.all flatD = true ∧ P (.bl (if neg then !ys.any (fun y => y.eqb d) else ys.any (fun y => y.eqb d))) S
theorem od_in (neg : Bool) : OpD K mg (rIn K neg) (gIn neg) := by
  intro R μ S H d1 d2 v u P Q s ra rb h o
  obtain ⟨ys, e, f1, f2, p⟩ := h
  obtain ⟨a, vs, rfl, k1, k2⟩ := seqA_ok s rb e
  refine ⟨a, vs, rfl, k1, flat_val ra f1, flat_valL k2 f2, ?_⟩
  rw [inV_val ra f1 k2 f2]
  exact o.now s (.bl _) p
/-- x in a text: one sign, or any text -/
def gInS (neg : Bool) (d xs : D) (S : Cells) (P : Q1) : Prop := ∃ c s, d = .str [c] ∧ xs = .str s ∧ P (.bl (if neg then !decide (c ∈ s) else decide (c ∈ s))) S
theorem od_inS : OpD K mg (fun x y H Q => ∃ (c : Nat) (z : Str), x = .str ⟨#[c]⟩ ∧ y = .str z ∧ Q (.bl (decide (c ∈ z.cps.toList))) H) (gInS false) := by
  intro R μ S H d1 d2 v u P Q s ra rb ⟨c, t, e1, e2, p⟩ o
  subst e1 e2
  cases ra; cases rb
  exact ⟨c, _, rfl, rfl, by simpa using o.now s (.bl _) p⟩
theorem od_ninS : OpD K mg (fun x y H Q => ∃ (c : Nat) (z : Str), x = .str ⟨#[c]⟩ ∧ y = .str z ∧ Q (.bl (!decide (c ∈ z.cps.toList))) H) (gInS true) := by
  intro R μ S H d1 d2 v u P Q s ra rb ⟨c, t, e1, e2, p⟩ o
  subst e1 e2
  cases ra; cases rb
  exact ⟨c, _, rfl, rfl, by simpa using o.now s (.bl _) p⟩
def gIn' (neg : Bool) (d xs : D) (S : Cells) (P : Q1) : Prop := match xs with
  | .str _ => gInS neg d xs S P
  | _ => gIn neg d xs S P
theorem od_in' : OpD K mg (fun x y H Q => rIn K false x y H Q ∨ ∃ (c : Nat) (z : Str), x = .str ⟨#[c]⟩ ∧ y = .str z ∧ Q (.bl (decide (c ∈ z.cps.toList))) H) (gIn' false) := by
  intro R μ S H d1 d2 v u P Q s ra rb h o
  unfold gIn' at h
  split at h
  · exact .inr (od_inS R μ S H _ _ v u P Q s ra rb h o)
  · exact .inl (od_in false R μ S H _ _ v u P Q s ra rb h o)
theorem od_nin' : OpD K mg (fun x y H Q => rIn K true x y H Q ∨ ∃ (c : Nat) (z : Str), x = .str ⟨#[c]⟩ ∧ y = .str z ∧ Q (.bl (!decide (c ∈ z.cps.toList))) H) (gIn' true) := by
  intro R μ S H d1 d2 v u P Q s ra rb h o
  unfold gIn' at h
  split at h
  · exact .inr (od_ninS R μ S H _ _ v u P Q s ra rb h o)
  · exact .inl (od_in true R μ S H _ _ v u P Q s ra rb h o)
theorem d_in (ha : DE X W a c1 w1) (hb : DE X W b c2 w2) (hm : behindInMarks .In b = false := by rfl) : DE X W (.Compare a [.In] [b] pos) (c1 + c2) (wBin (gIn' false) w1 w2) := d_cmp (op_in_seq.or op_in_sign) od_in' ha hb hm
theorem d_nin (ha : DE X W a c1 w1) (hb : DE X W b c2 w2) (hm : behindInMarks .NotIn b = false := by rfl) : DE X W (.Compare a [.NotIn] [b] pos) (c1 + c2) (wBin (gIn' true) w1 w2) := d_cmp (op_notIn_seq.or op_notIn_sign) od_nin' ha hb hm
theorem dt_in (ha : DE X W a c1 w1) (hb : DE X W b c2 w2) (hm : behindInMarks .In b = false := by rfl) : DT X W (.Compare a [.In] [b] pos) (c1 + c2) (wTest (wBin (gIn' false) w1 w2)) := dt_cmp (op_in_seq.or op_in_sign) od_in' ha hb hm
theorem dt_nin (ha : DE X W a c1 w1) (hb : DE X W b c2 w2) (hm : behindInMarks .NotIn b = false := by rfl) : DT X W (.Compare a [.NotIn] [b] pos) (c1 + c2) (wTest (wBin (gIn' true) w1 w2)) := dt_cmp (op_notIn_seq.or op_notIn_sign) od_nin' ha hb hm
/-- x is None, x is not None; x is True of truth values -/
def isR : D → D → Option Bool
  | .bl a, .bl b => some (decide (a = b))
  | .non, .non => some true
  | .bl _, .non => some false
  | .int _, .non => some false
  | .str _, .non => some false
  | .tup _, .non => some false
  | .lst _, .non => some false
  | .dct _, .non => some false
  | .ref _, .non => some false
  | _, _ => none
def gIs (neg : Bool) (a b : D) (S : Cells) (P : Q1) : Prop := ∃ c, isR a b = some c ∧ P (.bl (if neg then !c else c)) S
theorem od_is : OpD K mg (fun x y H Q => (y = .non ∧ Q (.bl (decide (x = .non))) H) ∨ rIsB x y H Q) (gIs false) := by
  intro R μ S H d1 d2 v u P Q s ra rb ⟨c, e, p⟩ o
  unfold isR at e
  split at e
  all_goals (try cases e)
  all_goals
    cases ra
    cases rb
    have z := o.now s (.bl _) p
    first
      | exact .inr ⟨_, _, rfl, rfl, z⟩
      | exact .inl ⟨rfl, by simpa using z⟩
theorem od_isn : OpD K mg (fun x y H Q => (y = .non ∧ Q (.bl (!decide (x = .non))) H) ∨ rNotB x y H Q) (gIs true) := by
  intro R μ S H d1 d2 v u P Q s ra rb ⟨c, e, p⟩ o
  unfold isR at e
  split at e
  all_goals (try cases e)
  all_goals
    cases ra
    cases rb
    have z := o.now s (.bl _) p
    first
      | exact .inr ⟨_, _, rfl, rfl, z⟩
      | exact .inl ⟨rfl, by simpa using z⟩
theorem d_is (ha : DE X W a c1 w1) (hb : DE X W b c2 w2) : DE X W (.Compare a [.Is] [b] pos) (c1 + c2) (wBin (gIs false) w1 w2) := d_cmp (op_isN.or op_isBl) od_is ha hb (nomark _)
theorem d_isn (ha : DE X W a c1 w1) (hb : DE X W b c2 w2) : DE X W (.Compare a [.IsNot] [b] pos) (c1 + c2) (wBin (gIs true) w1 w2) := d_cmp (op_notN.or op_notBl) od_isn ha hb (nomark _)
theorem dt_is (ha : DE X W a c1 w1) (hb : DE X W b c2 w2) : DT X W (.Compare a [.Is] [b] pos) (c1 + c2) (wTest (wBin (gIs false) w1 w2)) := dt_cmp (op_isN.or op_isBl) od_is ha hb (nomark _)
theorem dt_isn (ha : DE X W a c1 w1) (hb : DE X W b c2 w2) : DT X W (.Compare a [.IsNot] [b] pos) (c1 + c2) (wTest (wBin (gIs true) w1 w2)) := dt_cmp (op_notN.or op_notBl) od_isn ha hb (nomark _)
end
end DD

end

section
set_option Elab.async false
set_option linter.all false
set_option autoImplicit false
set_option maxRecDepth 100000
set_option maxHeartbeats 2000000
/-! What is walked, and list comprehensions, over data. -/
namespace DD
open PySem PySem.Spec PyProof.Rows L2

/-! ### what is walked -/
/-- J walks the items xs, as long as C holds of the cells -/
def SrcOk (K : PySem.W.Frag) (mg : Str → Option Value) (μ1 : Mu) (S1 : Cells) (H1 : Hp) (J : It) (xs : List D) (C : Cells → Prop) : Prop :=
  ∀ μ S H, Ext0 μ1 S1 H1 μ S H → Sat K mg 0 μ S H → C S → (∀ i, i < xs.length → J.go i H ∧ ∀ v H', J.yld i H v H' → (H' = H ∨ ∃ p o, H p = none ∧ H' = upd H p o) ∧ ∃ d, xs[i]? = some d ∧ Val K mg μ (Lv μ S) H' d v) ∧ J.stop xs.length H
abbrev WL := Rho → Cells → (List D → (Cells → Prop) → Cells → Prop) → EQ → Prop
def tI (K : PySem.W.Frag) (mg : Str → Option Value) (W : WX) (c : Nat) (w : WL) : TI := fun σ H Q => ∃ R μ S ρ P E, Sat K mg (R + c) μ S H ∧ EnvOk K mg μ S H ρ σ ∧ w ρ S P E ∧
  (∀ xs C S1 μ1 J H1, Ext μ S H μ1 S1 H1 → Sat K mg R μ1 S1 H1 → SrcOk K mg μ1 S1 H1 J xs C → C S1 → xs.length ≤ sizeLine → P xs C S1 → Q J H1) ∧ OutX K mg R μ S H E (fun cls d H' => W cls d σ H')
abbrev DI (X : Cx) (W : WX) (tg e : Expr) (c : Nat) (w : WL) : Prop := PI X tg e (tI X.K X.mg W c w)
theorem PI.imp {X : Cx} {tg e : Expr} {t t' : TI} (h : PI X tg e t) (k : ∀ σ H Q, t' σ H Q → t σ H Q) : PI X tg e t' := ⟨fun pins s σ H Q I q => h.run pins s σ H Q I (k σ H Q q)⟩
/-- a list, a tuple, a text (sign by sign) -/
def iAny (K : PySem.W.Frag) (te : TE) : TI := fun σ H R => te σ H fun x H1 =>
  (∃ a xs, x = .ref a ∧ SqL K H1 a xs ∧ (xs.length ≤ sizeLine → R (Itl K a) H1)) ∨ (∃ a xs, x = .ref a ∧ SqT K H1 a xs ∧ (xs.length ≤ sizeLine → R (Itt K a) H1)) ∨ (∃ z, x = .str z ∧ R (Its z) H1) ∨ ∃ d o kvs, x = .ref d ∧ H1 d = some (.frz o (.dK kvs)) ∧ (kvs.length ≤ sizeLine → R (Itk d o kvs) H1)
theorem pi_any {X : Cx} {tg e : Expr} {te : TE} (he : PE X e te) : PI X tg e (iAny X.K te) := by
  refine ⟨fun pins s σ H R I h => ?_⟩
  refine thn (he.run pins s σ H _ I h) fun v s1 ⟨y, H1, I1, r1, q⟩ => ?_
  rcases q with ⟨a, xs, e, hq, q⟩ | ⟨a, xs, e, hq, q⟩ | ⟨x, ex, q⟩ | ⟨d, o, kvs, ex, hd, q⟩
  · subst e
    cases r1
    obtain ⟨its, rv, p, hz⟩ := I1.list hq
    refine wpAny_pyIter_list p.isList ?_
    refine ⟨s1.heap.objs.size, [s1.heap.objs.size], _, _, H1, rfl, I1.kept (t' := s1.toks) fun b o e => Heap.get?_push_of_some _ e, turn_list a _, ⟨_, Heap.get?_push_size _ rfl, rfl, rfl⟩, fun b hb => ?_, q hz⟩
    have e : b = s1.heap.objs.size := by simpa using hb
    subst e
    exact I1.fpOk (Nat.le_refl _) (I1.hok.fresh (Nat.le_refl _))
  · subst e
    cases r1
    obtain ⟨its, rv, p, hz⟩ := I1.tuple hq
    refine wpAny_pyIter_tuple (show s1.heap.IsTuple a its.toArray from p) ?_
    refine ⟨s1.heap.objs.size, [s1.heap.objs.size], _, _, H1, rfl, I1.kept (t' := s1.toks) fun b o e => Heap.get?_push_of_some _ e, turn_tuple a _, ⟨_, Heap.get?_push_size _ rfl, rfl, rfl⟩, fun b hb => ?_, q hz⟩
    have e : b = s1.heap.objs.size := by simpa using hb
    subst e
    exact I1.fpOk (Nat.le_refl _) (I1.hok.fresh (Nat.le_refl _))
  · subst ex
    obtain ⟨t, rfl⟩ := r1
    cases ha : x.cps.all (· < 128)
    · exact wpAny_pyIter_wide ha (pi_one (tk := s1.toks) I1 _ (turn_str _ x t "str_iterator" (.inr rfl)) ⟨_, Heap.get?_push_size _ rfl, rfl, rfl⟩ q)
    · exact wpAny_pyIter_ascii ha (pi_one (tk := s1.toks) I1 _ (turn_str _ x t "str_ascii_iterator" (.inl rfl)) ⟨_, Heap.get?_push_size _ rfl, rfl, rfl⟩ q)
  · subst ex
    cases r1
    have hz : kvs.length ≤ sizeLine := (dk_rd I1.hok (.inr ⟨o, hd⟩)).1
    obtain ⟨hs, hgd, hx, es, ep, vs, hdt, hsz, kv, hm⟩ := I1.frzK hd
    refine iter_keys hs hgd hx hdt (pi_one (tk := s1.toks) I1 _ (turn_keys _ hdt) ⟨_, Heap.get?_push_size _ rfl, rfl, ?_⟩ (q hz))
    rw [hsz] <;> rfl
/-- a key as a datum -/
def kD : Key → D
  | .inl i => .int i
  | .inr s => .str s.cps.toList
theorem kD_val {K : PySem.W.Frag} {mg : Str → Option Value} {μ : Mu} {lv : Addr → Prop} {H : Hp} (k : Key) : Val K mg μ lv H (kD k) (kV k) := by
  cases k with
  | inl i => exact .int i
  | inr s =>
    have := Val.str (K := K) (mg := mg) (μ := μ) (lv := lv) (H := H) s.cps.toList
    rw [S'_of] at this
    exact this
theorem valK_len {K : PySem.W.Frag} {mg : Str → Option Value} {μ : Mu} {lv : Addr → Prop} {H : Hp} : ∀ {ds : List (Key × D)} {vs : List (Key × V)}, ValK K mg μ lv H ds vs → ds.length = vs.length ∧ ∀ (i : Nat) k d, ds[i]? = some (k, d) → ∃ v, vs[i]? = some (k, v) ∧ Val K mg μ lv H d v
  | _, _, .nil => ⟨rfl, fun i k d e => by simp at e⟩
  | _, _, .cons h t => by
    obtain ⟨h1, h2⟩ := valK_len t
    refine ⟨by simp [h1], fun i k d e => ?_⟩
    cases i with
    | zero => simp at e; obtain ⟨rfl, rfl⟩ := e; exact ⟨_, rfl, h⟩
    | succ i => simp at e; simpa using h2 i k d e
section
variable {X : Cx} {W : WX} {K : PySem.W.Frag} {mg : Str → Option Value} {R : Nat} {μ : Mu} {S : Cells} {H : Hp} {tg a b c : Expr} {c1 c2 c3 : Nat} {w1 w2 : WE} {pos p : Pos} {ws : WA}
/-- the items of a datum, and what must hold for them to stay so -/
def srcD (S : Cells) : D → Option (List D × (Cells → Prop))
  | .lst xs => some (xs, fun _ => True)
  | .tup xs => some (xs, fun _ => True)
  | .str s => if s.length ≤ sizeLine then some (s.map (fun c => D.str [c]), fun _ => True) else none
  | .dct kds => some (kds.map (fun kd => kD kd.1), fun _ => True)
  | .ref n => match S[n]? with
    | some (some (.lst xs)) => some (xs, fun S' => S'[n]? = some (some (.lst xs)))
    | _ => none
  | _ => none
def wSrc (w : WE) : WL := fun ρ S P E => w ρ S (fun d S1 => ∃ xs C, srcD S1 d = some (xs, C) ∧ P xs C S1) E
theorem src_list {a : Addr} {xs : List D} {vs : List V} (h : HasL K (Lv μ S) H a vs) (r : ValL K mg μ (Lv μ S) H xs vs) : SrcOk K mg μ S H (Itl K a) xs (fun _ => True) := by
  intro μ1 S1 H1 x s _
  have h1 := (x.hasL h).sq (H := H1)
  have r1 := r.ext0 x
  have hl := r1.length
  refine ⟨fun i hi => ⟨⟨vs, vs[i]'(by omega), h1, by simp [show i < vs.length by omega]⟩, fun v H' y => ?_⟩, ⟨vs, h1, by omega⟩⟩
  obtain ⟨rfl, y⟩ := y
  refine ⟨.inl rfl, xs[i], by simp [hi], ?_⟩
  obtain ⟨u, e1, e2⟩ := r1.get (i := i) (d := xs[i]) (by simp [hi])
  have e3 := y vs h1
  rw [e1] at e3
  cases e3
  exact e2
theorem src_tup {a : Addr} {xs : List D} {vs : List V} (h : HasT K (Lv μ S) H a vs) (r : ValL K mg μ (Lv μ S) H xs vs) : SrcOk K mg μ S H (Itt K a) xs (fun _ => True) := by
  intro μ1 S1 H1 x s _
  have h1 := (x.hasT h).sq (H := H1)
  have r1 := r.ext0 x
  have hl := r1.length
  refine ⟨fun i hi => ⟨⟨vs, vs[i]'(by omega), h1, by simp [show i < vs.length by omega]⟩, fun v H' y => ?_⟩, ⟨vs, h1, by omega⟩⟩
  obtain ⟨rfl, y⟩ := y
  refine ⟨.inl rfl, xs[i], by simp [hi], ?_⟩
  obtain ⟨u, e1, e2⟩ := r1.get (i := i) (d := xs[i]) (by simp [hi])
  have e3 := y vs h1
  rw [e1] at e3
  cases e3
  exact e2
theorem src_cell {n : Nat} {a : Addr} {xs : List D} (ha : μ.ad[n]? = some a) : SrcOk K mg μ S H (Itl K a) xs (fun S' => S'[n]? = some (some (.lst xs))) := by
  intro μ1 S1 H1 x s hc
  obtain ⟨vs, h1, r1⟩ := s.ok n _ a hc (x.pre n a ha)
  have h2 : SqL K H1 a vs := SqL.of h1
  have hl := r1.length
  refine ⟨fun i hi => ⟨⟨vs, vs[i]'(by omega), h2, by simp [show i < vs.length by omega]⟩, fun v H' y => ?_⟩, ⟨vs, h2, by omega⟩⟩
  obtain ⟨rfl, y⟩ := y
  refine ⟨.inl rfl, xs[i], by simp [hi], ?_⟩
  obtain ⟨u, e1, e2⟩ := r1.get (i := i) (d := xs[i]) (by simp [hi])
  have e3 := y vs h2
  rw [e1] at e3
  cases e3
  exact e2
theorem src_str {s : List Nat} : SrcOk K mg μ S H (Its (S' s)) (s.map fun c => D.str [c]) (fun _ => True) := by
  intro μ1 S1 H1 x _ _
  refine ⟨fun i hi => ⟨by simpa [Its, S'] using hi, fun v H' y => ?_⟩, by simp [Its, S']⟩
  obtain ⟨rfl, c, hc, rfl⟩ := y
  have hc' : s[i]? = some c := by simpa [S'] using hc
  exact ⟨.inl rfl, .str [c], by simp [hc'], .str [c]⟩
theorem src_dct {a : Addr} {ob : Obj} {kds : List (Key × D)} {kvs : List (Key × V)} (h : H a = some (.frz ob (.dK kvs))) (n : ¬ Lv μ S a) (r : ValK K mg μ (Lv μ S) H kds kvs) : SrcOk K mg μ S H (Itk a ob kvs) (kds.map fun kd => kD kd.1) (fun _ => True) := by
  intro μ1 S1 H1 x s _
  have h1 := (x.keep _ _ h n).1
  obtain ⟨hl, hg⟩ := valK_len r
  refine ⟨fun i hi => ⟨⟨h1, by simpa [hl] using hi⟩, fun v H' y => ?_⟩, ⟨h1, by simp [hl]⟩⟩
  obtain ⟨rfl, k, u, e, rfl⟩ := y
  have hi' : i < kds.length := by simpa using hi
  refine ⟨.inl rfl, kD k, ?_, kD_val k⟩
  obtain ⟨u', e'⟩ := hg i kds[i].1 kds[i].2 (by simp [hi'])
  rw [e] at e'
  have ek : k = kds[i].1 := congrArg (fun z : Key × V => z.1) (Option.some.inj e'.1)
  rw [List.getElem?_map, List.getElem?_eq_getElem hi', ek]
  rfl
theorem di_any (h : DE X W a c1 w1) : DI X W tg a c1 (wSrc w1) := by
  refine PI.imp (pi_any h) fun σ H Q ⟨R, μ, S, ρ, P, E, s, e, p, o, x⟩ => ?_
  refine tE_of s e p (fun d S1 μ1 v H1 x1 s1 e1 r1 h1 => ?_) x
  obtain ⟨xs, C, hs, pp⟩ := h1
  cases r1 with
  | lst hL hv =>
    cases hs
    exact .inl ⟨_, _, rfl, hL.sq, fun hz => o _ _ S1 μ1 _ H1 x1 s1 (src_list hL hv) trivial (by rw [hv.length]; exact hz) pp⟩
  | tup hT hv =>
    cases hs
    exact .inr (.inl ⟨_, _, rfl, hT.sq, fun hz => o _ _ S1 μ1 _ H1 x1 s1 (src_tup hT hv) trivial (by rw [hv.length]; exact hz) pp⟩)
  | str z =>
    simp only [srcD] at hs
    split at hs
    · cases hs
      exact .inr (.inr (.inl ⟨_, rfl, o _ _ S1 μ1 _ H1 x1 s1 src_str trivial (by simpa) pp⟩))
    · cases hs
  | dct hd hn hv =>
    cases hs
    exact .inr (.inr (.inr ⟨_, _, _, rfl, hd, fun hz => o _ _ S1 μ1 _ H1 x1 s1 (src_dct hd hn hv) trivial (by rw [List.length_map, (valK_len hv).1]; exact hz) pp⟩))
  | @ref n a ha =>
    simp only [srcD] at hs
    split at hs
    · rename_i ys q
      cases hs
      obtain ⟨vs, h1, r1⟩ := s1.ok n _ a q ha
      exact .inl ⟨_, _, rfl, SqL.of h1, fun hz => o _ _ S1 μ1 _ H1 x1 s1 (src_cell ha) q (by rw [r1.length]; exact hz) pp⟩
    · cases hs
  | _ => cases hs
/-- range(n), range(a, b) -/
def rangeD (lo : Int) (n : Nat) : List D := (List.range n).map fun k => D.int (lo + (k : Nat))
def wRng1 (ws : WA) : WL := fun ρ S P E => ws ρ S (fun ds S1 => ∃ j : Int, ds = [.int j] ∧ j ≤ sizeLine ∧ -(2 ^ 62) ≤ j ∧ P (rangeD 0 j.toNat) (fun _ => True) S1) E
def wRng2 (ws : WA) : WL := fun ρ S P E => ws ρ S (fun ds S1 => ∃ i j : Int, ds = [.int i, .int j] ∧ (-(2 ^ 62) ≤ i ∧ i < 2 ^ 62 ∧ -(2 ^ 62) ≤ j ∧ j < 2 ^ 62) ∧ (j - i).toNat ≤ sizeLine ∧ P (rangeD i (j - i).toNat) (fun _ => True) S1) E
theorem src_rng {lo : Int} {n : Nat} : SrcOk K mg μ S H (Itr lo n) (rangeD lo n) (fun _ => True) := by
  intro μ1 S1 H1 x _ _
  refine ⟨fun i hi => ⟨by simpa [Itr, rangeD] using hi, fun v H' y => ?_⟩, by simp [Itr, rangeD]⟩
  obtain ⟨rfl, rfl⟩ := y
  have hi' : i < n := by simpa [rangeD] using hi
  exact ⟨.inl rfl, .int (lo + i), by simp [rangeD, hi'], .int _⟩
theorem di_range1 (hm : X.mg "range" = none) (ha : DA X W [a] c1 ws) (hg : Gl X "range" := by rfl) (hs : starEach [a] X.env = [(false, eval a X.env)] := by rfl) : DI X W tg (.Call (.Name "range" p) [a] [] pos) c1 (wRng1 ws) := by
  refine PI.imp (pi_range1 hg hm ha hs) fun σ H Q ⟨R, μ, S, ρ, P, E, s, e, p, o, x⟩ => ?_
  refine tA_of s e p (fun ds S1 μ1 vs H1 x1 s1 e1 r1 h1 => ?_) x
  obtain ⟨j, rfl, hj, hj2, pp⟩ := h1
  obtain ⟨v, rfl, rv⟩ := valL1 r1
  cases rv
  have hl : sizeLine = 16777216 := sizeLine_eq
  exact ⟨j, rfl, hj2, by omega, o _ _ S1 μ1 _ H1 x1 s1 src_rng trivial (by simp [rangeD]; omega) pp⟩
theorem di_range2 (hm : X.mg "range" = none) (ha : DA X W [a, b] c1 ws) (hg : Gl X "range" := by rfl) (hs : starEach [a, b] X.env = [(false, eval a X.env), (false, eval b X.env)] := by rfl) (hs2 : starEach [b] X.env = [(false, eval b X.env)] := by rfl) : DI X W tg (.Call (.Name "range" p) [a, b] [] pos) c1 (wRng2 ws) := by
  refine PI.imp (pi_range2 hg hm ha hs hs2) fun σ H Q ⟨R, μ, S, ρ, P, E, s, e, p, o, x⟩ => ?_
  refine tA_of s e p (fun ds S1 μ1 vs H1 x1 s1 e1 r1 h1 => ?_) x
  obtain ⟨i, j, rfl, hj, hj2, pp⟩ := h1
  obtain ⟨v, u, rfl, rv, ru⟩ := valL2 r1
  cases rv; cases ru
  exact ⟨i, j, rfl, hj, o _ _ S1 μ1 _ H1 x1 s1 src_rng trivial (by simpa [rangeD] using hj2) pp⟩

/-! ### targets -/
abbrev GD := D → Rho → (Rho → Prop) → Prop
/-- but for the slots is, σ1 is as σ -/
def ButAt (is : List Nat) (σ σ1 : L2.St) : Prop := ∀ vs : List Nat, (∀ i ∈ is, i ∈ vs) → L2.wipe σ1 vs = L2.wipe σ vs
theorem wipe_set {σ : L2.St} {i : Nat} {x : Option V} : ∀ {vs : List Nat}, i ∈ vs → L2.wipe (σ.set i x) vs = L2.wipe σ vs
  | v :: vs, h => by
    unfold L2.wipe
    by_cases e : i ∈ vs
    · rw [wipe_set e]
    · have z : i = v := by
        rcases List.mem_cons.mp h with z | z
        · exact z
        · exact absurd z e
      subst z
      have q : ∀ ws : List Nat, i ∉ ws → L2.wipe (σ.set i x) ws = (L2.wipe σ ws).set i x := by
        intro ws
        induction ws with
        | nil => intro _; rfl
        | cons w ws ih =>
          intro hw
          unfold L2.wipe
          rw [ih fun z => hw (List.mem_cons_of_mem _ z), List.set_comm _ _ (fun z => hw (by rw [z]; exact List.mem_cons_self))]
      rw [q vs e, List.set_set]
theorem ButAt.refl {is : List Nat} {σ : L2.St} : ButAt is σ σ := fun _ _ => rfl
theorem ButAt.trans {is js : List Nat} {σ σ1 σ2 : L2.St} (a : ButAt is σ σ1) (b : ButAt js σ1 σ2) : ButAt (is ++ js) σ σ2 := fun vs h =>
  (b vs fun i hi => h i (List.mem_append_right _ hi)).trans (a vs fun i hi => h i (List.mem_append_left _ hi))
def tG (K : PySem.W.Frag) (mg : Str → Option Value) (is : List Nat) (g : GD) : TG := fun v σ H Q => ∃ μ S R ρ d P, Sat K mg R μ S H ∧ EnvOk K mg μ S H ρ σ ∧ Val K mg μ (Lv μ S) H d v ∧ g d ρ P ∧ ∀ ρ1 σ1, EnvOk K mg μ S H ρ1 σ1 → ButAt is σ σ1 → P ρ1 → Q σ1 H
abbrev DG (X : Cx) (tg : Expr) (is : List Nat) (g : GD) : Prop := PG X tg (tG X.K X.mg is g)
theorem PG.imp {X : Cx} {tg : Expr} {t t' : TG} (h : PG X tg t) (k : ∀ v σ H Q, t' v σ H Q → t v σ H Q) : PG X tg t' := ⟨fun pins s σ H v u Q I r q => h.run pins s σ H v u Q I r (k v σ H Q q)⟩
def gdName (i : Nat) : GD := fun d ρ P => P (ρ.set i (some d))
theorem dg_name (i : Nat) {x : Str} (hN : X.N.Nodup) (hi : X.N[i]? = some x := by rfl) (hx : Loc X.env.scope x := by first | exact Or.inl rfl | exact Or.inr rfl) (hf : X.fn x = true ∨ X.env.scope.names.lookup x = some .local := by first | exact .inl rfl | exact .inr rfl) : DG X (.Name x pos) [i] (gdName i) :=
  PG.imp (pg_name hN hi hx hf) fun v σ H Q ⟨μ, S, R, ρ, d, P, s, e, r, p, o⟩ => o _ _ (e.set r) (fun vs h => wipe_set (h i (by simp))) p
abbrev GDs := List D → Rho → (Rho → Prop) → Prop
def tGs (K : PySem.W.Frag) (mg : Str → Option Value) (is : List Nat) (g : GDs) : TGs := fun vs σ H Q => ∃ μ S R ρ ds P, Sat K mg R μ S H ∧ EnvOk K mg μ S H ρ σ ∧ ValL K mg μ (Lv μ S) H ds vs ∧ g ds ρ P ∧ ∀ ρ1 σ1, EnvOk K mg μ S H ρ1 σ1 → ButAt is σ σ1 → P ρ1 → Q σ1 H
abbrev DGs (X : Cx) (tg : List Expr) (is : List Nat) (g : GDs) : Prop := PGs X tg (tGs X.K X.mg is g)
theorem PGs.imp {X : Cx} {tg : List Expr} {t t' : TGs} (h : PGs X tg t) (k : ∀ v σ H Q, t' v σ H Q → t v σ H Q) : PGs X tg t' := ⟨fun pins s σ H v u Q I r q => h.run pins s σ H v u Q I r (k v σ H Q q)⟩
def gdNil : GDs := fun ds ρ P => ds = [] ∧ P ρ
def gdCons (g : GD) (gs : GDs) : GDs := fun ds ρ P => ∃ d r, ds = d :: r ∧ g d ρ fun ρ1 => gs r ρ1 P
theorem dgs_nil : DGs X [] [] gdNil := PGs.imp pgs_nil fun v σ H Q ⟨μ, S, R, ρ, d, P, s, e, r, ⟨p1, p⟩, o⟩ => by
  subst p1
  cases r
  exact ⟨rfl, o _ _ e .refl p⟩
theorem dgs_cons {es : List Expr} {is js : List Nat} {g : GD} {gs : GDs} (h : DG X a is g) (hs : DGs X es js gs) (he : (assignEach (a :: es) X.env).map (·.2) = assign a X.env :: (assignEach es X.env).map (·.2) := by rfl) : DGs X (a :: es) (is ++ js) (gdCons g gs) := by
  refine PGs.imp (pgs_cons h hs he) fun v σ H Q ⟨μ, S, R, ρ, ds, P, s, e, r, ⟨d, dr, p1, p⟩, o⟩ => ?_
  subst p1
  cases r with
  | cons r rr => exact ⟨_, _, rfl, μ, S, R, ρ, d, _, s, e, r, p, fun ρ1 σ1 e1 b1 p1 => ⟨μ, S, R, ρ1, dr, P, s, e1, rr, p1, fun ρ2 σ2 e2 b2 p2 => o ρ2 σ2 e2 (b1.trans b2) p2⟩⟩
def gdTup (n : Nat) (gs : GDs) : GD := fun d ρ P => ∃ ds, d = .tup ds ∧ ds.length = n ∧ gs ds ρ P
theorem dg_tup {es : List Expr} {k : Nat} {is : List Nat} {gs : GDs} {n : Nat} (hc : X.calm = true) (h : DGs X es is gs) (hn : (assignEach es X.env).length = n := by rfl) (hst : (assignEach es X.env).findIdx? (·.1) = none := by rfl) : DG X (.Tuple es k pos) is (gdTup n gs) := by
  refine PG.imp (pg_tup hc h hn hst) fun v σ H Q ⟨μ, S, R, ρ, d, P, s, e, r, ⟨ds, p1, p2, p⟩, o⟩ => ?_
  subst p1
  obtain ⟨a, vs, rfl, k1, k2⟩ := seqT_ok r rfl
  exact ⟨a, vs, rfl, k1, by rw [← k2.length]; exact p2, μ, S, R, ρ, ds, P, s, e, k2, p, o⟩

/-! ### list comprehensions -/
def wipeD (ρ : Rho) : List Nat → Rho
  | [] => ρ
  | i :: vs => (wipeD ρ vs).set i none
theorem EnvOk.wipe {ρ : Rho} {σ : L2.St} (e : EnvOk K mg μ S H ρ σ) : ∀ vs : List Nat, EnvOk K mg μ S H (wipeD ρ vs) (L2.wipe σ vs)
  | [] => e
  | i :: vs => (EnvOk.wipe e vs).unset
/-- the items one after another; each gives an item or none -/
def loopC (body : D → Cells → (Option D → Cells → Prop) → Prop) (C : Cells → Prop) : List D → List D → Cells → (List D → Cells → Prop) → Prop
  | [], acc, S, P => C S ∧ P acc S
  | x :: xs, acc, S, P => C S ∧ body x S fun r S1 => loopC body C xs (acc ++ r.toList) S1 P
/-- a clause's tests -/
def wYes : WT := fun _ S P _ => P true S
abbrev DTs (X : Cx) (W : WX) (es : List Expr) (c : Nat) (w : WT) : Prop := PTs X es (tT X.K X.mg W c w)
theorem dts_nil : DTs X W [] 0 wYes := ⟨fun pins s σ H Q I ⟨R, μ, S, ρ, P, E, st, e, p, o, _⟩ => pts_nil.run pins s σ H Q I (o true S μ H .refl st p)⟩
theorem dts_one {t1 : WT} (h : DT X W a c1 t1) : DTs X W [a] c1 t1 := pts_one h
def bodyC (g : GD) (tt : WT) (te : WE) (ρ : Rho) (d : D) (S : Cells) (Q : Option D → Cells → Prop) : Prop :=
  g d ρ fun ρ2 => tt ρ2 S (fun b S2 => if b = true then te ρ2 S2 (fun r S3 => Q (some r) S3) (fun _ _ => False) else Q none S2) (fun _ _ => False)
def wLc (m : Bool) (wi : WL) (g : GD) (tt : WT) (te : WE) (vs : List Nat) : WE := fun ρ S P E =>
  wi ρ S (fun xs C S1 => loopC (bodyC g tt te (wipeD ρ vs)) C xs [] S1 fun ds S2 => mkL m ds S2 P) E
/-- a list that is being made at p -/
structure Mk (μ1 : Mu) (S1 : Cells) (H1 : Hp) (p : Addr) (μ : Mu) (S : Cells) (H : Hp) : Prop where
  x0 : Ext0 μ1 S1 H1 (μ.hide p) S H
  there : ∀ a o, H1 a = some o → ∃ o', H a = some o'
  hid : μ.hid = μ1.hid
  same : ∀ a ∈ μ1.hid, H a = H1 a
theorem hide_of {μ μ' : Mu} {p : Addr} {S S' : Cells} {H H' : Hp} (x : Ext (μ.hide p) S H μ' S' H') : μ' = (⟨μ'.ad, μ.hid⟩ : Mu).hide p := by
  have e : μ'.hid = p :: μ.hid := x.hid
  cases μ' with
  | mk a h => dsimp only at e; subst e; rfl
theorem Mk.ext {μ1 μ : Mu} {S1 S S' : Cells} {H1 H H' : Hp} {p : Addr} {ad : List Addr} (k : Mk μ1 S1 H1 p μ S H) (x : Ext (μ.hide p) S H ((⟨ad, μ.hid⟩ : Mu).hide p) S' H') : Mk μ1 S1 H1 p ⟨ad, μ.hid⟩ S' H' :=
  ⟨k.x0.trans x.toExt0, fun a o e => let ⟨o1, e1⟩ := k.there a o e; x.there a o1 e1, k.hid, fun a ha => (x.same a (List.mem_cons_of_mem _ (by rw [k.hid]; exact ha))).trans (k.same a ha)⟩
theorem Mk.put {μ1 μ : Mu} {S1 S : Cells} {H1 H : Hp} {p : Addr} {R : Nat} {vs : List V} (k : Mk μ1 S1 H1 p μ S H) (s : Sat K mg R (μ.hide p) S H) (np : p ∉ μ1.hid) (n1 : H1 p = none) : Mk μ1 S1 H1 p μ S (upd H p (.lst vs)) := by
  obtain ⟨x, _⟩ := s.hput vs
  refine ⟨k.x0.trans x, fun a o e => ?_, k.hid, fun a ha => ?_⟩
  · obtain ⟨o1, e1⟩ := k.there a o e
    rw [upd_ne (ne_of_none e n1)]
    exact ⟨o1, e1⟩
  · rw [upd_ne (fun z => np (by rw [← z]; exact ha))]
    exact k.same a ha
theorem wipe_wipe (σ : L2.St) (vs : List Nat) : L2.wipe (L2.wipe σ vs) vs = L2.wipe σ vs := by
  have key : ∀ ws : List Nat, (∀ i ∈ ws, i ∈ vs) → L2.wipe (L2.wipe σ ws) vs = L2.wipe σ vs := by
    intro ws
    induction ws with
    | nil => intro _; rfl
    | cons w ws ih =>
      intro h
      show L2.wipe ((L2.wipe σ ws).set w none) vs = _
      rw [wipe_set (h w List.mem_cons_self), ih fun i hi => h i (List.mem_cons_of_mem _ hi)]
  exact key vs fun _ h => h
theorem tLc_of {own : List (Str × Nat)} {is : List Nat} {wi : WL} {g : GD} {tt : WT} {te : WE} (hc : X.calm = true) (m : Bool) (his : ∀ i ∈ is, i ∈ own.map (·.2)) {σ : L2.St} {H : Hp} {Q : VK}
    (h : tE X.K X.mg W (c1 + 2 ^ 24 * (c2 + c3)) (wLc m wi g tt te (own.map (·.2))) σ H Q) :
    tLc (tI X.K X.mg W c1 wi) (tG X.K X.mg is g) (tT X.K X.mg (fun _ _ _ _ => False) c2 tt) (tE X.K X.mg (fun _ _ _ _ => False) c3 te) (own.map (·.2)) σ H Q := by
  obtain ⟨R, μ, S, ρ, P, E, s, e, pw, o, x⟩ := h
  have hline : sizeLine = 2 ^ 24 := sizeLine_eq
  refine ⟨R + 2 ^ 24 * (c2 + c3), μ, S, ρ, _, E, s.mono (by omega), e, pw, fun xs C S1 μ1 J H1 x1 s1 src hC hz pl => ?_, x.mono (by omega)⟩
  intro p hp
  have np : p ∉ μ1.hid := fun h => by
    obtain ⟨⟨vs, e⟩, _⟩ := s1.hid p h
    rw [hp] at e; cases e
  -- what stands between the turns
  refine ⟨fun i n H2 => n = xs.length - i ∧ i ≤ xs.length ∧ ∃ μ2 S2 acc vs, Sat X.K X.mg (R + (xs.length - i) * (c2 + c3)) (μ2.hide p) S2 H2 ∧ Mk μ1 S1 H1 p μ2 S2 H2 ∧ H2 p = some (.lst vs) ∧ ValL X.K X.mg (μ2.hide p) (Lv (μ2.hide p) S2) H2 acc vs ∧ acc.length ≤ i ∧
      loopC (bodyC g tt te (wipeD ρ (own.map (·.2)))) C (xs.drop i) acc S2 fun ds S2 => mkL m ds S2 P, ⟨xs.length, by simp, Nat.zero_le _, ?_⟩, ?_⟩
  · obtain ⟨x2, s2⟩ := s1.hide hp []
    refine ⟨μ1, S1, [], [], by simpa using s2.mono (by rw [← hline]; exact Nat.add_le_add_left (Nat.mul_le_mul_right _ hz) _), ⟨x2, fun a o e => ⟨o, by rw [upd_ne (ne_of_none e hp)]; exact e⟩, rfl, fun a ha => upd_ne fun z => np (by rw [← z]; exact ha)⟩, upd_same, .nil, by simp, by simpa using pl⟩
  · rintro i n H2 ⟨rfl, hi, μ2, S2, acc, vs, s2, k2, e2, r2, ha, l2⟩
    have e1 : EnvOk X.K X.mg (μ2.hide p) S2 H2 ρ σ := (e.ext x1).ext0 k2.x0
    obtain ⟨turn, stop⟩ : (∀ i, i < xs.length → J.go i H2 ∧ ∀ v H', J.yld i H2 v H' → (H' = H2 ∨ ∃ p o, H2 p = none ∧ H' = upd H2 p o) ∧ ∃ d, xs[i]? = some d ∧ Val X.K X.mg (μ2.hide p) (Lv (μ2.hide p) S2) H' d v) ∧ J.stop xs.length H2 := by
      refine src (μ2.hide p) S2 H2 k2.x0 (s2.mono (Nat.zero_le _)) ?_
      cases q : xs.drop i with
      | nil => rw [q] at l2; exact l2.1
      | cons y ys => rw [q] at l2; exact l2.1
    by_cases hlt : i < xs.length
    · obtain ⟨go, yl⟩ := turn i hlt
      have hd : xs.drop i = xs[i] :: xs.drop (i + 1) := List.drop_eq_getElem_cons hlt
      rw [hd] at l2
      obtain ⟨_, body⟩ := l2
      have hbud : R + (xs.length - i) * (c2 + c3) = (R + (xs.length - (i + 1)) * (c2 + c3)) + (c2 + c3) := by
        have : xs.length - i = (xs.length - (i + 1)) + 1 := by omega
        rw [this, Nat.add_mul, Nat.one_mul]
        omega
      generalize hR2 : R + (xs.length - (i + 1)) * (c2 + c3) = R2 at hbud
      rw [hbud] at s2
      refine .inr ⟨go, fun H' => ∃ μ2 S2 acc vs, Sat X.K X.mg R2 (μ2.hide p) S2 H' ∧ Mk μ1 S1 H1 p μ2 S2 H' ∧ H' p = some (.lst vs) ∧ ValL X.K X.mg (μ2.hide p) (Lv (μ2.hide p) S2) H' acc vs ∧ acc.length ≤ i + 1 ∧
        loopC (bodyC g tt te (wipeD ρ (own.map (·.2)))) C (xs.drop (i + 1)) acc S2 fun ds S2 => mkL m ds S2 P, fun H' h' => ?_, fun v H3 y => ?_⟩
      · obtain ⟨μ3, S3, acc3, vs3, q1, q2, q3, q4, q5, q6⟩ := h'
        exact ⟨_, by omega, rfl, hlt, μ3, S3, acc3, vs3, by rw [hR2]; exact q1, q2, q3, q4, q5, q6⟩
      · obtain ⟨hH, d, hd2, rd⟩ := yl v H3 y
        have hd3 : d = xs[i] := by
          rw [List.getElem?_eq_getElem hlt] at hd2
          exact (Option.some.inj hd2).symm
        subst hd3
        -- the item is yielded: at most a new tuple has come
        obtain ⟨x3, s3⟩ : Ext (μ2.hide p) S2 H2 (μ2.hide p) S2 H3 ∧ Sat X.K X.mg (R2 + (c2 + c3)) (μ2.hide p) S2 H3 := by
          rcases hH with hH | ⟨q, o, hq, hH⟩
          · subst hH; exact ⟨.refl, s2⟩
          · subst hH; exact s2.new hq o
        have k3 : Mk μ1 S1 H1 p μ2 S2 H3 := k2.ext (ad := μ2.ad) x3
        have e3 : H3 p = some (.lst vs) := (x3.same p List.mem_cons_self).trans e2
        have r3 := r2.ext x3
        have ew : EnvOk X.K X.mg (μ2.hide p) S2 H3 (wipeD ρ (own.map (·.2))) (L2.wipe σ (own.map (·.2))) := (e1.ext x3).wipe _
        refine ⟨μ2.hide p, S2, _, _, _, _, s3, ew, rd, body, fun ρ2 σ2 eρ but hp2 => ⟨?_, ?_⟩⟩
        · rw [but _ his]
          exact wipe_wipe _ _
        · refine tT_of (R := R2 + c3) (s3.mono (by omega)) eρ hp2 (fun b S4 μ4 H4 x4 s4 e4 h4 => ?_) (fun _ _ _ _ _ _ _ _ _ z => z.elim)
          have hμ := hide_of x4
          generalize hμ' : (⟨μ4.ad, μ2.hid⟩ : Mu) = μ5 at hμ
          have hid5 : μ5.hid = μ2.hid := by rw [← hμ']
          subst hμ
          have k4 : Mk μ1 S1 H1 p μ5 S4 H4 := by
            rw [← hμ']
            rw [← hμ'] at x4
            exact k3.ext x4
          have e5 : H4 p = some (.lst vs) := (x4.same p List.mem_cons_self).trans e3
          have r4 := r3.ext x4
          cases b with
          | false =>
            rw [if_neg Bool.false_ne_true] at h4 ⊢
            exact ⟨μ5, S4, acc, vs, s4.mono (by omega), k4, e5, r4, by omega, by simpa using h4⟩
          | true =>
            rw [if_pos rfl] at h4 ⊢
            refine tE_of (R := R2) s4 e4 h4 (fun r S6 μ6 v6 H6 x6 s6 e6 rv h6 => ?_) (fun _ _ _ _ _ _ _ _ _ z => z.elim)
            have hμ := hide_of x6
            generalize hμ' : (⟨μ6.ad, μ5.hid⟩ : Mu) = μ7 at hμ
            subst hμ
            have k6 : Mk μ1 S1 H1 p μ7 S6 H6 := by
              rw [← hμ']
              rw [← hμ'] at x6
              exact k4.ext x6
            have e7 : H6 p = some (.lst vs) := (x6.same p List.mem_cons_self).trans e5
            have r6 := r4.ext x6
            have hl6 := r6.length
            refine ⟨vs, e7, by omega, ?_⟩
            obtain ⟨x8, s8⟩ := s6.hput (vs ++ [v6])
            refine ⟨μ7, S6, acc ++ [r], vs ++ [v6], s8, k6.put s6 np hp, upd_same, (r6.append (.cons rv .nil)).ext0 x8, by simp; omega, by simpa using h6⟩
    · have hi' : i = xs.length := by omega
      subst hi'
      refine .inl ⟨stop, ?_⟩
      rw [List.drop_length] at l2
      obtain ⟨_, fin⟩ := l2
      have np2 : p ∉ μ2.hid := by rw [k2.hid]; exact np
      obtain ⟨x9, s9, nl⟩ := s2.show np2
      have xx : Ext μ S H μ2 S2 H2 := x1.trans ⟨k2.x0.trans x9, k2.there, k2.hid, k2.same⟩
      have r9 := r2.ext0 x9
      have s9' : Sat X.K X.mg R μ2 S2 H2 := by simpa using s9
      cases m with
      | false => exact o _ S2 μ2 _ H2 xx s9' (.lst (.inl ⟨.inl e2, nl⟩) r9) fin
      | true =>
        obtain ⟨x10, s10⟩ := s2.toCell np2 e2 r2
        have xy : Ext μ S H (μ2.push p) (S2 ++ [some (.lst acc)]) H2 := x1.trans ⟨k2.x0.trans x10, k2.there, k2.hid, k2.same⟩
        exact o _ _ _ _ H2 xy (by simpa using s10) (.ref (by unfold Mu.push; rw [← s9'.len]; simp)) fin
theorem d_lc (m : Bool) {elt iter : Expr} {ifs : List Expr} {scope : Scope} {own : List (Str × Nat)} {is : List Nat} {wi : WL} {g : GD} {tt : WT} {te : WE} (hc : X.calm = true) (hN : X.N.Nodup) (hi : DI X W tg iter c1 wi) (ok : BlkOk X.N X.env.scope scope own)
    (hg : ∀ (s : Shared) (H : Hp) (C : Addr) (cl : List (Str × Addr)) (fp : List Addr), DG (X.blk s H scope (compEnvC scope cl C X.env) fp) tg is g)
    (ht : ∀ (s : Shared) (H : Hp) (C : Addr) (cl : List (Str × Addr)) (fp : List Addr), DTs (X.blk s H scope (compEnvC scope cl C X.env) fp) (fun _ _ _ _ => False) ifs c2 tt)
    (he : ∀ (s : Shared) (H : Hp) (C : Addr) (cl : List (Str × Addr)) (fp : List Addr), DE (X.blk s H scope (compEnvC scope cl C X.env) fp) (fun _ _ _ _ => False) elt c3 te)
    (his : ∀ i ∈ is, i ∈ own.map (·.2) := by decide) (hs : ∀ x, foldedSetIterable iter X.env x = pure x := by intro _; rfl) :
    DE X W (.ListComp elt [⟨tg, iter, ifs, 0⟩] scope pos) (c1 + 2 ^ 24 * (c2 + c3)) (wLc m wi g tt te (own.map (·.2))) := by
  exact PE.imp (pe_lc (g := tG X.K X.mg is g) (tt := tT X.K X.mg (fun _ _ _ _ => False) c2 tt) (te := tE X.K X.mg (fun _ _ _ _ => False) c3 te) hc hN hi ok hg ht he hs) fun σ H Q h => tLc_of hc m his h
end
end DD

end

section
set_option Elab.async false
set_option linter.all false
set_option autoImplicit false
set_option maxRecDepth 100000
set_option maxHeartbeats 2000000
/-! Statements, defs and their calls, over data. -/
namespace DD
open PySem PySem.Spec PyProof.Rows L2

/-- what a def does: its arguments, the cells, what is wanted of its value and of its error -/
abbrev Spec := List D → Cells → Q1 → EQ → Prop
/-- the promise over the heap -/
def spOf (K : PySem.W.Frag) (mg : Str → Option Value) (c n : Nat) (sp : Spec) : Sp := fun vs H Q E => ∃ R μ S ds P Ex, vs.length = n ∧ Sat K mg (R + c) μ S H ∧ ValL K mg μ (Lv μ S) H ds vs ∧ sp ds S P Ex ∧ Out1 K mg R μ S H P Q ∧ OutX K mg R μ S H Ex E
/-- a def as it stands behind the top: found by its name, with its promise -/
structure OkAt (P : Program) (w : World) (K : PySem.W.Frag) (mg : Str → Option Value) (base : Heap) (x : Str) (k c n : Nat) (sp : Spec) : Prop where
  ex : ∃ (f : Addr) (fd : FuncData) (ps : List Str), ps.length = n ∧ FnOk P w K mg base (L2.CX P w) k f fd ps (spOf K mg c n sp) ∧ Binds K fd ps [] ∧ mg x = some (.ref f) ∧ PySem.W.keepIn K (.ref f) = true

section
variable {X : Cx} {W : WX} {a b : Expr} {es : List Expr} {c c1 c2 c3 k n : Nat} {w1 w2 : WE} {ws : WA} {pos p : Pos} {x : Str} {sp : Spec}
def wCall (n : Nat) (sp : Spec) (ws : WA) : WE := fun ρ S P E => ws ρ S (fun ds S1 => ds.length = n ∧ sp ds S1 P E) E
theorem valL_len {K : PySem.W.Frag} {mg : Str → Option Value} {μ : Mu} {lv : Addr → Prop} {H : Hp} {ds : List D} {vs : List V} (r : ValL K mg μ lv H ds vs) : ds.length = vs.length := r.length
/-- f(e, ..) -/
theorem d_call {j : Nat} (F : OkAt X.prog X.w X.K X.mg X.base x k c n sp) (hr : Room j X.A) (hkj : k ≤ j) (tk : Takes X W) (ha : DA X W (a :: es) c1 ws) (hg : Gl X x := by rfl) (hdb : (x == ("__debug__" : Str)) = false := by decide)
    (he : starEach (a :: es) X.env = (false, eval a X.env) :: starEach es X.env := by rfl) (hpl : (backTo pos (starEach es X.env)).any (·.1) = false := by rfl) : DE X W (.Call (.Name x p) (a :: es) [] pos) (c1 + c) (wCall n sp ws) := by
  obtain ⟨f, fd, ps, hps, G, b, hm, hk⟩ := F.ex
  have h := pe_callSD (es := es) (e := a) (p := p) (pos := pos) (E := fun σ => L2.WE W σ) (G.mono hkj) hr hg hm hk b (.nil) (fun σ => passAt tk σ) ha hdb he hpl
  refine PE.imp h fun σ H Q ⟨R, μ, S, ρ, P, E, s, e, q, o, xx⟩ => ?_
  refine tA_of (R := R + c) (s.mono (by omega)) e q (fun ds S1 μ1 vs H1 x1 s1 e1 r1 h1 => ?_) (xx.mono (by omega))
  refine ⟨R, μ1, S1, ds, P, E, ?_, s1, by simpa using r1, h1.2, o.ext x1, fun y S2 μ2 cls dd H2 x2 s2 xo ey => xx.ext x1 y S2 μ2 cls dd H2 x2 s2 xo ey⟩
  rw [List.append_nil, ← r1.length]
  exact h1.1
theorem d_call0 {j : Nat} (F : OkAt X.prog X.w X.K X.mg X.base x k c 0 sp) (hr : Room j X.A) (hkj : k ≤ j) (tk : Takes X W) (hg : Gl X x := by rfl) (hdb : (x == ("__debug__" : Str)) = false := by decide) : DE X W (.Call (.Name x p) [] [] pos) c (wCall 0 sp wNil) := by
  obtain ⟨f, fd, ps, hps, G, b, hm, hk⟩ := F.ex
  refine ⟨fun pins s σ H Q I ⟨R, μ, S, ρ, P, E, st, e, q, o, xx⟩ => ?_⟩
  refine wpAny_Call_Name_kw (ld_glob I hg hm ?_ hdb)
  refine PySem.W.callWith_K0 I.kIn hk ?_
  exact run_fnSD (us := []) (vs := []) (dvs := []) (ds := []) (E := fun σ => L2.WE W σ) (G.mono hkj) hr b .nil (passAt tk σ) I .nil ⟨R, μ, S, [], P, E, rfl, st, .nil, q.2, o, fun y S2 μ2 cls dd H2 x2 s2 xo ey => xx y S2 μ2 cls dd H2 x2 s2 xo ey⟩

/-! ### keywords alone -/
abbrev DK (X : Cx) (W : WX) (kws : List Keyword) (c : Nat) (w : WA) : Prop := PK X kws (tA X.K X.mg W c w)
theorem PK.imp {X : Cx} {e : List Keyword} {t t' : TA} (h : PK X e t) (k : ∀ σ H Q, t' σ H Q → t σ H Q) : PK X e t' := ⟨fun pos pins s σ H Q I q => h.run pos pins s σ H Q I (k σ H Q q)⟩
theorem dk_nil : DK X W [] 0 wNil := PK.imp pk_nil fun σ H Q ⟨R, μ, S, ρ, P, E, s, e, p, o, _⟩ => o [] S μ [] H .refl s .nil p
theorem dk_cons {kws : List Keyword} {nm : Option Str} {kpos : Pos} (h : DE X W a c1 w1) (hs : DK X W kws c2 ws) : DK X W (⟨nm, a, kpos⟩ :: kws) (c1 + c2) (wCons w1 ws) := by
  refine PK.imp (pk_cons h hs) fun σ H Q ⟨R, μ, S, ρ, P, E, s, e, p, o, x⟩ => ?_
  refine tE_of (R := R + c2) (s.mono (by omega)) e p (fun d1 S1 μ1 v1 H1 x1 s1 e1 r1 h1 => ?_) (x.mono (by omega))
  refine tA_of (R := R) s1 e1 h1 (fun ds S2 μ2 vs H2 x2 s2 e2 r2 h2 => ?_) (x.ext x1)
  exact o _ S2 μ2 _ H2 (x1.trans x2) s2 (.cons (r1.ext x2) r2) h2
/-- the arguments by the parameters' order: π tells for each parameter the place of its keyword -/
def perm {α : Type} (π : List Nat) (l : List α) : List α := π.filterMap fun i => l[i]?
theorem perm_valL {K : PySem.W.Frag} {mg : Str → Option Value} {μ : Mu} {lv : Addr → Prop} {H : Hp} {ds : List D} {vs : List V} (r : ValL K mg μ lv H ds vs) : ∀ π : List Nat, ValL K mg μ lv H (perm π ds) (perm π vs)
  | [] => .nil
  | i :: π => by
    unfold perm
    rw [List.filterMap_cons, List.filterMap_cons]
    have ih := perm_valL r π
    cases e : ds[i]? with
    | none =>
      have : vs[i]? = none := List.getElem?_eq_none (by rw [← r.length]; exact List.getElem?_eq_none_iff.mp e)
      rw [this]
      exact ih
    | some d =>
      obtain ⟨v, e2, h⟩ := r.get e
      rw [e2]
      exact .cons h ih
theorem perm_vals {vs : List V} {us : List Value} (r : Vals vs us) : ∀ π : List Nat, Vals (perm π vs) (perm π us)
  | [] => .nil
  | i :: π => by
    unfold perm
    rw [List.filterMap_cons, List.filterMap_cons]
    have ih := perm_vals r π
    cases e : vs[i]? with
    | none =>
      rw [r.none_of e]
      exact ih
    | some d =>
      obtain ⟨v, e2, h⟩ := r.get e
      rw [e2]
      exact .cons h ih
def wCallK (n m : Nat) (sp : Spec) (π : List Nat) (ws : WA) : WE := fun ρ S P E => ws ρ S (fun ds S1 => ds.length = m ∧ (perm π ds).length = n ∧ sp (perm π ds) S1 P E) E
structure OkAtK (P : Program) (w : World) (K : PySem.W.Frag) (mg : Str → Option Value) (base : Heap) (x : Str) (k c n : Nat) (sp : Spec) (ks : List Str) (π : List Nat) : Prop where
  ex : ∃ (f : Addr) (fd : FuncData) (ps : List Str), ps.length = n ∧ FnOk P w K mg base (L2.CX P w) k f fd ps (spOf K mg c n sp) ∧ mg x = some (.ref f) ∧ PySem.W.keepIn K (.ref f) = true ∧
    ∀ (s : Shared) (ws : List Value), ws.length = ks.length → BindsTo s fd ⟨[], ks.zip ws⟩ (ps.zip (perm π ws))
theorem d_callK {j : Nat} {kws : List Keyword} {ks : List Str} {π : List Nat} (F : OkAtK X.prog X.w X.K X.mg X.base x k c n sp ks π) (hr : Room j X.A) (hkj : k ≤ j) (tk : Takes X W) (ha : DK X W kws c1 ws) (hg : Gl X x := by rfl)
    (hall : (backToKw pos (keywordEach kws X.env)).all (·.1.isSome) = true := by rfl) (hks : (backToKw pos (keywordEach kws X.env)).filterMap (·.1) = ks := by rfl) (hdb : (x == ("__debug__" : Str)) = false := by decide)
    (hpl : ((backTo pos (starEach [] X.env)).any (·.1) || (backToKw pos (keywordEach kws X.env)).any (·.1.isNone)) = false := by rfl) : DE X W (.Call (.Name x p) [] kws pos) (c1 + c) (wCallK n ks.length sp π ws) := by
  obtain ⟨f, fd, ps, hps, G, hm, hk, hb⟩ := F.ex
  refine ⟨fun pins s σ H Q I ⟨R, μ, S, ρ, P, E, st, e, q, o, xx⟩ => ?_⟩
  refine wpAny_Call_Name_kw (ld_glob I hg hm ?_ hdb)
  have z : tA X.K X.mg W c1 ws σ H fun vs H1 => vs.length = ks.length ∧ (perm π vs).length = n ∧ spOf X.K X.mg c n sp (perm π vs) H1 Q (L2.WE W σ) := by
    refine tA_of (R := R + c) (st.mono (by omega)) e q (fun ds S1 μ1 vs H1 x1 s1 e1 r1 h1 => ?_) (xx.mono (by omega))
    have rp := perm_valL r1 π
    have hl : (perm π vs).length = n := by rw [← rp.length]; exact h1.2.1
    exact ⟨by rw [← r1.length]; exact h1.1, hl, R, μ1, S1, perm π ds, P, E, hl, s1, rp, h1.2.2, o.ext x1, fun y S2 μ2 cls dd H2 x2 s2 xo ey => xx.ext x1 y S2 μ2 cls dd H2 x2 s2 xo ey⟩
  refine PySem.W.callWith_KW0 (h₀ := X.base) I.ok.mod.kin hk hall ?_ hpl
  refine thn (ha.run pos pins s σ H _ I z) fun us s1 ⟨zs, H1, I1, rz, hl, hl2, q1⟩ => ⟨I1.kIn, ?_⟩
  rw [hks]
  show wpAny _ _ (call (.ref f) [] (ks.zip us)) _ _ _
  have r2 := perm_vals rz π
  refine wpAny_call (codeAny_mono ((G.mono hkj).run X.A X.stack s1 H1 ⟨[], ks.zip us⟩ (perm π us) (perm π zs) Q (L2.WE W σ) hr I1.env0 (hb s1 us (by rw [← rz.length]; exact hl)) r2 q1) fun r s' hq => ?_)
  cases r with
  | error e => exact passAt tk σ pins H1 s1 e s' I1 hq
  | ok fl =>
    cases fl with
    | ret u => exact I1.after hq
    | next => exact False.elim hq
    | brk => exact False.elim hq
    | cont => exact False.elim hq

/-! ### statements -/
variable {st : Stmt} {sts : List Stmt} {s1 s2 : WS} {t1 : WT}
def wNext : WS := fun ρ S P => P.nx ρ S
def wSeq (a b : WS) : WS := fun ρ S P => a ρ S { P with nx := fun ρ1 S1 => b ρ1 S1 P }
theorem ds_nil : DSs X W [] 0 wNext := PSs.imp pss_nil fun D σ H ⟨R, μ, S, ρ, P, s, e, p, o⟩ => o.nx ρ S μ σ H .refl s e p
theorem ds_one (h : DS X W st c1 s1) : DSs X W [st] c1 s1 := pss_one h
theorem ds_cons (h : DS X W st c1 s1) (hs : DSs X W sts c2 s2) : DSs X W (st :: sts) (c1 + c2) (wSeq s1 s2) := by
  refine PSs.imp (pss_cons h hs) fun D σ H ⟨R, μ, S, ρ, P, s, e, p, o⟩ => ?_
  exact ⟨R + c2, μ, S, ρ, _, s.mono (by omega), e, p, ⟨fun ρ1 S1 μ1 σ1 H1 x1 st1 e1 p1 => ⟨R, μ1, S1, ρ1, P, st1, e1, p1, o.ext x1⟩, o.rt.mono (by omega), o.bk.mono (by omega), o.ct.mono (by omega), (o.mono (by omega : R ≤ R + c2)).ex⟩⟩
def wPass : WS := wNext
theorem ds_pass : DS X W (.Pass pos) 0 wNext := PS.imp ps_pass fun D σ H ⟨R, μ, S, ρ, P, s, e, p, o⟩ => o.nx ρ S μ σ H .refl s e p
def wBreak : WS := fun ρ S P => P.bk ρ S
def wCont : WS := fun ρ S P => P.ct ρ S
theorem ds_break : DS X W (.Break pos) 0 wBreak := PS.imp ps_break fun D σ H ⟨R, μ, S, ρ, P, s, e, p, o⟩ => o.bk ρ S μ σ H .refl s e p
theorem ds_continue : DS X W (.Continue pos) 0 wCont := PS.imp ps_continue fun D σ H ⟨R, μ, S, ρ, P, s, e, p, o⟩ => o.ct ρ S μ σ H .refl s e p
def wExpr (w : WE) : WS := fun ρ S P => w ρ S (fun _ S1 => P.nx ρ S1) (fun x S1 => P.ex x ρ S1)
theorem ds_expr (h : DE X W a c1 w1) (hs : swapsWith a none pos.line X.env = pure false := by rfl) : DS X W (.Expr a pos) c1 (wExpr w1) := by
  refine PS.imp (ps_expr h hs) fun D σ H ⟨R, μ, S, ρ, P, s, e, p, o⟩ => ?_
  exact tE_of s e p (fun d S1 μ1 v H1 x1 s1 e1 r1 h1 => o.nx ρ S1 μ1 σ H1 x1 s1 e1 h1) (o.exX e)
def wRet (w : WE) : WS := fun ρ S P => w ρ S P.rt (fun x S1 => P.ex x ρ S1)
theorem ds_ret (h : DE X W a c1 w1) : DS X W (.Return (some a) pos) c1 (wRet w1) := by
  refine PS.imp (ps_ret h) fun D σ H ⟨R, μ, S, ρ, P, s, e, p, o⟩ => ?_
  exact tE_of s e p (fun d S1 μ1 v H1 x1 s1 e1 r1 h1 => o.rt d S1 μ1 v H1 x1 s1 r1 h1) (o.exX e)
def wRetN : WS := fun ρ S P => P.rt .non S
theorem ds_retN : DS X W (.Return none pos) 0 wRetN := PS.imp ps_retN fun D σ H ⟨R, μ, S, ρ, P, s, e, p, o⟩ => o.rt .non S μ .non H .refl s .non p
def wSet (i : Nat) (w : WE) : WS := fun ρ S P => w ρ S (fun d S1 => P.nx (ρ.set i (some d)) S1) (fun x S1 => P.ex x ρ S1)
theorem ds_set (i : Nat) {pos' : Pos} (hN : X.N.Nodup) (h : DE X W a c1 w1) (hi : X.N[i]? = some x := by rfl) (hx : Loc X.env.scope x := by first | exact Or.inl rfl | exact Or.inr rfl) (hs : swapsWith a (some (.Name x pos')) pos.line X.env = pure false := by rfl) (hf : X.fn x = true ∨ X.env.scope.names.lookup x = some .local := by first | exact .inl rfl | exact .inr rfl) : DS X W (.Assign [.Name x pos'] a pos) c1 (wSet i w1) := by
  refine PS.imp (ps_set hN hi hx h hs hf) fun D σ H ⟨R, μ, S, ρ, P, s, e, p, o⟩ => ?_
  exact tE_of s e p (fun d S1 μ1 v H1 x1 s1 e1 r1 h1 => o.nx _ S1 μ1 _ H1 x1 s1 (e1.set r1) h1) (o.exX e)
/-- name = [..] -/
theorem ds_setLc (i : Nat) (m : Bool) {py : Pos} {tg elt iter : Expr} {ifs : List Expr} {scope : Scope} {own : List (Str × Nat)} {is : List Nat} {spos : Pos} {wi : WL} {g : GD} {tt : WT} {te : WE} (hc : X.calm = true) (hN : X.N.Nodup) (hi : DI X W tg iter c1 wi) (ok : BlkOk X.N X.env.scope scope own)
    (hg : ∀ (s : Shared) (H : Hp) (C : Addr) (cl : List (Str × Addr)) (fp : List Addr), DG (X.blk s H scope (compEnvC scope cl C X.env) fp) tg is g)
    (ht : ∀ (s : Shared) (H : Hp) (C : Addr) (cl : List (Str × Addr)) (fp : List Addr), DTs (X.blk s H scope (compEnvC scope cl C X.env) fp) (fun _ _ _ _ => False) ifs c2 tt)
    (he : ∀ (s : Shared) (H : Hp) (C : Addr) (cl : List (Str × Addr)) (fp : List Addr), DE (X.blk s H scope (compEnvC scope cl C X.env) fp) (fun _ _ _ _ => False) elt c3 te)
    (hsw : swapsWith (.ListComp elt [⟨tg, iter, ifs, 0⟩] scope pos) (some (.Name x py)) spos.line X.env = pure true) (hy : X.N[i]? = some x := by rfl) (hyl : X.env.scope.names.lookup x = some .local := by rfl)
    (his : ∀ i ∈ is, i ∈ own.map (·.2) := by decide) (hs : ∀ x, foldedSetIterable iter X.env x = pure x := by intro _; rfl) :
    DS X W (.Assign [.Name x py] (.ListComp elt [⟨tg, iter, ifs, 0⟩] scope pos) spos) (c1 + 2 ^ 24 * (c2 + c3)) (wSet i (wLc m wi g tt te (own.map (·.2)))) := by
  refine PS.imp (ps_setLc (g := tG X.K X.mg is g) (tt := tT X.K X.mg (fun _ _ _ _ => False) c2 tt) (te := tE X.K X.mg (fun _ _ _ _ => False) c3 te) hc hN hy hyl hsw hi ok hg ht he hs) fun D σ H ⟨R, μ, S, ρ, P, s, e, p, o⟩ => ?_
  show tLc _ _ _ _ _ σ H fun x H1 => gName i x σ H1 D.nx
  exact tLc_of hc m his ⟨R, μ, S, ρ, _, _, s, e, p, fun d S1 μ1 v H1 x1 s1 r1 h1 => o.nx _ S1 μ1 _ H1 x1 s1 ((e.ext x1).set r1) h1, o.exX e⟩
def wAsg (w : WE) (g : GD) : WS := fun ρ S P => w ρ S (fun d S1 => g d ρ fun ρ1 => P.nx ρ1 S1) (fun x S1 => P.ex x ρ S1)
theorem ds_asg {tg : Expr} {is : List Nat} {g : GD} (h : DE X W a c1 w1) (hg : DG X tg is g) (hs : swapsWithSole [tg] a pos.line X.env = pure false := by rfl) (hw : swappedStores [tg] a X.env = pure none := by rfl) (h1 : (assignEach [tg] X.env).map (·.2) = [assign tg X.env] := by rfl) :
    DS X W (.Assign [tg] a pos) c1 (wAsg w1 g) := by
  refine PS.imp (ps_asg h hg hs hw h1) fun D σ H ⟨R, μ, S, ρ, P, s, e, p, o⟩ => ?_
  exact tE_of s e p (fun d S1 μ1 v H1 x1 s1 e1 r1 h1 => ⟨μ1, S1, R, ρ, d, _, s1, e1, r1, h1, fun ρ1 σ1 e2 _ p1 => o.nx ρ1 S1 μ1 σ1 H1 x1 s1 e2 p1⟩) (o.exX e)
def wPar (i j : Nat) (ws : WA) : WS := fun ρ S P => ws ρ S (fun ds S1 => ∃ d e, ds = [d, e] ∧ P.nx ((ρ.set i (some d)).set j (some e)) S1) (fun x S1 => P.ex x ρ S1)
theorem ds_par (i j : Nat) {x y : Str} {px py pt : Pos} {kt k2 pt2} (hc : X.calm = true) (hN : X.N.Nodup) (ha : DA X W [a, b] c1 ws) (hij : i ≠ j := by decide) (hi : X.N[i]? = some x := by rfl) (hj : X.N[j]? = some y := by rfl)
    (hx : X.env.scope.names.lookup x = some .local := by rfl) (hy : X.env.scope.names.lookup y = some .local := by rfl)
    (hw : swappedStores [.Tuple [.Name x px, .Name y py] kt pt] (.Tuple [a, b] k2 pt2) X.env = pure (some [x, y]) := by rfl) (hs : swapsWithSole [.Tuple [.Name x px, .Name y py] kt pt] (.Tuple [a, b] k2 pt2) pos.line X.env = pure false := by rfl) :
    DS X W (.Assign [.Tuple [.Name x px, .Name y py] kt pt] (.Tuple [a, b] k2 pt2) pos) c1 (wPar i j ws) := by
  refine PS.imp (ps_par hc hN hi hj hij hx hy ha hw hs) fun D σ H ⟨R, μ, S, ρ, P, s, e, p, o⟩ => ?_
  refine tA_of s e p (fun ds S1 μ1 vs H1 x1 s1 e1 r1 h1 => ?_) (o.exX e)
  obtain ⟨d, e', rfl, h1⟩ := h1
  obtain ⟨v, u, rfl, rv, ru⟩ := valL2 r1
  exact ⟨v, u, rfl, o.nx _ S1 μ1 _ H1 x1 s1 ((e1.set rv).set ru) h1⟩
def wIf (t : WT) (a b : WS) : WS := fun ρ S P => t ρ S (fun c S1 => if c = true then a ρ S1 P else b ρ S1 P) (fun x S1 => P.ex x ρ S1)
theorem ds_if {sa sb : List Stmt} (h : DT X W a c1 t1) (ha : DSs X W sa c2 s1) (hb : DSs X W sb c3 s2) : DS X W (.If a sa sb pos) (c1 + (c2 + c3)) (wIf t1 s1 s2) := by
  refine PS.imp (ps_if h ha hb) fun D σ H ⟨R, μ, S, ρ, P, s, e, p, o⟩ => ?_
  refine tT_of (R := R + (c2 + c3)) (s.mono (by omega)) e p (fun k S1 μ1 H1 x1 s1 e1 h1 => ?_) ((o.exX e).mono (by omega))
  cases k with
  | true => exact ⟨R, μ1, S1, ρ, P, s1.mono (by omega), e1, h1, o.ext x1⟩
  | false => exact ⟨R, μ1, S1, ρ, P, s1.mono (by omega), e1, h1, o.ext x1⟩
/-- for -/
def loopF (body : D → Rho → Cells → EndsD → Prop) (C : Cells → Prop) : List D → Rho → Cells → EndsD → Prop
  | [], ρ, S, P => C S ∧ P.nx ρ S
  | x :: xs, ρ, S, P => C S ∧ body x ρ S { P with nx := fun ρ1 S1 => loopF body C xs ρ1 S1 P, ct := fun ρ1 S1 => loopF body C xs ρ1 S1 P, bk := P.nx }
def bodyF (g : GD) (b : WS) (d : D) (ρ : Rho) (S : Cells) (P : EndsD) : Prop := g d ρ fun ρ1 => b ρ1 S P
def wFor (wi : WL) (g : GD) (b : WS) : WS := fun ρ S P => wi ρ S (fun xs C S1 => loopF (bodyF g b) C xs ρ S1 P) (fun x S1 => P.ex x ρ S1)
theorem ds_for {tg iter : Expr} {is : List Nat} {wi : WL} {g : GD} {body : List Stmt} (hp : PassesOwn (model X.prog X.w) X.A X.env X.xe) (hc : X.calm = true) (hi : DI X W tg iter c1 wi) (hg : DG X tg is g) (hb : DSs X W body c2 s1)
    (hs : ∀ x, foldedSetIterable iter X.env x = pure x := by intro _; rfl) : DS X W (.For tg iter body [] pos) (c1 + 2 ^ 24 * c2) (wFor wi g s1) := by
  refine PS.imp (ps_for hp hc hi hg hb hs) fun D σ H ⟨R, μ, S, ρ, P, s, e, pw, o⟩ => ?_
  have hline : sizeLine = 2 ^ 24 := sizeLine_eq
  refine ⟨R + 2 ^ 24 * c2, μ, S, ρ, _, _, s.mono (by omega), e, pw, fun xs C S1 μ1 J H1 x1 st1 src hC hz pl => ?_, (o.exX e).mono (by omega)⟩
  refine ⟨fun i n σ2 H2 => n = xs.length - i ∧ i ≤ xs.length ∧ ∃ μ2 S2 ρ2, Sat X.K X.mg (R + (xs.length - i) * c2) μ2 S2 H2 ∧ Ext μ1 S1 H1 μ2 S2 H2 ∧ EnvOk X.K X.mg μ2 S2 H2 ρ2 σ2 ∧ loopF (bodyF g s1) C (xs.drop i) ρ2 S2 P,
    ⟨xs.length, by simp, Nat.zero_le _, μ1, S1, ρ, st1.mono (by rw [← hline]; simpa using Nat.mul_le_mul_right c2 hz), .refl, e.ext x1, by simpa using pl⟩, ?_⟩
  rintro i n σ2 H2 ⟨rfl, hi2, μ2, S2, ρ2, st2, x2, e2, l2⟩
  obtain ⟨turn, stop⟩ : (∀ i, i < xs.length → J.go i H2 ∧ ∀ v H', J.yld i H2 v H' → (H' = H2 ∨ ∃ p o, H2 p = none ∧ H' = upd H2 p o) ∧ ∃ d, xs[i]? = some d ∧ Val X.K X.mg μ2 (Lv μ2 S2) H' d v) ∧ J.stop xs.length H2 := by
    refine src μ2 S2 H2 x2.toExt0 (st2.mono (Nat.zero_le _)) ?_
    cases q : xs.drop i with
    | nil => rw [q] at l2; exact l2.1
    | cons y ys => rw [q] at l2; exact l2.1
  by_cases hlt : i < xs.length
  · obtain ⟨go, yl⟩ := turn i hlt
    have hd : xs.drop i = xs[i] :: xs.drop (i + 1) := List.drop_eq_getElem_cons hlt
    rw [hd] at l2
    obtain ⟨_, body⟩ := l2
    have hbud : R + (xs.length - i) * c2 = (R + (xs.length - (i + 1)) * c2) + c2 := by
      have : xs.length - i = (xs.length - (i + 1)) + 1 := by omega
      rw [this, Nat.add_mul, Nat.one_mul]
      omega
    generalize hR2 : R + (xs.length - (i + 1)) * c2 = R2 at hbud
    have hRR : R ≤ R2 := by rw [← hR2]; omega
    rw [hbud] at st2
    refine .inr ⟨go, fun σ' H' => ∃ μ2 S2 ρ2, Sat X.K X.mg R2 μ2 S2 H' ∧ Ext μ1 S1 H1 μ2 S2 H' ∧ EnvOk X.K X.mg μ2 S2 H' ρ2 σ' ∧ loopF (bodyF g s1) C (xs.drop (i + 1)) ρ2 S2 P, fun σ' H' h' => ?_, fun v H3 y => ?_⟩
    · obtain ⟨μ3, S3, ρ3, q1, q2, q3, q4⟩ := h'
      exact ⟨_, by omega, rfl, hlt, μ3, S3, ρ3, by rw [hR2]; exact q1, q2, q3, q4⟩
    · obtain ⟨hH, d, hd2, rd⟩ := yl v H3 y
      have hd3 : d = xs[i] := by
        rw [List.getElem?_eq_getElem hlt] at hd2
        exact (Option.some.inj hd2).symm
      subst hd3
      obtain ⟨x3, st3⟩ : Ext μ2 S2 H2 μ2 S2 H3 ∧ Sat X.K X.mg (R2 + c2) μ2 S2 H3 := by
        rcases hH with hH | ⟨q, o, hq, hH⟩
        · subst hH; exact ⟨.refl, st2⟩
        · subst hH; exact st2.new hq o
      refine ⟨μ2, S2, _, _, _, _, st3, e2.ext x3, rd, body, fun ρ3 σ3 e3 _ b3 => ?_⟩
      have oo : OutS X.K X.mg R2 μ2 S2 H3 P D W := (o.ext (x1.trans (x2.trans x3))).mono hRR
      have again : OutR X.K X.mg R2 μ2 S2 H3 (fun ρ1 S1 => loopF (bodyF g s1) C (xs.drop (i + 1)) ρ1 S1 P) (fun σ' H' => ∃ μ2 S2 ρ2, Sat X.K X.mg R2 μ2 S2 H' ∧ Ext μ1 S1 H1 μ2 S2 H' ∧ EnvOk X.K X.mg μ2 S2 H' ρ2 σ' ∧ loopF (bodyF g s1) C (xs.drop (i + 1)) ρ2 S2 P) :=
        fun ρ4 S4 μ4 σ4 H4 x4 st4 e4 l4 => ⟨μ4, S4, ρ4, st4, x2.trans (x3.trans x4), e4, l4⟩
      exact ⟨R2, μ2, S2, ρ3, _, st3, e3, b3, ⟨again, oo.rt, oo.nx, again, oo.ex⟩⟩
  · have hi' : i = xs.length := by omega
    subst hi'
    rw [List.drop_length] at l2
    exact .inl ⟨stop, o.nx ρ2 S2 μ2 σ2 H2 (x1.trans x2) (by simpa using st2) e2 l2.2⟩

/-! ### a def by its body -/
/-- behind a return the def's own cells are forgotten, if its value names none of them -/
def outD (S : Cells) (P : Q1) : Q1 := fun d S1 => (d.rb S.length = true ∧ cellsRb S.length (S1.take S.length) = true ∧ P d (S1.take S.length)) ∨ P d S1
def Exn.rb (n : Nat) (x : Exn) : Bool := x.flds.all fun f => f.2.rb n
def outE (S : Cells) (E : EQ) : EQ := fun x S1 => (x.rb S.length = true ∧ cellsRb S.length (S1.take S.length) = true ∧ E x (S1.take S.length)) ∨ E x S1
def startD (N : Nat) (ds : List D) : Rho := ds.map some ++ List.replicate (N - ds.length) none
theorem outD_app {S T : Cells} {P : Q1} {d : D} (h : cellsRb S.length S = true) (hd : d.rb S.length = true) (p : P d S) : outD S P d (S ++ T) := .inl ⟨hd, by simpa using h, by simpa using p⟩
theorem outD_id {S : Cells} {P : Q1} {d : D} (p : P d S) : outD S P d S := .inr p
theorem outE_app {S T : Cells} {E : EQ} {x : Exn} (h : cellsRb S.length S = true) (hd : x.rb S.length = true) (p : E x S) : outE S E x (S ++ T) := .inl ⟨hd, by simpa using h, by simpa using p⟩
def Sat' (n N : Nat) (b : WS) (sp : Spec) : Prop := ∀ ds S P E, ds.length = n → cellsRb S.length S = true → rbL S.length ds = true → sp ds S P E → b (startD N ds) S ⟨fun _ S1 => outD S P .non S1, outD S P, fun _ _ => False, fun _ _ => False, fun x _ S1 => outE S E x S1⟩
section
variable {P : Program} {w : World} {K : PySem.W.Frag} {mg : Str → Option Value} {base : Heap} {R : Nat} {μ : Mu} {S : Cells} {H : Hp}
theorem startD_ok {N : List Str} {ds : List D} {vs : List V} (r : ValL K mg μ (Lv μ S) H ds vs) : EnvOk K mg μ S H (startD N.length ds) (L2.start N vs) := by
  have hl := r.length
  refine ⟨by simp [startD, L2.start, hl], fun i d e => ?_⟩
  unfold startD at e
  unfold L2.start
  by_cases h : i < ds.length
  · rw [List.getElem?_append_left (by simpa using h), List.getElem?_map] at e
    obtain ⟨d', e1, e2⟩ := Option.map_eq_some_iff.mp e
    cases e2
    obtain ⟨v, h1, h2⟩ := r.get e1
    exact ⟨v, by rw [List.getElem?_append_left (by simp; omega), List.getElem?_map, h1]; rfl, h2⟩
  · rw [List.getElem?_append_right (by simpa using h), List.getElem?_replicate] at e
    split at e <;> cases e
theorem out_take {P1 : Q1} {Q : VK} (s0 : Sat K mg R μ S H) (o : Out1 K mg R μ S H P1 Q) : Out1 K mg R μ S H (outD S P1) Q := fun d S1 μ1 v H1 x s r h => by
  rcases h with ⟨h1, h2, h3⟩ | h
  · exact o d _ (μ1.take S.length) v H1 (x.take (Nat.le_of_eq s0.len)) (s.take h2) (r.take h1) h3
  · exact o d S1 μ1 v H1 x s r h
theorem outX_take {E1 : EQ} {Q : XK} (s0 : Sat K mg R μ S H) (o : OutX K mg R μ S H E1 Q) : OutX K mg R μ S H (outE S E1) Q := fun y S1 μ1 cls dd H1 x s r h => by
  rcases h with ⟨h1, h2, h3⟩ | h
  · refine o y _ (μ1.take S.length) cls dd H1 (x.take (Nat.le_of_eq s0.len)) (s.take h2) ?_ h3
    obtain ⟨C, e1, e2, e3⟩ := r
    refine ⟨C, e1, e2, ?_⟩
    rcases e3 with e3 | ⟨a, f, d, v, q1, q2, q3, nl, q4⟩
    · exact .inl e3
    · refine .inr ⟨a, f, d, v, q1, q2, q3, fun z => nl z.take, q4.take ?_⟩
      unfold Exn.rb at h1
      rw [q2] at h1
      simpa using h1
  · exact o y S1 μ1 cls dd H1 x s r h
/-- THE RULE for a def -/
theorem ok_def {x qual : Str} {params : Arguments} {body : List Stmt} {scope : Scope} {f : Addr} {fd : FuncData} {N ps : List Str} {k c n : Nat} {sp : Spec} {b : WS} (F : FunD K x qual params body scope [] [] f fd) (SC : FnScope N ps scope) (hn : ps.length = n)
    (hb : ∀ (cdv : Value) (A : Around) (outer : List Env) (s : Shared) (H : Hp) (E : XK), Room k (A.deeper (envOfC qual scope s.heap.objs.size f cdv)) →
      DSs (cxOf (L2.CX P w) P w K mg base N qual scope f cdv A outer s H E) (fun cls d _ H' => E cls d H') body c b)
    (hs : Sat' n N.length b sp) : FnOk P w K mg base (L2.CX P w) (k + 1) f fd ps (spOf K mg c n sp) := by
  subst hn
  refine F.ok SC (fun vs H Q E h => ?_) (fun cdv A outer s H vs Q E hr h => ⟨_, hb cdv A outer s H E hr, ?_⟩)
  · obtain ⟨_, _, _, _, _, _, hl, _⟩ := h
    exact hl
  · obtain ⟨R, μ, S, ds, P1, E1, hl, st, r, h, o, xx⟩ := h
    have st0 := st.mono (Nat.le_add_right R c)
    have z := hs ds S P1 E1 (by rw [r.length]; exact hl) st0.rb (by rw [← st0.len]; exact r.rb) h
    refine ⟨R, μ, S, _, _, st, startD_ok r, z, ⟨fun ρ1 S1 μ1 σ1 H1 x1 s1 e1 h1 => out_take st0 o .non S1 μ1 .non H1 x1 s1 .non h1, out_take st0 o, fun _ _ _ _ _ _ _ _ z => z.elim, fun _ _ _ _ _ _ _ _ z => z.elim, ?_⟩⟩
    intro y ρ1 S1 μ1 σ1 cls dd H1 x1 s1 e1 xo ey
    exact outX_take st0 xx y S1 μ1 cls dd H1 x1 s1 xo ey
end
end
end DD

end

section
set_option Elab.async false
set_option linter.all false
set_option autoImplicit false
set_option maxRecDepth 100000
set_option maxHeartbeats 2000000
/-! Errors over data: an own error class with one field, raise, try, the caught error's class and field. -/
namespace DD
open PySem PySem.Spec PyProof.Rows L2

/-! ### a class's own __init__: self.f = v -/
/-- what the class's __init__ does -/
def spInit (K : PySem.W.Frag) (f : Str) : Sp := fun vs H Q _ => ∃ (a C : Addr) (y : V), vs = [.ref a, y] ∧ OexC K C ∧ PySem.W.findIn K (.ref C) f = some none ∧ H a = some (exo a C none) ∧
  ∀ dx, H dx = none → dx ≠ a → Q .non (upd (upd H dx (exd dx [(f, y)])) a (exo a C (some dx)))
/-- what the head says of an own error class -/
structure ExcAt (P : Program) (w : World) (K : PySem.W.Frag) (mg : Str → Option Value) (base : Heap) (x f : Str) (k : Nat) : Prop where
  ex : ∃ (C fI : Addr) (fd : FuncData) (ps : List Str), mg x = some (.ref C) ∧ OexC K C ∧ PySem.W.findIn K (.ref C) f = some none ∧ PySem.W.findIn K (.ref C) "__init__" = some (some (.ref fI)) ∧ PySem.W.typeIn K (.ref fI) = some (.type "function") ∧
    FnOk P w K mg base (L2.CX P w) k fI fd ps (spInit K f) ∧ Binds K fd ps []
section
variable {P : Program} {w : World} {K : PySem.W.Frag} {mg : Str → Option Value} {base : Heap}
theorem ok_init {x qual : Str} {params : Arguments} {scope : Scope} {fI : Addr} {fd : FuncData} {f s1 s2 : Str} {k : Nat} {q1 q2 q3 q4 : Pos}
    (F : FunD K x qual params [.Assign [.Attribute (.Name s1 q1) f q2] (.Name s2 q3) q4] scope [] [] fI fd) (SC : FnScope [s1, s2] [s1, s2] scope)
    (d1 : (s1 == ("__debug__" : Str)) = false) (e1 : (s1 == ("__classdict__" : Str)) = false) (d2 : (s2 == ("__debug__" : Str)) = false) (e2 : (s2 == ("__classdict__" : Str)) = false)
    (l1 : scope.names.lookup s1 = some .local) (l2 : scope.names.lookup s2 = some .local)
    (hs : ∀ env : Env, swapsWith (.Name s2 q3) (some (.Attribute (.Name s1 q1) f q2)) q4.line env = pure false) : FnOk P w K mg base (L2.CX P w) (k + 1) fI fd [s1, s2] (spInit K f) := by
  refine F.ok SC (fun vs H Q E h => ?_) (fun cdv A outer s H vs Q E hr h => ⟨_, pss_one (ps_ost (pe_var (i := 0) rfl (.inl l1) d1 e1) (pe_var (i := 1) rfl (.inl l2) d2 e2) (hs _)), ?_⟩)
  · obtain ⟨a, C, y, rfl, _⟩ := h
    rfl
  · obtain ⟨a, C, y, rfl, T, hno, ha, q⟩ := h
    exact ⟨y, rfl, .ref a, rfl, a, C, rfl, T, hno, .inl ⟨ha, fun dx n ne => q dx n ne⟩⟩
end

/-! ### raise -/
def wRaise (x f : Str) (w : WE) : WS := fun ρ S P => w ρ S (fun d S1 => P.ex ⟨x, [(f, d)]⟩ ρ S1) (fun y S1 => P.ex y ρ S1)
section
variable {X : Cx} {W : WX} {a b : Expr} {c c1 c2 k : Nat} {w1 : WE} {pos p : Pos} {x f : Str}
theorem ds_raise {j : Nat} (F : ExcAt X.prog X.w X.K X.mg X.base x f k) (hr : Room j X.A) (hkj : k + 1 ≤ j) (hc : X.calm = true) (tk : Takes X W) (ha : DE X W a c1 w1) (hg : Gl X x := by rfl)
    (hdb : (x == ("__debug__" : Str)) = false := by decide) (he : starEach [a] X.env = (false, eval a X.env) :: starEach [] X.env := by rfl) (hpl : (backTo pos (starEach [] X.env)).any (·.1) = false := by rfl) {rp : Pos} :
    DS X W (.Raise (some (.Call (.Name x p) [a] [] pos)) none rp) c1 (wRaise x f w1) := by
  obtain ⟨C, fI, fd, ps, hm, T, hno, iC, tI, F1, hb⟩ := F.ex
  have hda : DA X W [a] (c1 + 0) (wCons w1 wNil) := da_cons ha da_nil he
  refine PS.imp (ps_raise hc tk (pmk_oex T iC tI F1 (hr.mono hkj) hb .nil passL hg hm hda hdb he hpl)) fun De σ H ⟨R, μ, S, ρ, P, s, e, q, o⟩ => ?_
  have q' : wCons w1 wNil ρ S (fun ds S1 => ∃ d, ds = [d] ∧ P.ex ⟨x, [(f, d)]⟩ ρ S1) (fun y S1 => P.ex y ρ S1) := by
    have e0 : (fun (d : D) (S1 : Cells) => P.ex ⟨x, [(f, d)]⟩ ρ S1) = fun d S1 => ∃ d', [d] = [d'] ∧ P.ex ⟨x, [(f, d')]⟩ ρ S1 := by
      funext d S1
      simp
    have q2 : w1 ρ S (fun d S1 => P.ex ⟨x, [(f, d)]⟩ ρ S1) (fun y S1 => P.ex y ρ S1) := q
    rw [e0] at q2
    exact q2
  refine tA_of (R := R) (c := c1 + 0) s e q' (fun ds S1 μ1 vs H1 x1 s1 e1 r1 h1 => ?_) (o.exX e)
  obtain ⟨d, rfl, h1⟩ := h1
  obtain ⟨v, rfl, rv⟩ := valL1 r1
  refine ⟨by simp, fun aa na => ⟨aa, C, v, by simp, T, hno, upd_same, fun dx nd ne => ?_⟩⟩
  have nd1 : H1 dx = none := by rw [upd_ne ne] at nd; exact nd
  refine ⟨rfl, dx, [(f, v)], upd_same, by rw [upd_ne ne, upd_same], nd1, ?_⟩
  have eH : upd (del (upd (upd (upd H1 aa (exo aa C none)) dx (exd dx [(f, v)])) aa (exo aa C (some dx))) aa) dx (.xd [(f, v)]) = upd H1 dx (.xd [(f, v)]) := by
    funext z
    by_cases z1 : z = dx
    · rw [z1, upd_same, upd_same]
    · rw [upd_ne z1, upd_ne z1]
      by_cases z2 : z = aa
      · rw [z2, del_same, na]
      · rw [del_ne z2, upd_ne z2, upd_ne z1, upd_ne z2]
  rw [eH]
  obtain ⟨x2, s2⟩ := s1.new nd1 (.xd [(f, v)])
  exact o.ex _ ρ S1 μ1 σ _ _ _ (x1.trans x2) s2 (e1.ext x2) ⟨C, rfl, hm, .inr ⟨dx, f, d, v, rfl, rfl, upd_same, s1.fresh nd1, rv.ext x2⟩⟩ h1

/-! ### try .. except x as n -/
/-- i: n's slot; is: does the clause take it -/
def EndsD.pop (P : EndsD) (i : Nat) : EndsD where
  nx := fun ρ S => P.nx (ρ.set i none) S
  rt := P.rt
  bk := fun ρ S => P.bk (ρ.set i none) S
  ct := fun ρ S => P.ct (ρ.set i none) S
  ex := fun _ _ _ => False
def EndsD.withX (P : EndsD) (E : Exn → Rho → Cells → Prop) : EndsD := ⟨P.nx, P.rt, P.bk, P.ct, E⟩
/-- what is done with an error -/
def catchX (i : Nat) (isX : Str → Option Bool) (suite : Addr → Value → Option Addr → WS) (P : EndsD) (y : Exn) (ρ1 : Rho) (S1 : Cells) : Prop :=
  ∃ b, isX y.cls = some b ∧ (b = true → ∃ f d, y.flds = [(f, d)] ∧ ∀ a C dd, suite a (.ref C) (some dd) (ρ1.set i (some (.exn a C dd y.cls f d))) S1 (P.pop i)) ∧ (b = false → P.ex y ρ1 S1)
def wTry (i : Nat) (isX : Str → Option Bool) (body : WS) (suite : Addr → Value → Option Addr → WS) : WS := fun ρ S P => body ρ S (P.withX (catchX i isX suite P))
end
section
variable {X : Cx} {W : WX} {c1 : Nat} {pos p : Pos} {x f : Str} {n : Str} {cb : Value} {i c2 : Nat} {isX : Str → Option Bool} {bw : WS} {sw : Addr → Value → Option Addr → WS} {body suite : List Stmt} {b₀ : Stmt} {np pos' : Pos}
theorem ds_try (hs : X.stack = X.env :: X.outer) (hf : X.env.frame = some X.env.locals) (hN : X.N.Nodup) (hi : X.N[i]? = some n) (hln : X.env.kindOf n = some .local) (hc : Names X x cb) (tk : Takes X W)
    (hx : ∀ z t C, isX z = some t → X.mg z = some (.ref C) → PySem.W.exmOne X.K (.ref C) cb = some t)
    (hb : ∀ (W : WX) (pn : List (Addr × Obj)) (xe : Value → Shared → Prop), Takes (X.tr pn xe) W → PassesOwn (model X.prog X.w) X.A X.env xe → DSs (X.tr pn xe) W body c1 bw)
    (hsu : ∀ (a : Addr) (oe : Obj) (cls : Value) (d : Option Addr) (pn : List (Addr × Obj)), Zc cls d oe → (∃ vs, oe.data = .fields vs) → DSs (X.suite a ((a, oe) :: pn)) (fun _ _ _ _ => False) (b₀ :: suite) c2 (sw a cls d)) :
    DS X W (.Try body [.ExceptHandler (some (.Name x np)) (some n) (b₀ :: suite) pos'] [] [] pos) (c1 + c2) (wTry i isX bw sw) := by
  refine PS.imp (ps_try_as (tb := fun W => tS X.K X.mg W c1 bw) (ts := fun a cls d => tS X.K X.mg (fun _ _ _ _ => False) c2 (sw a cls d)) hs hf hN hi hln hc tk hb hsu) fun De σ H ⟨R, μ, S, ρ, P, s, e, q, o⟩ => ?_
  have o2 : OutS X.K X.mg (R + c2) μ S H P De W := o.mono (by omega)
  refine ⟨R + c2, μ, S, ρ, _, s.mono (by omega), e, q, ⟨o2.nx, o2.rt, o2.bk, o2.ct, fun y ρ1 S1 μ1 σ1 cls dd H1 x1 s1 e1 xo h1 => ?_⟩⟩
  obtain ⟨t, ht, yes, no⟩ := h1
  obtain ⟨C, rfl, hm, hd⟩ := id xo
  refine ⟨t, hx _ _ _ ht hm, fun z a na => ?_, fun z => o.ex y ρ1 S1 μ1 σ1 _ dd H1 x1 (s1.mono (by omega)) e1 xo (no z)⟩
  obtain ⟨f, d, hfl, go⟩ := yes z
  rcases hd with ⟨h0, _⟩ | ⟨aa, f', d', v, rfl, h2, h3, h4, h5⟩
  · rw [hfl] at h0; cases h0
  · rw [hfl] at h2
    cases h2
    have oo := o.ext x1
    refine ⟨R, μ1, S1, _, _, s1, e1.set (.exn (a := a) hm h3 h4 h5), go a C aa, ⟨fun ρ2 S2 μ2 σ2 H2 x2 s2 e2 p2 => oo.nx _ S2 μ2 _ H2 x2 s2 e2.unset p2, oo.rt, fun ρ2 S2 μ2 σ2 H2 x2 s2 e2 p2 => oo.bk _ S2 μ2 _ H2 x2 s2 e2.unset p2, fun ρ2 S2 μ2 σ2 H2 x2 s2 e2 p2 => oo.ct _ S2 μ2 _ H2 x2 s2 e2.unset p2, fun _ _ _ _ _ _ _ _ _ _ _ _ z => z.elim⟩⟩
end

/-! ### what the suite asks of the error -/
/-- e.f; xs: the classes that it may be of -/
def wFld (i : Nat) (a : Addr) (cls : Value) (dd : Option Addr) (f : Str) (xs : List Str) : WE := fun ρ S P _ => ∃ C d0 nm d, cls = .ref C ∧ dd = some d0 ∧ ρ[i]? = some (some (.exn a C d0 nm f d)) ∧ nm ∈ xs ∧ P d S
theorem exn_inv {K : PySem.W.Frag} {mg : Str → Option Value} {μ : Mu} {lv : Addr → Prop} {H : Hp} {a C dd : Addr} {cls f : Str} {d : D} {v : V} (r : Val K mg μ lv H (.exn a C dd cls f d) v) :
    v = .ref a ∧ mg cls = some (.ref C) ∧ ∃ u, H dd = some (.xd [(f, u)]) ∧ Val K mg μ lv H d u := by
  cases r with
  | exn m h n q => exact ⟨rfl, m, _, h, q⟩
section
variable {X : Cx} {W : WX} {pos : Pos} {a : Addr} {oe : Obj} {cls : Value} {d : Option Addr} {pn : List (Addr × Obj)} {n : Str} {i : Nat} {f : Str} {xs : List Str} {pp : Pos}
theorem d_fld (hz : Zc cls d oe) (hfl : ∃ vs, oe.data = .fields vs) (hF : ∀ nm ∈ xs, ∀ C, X.mg nm = some (.ref C) → XfC X.K C ∧ PySem.W.findIn X.K (.ref C) f = some none)
    (hN : X.N[i]? = some n := by rfl) (hv : Vis X.env.scope n := by first | exact Or.inl rfl | exact Or.inr (Or.inl rfl) | exact Or.inr (Or.inr rfl)) (hd : (n == ("__debug__" : Str)) = false := by decide)
    (hcd : (n == ("__classdict__" : Str)) = false := by decide) (hb : attributeBase (.Name n pp) f X.env (eval (.Name n pp) X.env) = eval (.Name n pp) X.env := by rfl) :
    DE (X.suite a ((a, oe) :: pn)) W (.Attribute (.Name n pp) f pos) 0 (wFld i a cls d f xs) := by
  refine ⟨fun pins s σ H Q I ⟨R, μ, S, ρ, P, E, st, e, ⟨C, d0, nm, dd, h1, h2, h3, h4, p⟩, o, _⟩ => ?_⟩
  subst h1 h2
  obtain ⟨v, e1, e2⟩ := e.at_ _ _ h3
  obtain ⟨rfl, hm, u, hu, ru⟩ := exn_inv e2
  obtain ⟨T, hno⟩ := hF nm h4 C hm
  have he : PE (X.suite a ((a, oe) :: pn)) (.Name n pp) (tVar i) := pe_var (X := X.suite a ((a, oe) :: pn)) hN hv hd hcd
  have h := pe_xf (X := X) (pos := pos) T hno hz hfl he hb
  exact h.run pins s σ H Q I ⟨.ref a, e1, rfl, rfl, d0, [(f, u)], u, rfl, hu, by simp [List.lookup], o.now st ru p⟩

/-! isinstance(e, Y) -/
/-- what the class of an error with fields must say -/
structure IsC (K : PySem.W.Frag) (D : Addr) : Prop extends ExcC K D where
  cl : (PySem.W.clsIn K D).isSome = true
theorem cls_ask {prog : Program} {w : World} {A : Around} {E : Value → Shared → Prop} {s : Shared} {K : PySem.W.Frag} {x D : Addr} {ox : Obj} {od : Option Obj} {Q : Option Value → Shared → Prop} (C : IsC K D)
    (X : K.In s.heap) (I : PySem.W.InstAt s.heap x ox D od) (h : Q (some (.ref D)) { s with toks := s.toks + 1 }) : wpAny (model prog w) A (getAttr? (.ref x) "__class__") Q E s := by
  have hf : PySem.W.findObj K D od "__class__" = some (.bind (.builtin "getset_descriptor.__get__") (.builtin "object.__class__")) := by
    obtain ⟨cd, hc⟩ := Option.isSome_iff_exists.mp C.cl
    simp [PySem.W.findObj, hc, C.ha, C.hn, C.ht]
  obtain ⟨hp, g, d, t, os⟩ := s
  have l0 := I.type (M := model prog w)
  have l1 := PySem.W.looks_findIn (M := model prog w) X C.hg
  have l2 := PySem.W.looks_findIn (M := model prog w) X C.hk
  have l3 := PySem.W.looks_find (M := model prog w) X I hf
  have sb : PySem.W.Looks (model prog w) hp (isInstance (.ref x) (.type "BaseException")) true := l0.andThen (PySem.W.looks_subIn X C.hs)
  unfold getAttr? getAttrBy? getAttrBy
  refine wpAny_bind (wpAny_mkText (wpAny_bind (wpAny_attempt (wpAny_holding (wpAny_bind (l0.at (wpAny_bind (l1.at ?_))))))))
  show wpAny _ _ (if (onTheHeap (Value.ref D) && Value.builtin "BaseException.__getattribute__" == Value.builtin "object.__getattribute__") = true then _ else _) _ _ _
  rw [show (onTheHeap (Value.ref D) && Value.builtin "BaseException.__getattribute__" == Value.builtin "object.__getattribute__") = false from by rw [show (Value.builtin "BaseException.__getattribute__" == Value.builtin "object.__getattribute__") = false from by decide +kernel]; rfl, if_neg Bool.false_ne_true]
  unfold getAttrByItsOwn hookBefore
  refine wpAny_bind ?_
  rw [if_pos (show onTheHeap (Value.ref D) = true from rfl)]
  refine l2.at (wpAny_bind (wpAny_attempt (wpAny_holding ?_)))
  unfold callGetattribute
  rw [show (false && onTheHeap (Value.builtin "BaseException.__getattribute__")) = false from rfl, if_neg Bool.false_ne_true]
  unfold boundAndCalled
  rw [PySem.F.excAttr_ValueError.ga.bind (.ref x)]
  refine wpAny_bind (wpAny_pure ?_)
  show wpAny _ _ (call (.builtin "BaseException.__getattribute__") [.ref x, .str "__class__" t]) _ _ _
  refine wpAny_call (codeAny_call_builtin PySem.F.excAttr_ValueError.ga.plain PySem.F.entry_bexc_ga ?_)
  refine @PySem.W.check_slot (model prog w) _ _ ⟨hp, g, d, t + 1, os⟩ "BaseException.__getattribute__" "BaseException" "__getattribute__" (.ref x) [.str "__class__" t] [] _ (by decide +kernel) (by decide +kernel) sb (PySem.F.args_bexc_ga (.ref x) (.str "__class__" t)) ?_
  unfold Builtin.«object.__getattribute__»
  refine wpAny_bind (wpAny_of_eq (a := ((Value.ref x : Value), [Value.str "__class__" t])) (by first | rfl | (simp only [slotArgs]; rfl)) ?_)
  refine wpAny_bind (wpAny_pure (wpAny_bind (l0.at (wpAny_bind (l3.at ?_)))))
  show wpAny _ _ (holding [Value.builtin "object.__class__"] (call (.builtin "getset_descriptor.__get__") [.builtin "object.__class__", .ref x, .ref D]) >>= ret) _ _ _
  refine wpAny_bind (wpAny_holding (wpAny_call (PySem.W.class_get (s := ⟨hp, g, d, t + 1, os⟩) (ox := ox) (od := od) X I C.hm (wpAny_pure ?_))))
  show wpAny _ _ (handedOut (.ref D)) _ _ _
  rw [PySem.W.handedOut_of (v := .ref D) rfl]
  first
    | exact wpAny_pure (wpAny_pure h)
    | exact wpAny_pure h
    | exact wpAny_pure (wpAny_bind (wpAny_pure (wpAny_pure h)))
theorem kitx_err {K : PySem.W.Frag} {x D : Addr} {ox : Obj} (C : IsC K D) : PySem.W.KitX K (.ref x) (.ref D) (fun h => ∃ od, PySem.W.InstAt h x ox D od) where
  ty := fun _ _ _ ⟨od, I⟩ => I.type
  it := fun _ _ X _ => by
    obtain ⟨cd, hc⟩ := Option.isSome_iff_exists.mp C.cl
    unfold PySem.W.clsIn at hc
    split at hc
    · rename_i c' d' cd' sl' ho
      intro A' Q' E' s' k q
      unfold isType loadHead
      exact wpAny_bind (wpAny_loadPart (k _ _ (X _ _ ho)) (wpAny_pure q))
    · cases hc
  ne := fun h tp dd its n sl X htp => by
    obtain ⟨cd, hc⟩ := Option.isSome_iff_exists.mp C.cl
    refine Bool.eq_false_iff.mpr fun q => ?_
    have e : D = tp := Value.ref.inj (beq_iff_eq.mp q)
    subst e
    unfold PySem.W.clsIn at hc
    split at hc
    · rename_i c' d' cd' sl' ho
      have z := (X _ _ ho).symm.trans htp
      cases z
    · cases hc
  ca := fun X ⟨od, I⟩ k => cls_ask C X I k
/-- tab: is a class below another -/
def wIsE (i : Nat) (a : Addr) (cls : Value) (dd : Option Addr) (y : Str) (tab : Str → Str → Option Bool) : WE := fun ρ S P _ => ∃ C d0 nm f d t, cls = .ref C ∧ dd = some d0 ∧ ρ[i]? = some (some (.exn a C d0 nm f d)) ∧ tab nm y = some t ∧ P (.bl t) S
theorem call_isX {pn : List (Addr × Obj)} {D dd : Addr} (C : IsC X.K D) (hz : Zc (.ref D) (some dd) oe) (hf : ∃ vs, oe.data = .fields vs) : CallR (X.suite a ((a, oe) :: pn)) (.builtin "isinstance")
    (fun xs H Q => ∃ (c : V) (cv : Value) (b : Bool) (fs : List (Str × V)), xs = [.ref a, c] ∧ (∀ u, RelV c u → u = cv) ∧ H dd = some (.xd fs) ∧ PySem.W.kitOne X.K (.ref D) cv = some b ∧ Q (.bl b) H) := by
  intro pins s σ H xs us Q I r h
  obtain ⟨c, cv, b, fs, rfl, hcv, hd, e, q⟩ := h
  cases r with
  | cons rx rr =>
    cases rr with
    | cons rt rr =>
      cases rr
      cases rx
      have ec := hcv _ rt
      subst ec
      obtain ⟨hget, _⟩ := I.pin (a, oe) (List.mem_append.mpr (.inl List.mem_cons_self))
      obtain ⟨vs, hv⟩ := hf
      have hx : ObjOk X.prog X.w H s.heap dd (.xd fs) := I.hok dd _ hd
      obtain ⟨mA, hns, hr⟩ := hx
      obtain ⟨od, ho, hl⟩ := lookIn_ns hns
      have J : ∃ od, PySem.W.InstAt s.heap a oe D od := ⟨some od, hget, hz.1, by unfold PySem.W.notCls; rw [hv] <;> rfl, by rw [hz.2]; exact ho⟩
      exact PySem.W.kia_one (kitx_err C) I.kIn J e (fun z => nomatch z) fun tk => ⟨.bl b, H, I.kept (t' := tk) fun _ _ z => z, rfl, q⟩
theorem d_isE {y : Str} {tab : Str → Str → Option Bool} {p1 p2 : Pos} (hz : Zc cls d oe) (hfl : ∃ vs, oe.data = .fields vs) (hm : X.mg "isinstance" = none) (ht : ∀ z t, tab z y = some t → ∃ B, X.mg y = some (.ref B) ∧ ∀ C, X.mg z = some (.ref C) → IsC X.K C ∧ PySem.W.kitOne X.K (.ref C) (.ref B) = some t)
    (hN : X.N[i]? = some n := by rfl) (hg : Gl X "isinstance" := by rfl) (hgy : Gl X y := by rfl) (hv : Vis X.env.scope n := by first | exact Or.inl rfl | exact Or.inr (Or.inl rfl) | exact Or.inr (Or.inr rfl)) (hd : (n == ("__debug__" : Str)) = false := by decide)
    (hcd : (n == ("__classdict__" : Str)) = false := by decide) (hdy : (y == ("__debug__" : Str)) = false := by decide) (he1 : starEach [.Name n p1, .Name y p2] X.env = (false, eval (.Name n p1) X.env) :: starEach [.Name y p2] X.env := by rfl) (he2 : starEach [.Name y p2] X.env = (false, eval (.Name y p2) X.env) :: starEach [] X.env := by rfl)
    (hpl : (backTo pos (starEach [.Name y p2] X.env)).any (·.1) = false := by rfl) :
    DE (X.suite a ((a, oe) :: pn)) W (.Call (.Name "isinstance" pp) [.Name n p1, .Name y p2] [] pos) 0 (wIsE i a cls d y tab) := by
  refine ⟨fun pins s σ H Q I ⟨R, μ, S, ρ, P, E, st, e, ⟨C, d0, nm, f, dd, t, h1, h2, h3, h4, p⟩, o, _⟩ => ?_⟩
  subst h1 h2
  obtain ⟨v, e1, e2⟩ := e.at_ _ _ h3
  obtain ⟨rfl, hmc, u, hu, ru⟩ := exn_inv e2
  obtain ⟨B, hB, hk⟩ := ht nm t h4
  obtain ⟨T, hk⟩ := hk C hmc
  have ha : PE (X.suite a ((a, oe) :: pn)) (.Name n p1) (tVar i) := pe_var (X := X.suite a ((a, oe) :: pn)) hN hv hd hcd
  have hb : PE (X.suite a ((a, oe) :: pn)) (.Name y p2) (tC (.ref B)) := pe_glob (X := X.suite a ((a, oe) :: pn)) hgy hB (v := .ref B) rfl hdy
  have h := pe_callB (X := X.suite a ((a, oe) :: pn)) (pos := pos) (p := pp) (call_isX T hz hfl) hg hm PyProof.Rows.boot_isinstance (pa_cons ha (pa_cons hb pa_nil he2) he1) (he := he1) (hpl := hpl)
  exact h.run pins s σ H Q I ⟨.ref a, e1, V.ref B, Value.ref B, t, [(f, u)], rfl, fun u h => h, hu, hk, o.now st (.bl t) p⟩
end
end DD

end

section
set_option Elab.async false
set_option linter.all false
set_option autoImplicit false
set_option maxRecDepth 100000
set_option maxHeartbeats 2000000
/-! What changes cells; methods; dicts. -/
namespace DD
open PySem PySem.Spec PyProof.Rows L2 TL
section
variable {X : Cx} {W : WX} {K : PySem.W.Frag} {mg : Str → Option Value} {R : Nat} {μ : Mu} {S : Cells} {H : Hp}
variable {a b c : Expr} {c1 c2 c3 : Nat} {w1 w2 w3 : WE} {pos p : Pos}

/-! ### a cell is given up: its list, its dict stays as it is -/
def gFz (d : D) (S : Cells) (P : Q1) : Prop := match d with
  | .ref n => (∃ xs, S[n]? = some (some (.lst xs)) ∧ P (.lst xs) (S.set n none)) ∨ ∃ kvs, S[n]? = some (some (.dct kvs)) ∧ P (.dct kvs) (S.set n none)
  | d => P d S
theorem lv_off {n : Nat} {a : Addr} {c : Cell} (s : Sat K mg R μ S H) (h1 : S[n]? = some (some c)) (h2 : μ.ad[n]? = some a) : ¬ Lv μ (S.set n none) a := by
  rintro (⟨k, c', e1, e2⟩ | hh)
  · rcases set_get e1 with ⟨_, z, _⟩ | ⟨hk, z⟩
    · cases z
    · exact hk (s.inj k n _ _ a z h1 e2 h2)
  · exact (s.hid a hh).2 n c h1 h2
theorem Sat.lock (s : Sat K mg R μ S H) {n : Nat} {a : Addr} {kds : List (Key × D)} {kvs : List (Key × V)} {o : Obj} (h1 : S[n]? = some (some (.dct kds))) (h2 : μ.ad[n]? = some a) (e : H a = some (.dK kvs)) (r : ValK K mg μ (Lv μ S) H kds kvs) :
    Ext μ S H μ (S.set n none) (upd H a (.frz o (.dK kvs))) ∧ Sat K mg R μ (S.set n none) (upd H a (.frz o (.dK kvs))) ∧ Val K mg μ (Lv μ (S.set n none)) (upd H a (.frz o (.dK kvs))) (.dct kds) (.ref a) := by
  obtain ⟨x0, s0⟩ := s.freeze n
  have nl := lv_off s h1 h2
  have la : Lv μ S a := .inl ⟨n, _, h1, h2⟩
  have nh : ∀ b ∈ μ.hid, b ≠ a := fun b hb z => (s.hid b hb).2 n _ h1 (z ▸ h2)
  have x : Ext μ S H μ (S.set n none) (upd H a (.frz o (.dK kvs))) := ⟨⟨fun b u q l => ⟨by rw [upd_ne (fun z => l (by rw [z]; exact la))]; exact q, (x0.keep b u q l).2⟩, fun _ _ q => q⟩, fun b u q => by
    by_cases z : b = a
    · exact ⟨_, by rw [z, upd_same]⟩
    · exact ⟨u, by rw [upd_ne z]; exact q⟩, rfl, fun b hb => upd_ne (nh b hb)⟩
  refine ⟨x, ⟨s0.bud, s0.len, s0.inj, fun k c b e1 e2 => ?_, fun b hb => ?_⟩, .dct upd_same nl (r.ext x)⟩
  · have hk : b ≠ a := fun z => by
      subst z
      exact nl (.inl ⟨k, c, e1, e2⟩)
    have q := s.ok k c b (by
      rcases set_get e1 with ⟨_, z, _⟩ | ⟨_, z⟩
      · cases z
      · exact z) e2
    exact q.carry x.toExt0 (upd_ne hk)
  · obtain ⟨⟨vs, q⟩, m⟩ := s0.hid b hb
    exact ⟨⟨vs, by rw [upd_ne (nh b hb)]; exact q⟩, m⟩
def wFz (w : WE) : WE := wUn gFz w
/-- a value given up: a step of thought alone -/
theorem d_fz (h : DE X W a c1 w1) : DE X W a c1 (wFz w1) := by
  refine ⟨fun pins s σ H Q I ⟨R, μ, S, ρ, P, E, st, e, q, o, x⟩ => ?_⟩
  refine thn (h.run pins s σ H (fun v H' => ∃ d S1 μ1, Ext μ S H μ1 S1 H' ∧ Sat X.K X.mg R μ1 S1 H' ∧ Val X.K X.mg μ1 (Lv μ1 S1) H' d v ∧ gFz d S1 P) I ⟨R, μ, S, ρ, _, E, st, e, q, fun d S1 μ1 v H1 x1 s1 r1 p1 => ⟨d, S1, μ1, x1, s1, r1, p1⟩, x⟩) fun u s1 hu => ?_
  obtain ⟨v, H1, I1, rv, d, S1, μ1, x1, s1, r1, p1⟩ := hu
  have oo := o.ext x1
  have plain : P d S1 → EP X pins σ Q u ‹_› := fun p => ⟨v, H1, I1, rv, oo.now s1 r1 p⟩
  cases d with
  | ref n =>
    cases r1 with
    | @ref n aa had =>
    rcases p1 with ⟨xs, e1, p1⟩ | ⟨kds, e1, p1⟩
    · obtain ⟨vs, e2, r2⟩ := s1.ok n _ aa e1 had
      obtain ⟨x2, s2⟩ := s1.freeze n
      exact ⟨_, H1, I1, rv, oo _ _ _ _ _ x2 s2 (.lst (.inl ⟨.inl e2, lv_off s1 e1 had⟩) (r2.ext x2)) p1⟩
    · obtain ⟨kvs, e2, r2⟩ := s1.ok n _ aa e1 had
      obtain ⟨od, I2⟩ := I1.lock e2 True.intro
      obtain ⟨x2, s2, r3⟩ := s1.lock (o := od) e1 had e2 r2
      exact ⟨_, _, I2, rv, oo _ _ _ _ _ x2 s2 r3 p1⟩
  | _ => exact plain p1

/-! ### methods of built-in values -/
def tyM (S : Cells) : D → Option String
  | .str _ => some "str"
  | .int _ => some "int"
  | .lst _ => some "list"
  | .ref n => match S[n]? with
    | some (some (.lst _)) => some "list"
    | some (some (.dct _)) => some "dict"
    | _ => none
  | _ => none
theorem tyM_ok {d : D} {v : V} {T : String} (s : Sat K mg R μ S H) (r : Val K mg μ (Lv μ S) H d v) (e : tyM S d = some T) : tyV K T v H := by
  cases r with
  | str _ => cases e; exact rfl
  | int _ => cases e; exact rfl
  | lst h hs => cases e; exact .inl ⟨rfl, _, h.sq⟩
  | ref h =>
    simp only [tyM] at e
    split at e
    · rename_i q; cases e
      obtain ⟨vs, z, _⟩ := s.ok _ _ _ q h
      exact .inl ⟨rfl, vs, SqL.of z⟩
    · rename_i q; cases e
      obtain ⟨vs, z, _⟩ := s.ok _ _ _ q h
      exact .inr (.inr (.inl ⟨rfl, .inl ⟨vs, z⟩⟩))
    · cases e
  | _ => cases e
abbrev GM := D → List D → Cells → Q1 → Prop
def MtD (K : PySem.W.Frag) (mg : Str → Option Value) (r : V → List V → Hp → VK → Prop) (g : GM) : Prop :=
  ∀ R μ S H d ds v vs P Q, Sat K mg R μ S H → Val K mg μ (Lv μ S) H d v → ValL K mg μ (Lv μ S) H ds vs → g d ds S P → Out1 K mg R μ S H P Q → r v vs H Q
def wMeth (T : String) (g : GM) (w : WE) (ws : WA) : WE := fun ρ S P E => w ρ S (fun d S1 => tyM S1 d = some T ∧ ws ρ S1 (fun ds S2 => g d ds S2 P) E) E
def wMeth0 (T : String) (g : GM) (w : WE) : WE := fun ρ S P E => w ρ S (fun d S1 => tyM S1 d = some T ∧ g d [] S1 P) E
variable {o e : Expr} {es : List Expr} {ws : WA} {name : Str} {apos cpos : Pos} {T id : String} {r : V → List V → Hp → VK → Prop} {g : GM}
theorem d_meth (pa : PlainAttrs T) (slot : Slot T name id) (hty : typeOf (.builtin id) = pure (.type "method_descriptor")) (hm : MtR X id r) (hr : MtD X.K X.mg r g) (ho : DE X W o c1 w1) (ha : DA X W (e :: es) c2 ws)
    (hbase : attributeBase o name X.env (eval o X.env) = eval o X.env := by rfl)
    (hfew : ((backTo cpos (starEach (e :: es) X.env)).all (fun x => !x.1) && (backToKw cpos (keywordEach [] X.env)).all (fun x => x.1.isSome)
      && decide ((e :: es).length + ([] : List Keyword).length + (if ([] : List Keyword).isEmpty then 0 else 1) < 30)) = true := by rfl)
    (hline : (apos.endLine == cpos.line) = true := by rfl) (hs : starEach (e :: es) X.env = (false, eval e X.env) :: starEach es X.env := by rfl) (hplain : (backTo cpos (starEach es X.env)).any (·.1) = false := by rfl) :
    DE X W (.Call (.Attribute o name apos) (e :: es) [] cpos) (c1 + c2) (wMeth T g w1 ws) := by
  refine PE.imp (pe_bm pa slot hty hm ho ha hbase hfew hline hs hplain) fun σ H Q ⟨R, μ, S, ρ, P, E, s, e, q, o, x⟩ => ?_
  refine tE_of (R := R + c2) (s.mono (by omega)) e q (fun d S1 μ1 v H1 x1 s1 e1 r1 h1 => ?_) (x.mono (by omega))
  refine ⟨tyM_ok s1 r1 h1.1, ?_⟩
  refine tA_of (R := R) s1 e1 h1.2 (fun ds S2 μ2 vs H2 x2 s2 e2 r2 h2 => ?_) (x.ext x1)
  exact hr R μ2 S2 H2 d ds v vs P Q s2 (r1.ext x2) r2 h2 (o.ext (x1.trans x2))
theorem d_meth0 (pa : PlainAttrs T) (slot : Slot T name id) (hty : typeOf (.builtin id) = pure (.type "method_descriptor")) (hm : MtR X id r) (hr : MtD X.K X.mg r g) (ho : DE X W o c1 w1)
    (hbase : attributeBase o name X.env (eval o X.env) = eval o X.env := by rfl) (hline : (apos.endLine == cpos.line) = true := by rfl) :
    DE X W (.Call (.Attribute o name apos) [] [] cpos) c1 (wMeth0 T g w1) := by
  refine PE.imp (pe_bm0 pa slot hty hm ho hbase hline) fun σ H Q ⟨R, μ, S, ρ, P, E, s, e, q, o, x⟩ => ?_
  refine tE_of (R := R) s e q (fun d S1 μ1 v H1 x1 s1 e1 r1 h1 => ?_) x
  exact ⟨tyM_ok s1 r1 h1.1, hr R μ1 S1 H1 d [] v [] P Q s1 r1 .nil h1.2 (o.ext x1)⟩
/-- the n-th cell gets another list -/
theorem Out1.putL {P : Q1} {Q : VK} {n : Nat} {aa : Addr} {c0 : Cell} {ds : List D} {vs : List V} {d : D} {v : V} (o : Out1 K mg R μ S H P Q) (s : Sat K mg R μ S H) (h0 : S[n]? = some (some c0)) (ha : μ.ad[n]? = some aa) (r : ValL K mg μ (Lv μ S) H ds vs) (rv : Val K mg μ (Lv μ S) H d v)
    (p : P d (S.set n (some (.lst ds)))) : Q v (upd H aa (.lst vs)) := by
  obtain ⟨x, s1⟩ := s.put h0 ha (.lst vs) (.lst ds) ⟨vs, rfl, r⟩
  exact o _ _ _ _ _ x s1 (rv.ext x) p
theorem ref_at {n : Nat} {v : V} {xs : List D} (s : Sat K mg R μ S H) (r : Val K mg μ (Lv μ S) H (.ref n) v) (e : S[n]? = some (some (.lst xs))) : ∃ aa vs, v = .ref aa ∧ μ.ad[n]? = some aa ∧ H aa = some (.lst vs) ∧ ValL K mg μ (Lv μ S) H xs vs := by
  cases r with
  | @ref n aa had =>
    obtain ⟨vs, e2, r2⟩ := s.ok n _ aa e had
    exact ⟨aa, vs, rfl, had, e2, r2⟩
def gAppend : GM := fun d ds S P => ∃ n xs y, d = .ref n ∧ ds = [y] ∧ S[n]? = some (some (.lst xs)) ∧ xs.length < sizeLine ∧ P .non (S.set n (some (.lst (xs ++ [y]))))
theorem md_append : MtD K mg rAppend gAppend := by
  intro R μ S H d ds v vs P Q s r rs h o
  obtain ⟨n, xs, y, rfl, rfl, e, hl, p⟩ := h
  obtain ⟨aa, ws, rfl, had, e2, r2⟩ := ref_at s r e
  obtain ⟨u, rfl, ru⟩ := valL1 rs
  exact ⟨aa, ws, u, rfl, rfl, e2, by rw [← r2.length]; exact hl, o.putL s e had (r2.append (.cons ru .nil)) .non p⟩
def gExtend : GM := fun d ds S P => ∃ n m xs zs, d = .ref n ∧ ds = [.ref m] ∧ S[n]? = some (some (.lst xs)) ∧ S[m]? = some (some (.lst zs)) ∧ xs.length + zs.length ≤ sizeLine ∧ P .non (S.set n (some (.lst (xs ++ zs))))
theorem md_extend : MtD K mg rExtend gExtend := by
  intro R μ S H d ds v vs P Q s r rs h o
  obtain ⟨n, m, xs, zs, rfl, rfl, e, f, hl, p⟩ := h
  obtain ⟨aa, ws, rfl, had, e2, r2⟩ := ref_at s r e
  obtain ⟨u, rfl, ru⟩ := valL1 rs
  obtain ⟨bb, us, rfl, hbd, f2, q2⟩ := ref_at s ru f
  exact ⟨aa, bb, ws, us, rfl, rfl, e2, f2, by rw [← r2.length, ← q2.length]; exact hl, o.putL s e had (r2.append q2) .non p⟩
theorem valL_erase {lv : Addr → Prop} : ∀ {ds : List D} {vs : List V} (n : Nat), ValL K mg μ lv H ds vs → ValL K mg μ lv H (ds.eraseIdx n) (vs.eraseIdx n)
  | _, _, _, .nil => .nil
  | _, _, 0, .cons h t => t
  | _, _, n + 1, .cons h t => .cons h (valL_erase n t)
def gPopAt : GM := fun d ds S P => ∃ n i k xs y, d = .ref n ∧ ds = [.int i] ∧ S[n]? = some (some (.lst xs)) ∧ -(2 ^ 63) ≤ i ∧ i < 2 ^ 63 ∧ seqIndex? i xs.length = some k ∧ xs[k]? = some y ∧ P y (S.set n (some (.lst (xs.eraseIdx k))))
theorem md_popAt : MtD K mg rPopAt gPopAt := by
  intro R μ S H d ds v vs P Q s r rs h o
  obtain ⟨n, i, k, xs, y, rfl, rfl, e, h1, h2, hk, hy, p⟩ := h
  obtain ⟨aa, ws, rfl, had, e2, r2⟩ := ref_at s r e
  obtain ⟨u, rfl, ru⟩ := valL1 rs
  cases ru
  obtain ⟨z, hz, rz⟩ := r2.get hy
  exact ⟨aa, ws, i, k, z, rfl, rfl, e2, h1, h2, by rw [← r2.length]; exact hk, hz, o.putL s e had (valL_erase k r2) rz p⟩
def gPop : GM := fun d ds S P => ∃ n xs y, d = .ref n ∧ ds = [] ∧ S[n]? = some (some (.lst xs)) ∧ xs[xs.length - 1]? = some y ∧ P y (S.set n (some (.lst xs.dropLast)))
theorem md_pop : MtD K mg rPop gPop := by
  intro R μ S H d ds v vs P Q s r rs h o
  obtain ⟨n, xs, y, rfl, rfl, e, hy, p⟩ := h
  obtain ⟨aa, ws, rfl, had, e2, r2⟩ := ref_at s r e
  cases rs
  obtain ⟨z, hz, rz⟩ := r2.get hy
  have hl := r2.length
  refine ⟨aa, ws, z, rfl, rfl, e2, by rw [← hl]; exact hz, o.putL s e had ?_ rz p⟩
  rw [List.dropLast_eq_take, List.dropLast_eq_take, ← hl]
  exact r2.take _

/-! ### texts: join -/
def strsOf : List D → Option (List (List Nat))
  | [] => some []
  | .str s :: ds => (strsOf ds).map (s :: ·)
  | _ :: _ => none
theorem strs_val {lv : Addr → Prop} : ∀ {ds : List D} {vs : List V} {zs : List (List Nat)}, ValL K mg μ lv H ds vs → strsOf ds = some zs → vs = (zs.map S').map V.str
  | _, _, _, .nil, e => by cases e; rfl
  | _, _, _, .cons (d := d) h t, e => by
    cases d with
    | str s =>
      simp only [strsOf] at e
      obtain ⟨ys, h1, h2⟩ := Option.map_eq_some_iff.mp e
      subst h2
      cases h
      rw [strs_val t h1]
      rfl
    | _ => cases e
/-- sep.join(..) -/
def gJoin : GM := fun d ds S P => ∃ a x ys zs, d = .str a ∧ ds = [x] ∧ seqA S x = some ys ∧ strsOf ys = some zs ∧ (zs.map List.length).sum + zs.length * a.length ≤ 16777216 ∧ P (.str (joinL a zs)) S
theorem joinL_nil : ∀ zs : List (List Nat), joinL [] zs = zs.flatten
  | [] => rfl
  | [p] => by simp [joinL]
  | p :: q :: r => by
    have := joinL_nil (q :: r)
    simp [joinL, this]
theorem join_S (a : List Nat) (zs : List (List Nat)) : Txt.join (S' a) (zs.map S') = S' (joinL a zs) := by
  have e : tl (Txt.join (S' a) (zs.map S')) = joinL a zs := by
    rw [join_eq, tl_join]
    have e1 : tl (S' a) = a := S'_toList a
    rw [e1, List.map_map]
    congr 1
    induction zs with
    | nil => rfl
    | cons z zs ih => rw [List.map_cons, ih]; congr 1
  rw [← e]
  exact (S'_of _).symm
theorem md_join : MtD K mg (fun x xs H Q => ∃ a p, ∃ ys : List Str, x = .str a ∧ xs = [.ref p] ∧ (SqL K H p (ys.map V.str) ∨ SqT K H p (ys.map V.str)) ∧ (ys.map (·.length)).sum + ys.length * a.length ≤ 16777216 ∧ Q (.str (Txt.join a ys)) H) gJoin := by
  intro R μ S H d ds v vs P Q s r rs h o
  obtain ⟨a, x, ys, zs, rfl, rfl, e, ez, hl, p⟩ := h
  cases r
  obtain ⟨u, rfl, ru⟩ := valL1 rs
  obtain ⟨aa, us, rfl, k1, k2⟩ := seqA_ok s ru e
  have eu := strs_val k2 ez
  subst eu
  refine ⟨_, aa, zs.map S', rfl, rfl, k1, ?_, ?_⟩
  · have : (zs.map S').map (·.length) = zs.map List.length := by simp [Function.comp_def]
    rw [this]
    simpa using hl
  · rw [join_S]
    exact o.now s (.str _) p
end
end DD

end

section
set_option Elab.async false
set_option linter.all false
set_option autoImplicit false
set_option maxRecDepth 100000
set_option maxHeartbeats 2000000
/-! Dicts over data: looked at, written, made, their keys; stores; wider subscripts, in, len. -/
namespace DD
open PySem PySem.Spec PyProof.Rows L2
def valD (kds : List (Key × D)) (k : Key) : Option D := (kds.find? fun kd => decide (kd.1 = k)).map (·.2)
def putD (kds : List (Key × D)) (k : Key) (d : D) : List (Key × D) := if kds.any (fun kd => decide (kd.1 = k)) then kds.map (fun kd => if kd.1 = k then (kd.1, d) else kd) else kds ++ [(k, d)]
def mergeD (kds more : List (Key × D)) : List (Key × D) := more.foldl (fun acc kd => putD acc kd.1 kd.2) kds
def dctOf (S : Cells) : D → Option (List (Key × D))
  | .dct kds => some kds
  | .ref n => match S[n]? with
    | some (some (.dct kds)) => some kds
    | _ => none
  | _ => none
/-- a datum as a key -/
def kOf : D → Option Key
  | .int i => some (.inl i)
  | .str s => some (.inr (S' s))
  | _ => none
section
variable {X : Cx} {W : WX} {K : PySem.W.Frag} {mg : Str → Option Value} {R : Nat} {μ : Mu} {S : Cells} {H : Hp}
variable {a b c : Expr} {c1 c2 c3 : Nat} {w1 w2 w3 : WE} {pos p : Pos} {ws : WA}
theorem kOf_val {lv : Addr → Prop} {d : D} {v : V} {k : Key} (r : Val K mg μ lv H d v) (e : kOf d = some k) : v = kV k := by
  cases r <;> cases e <;> rfl
theorem valK_val {lv : Addr → Prop} (k : Key) : ∀ {ds : List (Key × D)} {vs : List (Key × V)}, ValK K mg μ lv H ds vs → (∀ d, valD ds k = some d → ∃ v, valV vs k = some v ∧ Val K mg μ lv H d v) ∧ (valD ds k = none → valV vs k = none)
  | _, _, .nil => ⟨fun d e => by simp [valD] at e, fun _ => rfl⟩
  | _, _, .cons (k := j) (d := d0) (v := v0) h t => by
    obtain ⟨h1, h2⟩ := valK_val k t
    by_cases e : j = k
    · refine ⟨fun d q => ⟨v0, valV_pos e, ?_⟩, fun q => ?_⟩
      · simp [valD, e] at q
        subst q
        exact h
      · simp [valD, e] at q
    · refine ⟨fun d q => ?_, fun q => ?_⟩
      · rw [valV_neg e]
        exact h1 d (by simpa [valD, List.find?_cons, e] using q)
      · rw [valV_neg e]
        exact h2 (by simpa [valD, List.find?_cons, e] using q)
theorem valK_any {lv : Addr → Prop} (k : Key) : ∀ {ds : List (Key × D)} {vs : List (Key × V)}, ValK K mg μ lv H ds vs → ds.any (fun kd => decide (kd.1 = k)) = vs.any fun kv => decide (kv.1 = k)
  | _, _, .nil => rfl
  | _, _, .cons h t => by rw [List.any_cons, List.any_cons, valK_any k t]
theorem valK_app {lv : Addr → Prop} : ∀ {ds es : List (Key × D)} {vs us : List (Key × V)}, ValK K mg μ lv H ds vs → ValK K mg μ lv H es us → ValK K mg μ lv H (ds ++ es) (vs ++ us)
  | _, _, _, _, .nil, s => s
  | _, _, _, _, .cons h t, s => .cons h (valK_app t s)
theorem valK_rep {lv : Addr → Prop} (k : Key) {d : D} {v : V} (r : Val K mg μ lv H d v) : ∀ {ds : List (Key × D)} {vs : List (Key × V)}, ValK K mg μ lv H ds vs → ValK K mg μ lv H (ds.map fun kd => if kd.1 = k then (kd.1, d) else kd) (vs.map fun kv => if kv.1 = k then (kv.1, v) else kv)
  | _, _, .nil => .nil
  | _, _, .cons (k := j) h t => by
    rw [List.map_cons, List.map_cons]
    by_cases e : j = k
    · rw [if_pos e, if_pos e]; exact .cons r (valK_rep k r t)
    · rw [if_neg e, if_neg e]; exact .cons h (valK_rep k r t)
theorem valK_put {lv : Addr → Prop} (k : Key) {d : D} {v : V} {ds : List (Key × D)} {vs : List (Key × V)} (r : Val K mg μ lv H d v) (q : ValK K mg μ lv H ds vs) : ValK K mg μ lv H (putD ds k d) (putK vs k v) := by
  unfold putD putK
  rw [valK_any k q]
  split
  · exact valK_rep k r q
  · exact valK_app q (.cons r .nil)
theorem valK_merge {lv : Addr → Prop} : ∀ {es : List (Key × D)} {us : List (Key × V)} {ds : List (Key × D)} {vs : List (Key × V)}, ValK K mg μ lv H es us → ValK K mg μ lv H ds vs → ValK K mg μ lv H (mergeD ds es) (mergeK vs us)
  | _, _, _, _, .nil, q => q
  | (k, d) :: es, (_, v) :: us, ds, vs, .cons h t, q => valK_merge (es := es) (us := us) t (valK_put k h q)
theorem dctOf_ok {d : D} {v : V} {kds : List (Key × D)} (s : Sat K mg R μ S H) (r : Val K mg μ (Lv μ S) H d v) (e : dctOf S d = some kds) : ∃ aa kvs, v = .ref aa ∧ Rd H aa (.dK kvs) ∧ ValK K mg μ (Lv μ S) H kds kvs := by
  cases r with
  | dct h n hs => cases e; exact ⟨_, _, rfl, .inr ⟨_, h⟩, hs⟩
  | @ref n aa had =>
    simp only [dctOf] at e
    split at e
    · rename_i q; cases e
      obtain ⟨kvs, h1, h2⟩ := s.ok n _ aa q had
      exact ⟨aa, kvs, rfl, .inl h1, h2⟩
    · cases e
  | _ => cases e

/-! ### a subscript of a list, a tuple, a text, a dict -/
theorem ix_dict (hu : X.A.units + 1 < cLine) : IxR X (fun x y H Q => ∃ a v, x = .ref a ∧ DGet H a y (some v) ∧ Q v H) := by
  intro value slice pins s σ H x y v u Q I rx ry ⟨a, z, ex, g, q⟩ hs
  subst ex
  obtain rfl : v = Value.ref a := rx
  unfold subscriptTail
  refine wpAny_bind ?_
  rw [getitemInPython_of_ne (dict_typeIs I g).not_modules]
  refine wpAny_bind (wpAny_specialOf (dict_typeIs I g) PySem.F.slot_dict_getitem.lookup ?_)
  have fin : wpAny (model X.prog X.w) X.A (subscripted slice false (.ref a) u) (fun r s₃ => wpAny (model X.prog X.w) X.A (letTemporaryGo value (.ref a) r >>= fun _ => pure r) (EP X pins σ Q) X.xe s₃) X.xe s := by
    rw [hs]
    exact wpAny_operating (d_getItem hu I g ry fun w' s3 I3 rw' => wpAny_bind (wpAny_letTemporaryGo (wpAny_pure ⟨z, H, I3, rw', q⟩)))
  first
    | exact wpAny_pure (wpAny_bind fin)
    | exact wpAny_bind (wpAny_pure (wpAny_bind fin))
    | exact wpAny_bind fin
def gIx3 (a i : D) (S : Cells) (P : Q1) : Prop := match dctOf S a with
  | some kds => ∃ k d, kOf i = some k ∧ valD kds k = some d ∧ P d S
  | none => gIx a i S P
theorem od_ix3 : OpD K mg (fun x y H Q => rIx K x y H Q ∨ ∃ a v, x = .ref a ∧ DGet H a y (some v) ∧ Q v H) gIx3 := by
  intro R μ S H d1 d2 v u P Q s ra rb h o
  unfold gIx3 at h
  split at h
  · rename_i kds e
    obtain ⟨k, d, e2, e3, p⟩ := h
    obtain ⟨aa, kvs, rfl, hd, hv⟩ := dctOf_ok s ra e
    obtain ⟨z, hz, rz⟩ := (valK_val k hv).1 d e3
    exact .inr ⟨aa, z, rfl, .inl ⟨kvs, k, hd, kOf_val rb e2, hz.symm⟩, o.now s rz p⟩
  · exact .inl (od_ix R μ S H d1 d2 v u P Q s ra rb h o)
theorem d_ix3 (hr : X.A.units + 100 < cLine) (ha : DE X W a c1 w1) (hb : DE X W b c2 w2) (hs : PlainIx b := by intro _ _; rfl) : DE X W (.Subscript a b pos) (c1 + c2) (wBin gIx3 w1 w2) :=
  PE.imp (pe_ix (ix_seq.or (ix_dict (by omega))) ha hb hs) (tOp_of od_ix3)

/-! ### in -/
theorem op_inK (hu : X.A.units + 1 < cLine) : OpR X (compareOp .In) (fun y x H Q => ∃ a o, x = .ref a ∧ DGet H a y o ∧ Q (.bl o.isSome) H) := by
  intro pins s σ H y x v u Q I ry rx ⟨a, o, ex, g, q⟩
  subst ex
  obtain rfl : u = Value.ref a := rx
  exact L2.d_in hu I g ry fun s' I' => ⟨.bl o.isSome, H, I', rfl, q⟩
theorem op_ninK (hu : X.A.units + 1 < cLine) : OpR X (compareOp .NotIn) (fun y x H Q => ∃ a o, x = .ref a ∧ DGet H a y o ∧ Q (.bl (!o.isSome)) H) := by
  intro pins s σ H y x v u Q I ry rx ⟨a, o, ex, g, q⟩
  subst ex
  obtain rfl : u = Value.ref a := rx
  exact L2.d_notIn hu I g ry fun s' I' => ⟨.bl (!o.isSome), H, I', rfl, q⟩
def gIn3 (neg : Bool) (d xs : D) (S : Cells) (P : Q1) : Prop := match dctOf S xs with
  | some kds => ∃ k, kOf d = some k ∧ P (.bl (if neg then !(valD kds k).isSome else (valD kds k).isSome)) S
  | none => gIn' neg d xs S P
theorem dget_of {d x : D} {v u : V} {kds : List (Key × D)} {k : Key} (s : Sat K mg R μ S H) (ra : Val K mg μ (Lv μ S) H d v) (rb : Val K mg μ (Lv μ S) H x u) (e : dctOf S x = some kds) (ek : kOf d = some k) :
    ∃ aa o, u = .ref aa ∧ DGet H aa v o ∧ o.isSome = (valD kds k).isSome := by
  obtain ⟨aa, kvs, rfl, hd, hv⟩ := dctOf_ok s rb e
  refine ⟨aa, valV kvs k, rfl, .inl ⟨kvs, k, hd, kOf_val ra ek, rfl⟩, ?_⟩
  obtain ⟨h1, h2⟩ := valK_val k hv
  cases q : valD kds k with
  | none => rw [h2 q]; rfl
  | some d => obtain ⟨z, hz, _⟩ := h1 d q; rw [hz]; rfl
theorem od_in3 : OpD K mg (fun x y H Q => (rIn K false x y H Q ∨ ∃ (c : Nat) (z : Str), x = .str ⟨#[c]⟩ ∧ y = .str z ∧ Q (.bl (decide (c ∈ z.cps.toList))) H) ∨ ∃ a o, y = .ref a ∧ DGet H a x o ∧ Q (.bl o.isSome) H) (gIn3 false) := by
  intro R μ S H d1 d2 v u P Q s ra rb h o
  unfold gIn3 at h
  split at h
  · rename_i kds e
    obtain ⟨k, ek, p⟩ := h
    obtain ⟨aa, ov, e1, g, e2⟩ := dget_of s ra rb e ek
    exact .inr ⟨aa, ov, e1, g, by rw [e2]; exact o.now s (.bl _) p⟩
  · exact .inl (od_in' R μ S H d1 d2 v u P Q s ra rb h o)
theorem od_nin3 : OpD K mg (fun x y H Q => (rIn K true x y H Q ∨ ∃ (c : Nat) (z : Str), x = .str ⟨#[c]⟩ ∧ y = .str z ∧ Q (.bl (!decide (c ∈ z.cps.toList))) H) ∨ ∃ a o, y = .ref a ∧ DGet H a x o ∧ Q (.bl (!o.isSome)) H) (gIn3 true) := by
  intro R μ S H d1 d2 v u P Q s ra rb h o
  unfold gIn3 at h
  split at h
  · rename_i kds e
    obtain ⟨k, ek, p⟩ := h
    obtain ⟨aa, ov, e1, g, e2⟩ := dget_of s ra rb e ek
    exact .inr ⟨aa, ov, e1, g, by rw [e2]; exact o.now s (.bl _) p⟩
  · exact .inl (od_nin' R μ S H d1 d2 v u P Q s ra rb h o)
section
theorem d_in3 (hr : X.A.units + 100 < cLine) (ha : DE X W a c1 w1) (hb : DE X W b c2 w2) (hm : behindInMarks .In b = false := by rfl) : DE X W (.Compare a [.In] [b] pos) (c1 + c2) (wBin (gIn3 false) w1 w2) := d_cmp ((op_in_seq.or op_in_sign).or (op_inK (by omega))) od_in3 ha hb hm
theorem d_nin3 (hr : X.A.units + 100 < cLine) (ha : DE X W a c1 w1) (hb : DE X W b c2 w2) (hm : behindInMarks .NotIn b = false := by rfl) : DE X W (.Compare a [.NotIn] [b] pos) (c1 + c2) (wBin (gIn3 true) w1 w2) := d_cmp ((op_notIn_seq.or op_notIn_sign).or (op_ninK (by omega))) od_nin3 ha hb hm
theorem dt_in3 (hr : X.A.units + 100 < cLine) (ha : DE X W a c1 w1) (hb : DE X W b c2 w2) (hm : behindInMarks .In b = false := by rfl) : DT X W (.Compare a [.In] [b] pos) (c1 + c2) (wTest (wBin (gIn3 false) w1 w2)) := dt_cmp ((op_in_seq.or op_in_sign).or (op_inK (by omega))) od_in3 ha hb hm
theorem dt_nin3 (hr : X.A.units + 100 < cLine) (ha : DE X W a c1 w1) (hb : DE X W b c2 w2) (hm : behindInMarks .NotIn b = false := by rfl) : DT X W (.Compare a [.NotIn] [b] pos) (c1 + c2) (wTest (wBin (gIn3 true) w1 w2)) := dt_cmp ((op_notIn_seq.or op_notIn_sign).or (op_ninK (by omega))) od_nin3 ha hb hm
end

/-! ### len, list, dict -/
def lenD3 (S : Cells) (d : D) : Option Nat := match dctOf S d with
  | some kds => some kds.length
  | none => lenD S d
def gLen3 (ds : List D) (S : Cells) (P : Q1) : Prop := ∃ d n, ds = [d] ∧ lenD3 S d = some n ∧ P (.int n) S
theorem call_lenR : CallR X (.builtin "len") (fun xs H Q => ∃ a kvs, xs = [V.ref a] ∧ Rd H a (.dK kvs) ∧ Q (.int kvs.length) H) := by
  intro pins s σ H xs us Q I r ⟨a, kvs, ex, hd, q⟩
  subst ex
  obtain ⟨u, eu, rx⟩ := vals1 r
  subst eu
  cases rx
  exact L2.d_len I hd fun t s' I' => ⟨.int kvs.length, H, I', ⟨t, rfl⟩, q⟩
theorem cd_len3 : CallD K mg (fun xs H Q => (∃ x n, xs = [x] ∧ LenV K x H n ∧ Q (.int n) H) ∨ ∃ a kvs, xs = [V.ref a] ∧ Rd H a (.dK kvs) ∧ Q (.int kvs.length) H) gLen3 := by
  intro R μ S H ds vs P Q s r h o
  obtain ⟨d, n, rfl, e, p⟩ := h
  unfold lenD3 at e
  split at e
  · rename_i kds ek
    cases e
    obtain ⟨v, rfl, rv⟩ := valL1 r
    obtain ⟨aa, kvs, rfl, hd, hv⟩ := dctOf_ok s rv ek
    exact .inr ⟨aa, kvs, rfl, hd, by rw [← (valK_len hv).1]; exact o.now s (.int _) p⟩
  · exact .inl (cd_len R μ S H _ _ P Q s r ⟨d, n, rfl, e, p⟩ o)
theorem d_len3 (hm : X.mg "len" = none) {es : List Expr} (ha : DA X W (a :: es) c1 ws) (hg : Gl X "len" := by rfl)
    (he : starEach (a :: es) X.env = (false, eval a X.env) :: starEach es X.env := by rfl) (hpl : (backTo pos (starEach es X.env)).any (·.1) = false := by rfl) : DE X W (.Call (.Name "len" p) (a :: es) [] pos) c1 (wB gLen3 ws) :=
  d_callB (call_len.or call_lenR) cd_len3 hm ha (by decide +kernel) hg (by decide) (by decide) he hpl
/-- list(x) of a list, a tuple, a dict -/
def gList3 (m : Bool) (ds : List D) (S : Cells) (P : Q1) : Prop := ∃ d, ds = [d] ∧ match dctOf S d with
  | some kds => mkL m (kds.map fun kd => kD kd.1) S P
  | none => ∃ xs, seqA S d = some xs ∧ mkL m xs S P
theorem valL_keys {lv : Addr → Prop} : ∀ {kds : List (Key × D)} {kvs : List (Key × V)}, ValK K mg μ lv H kds kvs → ValL K mg μ lv H (kds.map fun kd => kD kd.1) (kvs.map fun kv => kV kv.1)
  | _, _, .nil => .nil
  | _, _, .cons h t => .cons (kD_val _) (valL_keys t)
theorem cd_list3 (m : Bool) : CallD K mg (fun xs H Q => (∃ p ys, xs = [.ref p] ∧ (SqL K H p ys ∨ SqT K H p ys) ∧ ∀ l, H l = none → Q (.ref l) (upd H l (.lst ys))) ∨ ∃ (a : Addr) (kvs : List (Key × V)), xs = [.ref a] ∧ Rd H a (.dK kvs) ∧ ∀ p, H p = none → Q (.ref p) (upd H p (.lst (kvs.map fun kv => kV kv.1)))) (gList3 m) := by
  intro R μ S H ds vs P Q s r h o
  obtain ⟨d, rfl, h⟩ := h
  split at h
  · rename_i kds ek
    obtain ⟨v, rfl, rv⟩ := valL1 r
    obtain ⟨aa, kvs, rfl, hd, hv⟩ := dctOf_ok s rv ek
    exact .inr ⟨aa, kvs, rfl, hd, fun l n => o.mk s (valL_keys hv) n h⟩
  · obtain ⟨xs, e, h⟩ := h
    exact .inl (cd_list m R μ S H _ _ P Q s r ⟨d, xs, rfl, e, h⟩ o)
theorem d_list3 (m : Bool) (hc : X.calm = true) (hm : X.mg "list" = none) {es : List Expr} (ha : DA X W (a :: es) c1 ws) (hg : Gl X "list" := by rfl)
    (he : starEach (a :: es) X.env = (false, eval a X.env) :: starEach es X.env := by rfl) (hpl : (backTo pos (starEach es X.env)).any (·.1) = false := by rfl) : DE X W (.Call (.Name "list" p) (a :: es) [] pos) c1 (wB (gList3 m) ws) :=
  d_callTy (call_list_of.or (call_listD hc)) (cd_list3 m) hm ha (by decide +kernel) hg (by decide) (by decide) he hpl
/-- a new dict, a cell -/
theorem Out1.newD {P : Q1} {Q : VK} {kds : List (Key × D)} {kvs : List (Key × V)} {p : Addr} (o : Out1 K mg R μ S H P Q) (s : Sat K mg R μ S H) (r : ValK K mg μ (Lv μ S) H kds kvs) (n : H p = none) (h : P (.ref S.length) (S ++ [some (.dct kds)])) : Q (.ref p) (upd H p (.dK kvs)) := by
  obtain ⟨x, s1⟩ := s.cell n (.dK kvs) (.dct kds) ⟨kvs, rfl, r⟩
  exact o _ _ _ _ _ x s1 (.ref (by unfold Mu.push; rw [← s.len]; simp)) h
def wDict0 : WE := fun _ S P _ => P (.ref S.length) (S ++ [some (.dct [])])
theorem d_dict0 : DE X W (.Dict [] [] pos) 0 wDict0 := by
  refine PE.imp pe_dnewK fun σ H Q ⟨R, μ, S, ρ, P, E, s, e, p, o, _⟩ => ?_
  exact fun q n => o.newD s .nil n p
/-- dict of pairs: what the pairs are -/
def pairsOf : List D → Option (List (Key × D))
  | [] => some []
  | .tup [a, b] :: r => (kOf a).bind fun k => (pairsOf r).map fun l => (k, b) :: l
  | _ => none
def gDictP (ds : List D) (S : Cells) (P : Q1) : Prop := ∃ d xs kds, ds = [d] ∧ seqL S d = some xs ∧ pairsOf xs = some kds ∧ P (.ref S.length) (S ++ [some (.dct (mergeD [] kds))])
theorem pairs_val : ∀ {xs : List D} {vs : List V} {kds : List (Key × D)}, ValL K mg μ (Lv μ S) H xs vs → pairsOf xs = some kds → ∃ (ps : List Addr) (kvs : List (Key × V)), vs = ps.map V.ref ∧ Paired (fun p kv => SqT K H p [kV kv.1, kv.2]) ps kvs ∧ ValK K mg μ (Lv μ S) H kds kvs
  | [], _, _, .nil, e => by cases e; exact ⟨[], [], rfl, .nil, .nil⟩
  | x :: xs, _, kds, .cons h t, e => by
    cases x with
    | tup ys =>
      match ys, e, h with
      | [a, b], e, h =>
        simp only [pairsOf] at e
        obtain ⟨k, ek, e⟩ := Option.bind_eq_some_iff.mp e
        obtain ⟨l, el, e⟩ := Option.map_eq_some_iff.mp e
        subst e
        obtain ⟨ps, kvs, rfl, pr, rv⟩ := pairs_val t el
        obtain ⟨aa, us, rfl, k1, k2⟩ := seqT_ok h rfl
        obtain ⟨v, u, rfl, r1, r2⟩ := valL2 k2
        have e1 := kOf_val r1 ek
        subst e1
        exact ⟨aa :: ps, (k, u) :: kvs, rfl, .cons k1 pr, .cons r2 rv⟩
      | [], e, _ => simp [pairsOf] at e
      | [_], e, _ => simp [pairsOf] at e
      | _ :: _ :: _ :: _, e, _ => simp [pairsOf] at e
    | _ => simp [pairsOf] at e
theorem cd_dictP : CallD K mg (fun xs H Q => ∃ (a : Addr) (ps : List Addr) (kvs : List (Key × V)), xs = [.ref a] ∧ SqL K H a (ps.map V.ref) ∧ Paired (fun p kv => SqT K H p [kV kv.1, kv.2]) ps kvs ∧ ∀ p, H p = none → Q (.ref p) (upd H p (.dK (mergeK [] kvs)))) gDictP := by
  intro R μ S H ds vs P Q s r h o
  obtain ⟨d, xs, kds, rfl, e, ek, p⟩ := h
  obtain ⟨v, rfl, rv⟩ := valL1 r
  obtain ⟨aa, us, rfl, k1, k2⟩ := seqL_ok s rv e
  obtain ⟨ps, kvs, rfl, pr, rk⟩ := pairs_val k2 ek
  exact ⟨aa, ps, kvs, rfl, k1, pr, fun q n => o.newD s (valK_merge rk .nil) n p⟩
theorem d_dictP (hc : X.calm = true) (hm : X.mg "dict" = none) {es : List Expr} (ha : DA X W (a :: es) c1 ws) (hg : Gl X "dict" := by rfl)
    (he : starEach (a :: es) X.env = (false, eval a X.env) :: starEach es X.env := by rfl) (hpl : (backTo pos (starEach es X.env)).any (·.1) = false := by rfl) : DE X W (.Call (.Name "dict" p) (a :: es) [] pos) c1 (wB gDictP ws) :=
  d_callTy (call_dictP hc) cd_dictP hm ha (by decide +kernel) hg (by decide) (by decide) he hpl

/-! ### x[i] = v of a list, a dict -/
def gPut (d y v : D) (S : Cells) (P : Cells → Prop) : Prop := ∃ n, d = .ref n ∧ ((∃ kds k, S[n]? = some (some (.dct kds)) ∧ kOf y = some k ∧ kds.length < sizeLine ∧ P (S.set n (some (.dct (putD kds k v))))) ∨
  ∃ xs i j, S[n]? = some (some (.lst xs)) ∧ y = .int i ∧ ixN xs.length i = some j ∧ P (S.set n (some (.lst (xs.set j v)))))
def wPut (wv wd wk : WE) : WS := fun ρ S P => wv ρ S (fun v S1 => wd ρ S1 (fun d S2 => wk ρ S2 (fun y S3 => gPut d y v S3 fun S4 => P.nx ρ S4) (fun x S3 => P.ex x ρ S3)) (fun x S2 => P.ex x ρ S2)) (fun x S1 => P.ex x ρ S1)
theorem pset_or {t t' : TSet} (h : PSet X t) (h' : PSet X t') : PSet X (fun o i v H Q => t o i v H Q ∨ t' o i v H Q) := by
  intro pins s σ H o i v ov iv u Q I ro ri rv q
  rcases q with q | q
  · exact h pins s σ H o i v ov iv u Q I ro ri rv q
  · exact h' pins s σ H o i v ov iv u Q I ro ri rv q
theorem ds_put (hr : X.A.units + 100 < cLine) {o i v : Expr} {wd wk wv : WE} {pos' : Pos} (ho : DE X W o c1 wd) (hi : DE X W i c2 wk) (hv : DE X W v c3 wv) (hs : swapsWithSole [.Subscript o i pos'] v pos.line X.env = pure false := by rfl)
    (hw : swappedStores [.Subscript o i pos'] v X.env = pure none := by rfl) (h1 : (assignEach [.Subscript o i pos'] X.env).map (·.2) = [assign (.Subscript o i pos') X.env] := by rfl)
    (ha : ∀ v, assign (.Subscript o i pos') X.env v = (do
      let ov ← holding [v] (eval o X.env)
      let iv ← holding [v, ov] (eval i X.env)
      standAt pos'
      holding [v, ov, iv] (setItem ov iv v)
      release [v, ov, iv] []) := by intro _; rfl) : DS X W (.Assign [.Subscript o i pos'] v pos) (c3 + (c1 + c2)) (wPut wv wd wk) := by
  refine PS.imp (ps_asg hv (pg_sub ho hi (pset_or (set_dict (by omega)) set_list) ha) hs hw h1) fun De σ H ⟨R, μ, S, ρ, P, s, e, p, o⟩ => ?_
  refine tE_of (R := R + (c1 + c2)) (s.mono (by omega)) e p (fun v1 S1 μ1 vv H1 x1 s1 e1 r1 h1 => ?_) ((o.exX e).mono (by omega))
  refine tE_of (R := R + c2) (s1.mono (by omega)) e1 h1 (fun d2 S2 μ2 dv H2 x2 s2 e2 r2 h2 => ?_) (((o.exX e).ext x1).mono (by omega))
  refine tE_of (R := R) s2 e2 h2 (fun y3 S3 μ3 yv H3 x3 s3 e3 r3 h3 => ?_) ((o.exX e).ext (x1.trans x2))
  obtain ⟨n, rfl, h3⟩ := h3
  have r2' := r2.ext x3
  have r1' := r1.ext (x2.trans x3)
  have xx := x1.trans (x2.trans x3)
  cases r2' with
  | @ref n aa had =>
  rcases h3 with ⟨kds, k, e4, ek, hl, p4⟩ | ⟨xs, i4, j4, e4, rfl, hj, p4⟩
  · obtain ⟨kvs, e5, r5⟩ := s3.ok n _ aa e4 had
    obtain ⟨x6, s6⟩ := s3.put e4 had (.dK (putK kvs k vv)) (.dct (putD kds k v1)) ⟨_, rfl, valK_put k r1' r5⟩
    exact .inl ⟨aa, _, rfl, .inl ⟨kvs, k, e5, kOf_val r3 ek, by rw [← (valK_len r5).1]; exact hl, rfl⟩, o.nx ρ _ _ σ _ (xx.trans x6) s6 (e3.ext x6) p4⟩
  · obtain ⟨vs, e5, r5⟩ := s3.ok n _ aa e4 had
    cases r3
    obtain ⟨x6, s6⟩ := s3.put e4 had (.lst (vs.set j4 vv)) (.lst (xs.set j4 v1)) ⟨_, rfl, r5.set r1' j4⟩
    exact .inr ⟨aa, vs, i4, j4, rfl, rfl, e5, by rw [← r5.length]; exact hj, o.nx ρ _ _ σ _ (xx.trans x6) s6 (e3.ext x6) p4⟩
end
end DD

end

section
set_option Elab.async false
set_option linter.all false
set_option autoImplicit false
set_option maxRecDepth 100000
set_option maxHeartbeats 2000000
/-! sorted(words, key=f), f(word) = (len(word), word). -/
namespace DD
open PySem PySem.Spec PyProof.Rows L2
def kW (z : Str) : PyData := .tuple [.int z.length, .str z]
/-- f is such a key -/
def KeyFn (P : Program) (w : World) (K : PySem.W.Frag) (mg : Str → Option Value) (base : Heap) (k : Nat) (f : Addr) : Prop :=
  ∀ (A : Around) (outer : List Env) (s : Shared) (z : Str) (t : Tok), Room k A → Env0 P w K mg base A outer s (fun _ => none) → z.length ≤ sizeLine →
    wpAny (model P w) A (call (.ref f) [.str z t]) (PySem.W.KeyPure (kW z) s) (fun _ _ => False) s
theorem hok_none {P : Program} {w : World} {h : Heap} : HOk P w (fun _ => none) h := fun _ _ e => nomatch e
theorem Env0.bare0 {P : Program} {w : World} {K : PySem.W.Frag} {mg : Str → Option Value} {base : Heap} {A : Around} {outer : List Env} {s : Shared} {H : Hp} (e : Env0 P w K mg base A outer s H) : Env0 P w K mg base A outer s (fun _ => none) :=
  ⟨e.frames, e.mod, fun b o q => ⟨(e.bs b o q).1, rfl⟩, e.bsz, e.funs, fun b hb => rfl, hok_none, e.bare⟩
section
variable {P : Program} {w : World} {K : PySem.W.Frag} {mg : Str → Option Value} {base : Heap}
theorem key_fn {x qual v : Str} {params : Arguments} {scope : Scope} {f : Addr} {fd : FuncData} {p1 p2 p3 p4 p5 p6 : Pos} {tk : Nat} {k : Nat}
    (F : FunD K x qual params [.Return (some (.Tuple [.Call (.Name "len" p1) [.Name v p2] [] p3, .Name v p4] tk p5)) p6] scope [] [] f fd) (SC : FnScope [v] [v] scope)
    (bind : ∀ (kV doc pm : Value) (an : Option Addr) (cdv ct : Value) (us : List Value), us.length = [v].length → bindArgs (PySem.W.fnOf x qual params [.Return (some (.Tuple [.Call (.Name "len" p1) [.Name v p2] [] p3, .Name v p4] tk p5)) p6] scope .none kV doc pm an cdv ct) ⟨us, []⟩ = pure ([v].zip us))
    (hl : scope.names.lookup v = some .local) (hg : scope.names.lookup ("len" : Str) = some .globalImplicit) (hm : mg "len" = none) (hd : (v == ("__debug__" : Str)) = false) (hcd : (v == ("__classdict__" : Str)) = false) : KeyFn P w K mg base (k + 1) f := by
  intro A outer s z t hr e0 hz
  have b := F.bindsA (ps := [v]) bind
  obtain ⟨oc, od, dV, kV, doc, pm, an, cdv, ct, osl, rfl, lk, hcd', _, _⟩ := F.ex
  have KX : K.In s.heap := e0.mod.kin.keeps fun b o e => (e0.bs b o e).1
  have lim : s.heap.NoLimit := e0.mod.nolimit.keeps fun b o e => (e0.bs b o e).1
  refine wpAny_call (codeAny_call_function hr.depth (KX _ _ lk) rfl SC.co SC.gen rfl (PySem.W.codeRec_of KX hcd') (b s [.str z t] rfl _ _ _ _ ?_))
  have hkind : ∀ y ∈ [v].zip [Value.str z t], scope.names.lookup y.1 = some .local ∨ (scope.names.lookup y.1 = some .cell ∧ ((cellsFrom (s.heap.objs.size + 1) scope.names []).lookup y.1).isSome = true) := fun ⟨n, u⟩ hy => by
    have : n = v := by simpa using (List.of_mem_zip hy).1
    subst this
    exact .inl hl
  refine wpAny_newFunctionEnv_cells SC.kind hkind fun env he s1 x => ?_
  subst he
  refine ⟨lim.keeps x.toInCall.keep, codeAny_func ?_⟩
  have I : Inv (cxOf (fun _ _ _ _ _ _ => False) P w K mg base [v] qual scope f cdv A outer s (fun _ => none) (fun _ _ _ => False)) [] (L2.start [v] [V.str z]) (fun _ => none) s1 := inv_start (us := [.str z t]) SC hr.hd e0 rfl (.cons ⟨t, rfl⟩ .nil) x
  obtain ⟨h1, tk1, rfl, hk⟩ := x.done
  have ldv : ∀ {pp : Pos} {s' : Shared} {Q : Value → Shared → Prop} {E : Value → Shared → Prop}, Inv (cxOf (fun _ _ _ _ _ _ => False) P w K mg base [v] qual scope f cdv A outer s (fun _ => none) (fun _ _ _ => False)) [] (L2.start [v] [V.str z]) (fun _ => none) s' → (∀ t', Q (.str z t') s') →
      wpAny (model P w) (A.deeper (envOfC qual scope s.heap.objs.size f cdv)) (eval (.Name v pp) (envOfC qual scope s.heap.objs.size f cdv)) Q E s' := fun {pp s' Q E} I q => by
    obtain ⟨m, hn, hl'⟩ := I.loc
    obtain ⟨u, ⟨t', rfl⟩, l⟩ := hl' 0 v (.str z) rfl rfl (.inl hl)
    rcases l with ⟨hk, hm⟩ | ⟨hk, c, hc, hcell⟩
    · exact wpAny_Name (wpAny_loadName_local I.ok.kind hk hn hm (q t')) hd
    · rcases hk with hk | hk
      · exact wpAny_Name (wpAny_loadName_cell I.ok.kind hk hc hcell (q t')) hd
      · exact wpAny_Name (wpAny_loadName_free I.ok.kind hk hc hcell (q t') hcd) hd
  refine wpAny_execs_cons (wpAny_Return_some (wpAny_Tuple_spliced ?_))
  show wpAny _ _ (spliced ((false, eval (.Call (.Name "len" p1) [.Name v p2] [] p3) (envOfC qual scope s.heap.objs.size f cdv)) :: (false, eval (.Name v p4) (envOfC qual scope s.heap.objs.size f cdv)) :: [])) _ _ _
  refine Calls.spliced_cons (wpAny_Call_Name_kw (ld_blt I hg hm (boot_len) ?_ (by decide) (by decide)))
  refine PyProof.Rows.callWith_builtin1 ?_
  show wpAny _ _ (spliced ((false, eval (.Name v p2) (envOfC qual scope s.heap.objs.size f cdv)) :: [])) _ _ _
  refine Calls.spliced_cons (ldv I fun t1 => Calls.spliced_nil ?_)
  have h63 := line63
  refine len_str (by omega) ?_
  refine Calls.spliced_cons (ldv (I.tok _) fun t2 => Calls.spliced_nil ⟨by simp [sizeLine_eq], ?_⟩)
  refine ⟨_, _, rfl, fun b o q => Heap.get?_push_of_some _ (hk b o q), ?_⟩
  exact .tuple (Heap.get?_push_size _ rfl) rfl rfl (.cons (.int _ _) (.cons (.str _ _) .nil))
end
/-! ### sorted by it -/
def leK (x y : Str) : Bool := PySem.W.dataLe false kW x y
def IsS (v : Value) (z : Str) : Prop := ∃ t, v = .str z t
theorem eachS : ∀ {ss : List Str} {us : List Value}, Vals (ss.map V.str) us → PySem.W.EachIs IsS us ss
  | [], _, r => by rw [List.map_nil] at r; cases r; exact .nil
  | _ :: _, _, r => by
    rw [List.map_cons] at r
    cases r with
    | cons h t => exact .cons h (eachS t)
theorem valsS : ∀ {us : List Value} {ss : List Str}, PySem.W.EachIs IsS us ss → Vals (ss.map V.str) us
  | _, _, .nil => .nil
  | _, _, .cons h t => .cons h (valsS t)
theorem kW_alike (ss : List Str) : PySem.W.AllAlike (ss.map kW) := PySem.W.AllAlike.of fun _ _ => by simp [PySem.W.alike, PySem.W.alikeAll, kW]
theorem kW_sortable (ss : List Str) : PySem.W.Sortable (ss.map kW) := PySem.W.Sortable.tuples fun _ => ⟨_, _, rfl⟩
def rSortW (K : PySem.W.Frag) (f : Addr) : List V → List V → Hp → VK → Prop := fun vs zs H Q => ∃ (a : Addr) (ss : List Str), vs = [.ref a] ∧ zs = [.ref f] ∧
  (SqL K H a (ss.map V.str) ∨ ∃ kvs : List (Key × V), Rd H a (.dK kvs) ∧ kvs.map (·.1) = ss.map Sum.inr) ∧ ss.length ≤ sizeLine ∧ (∀ z ∈ ss, z.length ≤ sizeLine) ∧ ∀ p, H p = none → Q (.ref p) (upd H p (.lst ((ss.mergeSort leK).map V.str)))
theorem Inv.bare0 {X : Cx} {pins : List (Addr × Obj)} {σ : L2.St} {H : Hp} {s : Shared} (I : Inv X pins σ H s) : Env0 X.prog X.w X.K X.mg X.base X.A X.stack s (fun _ => none) := Env0.bare0 I.env0
theorem cr_sortedW {X : Cx} {k : Nat} {f : Addr} (hc : X.calm = true) (hr : Room (k + 2) X.A) (F : KeyFn X.prog X.w X.K X.mg X.base k f) : CallRK X (.builtin "sorted") [Str.ofString "key"] (rSortW X.K f) := by
  intro pins s σ H vs zs us ws Q I r rz ⟨a, ss, e1, e2, hs, hn, hz, q⟩
  subst e1 e2
  obtain rfl := Vals.ref1 r
  obtain rfl := Vals.ref1 rz
  have hu : ∀ x, x ∈ ss → X.A.units + 2 + (kW x).depth < cLine := fun x _ => by
    have hd : (kW x).depth = 1 := by simp [kW, PyData.depth, PyData.depthAll]
    have := hr.units
    omega
  have hin : Room k X.A.in1.in1 := hr.in1.in1
  have turn : ∀ (v : Value) (x : Str), IsS v x → x ∈ ss → ∀ (h : Heap) (tk : Nat), (∀ b o, s.heap.get? b = some o → h.get? b = some o) →
      wpAny (model X.prog X.w) X.A.in1.in1 (call (.ref f) [v]) (PySem.W.KeyPure (kW x) { s with heap := h, toks := tk }) (fun _ _ => False) { s with heap := h, toks := tk } := by
    rintro v x ⟨t, rfl⟩ hx h tk kp
    exact F X.A.in1.in1 X.stack _ x t hin (Env0.bare0 (I.kept (t' := tk) kp).env0).in1.in1 (hz x hx)
  have fin : ∀ {out : List Value} {c : Nat} {h0 h' : Heap} {tk0 tk : Nat} {p : Addr}, Inv X pins σ H { s with heap := h0, toks := tk0 } → (∀ b o, h0.get? b = some o → h'.get? b = some o) → h0.objs.size ≤ p → h'.get? p = some (PyProof.Rows.seqObj "list" (List.toArray out) c) → PySem.W.EachIs IsS out (ss.mergeSort leK) →
      EP X pins σ Q (.ref p) { s with heap := h', toks := tk } := fun {out c h0 h' tk0 tk p} I0 kp hp hD eo => by
    have hlen : ((ss.mergeSort leK).map V.str).length ≤ sizeLine := by
      rw [List.length_map, List.length_mergeSort]
      exact hn
    exact ⟨.ref p, upd H p (.lst ((ss.mergeSort leK).map V.str)), I0.laid (t' := tk) kp hp ⟨hlen, out, c, valsS eo, hD⟩, rfl, q _ (I0.hok.fresh hp)⟩
  rcases hs with hs | ⟨kvs, hd, hks⟩
  · obtain ⟨its, rv, pl, hz'⟩ := I.list hs
    refine PySem.W.sorted_key_data (b := false) kW pl.isList (eachS rv) (kW_alike ss) (kW_sortable ss) hn hu (PyProof.Rows.ksk_s1 _ _) (fun _ => PyProof.Rows.ksk_l1 _ _) (fun _ => PyProof.Rows.ksk_t1 _ _) turn fun out c h' tk kp _ hD _ eo => ?_
    exact fin (h0 := s.heap) (tk0 := s.toks) I kp (Nat.le_succ _) hD eo
  · obtain ⟨z, lo, vs, rel, dd⟩ := dk_rd I.hok hd
    obtain ⟨ep, hat⟩ := dd.dictAt
    have hkeys : vs.map (·.1) = ss.map Sum.inr := rel.keys.symm.trans hks
    have hl : vs.length = ss.length := by
      have e := congrArg List.length hkeys
      rw [List.length_map, List.length_map] at e
      exact e
    refine PyProof.Rows.call_function_entry_kw PyProof.Rows.kind_sorted PyProof.Rows.plain_sorted PyProof.Rows.entry_sorted (PyProof.Rows.ksk_s1 _ _) ?_
    unfold Builtin.«sorted»
    refine wpAny_bind (m := checkCount "sorted" 1 1 _) (wpAny_pure ?_)
    refine wpAny_bind (PySem.W.kdu_collect (A := X.A.in1) (PySem.W.kdl_dict (knd := mixKind X.prog X.w) (kvs := vs) (ep := ep) lo) (I.ok.hd hc) hat (by rw [hl]; exact hn) fun h' tk acc hk hacc => ?_)
    have hal : acc.toList.length = ss.length := by rw [Array.length_toList, hacc.1, hl]
    have hS : PySem.W.EachIs IsS acc.toList ss := by
      have hv : Vals (vs.map fun p => kV p.1) acc.toList := keys_at (by rw [Array.length_toList]; exact hacc.1) fun j v e => hacc.2 j v (by rw [← Array.getElem?_toList]; exact e)
      have e2 : (vs.map fun p => kV p.1) = ss.map V.str := by
        have e3 : (vs.map fun p => kV p.1) = (vs.map (·.1)).map kV := by rw [List.map_map]; rfl
        rw [e3, hkeys, List.map_map]
        rfl
      rw [e2] at hv
      exact eachS hv
    refine wpAny_bind (wpAny_newList ?_ (by rw [hal]; exact hn))
    show wpAny _ _ _ _ _ { s with heap := h'.push (PyProof.Rows.seqObj "list" acc.toList.toArray 0), toks := tk }
    have hoL : (h'.push (PyProof.Rows.seqObj "list" acc.toList.toArray 0)).get? h'.objs.size = some (PyProof.Rows.seqObj "list" acc.toList.toArray 0) := Heap.get?_push_size _ rfl
    have up : ∀ {g : Heap}, PySem.W.KeepsBut h'.objs.size (h'.push (PyProof.Rows.seqObj "list" acc.toList.toArray 0)) g → ∀ b o, s.heap.get? b = some o → g.get? b = some o := fun {g} kp b o q' =>
      kp b o (Nat.ne_of_lt (Heap.lt_size (hk b o q'))) (Heap.get?_push_of_some _ (hk b o q'))
    have I1 : Inv X pins σ H { s with heap := h', toks := tk } := I.kept hk
    refine wpAny_bind (wpAny_holding (PySem.W.list_sort_key_data (A := X.A.in1) (b := false) (s := { s with heap := h'.push (PyProof.Rows.seqObj "list" acc.toList.toArray 0), toks := tk }) kW hoL hS (kW_alike ss) (kW_sortable ss) hn
      (fun x hx => by have := hu x hx; show X.A.units + 1 + 1 + _ < _; omega) (PyProof.Rows.ksk_l1 _ _) (PyProof.Rows.ksk_t1 _ _) (fun v x hR hx h tk kp => turn v x hR hx h tk (up kp)) fun out c h2 tk2 kp hD _ eo => wpAny_pure ⟨_, rfl, fin I1 (fun b o q' => kp b o (Nat.ne_of_lt (Heap.lt_size q')) (Heap.get?_push_of_some _ q')) (Nat.le_refl _) hD eo⟩))
/-! ### over data -/
structure KeyAt (P : Program) (w : World) (K : PySem.W.Frag) (mg : Str → Option Value) (base : Heap) (x : Str) (k : Nat) : Prop where
  ex : ∃ f : Addr, mg x = some (.ref f) ∧ KeyFn P w K mg base k f
def leW (x y : List Nat) : Bool := leK (S' x) (S' y)
def sortW (zs : List (List Nat)) : List (List Nat) := zs.mergeSort leW
theorem sortW_S (zs : List (List Nat)) : (zs.map S').mergeSort leK = (sortW zs).map S' := (List.map_mergeSort (f := S') (r := leW) (s := leK) (l := zs) (fun _ _ _ _ => rfl)).symm
/-- the texts of a list, of a dict's keys -/
def wordsOf (S : Cells) (d : D) : Option (List (List Nat)) := match dctOf S d with
  | some kds => strsOf (kds.map fun kd => kD kd.1)
  | none => (seqL S d).bind strsOf
def wSortW (m : Bool) (w : WE) : WE := fun ρ S P E => w ρ S (fun d S1 => ∃ zs, wordsOf S1 d = some zs ∧ zs.length ≤ sizeLine ∧ (∀ z ∈ zs, z.length ≤ sizeLine) ∧ mkL m ((sortW zs).map D.str) S1 P) E
theorem valL_strs {K : PySem.W.Frag} {mg : Str → Option Value} {μ : Mu} {lv : Addr → Prop} {H : Hp} : ∀ zs : List (List Nat), ValL K mg μ lv H (zs.map D.str) ((zs.map S').map V.str)
  | [] => .nil
  | z :: zs => .cons (.str z) (valL_strs zs)
theorem keys_strs {K : PySem.W.Frag} {mg : Str → Option Value} {μ : Mu} {lv : Addr → Prop} {H : Hp} : ∀ {kds : List (Key × D)} {kvs : List (Key × V)} {zs : List (List Nat)}, ValK K mg μ lv H kds kvs → strsOf (kds.map fun kd => kD kd.1) = some zs → kvs.map (·.1) = (zs.map S').map Sum.inr
  | _, _, _, .nil, e => by cases e; rfl
  | _, _, _, .cons (k := k) h t, e => by
    rw [List.map_cons] at e
    cases k with
    | inl i => cases e
    | inr z =>
      simp only [kD, strsOf] at e
      obtain ⟨ys, h1, h2⟩ := Option.map_eq_some_iff.mp e
      subst h2
      rw [List.map_cons, List.map_cons, List.map_cons, keys_strs t h1, S'_of]
section
variable {X : Cx} {W : WX} {a : Expr} {c1 k j : Nat} {w1 : WE} {pos p p2 kp : Pos} {f : Str}
theorem d_sortW (m : Bool) (F : KeyAt X.prog X.w X.K X.mg X.base f k) (hc : X.calm = true) (hr : Room j X.A) (hkj : k + 2 ≤ j) (hm : X.mg "sorted" = none) (ha : DE X W a c1 w1) (hg : Gl X "sorted" := by rfl) (hgf : Gl X f := by rfl) (hdf : (f == ("__debug__" : Str)) = false := by decide)
    (he0 : starEach [a] X.env = (false, eval a X.env) :: starEach [] X.env := by rfl)
    (he : backTo pos (starEach [a] X.env) = (false, eval a X.env) :: backTo pos (starEach [] X.env) := by rfl) (hpl : (backTo pos (starEach [a] X.env)).any (·.1) = false := by rfl)
    (hall : (backToKw pos (keywordEach [⟨some "key", .Name f p2, kp⟩] X.env)).all (·.1.isSome) = true := by rfl) (hnone : (backToKw pos (keywordEach [⟨some "key", .Name f p2, kp⟩] X.env)).any (·.1.isNone) = false := by rfl)
    (hks : (backToKw pos (keywordEach [⟨some "key", .Name f p2, kp⟩] X.env)).filterMap (·.1) = [Str.ofString "key"] := by rfl) :
    DE X W (.Call (.Name "sorted" p) [a] [⟨some "key", .Name f p2, kp⟩] pos) c1 (wSortW m w1) := by
  obtain ⟨fa, hmf, hF⟩ := F.ex
  refine PE.imp (pe_callBK (cr_sortedW hc (hr.mono hkj) hF) hg hm (by decide +kernel) (pa_cons ha pa_nil he0) (pk_cons (pe_glob hgf hmf (v := .ref fa) rfl hdf) pk_nil) (by decide) (by decide) he hpl hall hnone hks) fun σ H Q ⟨R, μ, S, ρ, P, E, s, e, q, o, x⟩ => ?_
  show tE _ _ _ _ _ σ H _
  refine tE_of (R := R) s e q (fun d S1 μ1 v H1 x1 s1 e1 r1 h1 => ?_) x
  obtain ⟨zs, ez, hl, hz, pm⟩ := h1
  have oo := o.ext x1
  have fin : ∀ q, H1 q = none → Q (.ref q) (upd H1 q (.lst (((zs.map S').mergeSort leK).map V.str))) := fun q n => by
    rw [sortW_S]
    exact oo.mk s1 (valL_strs _) n pm
  have hz' : ∀ z ∈ zs.map S', z.length ≤ sizeLine := fun z h => by
    obtain ⟨y, hy, rfl⟩ := List.mem_map.mp h
    simpa using hz y hy
  unfold wordsOf at ez
  split at ez
  · rename_i kds ek
    obtain ⟨aa, kvs, rfl, hd, hv⟩ := dctOf_ok s1 r1 ek
    exact ⟨aa, zs.map S', rfl, rfl, .inr ⟨kvs, hd, keys_strs hv ez⟩, by simpa using hl, hz', fin⟩
  · obtain ⟨xs, e2, e3⟩ := Option.bind_eq_some_iff.mp ez
    obtain ⟨aa, vs, rfl, k1, k2⟩ := seqL_ok s1 r1 e2
    have eu := strs_val k2 e3
    subst eu
    exact ⟨aa, zs.map S', rfl, rfl, .inl k1, by simpa using hl, hz', fin⟩
end
end DD

end

section
set_option Elab.async false
set_option linter.all false
set_option autoImplicit false
set_option maxRecDepth 100000
set_option maxHeartbeats 2000000
/-! More: three names at once, texts turned, isinstance of two classes, index, while, dict displays. -/
namespace DD
open PySem PySem.Spec PyProof.Rows L2
section
variable {X : Cx} {W : WX} {K : PySem.W.Frag} {mg : Str → Option Value} {R : Nat} {μ : Mu} {S : Cells} {H : Hp}
variable {a b c : Expr} {c1 c2 c3 : Nat} {w1 w2 w3 : WE} {pos p : Pos} {ws : WA}
theorem valL3 {lv : Addr → Prop} {d e f : D} {vs : List V} (r : ValL K mg μ lv H [d, e, f] vs) : ∃ v u t, vs = [v, u, t] ∧ Val K mg μ lv H d v ∧ Val K mg μ lv H e u ∧ Val K mg μ lv H f t := by
  cases r with
  | cons h t => obtain ⟨u, x, rfl, k, l⟩ := valL2 t; exact ⟨_, _, _, rfl, h, k, l⟩
def wPar3 (i j l : Nat) (ws : WA) : WS := fun ρ S P => ws ρ S (fun ds S1 => ∃ d e f, ds = [d, e, f] ∧ P.nx (((ρ.set i (some d)).set j (some e)).set l (some f)) S1) (fun x S1 => P.ex x ρ S1)
theorem ds_par3 (i j l : Nat) {x y z : Str} {px py pz pt : Pos} {kt k2 pt2} (hc : X.calm = true) (hN : X.N.Nodup) (ha : DA X W [a, b, c] c1 ws) (hij : i ≠ j := by decide) (hil : i ≠ l := by decide) (hjl : j ≠ l := by decide) (hi : X.N[i]? = some x := by rfl) (hj : X.N[j]? = some y := by rfl) (hl : X.N[l]? = some z := by rfl)
    (hx : X.env.scope.names.lookup x = some .local := by rfl) (hy : X.env.scope.names.lookup y = some .local := by rfl) (hz : X.env.scope.names.lookup z = some .local := by rfl)
    (hw : swappedStores [.Tuple [.Name x px, .Name y py, .Name z pz] kt pt] (.Tuple [a, b, c] k2 pt2) X.env = pure (some [x, y, z]) := by rfl)
    (hs : swapsWithSole [.Tuple [.Name x px, .Name y py, .Name z pz] kt pt] (.Tuple [a, b, c] k2 pt2) pos.line X.env = pure false := by rfl) :
    DS X W (.Assign [.Tuple [.Name x px, .Name y py, .Name z pz] kt pt] (.Tuple [a, b, c] k2 pt2) pos) c1 (wPar3 i j l ws) := by
  refine PS.imp (ps_par3 hc hN hi hj hl hij hil hjl hx hy hz ha hw hs) fun De σ H ⟨R, μ, S, ρ, P, s, e, p, o⟩ => ?_
  refine tA_of s e p (fun ds S1 μ1 vs H1 x1 s1 e1 r1 h1 => ?_) (o.exX e)
  obtain ⟨d, e', f', rfl, h1⟩ := h1
  obtain ⟨v, u, t, rfl, rv, ru, rt⟩ := valL3 r1
  exact ⟨v, u, t, rfl, o.nx _ S1 μ1 _ H1 x1 s1 (((e1.set rv).set ru).set rt) h1⟩

/-! ### x[::-1] -/
theorem rev_pick (s : List Nat) : (Builtin.Str.strSliceIndices none none (-1) (S' s).length).filterMap ((S' s).cps[·]?) = s.reverse := by
  have e : Builtin.Str.strSliceIndices none none (-1) (S' s).length = (List.range s.length).reverse := by
    show sliceRange (((S' s).length : Int) - 1) (-1) (-1) = _
    rw [S'_length, PySem.W.krv_sliceRange, PySem.W.krv_range]
  rw [e, List.filterMap_reverse]
  have := PySem.W.krv_all (S' s).cps
  have hz : (S' s).cps.size = s.length := by simp [S']
  rw [hz] at this
  rw [this, S'_toList]
def gRev (d : D) (S : Cells) (P : Q1) : Prop := match d with
  | .str s => s.length ≤ sizeLine ∧ P (.str s.reverse) S
  | d => ∃ xs, seqL S d = some xs ∧ P (.lst xs.reverse) S
def tRevA (K : PySem.W.Frag) (te : TE) : TE := fun σ H Q => te σ H fun x H1 => (∃ a xs, x = .ref a ∧ SqL K H1 a xs ∧ ∀ p, H1 p = none → Q (.ref p) (upd H1 p (.lst xs.reverse))) ∨ ∃ s : List Nat, x = .str (S' s) ∧ s.length ≤ sizeLine ∧ Q (.str (S' s.reverse)) H1
theorem pe_revA {e : Expr} {te : TE} {k : Nat} {p1 p2 p3 pos : Pos} (he : PE X e te) : PE X (.Subscript e (.Slice none none (some (.UnaryOp .USub (.Constant (.int 1) k p1) p2)) p3) pos) (tRevA X.K te) := by
  refine ⟨fun pins s σ H Q I h => ?_⟩
  refine Subscript_ (thn (he.run pins s σ H _ I h) fun v s1 ⟨x, H1, I1, r1, q1⟩ => ?_)
  have hst : PO X (some (.UnaryOp .USub (.Constant (.int 1) k p1) p2)) (tPart (tUn (rU fun i => .int (-i)) (tC (.int 1)))) := po_some (pe_un un_neg pe_int)
  refine wpAny_Slice (thn (po_none.run pins s1 σ H1 (fun o H2 => o = none ∧ H2 = H1) I1 ⟨rfl, rfl⟩) fun vl s2 ⟨l, H2, I2, pl, el, e2⟩ => ?_)
  subst el e2
  refine thn (po_none.run pins s2 σ H2 (fun o H3 => o = none ∧ H3 = H2) I2 ⟨rfl, rfl⟩) fun vu s3 ⟨u, H3, I3, pu, eu, e3⟩ => ?_
  subst eu e3
  refine thn (hst.run pins s3 σ H3 (fun o H4 => o = some (-1) ∧ H4 = H3) I3 ⟨1, rfl, -1, rfl, rfl, rfl⟩) fun vs s4 ⟨o, H4, I4, ps, eo, e4⟩ => ?_
  subst eo e4
  have I5 : Inv X pins σ H4 { s4 with heap := s4.heap.push { cls := .type "slice", data := .fields #[vl, vu, vs] } } := I4.kept (t' := s4.toks) fun b ob q => Heap.get?_push_of_some _ q
  rcases q1 with ⟨a, xs, ex, hx, q⟩ | ⟨z, ex, hz, q⟩
  · subst ex
    cases r1
    obtain ⟨its, r, ht, hz⟩ := I5.list hx
    have hlen := r.length
    show wpAny (model X.prog X.w) X.A (subscriptTail e (.Slice none none (some (.UnaryOp .USub (.Constant (.int 1) k p1) p2)) p3) (.ref a) (.ref s4.heap.objs.size)) (EP X pins σ Q) X.xe { s4 with heap := s4.heap.push { cls := .type "slice", data := .fields #[vl, vu, vs] } }
    refine tail_any (ops := [.ref a, .ref s4.heap.objs.size]) ht.isList.typeIs (PySem.slot_list_getitem.lookup) ?_ (by with_unfolding_all rfl)
    refine wpAny_getItem_list_slice ht.isList (Heap.IsSliceOf.new _ vl vu vs) pl pu ps (by decide) ?_ (by rw [List.size_toArray]; omega)
    rw [PySem.W.krv_pick]
    refine ⟨.ref _, _, I5.laid (t' := s4.toks) (o := .lst xs.reverse) (fun b ob q => Heap.get?_push_of_some _ q) (Nat.le_refl _) ?_, rfl, q _ (I5.hok.fresh (Nat.le_refl _))⟩
    exact ⟨by rw [List.length_reverse]; exact hz, _, 0, r.reverse, Heap.get?_push_size _ rfl⟩
  · subst ex
    obtain ⟨t, rfl⟩ := r1
    obtain ⟨l, rfl, el⟩ := IsPart.raw pl
    obtain ⟨u, rfl, eu⟩ := IsPart.raw pu
    obtain ⟨st, rfl, es⟩ := IsPart.raw ps
    show wpAny (model X.prog X.w) X.A (subscriptTail e (.Slice none none (some (.UnaryOp .USub (.Constant (.int 1) k p1) p2)) p3) (.str (S' z) t) (.ref s4.heap.objs.size)) (EP X pins σ Q) X.xe _
    refine tail_any (ops := [.ref s4.heap.objs.size, .str (S' z) t]) (typeIs_str _ _ _) F.slot_str_getitem.lookup ?_ (by with_unfolding_all rfl)
    have hl : l = none := by cases l <;> simp at el ⊢
    have hu : u = none := by cases u <;> simp at eu ⊢
    subst hl hu
    refine wpAny_getItem_str_slice (l := none) (u := none) (st := st) ⟨_, Heap.get?_push_size _ rfl, rfl, rfl⟩ (by rw [es]; rfl) ?_
    have e1 : slicePicked (S' z) none none st = Builtin.Str.strSliceIndices none none (-1) (S' z).length := by
      unfold slicePicked
      rw [es]
      rfl
    unfold sliceMade
    rw [if_neg (by rw [es]; simp), e1, rev_pick]
    exact ⟨by show (S' z.reverse).length ≤ _; rw [S'_length, List.length_reverse]; exact hz, .str _, H4, I5.tok _, ⟨_, rfl⟩, q⟩
theorem d_rev {k : Nat} {p1 p2 p3 : Pos} (h : DE X W a c1 w1) : DE X W (.Subscript a (.Slice none none (some (.UnaryOp .USub (.Constant (.int 1) k p1) p2)) p3) pos) c1 (wUn gRev w1) := by
  refine PE.imp (pe_revA h) fun σ H Q ⟨R, μ, S, ρ, P, E, s, e, p, o, x⟩ => ?_
  refine tE_of s e p (fun d S1 μ1 v H1 x1 s1 e1 r1 h1 => ?_) x
  have oo := o.ext x1
  unfold gRev at h1
  split at h1
  · cases r1
    exact .inr ⟨_, rfl, h1.1, oo.now s1 (.str _) h1.2⟩
  · obtain ⟨xs, e2, p2⟩ := h1
    obtain ⟨aa, vs, rfl, k1, k2⟩ := seqL_ok s1 r1 e2
    refine .inl ⟨aa, vs, rfl, k1, fun q n => oo.newL s1 ?_ n p2⟩
    have key : ∀ {ds : List D} {vs : List V}, ValL X.K X.mg μ1 (Lv μ1 S1) H1 ds vs → ValL X.K X.mg μ1 (Lv μ1 S1) H1 ds.reverse vs.reverse := by
      intro ds
      induction ds with
      | nil => intro vs r; cases r; exact .nil
      | cons d ds ih =>
        intro vs r
        cases r with
        | cons h t =>
          rw [List.reverse_cons, List.reverse_cons]
          exact (ih t).append (.cons h .nil)
    exact key k2

/-! ### isinstance(x, (T, U)) -/
def wIsi2 (T U : String) (w : WE) : WE := fun ρ S P E => w ρ S (fun d S1 => ∃ n, tyN S1 d = some n ∧ P (.bl (isTy n T || isTy n U)) S1) E
theorem d_isi2 {T U : Str} (t u : String) {p1 p2 pt pp : Pos} {kt : Nat} (ha : DE X W a c1 w1) (hT : t ∈ ["bool", "int", "str", "tuple", "list", "dict"] := by decide) (hU : u ∈ ["bool", "int", "str", "tuple", "list", "dict"] := by decide)
    (hm : X.mg "isinstance" = none) (hmT : X.mg T = none) (hmU : X.mg U = none) (hvT : bootBuiltins T = some (.type t) := by decide +kernel) (hvU : bootBuiltins U = some (.type u) := by decide +kernel)
    (hg : Gl X "isinstance" := by rfl) (hgT : Gl X T := by rfl) (hgU : Gl X U := by rfl) (hnT : T ≠ "__name__" := by decide) (hdT : (T == ("__debug__" : Str)) = false := by decide) (hnU : U ≠ "__name__" := by decide) (hdU : (U == ("__debug__" : Str)) = false := by decide)
    (he1 : starEach [a, .Tuple [.Name T p1, .Name U p2] kt pt] X.env = (false, eval a X.env) :: starEach [.Tuple [.Name T p1, .Name U p2] kt pt] X.env := by rfl) (he2 : starEach [.Tuple [.Name T p1, .Name U p2] kt pt] X.env = (false, eval (.Tuple [.Name T p1, .Name U p2] kt pt) X.env) :: starEach [] X.env := by rfl)
    (he3 : starEach [.Name T p1, .Name U p2] X.env = (false, eval (.Name T p1) X.env) :: starEach [.Name U p2] X.env := by rfl) (he4 : starEach [.Name U p2] X.env = (false, eval (.Name U p2) X.env) :: starEach [] X.env := by rfl)
    (hpl : (backTo pos (starEach [.Tuple [.Name T p1, .Name U p2] kt pt] X.env)).any (·.1) = false := by rfl) :
    DE X W (.Call (.Name "isinstance" pp) [a, .Tuple [.Name T p1, .Name U p2] kt pt] [] pos) c1 (wIsi2 t u w1) := by
  have h := pe_callB (p := pp) (pos := pos) call_isiT hg hm PyProof.Rows.boot_isinstance (pa_cons ha (pa_cons (pe_tup (x1 := kt) (pos := pt) (pa_cons (pe_bltn (pos := p1) hgT hmT hvT (v := .ty t) rfl hnT hdT) (pa_cons (pe_bltn (pos := p2) hgU hmU hvU (v := .ty u) rfl hnU hdU) pa_nil he4) he3)) pa_nil he2) he1) (he := he1) (hpl := hpl)
  refine PE.imp h fun σ H Q ⟨R, μ, S, ρ, P, E, s, e, q, o, x⟩ => ?_
  refine tE_of (R := R) s e q (fun d S1 μ1 v H1 x1 s1 e1 r1 h1 => ?_) x
  obtain ⟨n, en, p⟩ := h1
  refine ⟨by simp [sizeLine_eq], fun tp ntp => ?_⟩
  obtain ⟨x2, s2⟩ := s1.new ntp (.tup [.ty t, .ty u])
  have en2 : tyN S1 d = some n := en
  obtain ⟨ty, hn⟩ := tyN_ok s2 (r1.ext x2) en2
  refine ⟨v, tp, [.ty t, .ty u], .type n, [.type t, .type u], isTy n t || isTy n u, rfl, upd_same, .cons (.ty t) (.cons (.ty u) .nil), ty, ?_, o.ext (x1.trans x2) |>.now s2 (.bl _) p⟩
  have k1 : PySem.W.kitOne X.K (.type n) (.type t) = some (isTy n t) := kit_is hn hT
  have k2 : PySem.W.kitOne X.K (.type n) (.type u) = some (isTy n u) := kit_is hn hU
  unfold PySem.W.kitAny
  rw [k1]
  cases isTy n t with
  | true => rfl
  | false =>
    unfold PySem.W.kitAny
    rw [k2]
    cases isTy n u with
    | true => rfl
    | false => rfl

/-! ### l.index(x) -/
def gIndex : GM := fun d ds S P => ∃ xs y j, res S d = .lst xs ∧ ds = [y] ∧ (D.lst xs).pl = true ∧ y.pl = true ∧ (D.lst xs).dep ≤ 60 ∧ y.dep ≤ 60 ∧ xs.findIdx? (fun z => z.eqb y) = some j ∧ P (.int (j : Nat)) S
theorem findIdx_spec {xs : List D} {y : D} {j : Nat} (h : xs.findIdx? (fun z => z.eqb y) = some j) : ∃ z, xs[j]? = some z ∧ z.eqb y = true ∧ ∀ (m : Nat) z', m < j → xs[m]? = some z' → z'.eqb y = false := by
  obtain ⟨hj, e, hlt⟩ := List.findIdx?_eq_some_iff_getElem.mp h
  refine ⟨xs[j], by simp [hj], e, fun m z' hm hz => ?_⟩
  have hml : m < xs.length := by omega
  rw [List.getElem?_eq_getElem hml] at hz
  obtain rfl := Option.some.inj hz
  have := hlt m hm
  simpa using this
theorem md_index : MtD K mg (rIndexD K) gIndex := by
  intro R μ S H d ds v vs P Q s r rs h o
  obtain ⟨xs, y, j, e, rfl, p1, p2, d1, d2, hj, p⟩ := h
  obtain ⟨u, rfl, ru⟩ := valL1 rs
  obtain ⟨z, hz, hzy, hno⟩ := findIdx_spec hj
  have hd : Dp K H v (.list (pyL xs)) := by
    have := r.dpR s (by rw [e]; exact p1)
    rw [e] at this
    exact this
  obtain ⟨aa, rfl⟩ : ∃ aa, v = .ref aa := by
    cases hd with
    | lst h _ => exact ⟨_, rfl⟩
  have pall : ∀ (m : Nat) z', xs[m]? = some z' → z'.pl = true := fun m z' hm => by
    have := p1
    simp only [D.pl, plL_all, List.all_eq_true] at this
    exact this z' (List.mem_of_getElem? hm)
  refine ⟨aa, u, y.py, pyL xs, j, z.py, rfl, rfl, hd, ru.dp p2, shaped_py (d := .lst xs) p1 (by omega), shaped_py p2 (by omega), by rw [pyL_map, List.getElem?_map, hz]; rfl, by rw [eqb_py z y (pall j z hz) p2]; exact hzy, fun m z' hm hz' => ?_, o.now s (.int _) p⟩
  rw [pyL_map, List.getElem?_map] at hz'
  obtain ⟨w, hw, rfl⟩ := Option.map_eq_some_iff.mp hz'
  rw [eqb_py w y (pall m w hw) p2]
  exact hno m w hm hw

/-! ### the methods, named -/
variable {o e : Expr} {es : List Expr} {apos cpos : Pos}
theorem d_append (ho : DE X W o c1 w1) (ha : DA X W [e] c2 ws) (hbase : attributeBase o "append" X.env (eval o X.env) = eval o X.env := by rfl)
    (hfew : ((backTo cpos (starEach [e] X.env)).all (fun x => !x.1) && (backToKw cpos (keywordEach [] X.env)).all (fun x => x.1.isSome) && decide (([e] : List Expr).length + ([] : List Keyword).length + (if ([] : List Keyword).isEmpty then 0 else 1) < 30)) = true := by rfl)
    (hline : (apos.endLine == cpos.line) = true := by rfl) (hs : starEach [e] X.env = (false, eval e X.env) :: starEach [] X.env := by rfl) (hplain : (backTo cpos (starEach [] X.env)).any (·.1) = false := by rfl) :
    DE X W (.Call (.Attribute o "append" apos) [e] [] cpos) (c1 + c2) (wMeth "list" gAppend w1 ws) := d_meth F.plainAttrs_list F.slot_list_append F.type_list_append mt_append md_append ho ha hbase hfew hline hs hplain
theorem d_extend (ho : DE X W o c1 w1) (ha : DA X W [e] c2 ws) (hbase : attributeBase o "extend" X.env (eval o X.env) = eval o X.env := by rfl)
    (hfew : ((backTo cpos (starEach [e] X.env)).all (fun x => !x.1) && (backToKw cpos (keywordEach [] X.env)).all (fun x => x.1.isSome) && decide (([e] : List Expr).length + ([] : List Keyword).length + (if ([] : List Keyword).isEmpty then 0 else 1) < 30)) = true := by rfl)
    (hline : (apos.endLine == cpos.line) = true := by rfl) (hs : starEach [e] X.env = (false, eval e X.env) :: starEach [] X.env := by rfl) (hplain : (backTo cpos (starEach [] X.env)).any (·.1) = false := by rfl) :
    DE X W (.Call (.Attribute o "extend" apos) [e] [] cpos) (c1 + c2) (wMeth "list" gExtend w1 ws) := d_meth F.plainAttrs_list F.slot_list_extend F.type_list_extend mt_extend md_extend ho ha hbase hfew hline hs hplain
theorem d_popAt (ho : DE X W o c1 w1) (ha : DA X W [e] c2 ws) (hbase : attributeBase o "pop" X.env (eval o X.env) = eval o X.env := by rfl)
    (hfew : ((backTo cpos (starEach [e] X.env)).all (fun x => !x.1) && (backToKw cpos (keywordEach [] X.env)).all (fun x => x.1.isSome) && decide (([e] : List Expr).length + ([] : List Keyword).length + (if ([] : List Keyword).isEmpty then 0 else 1) < 30)) = true := by rfl)
    (hline : (apos.endLine == cpos.line) = true := by rfl) (hs : starEach [e] X.env = (false, eval e X.env) :: starEach [] X.env := by rfl) (hplain : (backTo cpos (starEach [] X.env)).any (·.1) = false := by rfl) :
    DE X W (.Call (.Attribute o "pop" apos) [e] [] cpos) (c1 + c2) (wMeth "list" gPopAt w1 ws) := d_meth F.plainAttrs_list F.slot_list_pop F.type_list_pop mt_popAt md_popAt ho ha hbase hfew hline hs hplain
theorem d_index (hr : X.A.units + 100 < cLine) (ho : DE X W o c1 w1) (ha : DA X W [e] c2 ws) (hbase : attributeBase o "index" X.env (eval o X.env) = eval o X.env := by rfl)
    (hfew : ((backTo cpos (starEach [e] X.env)).all (fun x => !x.1) && (backToKw cpos (keywordEach [] X.env)).all (fun x => x.1.isSome) && decide (([e] : List Expr).length + ([] : List Keyword).length + (if ([] : List Keyword).isEmpty then 0 else 1) < 30)) = true := by rfl)
    (hline : (apos.endLine == cpos.line) = true := by rfl) (hs : starEach [e] X.env = (false, eval e X.env) :: starEach [] X.env := by rfl) (hplain : (backTo cpos (starEach [] X.env)).any (·.1) = false := by rfl) :
    DE X W (.Call (.Attribute o "index" apos) [e] [] cpos) (c1 + c2) (wMeth "list" gIndex w1 ws) := d_meth F.plainAttrs_list F.slot_list_index F.type_list_index (mt_indexD (by omega)) md_index ho ha hbase hfew hline hs hplain
theorem d_join (ho : DE X W o c1 w1) (ha : DA X W [e] c2 ws) (hbase : attributeBase o "join" X.env (eval o X.env) = eval o X.env := by rfl)
    (hfew : ((backTo cpos (starEach [e] X.env)).all (fun x => !x.1) && (backToKw cpos (keywordEach [] X.env)).all (fun x => x.1.isSome) && decide (([e] : List Expr).length + ([] : List Keyword).length + (if ([] : List Keyword).isEmpty then 0 else 1) < 30)) = true := by rfl)
    (hline : (apos.endLine == cpos.line) = true := by rfl) (hs : starEach [e] X.env = (false, eval e X.env) :: starEach [] X.env := by rfl) (hplain : (backTo cpos (starEach [] X.env)).any (·.1) = false := by rfl) :
    DE X W (.Call (.Attribute o "join" apos) [e] [] cpos) (c1 + c2) (wMeth "str" gJoin w1 ws) := d_meth F.plainAttrs_str F.slot_str_join F.type_str_join mt_join md_join ho ha hbase hfew hline hs hplain
end
end DD

end

section
set_option Elab.async false
set_option linter.all false
set_option autoImplicit false
set_option maxRecDepth 100000
set_option maxHeartbeats 4000000
/-! List comprehensions with two clauses, over data. -/
namespace DD
open PySem PySem.Spec PyProof.Rows L2
/-- as loopC, the list so far at hand, its room asked for -/
def loopA (body : D → Cells → (Option D → Cells → Prop) → Prop) (C : Cells → Prop) : List D → List D → Cells → (List D → Cells → Prop) → Prop
  | [], acc, S, P => C S ∧ P acc S
  | x :: xs, acc, S, P => C S ∧ body x S fun r S1 => acc.length < sizeLine ∧ loopA body C xs (acc ++ r.toList) S1 P
def loopO (body : D → List D → Cells → (List D → Cells → Prop) → Prop) (C : Cells → Prop) : List D → List D → Cells → (List D → Cells → Prop) → Prop
  | [], acc, S, P => C S ∧ P acc S
  | x :: xs, acc, S, P => C S ∧ body x acc S fun acc1 S1 => loopO body C xs acc1 S1 P
def bodyO (g : GD) (tt : WT) (wi1 : WL) (g1 : GD) (tt1 : WT) (te : WE) (vs1 : List Nat) (ρ : Rho) (d : D) (acc : List D) (S : Cells) (Q : List D → Cells → Prop) : Prop :=
  g d ρ fun ρ2 => tt ρ2 S (fun b S2 => if b = true then wi1 ρ2 S2 (fun ys C1 S3 => loopA (bodyC g1 tt1 te (wipeD ρ2 vs1)) C1 ys acc S3 Q) (fun _ _ => False) else Q acc S2) (fun _ _ => False)
def wLc2 (m : Bool) (wi : WL) (g : GD) (tt : WT) (wi1 : WL) (g1 : GD) (tt1 : WT) (te : WE) (vs vs1 : List Nat) : WE := fun ρ S P E =>
  wi ρ S (fun xs C S1 => loopO (bodyO g tt wi1 g1 tt1 te vs1 (wipeD ρ vs)) C xs [] S1 fun ds S2 => mkL m ds S2 P) E
section
variable {X : Cx} {W : WX} {c1 c2 c3 c4 c5 : Nat} {pos : Pos}
theorem wipe_eq {K : PySem.W.Frag} {is vs : List Nat} {σ σ2 : L2.St} (but : ButAt is (L2.wipe σ vs) σ2) (his : ∀ i ∈ is, i ∈ vs) : L2.wipe σ2 vs = L2.wipe σ vs := by
  rw [but vs his]
  exact wipe_wipe _ _
theorem tLc2_of {vs vs1 : List Nat} {is is1 : List Nat} {wi wi1 : WL} {g g1 : GD} {tt tt1 : WT} {te : WE} (m : Bool) (his : ∀ i ∈ is, i ∈ vs) (his1 : ∀ i ∈ is1, i ∈ vs1) {σ : L2.St} {H : Hp} {Q : VK}
    (h : tE X.K X.mg W (c1 + 2 ^ 24 * (c2 + (c3 + 2 ^ 24 * (c4 + c5)))) (wLc2 m wi g tt wi1 g1 tt1 te vs vs1) σ H Q) :
    tLc2 (tI X.K X.mg W c1 wi) (tG X.K X.mg is g) (tT X.K X.mg (fun _ _ _ _ => False) c2 tt) (tI X.K X.mg (fun _ _ _ _ => False) c3 wi1) (tG X.K X.mg is1 g1) (tT X.K X.mg (fun _ _ _ _ => False) c4 tt1) (tE X.K X.mg (fun _ _ _ _ => False) c5 te) vs vs1 σ H Q := by
  obtain ⟨R, μ, S, ρ, P, E, s, e, pw, o, x⟩ := h
  have hline : sizeLine = 2 ^ 24 := sizeLine_eq
  generalize hcO : c2 + (c3 + 2 ^ 24 * (c4 + c5)) = cO at s
  refine ⟨R + 2 ^ 24 * cO, μ, S, ρ, _, E, s.mono (by omega), e, pw, fun xs C S1 μ1 J H1 x1 s1 src hC hz pl => ?_, x.mono (by omega)⟩
  intro p hp
  have np : p ∉ μ1.hid := fun h => by
    obtain ⟨⟨vs, e⟩, _⟩ := s1.hid p h
    rw [hp] at e; cases e
  refine ⟨fun i n H2 => n = xs.length - i ∧ i ≤ xs.length ∧ ∃ μ2 S2 acc us, Sat X.K X.mg (R + (xs.length - i) * cO) (μ2.hide p) S2 H2 ∧ Mk μ1 S1 H1 p μ2 S2 H2 ∧ H2 p = some (.lst us) ∧ ValL X.K X.mg (μ2.hide p) (Lv (μ2.hide p) S2) H2 acc us ∧
      loopO (bodyO g tt wi1 g1 tt1 te vs1 (wipeD ρ vs)) C (xs.drop i) acc S2 fun ds S2 => mkL m ds S2 P, ⟨xs.length, by simp, Nat.zero_le _, ?_⟩, ?_⟩
  · obtain ⟨x2, s2⟩ := s1.hide hp []
    refine ⟨μ1, S1, [], [], by simpa using s2.mono (by rw [← hline]; exact Nat.add_le_add_left (Nat.mul_le_mul_right _ hz) _), ⟨x2, fun a o e => ⟨o, by rw [upd_ne (ne_of_none e hp)]; exact e⟩, rfl, fun a ha => upd_ne fun z => np (by rw [← z]; exact ha)⟩, upd_same, .nil, by simpa using pl⟩
  · rintro i n H2 ⟨rfl, hi, μ2, S2, acc, us, s2, k2, e2, r2, l2⟩
    have e1 : EnvOk X.K X.mg (μ2.hide p) S2 H2 ρ σ := (e.ext x1).ext0 k2.x0
    obtain ⟨turn, stop⟩ : (∀ i, i < xs.length → J.go i H2 ∧ ∀ v H', J.yld i H2 v H' → (H' = H2 ∨ ∃ p o, H2 p = none ∧ H' = upd H2 p o) ∧ ∃ d, xs[i]? = some d ∧ Val X.K X.mg (μ2.hide p) (Lv (μ2.hide p) S2) H' d v) ∧ J.stop xs.length H2 := by
      refine src (μ2.hide p) S2 H2 k2.x0 (s2.mono (Nat.zero_le _)) ?_
      cases q : xs.drop i with
      | nil => rw [q] at l2; exact l2.1
      | cons y ys => rw [q] at l2; exact l2.1
    by_cases hlt : i < xs.length
    · obtain ⟨go, yl⟩ := turn i hlt
      have hd : xs.drop i = xs[i] :: xs.drop (i + 1) := List.drop_eq_getElem_cons hlt
      rw [hd] at l2
      obtain ⟨_, body⟩ := l2
      have hbud : R + (xs.length - i) * cO = (R + (xs.length - (i + 1)) * cO) + cO := by
        have : xs.length - i = (xs.length - (i + 1)) + 1 := by omega
        rw [this, Nat.add_mul, Nat.one_mul]
        omega
      generalize hR2 : R + (xs.length - (i + 1)) * cO = R2 at hbud
      rw [hbud] at s2
      refine .inr ⟨go, fun H' => ∃ μ2 S2 acc us, Sat X.K X.mg R2 (μ2.hide p) S2 H' ∧ Mk μ1 S1 H1 p μ2 S2 H' ∧ H' p = some (.lst us) ∧ ValL X.K X.mg (μ2.hide p) (Lv (μ2.hide p) S2) H' acc us ∧
        loopO (bodyO g tt wi1 g1 tt1 te vs1 (wipeD ρ vs)) C (xs.drop (i + 1)) acc S2 fun ds S2 => mkL m ds S2 P, fun H' h' => ?_, fun v H3 y => ?_⟩
      · obtain ⟨μ3, S3, acc3, vs3, q1, q2, q3, q4, q6⟩ := h'
        exact ⟨_, by omega, rfl, hlt, μ3, S3, acc3, vs3, by rw [hR2]; exact q1, q2, q3, q4, q6⟩
      · obtain ⟨hH, d, hd2, rd⟩ := yl v H3 y
        have hd3 : d = xs[i] := by
          rw [List.getElem?_eq_getElem hlt] at hd2
          exact (Option.some.inj hd2).symm
        subst hd3
        obtain ⟨x3, s3⟩ : Ext (μ2.hide p) S2 H2 (μ2.hide p) S2 H3 ∧ Sat X.K X.mg (R2 + cO) (μ2.hide p) S2 H3 := by
          rcases hH with hH | ⟨q, o, hq, hH⟩
          · subst hH; exact ⟨.refl, s2⟩
          · subst hH; exact s2.new hq o
        have k3 : Mk μ1 S1 H1 p μ2 S2 H3 := k2.ext (ad := μ2.ad) x3
        have e3 : H3 p = some (.lst us) := (x3.same p List.mem_cons_self).trans e2
        have r3 := r2.ext x3
        have ew : EnvOk X.K X.mg (μ2.hide p) S2 H3 (wipeD ρ vs) (L2.wipe σ vs) := (e1.ext x3).wipe _
        refine ⟨μ2.hide p, S2, _, _, _, _, s3, ew, rd, body, fun ρ2 σ2 eρ but hp2 => ⟨wipe_eq (K := X.K) but his, ?_⟩⟩
        refine tT_of (R := R2 + (c3 + 2 ^ 24 * (c4 + c5))) (s3.mono (by omega)) eρ hp2 (fun b S4 μ4 H4 x4 s4 e4 h4 => ?_) (fun _ _ _ _ _ _ _ _ _ z => z.elim)
        have hμ := hide_of x4
        generalize hμ' : (⟨μ4.ad, μ2.hid⟩ : Mu) = μ5 at hμ
        subst hμ
        have k4 : Mk μ1 S1 H1 p μ5 S4 H4 := by
          rw [← hμ']
          rw [← hμ'] at x4
          exact k3.ext x4
        have e5 : H4 p = some (.lst us) := (x4.same p List.mem_cons_self).trans e3
        have r4 := r3.ext x4
        cases b with
        | false =>
          rw [if_neg Bool.false_ne_true] at h4 ⊢
          exact ⟨μ5, S4, acc, us, s4.mono (by omega), k4, e5, r4, h4⟩
        | true =>
          rw [if_pos rfl] at h4 ⊢
          refine ⟨R2 + 2 ^ 24 * (c4 + c5), μ5.hide p, S4, ρ2, _, _, s4.mono (by omega), e4, h4, fun ys C1 S6 μ6 J1 H6 x6 s6 src1 hC1 hz1 pl1 => ?_, fun _ _ _ _ _ _ _ _ _ z => z.elim⟩
          have hμ := hide_of x6
          generalize hμ' : (⟨μ6.ad, μ5.hid⟩ : Mu) = μ7 at hμ
          subst hμ
          have k6 : Mk μ1 S1 H1 p μ7 S6 H6 := by
            rw [← hμ']
            rw [← hμ'] at x6
            exact k4.ext x6
          have e7 : H6 p = some (.lst us) := (x6.same p List.mem_cons_self).trans e5
          have r6 := r4.ext x6
          have e8 : EnvOk X.K X.mg (μ7.hide p) S6 H6 ρ2 σ2 := e4.ext x6
          generalize hcI : c4 + c5 = cI at s6
          refine ⟨fun j n H' => n = ys.length - j ∧ j ≤ ys.length ∧ ∃ μ8 S8 acc us, Sat X.K X.mg (R2 + (ys.length - j) * cI) (μ8.hide p) S8 H' ∧ Mk μ1 S1 H1 p μ8 S8 H' ∧ H' p = some (.lst us) ∧ ValL X.K X.mg (μ8.hide p) (Lv (μ8.hide p) S8) H' acc us ∧ EnvOk X.K X.mg (μ8.hide p) S8 H' ρ2 σ2 ∧ Ext0 (μ7.hide p) S6 H6 (μ8.hide p) S8 H' ∧
            loopA (bodyC g1 tt1 te (wipeD ρ2 vs1)) C1 (ys.drop j) acc S8 (fun acc1 S1 => loopO (bodyO g tt wi1 g1 tt1 te vs1 (wipeD ρ vs)) C (xs.drop (i + 1)) acc1 S1 fun ds S2 => mkL m ds S2 P), ⟨ys.length, by simp, Nat.zero_le _, μ7, S6, acc, us, by simpa using s6.mono (by rw [← hline]; exact Nat.add_le_add_left (Nat.mul_le_mul_right _ hz1) _), k6, e7, r6, e8, ⟨fun a o q l => ⟨q, l⟩, fun n a q => q⟩, by simpa using pl1⟩, ?_⟩
          rintro j n H7 ⟨rfl, hj, μ8, S8, acc8, us8, s8, k8, e9, r8, eE, xE, l8⟩
          obtain ⟨turn1, stop1⟩ : (∀ j, j < ys.length → J1.go j H7 ∧ ∀ v H', J1.yld j H7 v H' → (H' = H7 ∨ ∃ p o, H7 p = none ∧ H' = upd H7 p o) ∧ ∃ d, ys[j]? = some d ∧ Val X.K X.mg (μ8.hide p) (Lv (μ8.hide p) S8) H' d v) ∧ J1.stop ys.length H7 := by
            refine src1 (μ8.hide p) S8 H7 xE (s8.mono (Nat.zero_le _)) ?_
            cases q : ys.drop j with
            | nil => rw [q] at l8; exact l8.1
            | cons y zs => rw [q] at l8; exact l8.1
          by_cases hlt1 : j < ys.length
          · obtain ⟨go1, yl1⟩ := turn1 j hlt1
            have hd1 : ys.drop j = ys[j] :: ys.drop (j + 1) := List.drop_eq_getElem_cons hlt1
            rw [hd1] at l8
            obtain ⟨_, body1⟩ := l8
            have hbud1 : R2 + (ys.length - j) * cI = (R2 + (ys.length - (j + 1)) * cI) + cI := by
              have : ys.length - j = (ys.length - (j + 1)) + 1 := by omega
              rw [this, Nat.add_mul, Nat.one_mul]
              omega
            generalize hR3 : R2 + (ys.length - (j + 1)) * cI = R3 at hbud1
            rw [hbud1] at s8
            refine .inr ⟨go1, fun H' => ∃ μ8 S8 acc us, Sat X.K X.mg R3 (μ8.hide p) S8 H' ∧ Mk μ1 S1 H1 p μ8 S8 H' ∧ H' p = some (.lst us) ∧ ValL X.K X.mg (μ8.hide p) (Lv (μ8.hide p) S8) H' acc us ∧ EnvOk X.K X.mg (μ8.hide p) S8 H' ρ2 σ2 ∧ Ext0 (μ7.hide p) S6 H6 (μ8.hide p) S8 H' ∧
              loopA (bodyC g1 tt1 te (wipeD ρ2 vs1)) C1 (ys.drop (j + 1)) acc S8 (fun acc1 S1 => loopO (bodyO g tt wi1 g1 tt1 te vs1 (wipeD ρ vs)) C (xs.drop (i + 1)) acc1 S1 fun ds S2 => mkL m ds S2 P), fun H' h' => ?_, fun v1 H8 y1 => ?_⟩
            · obtain ⟨μ3, S3, acc3, vs3, q1, q2, q3, q4, q5, q6, q7⟩ := h'
              exact ⟨_, by omega, rfl, hlt1, μ3, S3, acc3, vs3, by rw [hR3]; exact q1, q2, q3, q4, q5, q6, q7⟩
            · obtain ⟨hH1, d1, hd4, rd1⟩ := yl1 v1 H8 y1
              have hd5 : d1 = ys[j] := by
                rw [List.getElem?_eq_getElem hlt1] at hd4
                exact (Option.some.inj hd4).symm
              subst hd5
              obtain ⟨x9, s9⟩ : Ext (μ8.hide p) S8 H7 (μ8.hide p) S8 H8 ∧ Sat X.K X.mg (R3 + cI) (μ8.hide p) S8 H8 := by
                rcases hH1 with hH1 | ⟨q, o, hq, hH1⟩
                · subst hH1; exact ⟨.refl, s8⟩
                · subst hH1; exact s8.new hq o
              have k9 : Mk μ1 S1 H1 p μ8 S8 H8 := k8.ext (ad := μ8.ad) x9
              have e10 : H8 p = some (.lst us8) := (x9.same p List.mem_cons_self).trans e9
              have r9 := r8.ext x9
              have eE9 := eE.ext x9
              have ew1 : EnvOk X.K X.mg (μ8.hide p) S8 H8 (wipeD ρ2 vs1) (L2.wipe σ2 vs1) := eE9.wipe _
              refine ⟨μ8.hide p, S8, _, _, _, _, s9, ew1, rd1, body1, fun ρ3 σ3 eρ3 but1 hp3 => ⟨wipe_eq (K := X.K) but1 his1, ?_⟩⟩
              refine tT_of (R := R3 + c5) (s9.mono (by omega)) eρ3 hp3 (fun b S10 μ10 H10 x10 s10 e11 h10 => ?_) (fun _ _ _ _ _ _ _ _ _ z => z.elim)
              have hμ := hide_of x10
              generalize hμ' : (⟨μ10.ad, μ8.hid⟩ : Mu) = μ11 at hμ
              subst hμ
              have k10 : Mk μ1 S1 H1 p μ11 S10 H10 := by
                rw [← hμ']
                rw [← hμ'] at x10
                exact k9.ext x10
              have e12 : H10 p = some (.lst us8) := (x10.same p List.mem_cons_self).trans e10
              have r10 := r9.ext x10
              have eE10 := eE9.ext x10
              have xE10 := xE.trans (x9.trans x10).toExt0
              cases b with
              | false =>
                rw [if_neg Bool.false_ne_true] at h10 ⊢
                exact ⟨μ11, S10, acc8, us8, s10.mono (by omega), k10, e12, r10, eE10, xE10, by simpa using h10.2⟩
              | true =>
                rw [if_pos rfl] at h10 ⊢
                refine tE_of (R := R3) s10 e11 h10 (fun r S12 μ12 v12 H12 x12 s12 e13 rv h12 => ?_) (fun _ _ _ _ _ _ _ _ _ z => z.elim)
                have hμ := hide_of x12
                generalize hμ' : (⟨μ12.ad, μ11.hid⟩ : Mu) = μ13 at hμ
                subst hμ
                have k12 : Mk μ1 S1 H1 p μ13 S12 H12 := by
                  rw [← hμ']
                  rw [← hμ'] at x12
                  exact k10.ext x12
                have e14 : H12 p = some (.lst us8) := (x12.same p List.mem_cons_self).trans e12
                have r12 := r10.ext x12
                obtain ⟨hroom, h12⟩ := h12
                refine ⟨us8, e14, by rw [← r12.length]; exact hroom, ?_⟩
                obtain ⟨x14, s14⟩ := s12.hput (us8 ++ [v12])
                exact ⟨μ13, S12, acc8 ++ [r], us8 ++ [v12], s14, k12.put s12 np hp, upd_same, (r12.append (.cons rv .nil)).ext0 x14, (eE10.ext x12).ext0 x14, (xE10.trans x12.toExt0).trans x14, by simpa using h12⟩
          · have hj' : j = ys.length := by omega
            subst hj'
            rw [List.drop_length] at l8
            refine .inl ⟨stop1, μ8, S8, acc8, us8, by simpa using s8, k8, e9, r8, l8.2⟩
    · have hi' : i = xs.length := by omega
      subst hi'
      refine .inl ⟨stop, ?_⟩
      rw [List.drop_length] at l2
      obtain ⟨_, fin⟩ := l2
      have np2 : p ∉ μ2.hid := by rw [k2.hid]; exact np
      obtain ⟨x9, s9, nl⟩ := s2.show np2
      have xx : Ext μ S H μ2 S2 H2 := x1.trans ⟨k2.x0.trans x9, k2.there, k2.hid, k2.same⟩
      have r9 := r2.ext0 x9
      have s9' : Sat X.K X.mg R μ2 S2 H2 := by simpa using s9
      cases m with
      | false => exact o _ S2 μ2 _ H2 xx s9' (.lst (.inl ⟨.inl e2, nl⟩) r9) fin
      | true =>
        obtain ⟨x10, s10⟩ := s2.toCell np2 e2 r2
        have xy : Ext μ S H (μ2.push p) (S2 ++ [some (.lst acc)]) H2 := x1.trans ⟨k2.x0.trans x10, k2.there, k2.hid, k2.same⟩
        exact o _ _ _ _ H2 xy (by simpa using s10) (.ref (by unfold Mu.push; rw [← s9'.len]; simp)) fin
theorem d_lc2 (m : Bool) (vs1 : List Nat) {elt tg iter tg1 iter1 : Expr} {ifs ifs1 : List Expr} {scope : Scope} {own : List (Str × Nat)} {is is1 : List Nat} {wi wi1 : WL} {g g1 : GD} {tt tt1 : WT} {te : WE} (hc : X.calm = true) (hN : X.N.Nodup) (hi : DI X W tg iter c1 wi) (ok : BlkOk X.N X.env.scope scope own)
    (hg : ∀ (s : Shared) (H : Hp) (C : Addr) (cl : List (Str × Addr)) (fp : List Addr), DG (X.blk s H scope (compEnvC scope cl C X.env) fp) tg is g)
    (ht : ∀ (s : Shared) (H : Hp) (C : Addr) (cl : List (Str × Addr)) (fp : List Addr), DTs (X.blk s H scope (compEnvC scope cl C X.env) fp) (fun _ _ _ _ => False) ifs c2 tt)
    (hi1 : ∀ (s : Shared) (H : Hp) (C : Addr) (cl : List (Str × Addr)) (fp : List Addr), DI (X.blk s H scope (compEnvC scope cl C X.env) fp) (fun _ _ _ _ => False) tg1 iter1 c3 wi1)
    (hg1 : ∀ (s : Shared) (H : Hp) (C : Addr) (cl : List (Str × Addr)) (fp : List Addr), DG (X.blk s H scope (compEnvC scope cl C X.env) fp) tg1 is1 g1)
    (ht1 : ∀ (s : Shared) (H : Hp) (C : Addr) (cl : List (Str × Addr)) (fp : List Addr), DTs (X.blk s H scope (compEnvC scope cl C X.env) fp) (fun _ _ _ _ => False) ifs1 c4 tt1)
    (he : ∀ (s : Shared) (H : Hp) (C : Addr) (cl : List (Str × Addr)) (fp : List Addr), DE (X.blk s H scope (compEnvC scope cl C X.env) fp) (fun _ _ _ _ => False) elt c5 te)
    (hv : ∀ i ∈ vs1, i ∈ own.map (·.2) := by decide) (his : ∀ i ∈ is, i ∈ own.map (·.2) := by decide) (his1 : ∀ i ∈ is1, i ∈ vs1 := by decide) (hs : ∀ x, foldedSetIterable iter X.env x = pure x := by intro _; rfl) (hs1 : ∀ env x, foldedSetIterable iter1 env x = pure x := by intro _ _; rfl) :
    DE X W (.ListComp elt [⟨tg, iter, ifs, 0⟩, ⟨tg1, iter1, ifs1, 0⟩] scope pos) (c1 + 2 ^ 24 * (c2 + (c3 + 2 ^ 24 * (c4 + c5)))) (wLc2 m wi g tt wi1 g1 tt1 te (own.map (·.2)) vs1) :=
  PE.imp (pe_lc2 (g := tG X.K X.mg is g) (g1 := tG X.K X.mg is1 g1) (tt := tT X.K X.mg (fun _ _ _ _ => False) c2 tt) (tt1 := tT X.K X.mg (fun _ _ _ _ => False) c4 tt1) (te := tE X.K X.mg (fun _ _ _ _ => False) c5 te) hc hN hi ok hv hg ht hi1 hg1 ht1 he hs hs1) fun σ H Q h => tLc2_of m his his1 h
theorem ds_setLc2 (i : Nat) (m : Bool) (vs1 : List Nat) {x : Str} {py spos : Pos} {elt tg iter tg1 iter1 : Expr} {ifs ifs1 : List Expr} {scope : Scope} {own : List (Str × Nat)} {is is1 : List Nat} {wi wi1 : WL} {g g1 : GD} {tt tt1 : WT} {te : WE} (hc : X.calm = true) (hN : X.N.Nodup) (hi : DI X W tg iter c1 wi) (ok : BlkOk X.N X.env.scope scope own)
    (hg : ∀ (s : Shared) (H : Hp) (C : Addr) (cl : List (Str × Addr)) (fp : List Addr), DG (X.blk s H scope (compEnvC scope cl C X.env) fp) tg is g)
    (ht : ∀ (s : Shared) (H : Hp) (C : Addr) (cl : List (Str × Addr)) (fp : List Addr), DTs (X.blk s H scope (compEnvC scope cl C X.env) fp) (fun _ _ _ _ => False) ifs c2 tt)
    (hi1 : ∀ (s : Shared) (H : Hp) (C : Addr) (cl : List (Str × Addr)) (fp : List Addr), DI (X.blk s H scope (compEnvC scope cl C X.env) fp) (fun _ _ _ _ => False) tg1 iter1 c3 wi1)
    (hg1 : ∀ (s : Shared) (H : Hp) (C : Addr) (cl : List (Str × Addr)) (fp : List Addr), DG (X.blk s H scope (compEnvC scope cl C X.env) fp) tg1 is1 g1)
    (ht1 : ∀ (s : Shared) (H : Hp) (C : Addr) (cl : List (Str × Addr)) (fp : List Addr), DTs (X.blk s H scope (compEnvC scope cl C X.env) fp) (fun _ _ _ _ => False) ifs1 c4 tt1)
    (he : ∀ (s : Shared) (H : Hp) (C : Addr) (cl : List (Str × Addr)) (fp : List Addr), DE (X.blk s H scope (compEnvC scope cl C X.env) fp) (fun _ _ _ _ => False) elt c5 te)
    (hsw : swapsWith (.ListComp elt [⟨tg, iter, ifs, 0⟩, ⟨tg1, iter1, ifs1, 0⟩] scope pos) (some (.Name x py)) spos.line X.env = pure true) (hy : X.N[i]? = some x := by rfl) (hyl : X.env.scope.names.lookup x = some .local := by rfl)
    (hv : ∀ i ∈ vs1, i ∈ own.map (·.2) := by decide) (his : ∀ i ∈ is, i ∈ own.map (·.2) := by decide) (his1 : ∀ i ∈ is1, i ∈ vs1 := by decide) (hs : ∀ x, foldedSetIterable iter X.env x = pure x := by intro _; rfl) (hs1 : ∀ env x, foldedSetIterable iter1 env x = pure x := by intro _ _; rfl) :
    DS X W (.Assign [.Name x py] (.ListComp elt [⟨tg, iter, ifs, 0⟩, ⟨tg1, iter1, ifs1, 0⟩] scope pos) spos) (c1 + 2 ^ 24 * (c2 + (c3 + 2 ^ 24 * (c4 + c5)))) (wSet i (wLc2 m wi g tt wi1 g1 tt1 te (own.map (·.2)) vs1)) := by
  refine PS.imp (ps_setLc2 (wi1 := tI X.K X.mg (fun _ _ _ _ => False) c3 wi1) (g := tG X.K X.mg is g) (g1 := tG X.K X.mg is1 g1) (tt := tT X.K X.mg (fun _ _ _ _ => False) c2 tt) (tt1 := tT X.K X.mg (fun _ _ _ _ => False) c4 tt1) (te := tE X.K X.mg (fun _ _ _ _ => False) c5 te) hc hN hy hyl hsw hi ok hv hg ht hi1 hg1 ht1 he hs hs1) fun De σ H ⟨R, μ, S, ρ, P, s, e, p, o⟩ => ?_
  show tLc2 _ _ _ _ _ _ _ _ _ σ H fun x H1 => gName i x σ H1 De.nx
  exact tLc2_of m his his1 ⟨R, μ, S, ρ, _, _, s, e, p, fun d S1 μ1 v H1 x1 s1 r1 h1 => o.nx _ S1 μ1 _ H1 x1 s1 ((e.ext x1).set r1) h1, o.exX e⟩
end
end DD

end

section
set_option Elab.async false
set_option linter.all false
set_option autoImplicit false
set_option maxRecDepth 100000
set_option maxHeartbeats 2000000
/-! The box of draws. -/
namespace DD
open PySem PySem.Spec PyProof.Rows L2
section
variable {K : PySem.W.Frag} {mg : Str → Option Value} {R : Nat} {μ : Mu} {S : Cells} {H : Hp}
theorem upd_self {a : Addr} {o : HO} (e : H a = some o) : upd H a o = H := by
  funext b
  by_cases h : b = a
  · rw [h, upd_same, e]
  · rw [upd_ne h]
theorem Sat.recell (s : Sat K mg R μ S H) {n : Nat} {a : Addr} {c0 : Cell} (h0 : S[n]? = some (some c0)) (ha : μ.ad[n]? = some a) {o : HO} (e : H a = some o) (c : Cell) (hc : CellNew K mg R μ (Lv μ S) H o c) :
    Ext μ S H μ (S.set n (some c)) H ∧ Sat K mg R μ (S.set n (some c)) H := by
  have h := s.put h0 ha o c hc
  rw [upd_self e] at h
  exact h
theorem valL4 {lv : Addr → Prop} {d e f g : D} {vs : List V} (r : ValL K mg μ lv H [d, e, f, g] vs) : ∃ v u t y, vs = [v, u, t, y] ∧ Val K mg μ lv H d v ∧ Val K mg μ lv H e u ∧ Val K mg μ lv H f t ∧ Val K mg μ lv H g y := by
  cases r with
  | cons h t => obtain ⟨u, x, y, rfl, k, l, m⟩ := valL3 t; exact ⟨_, _, _, _, rfl, h, k, l, m⟩
theorem box_vals {lv : Addr → Prop} {g m k : Int} {b : Bool} {vs : List V} (r : ValL K mg μ lv H [.int g, .bl b, .int m, .int k] vs) : vs = [.int g, .bl b, .int m, .int k] := by
  obtain ⟨v, u, t, y, rfl, h1, h2, h3, h4⟩ := valL4 r
  cases h1; cases h2; cases h3; cases h4
  rfl
end
/-- a new list that becomes a box of draws -/
def gToBox (d : D) (S : Cells) (P : Q1) : Prop := ∃ n g b m, d = .ref n ∧ S[n]? = some (some (.lst [.int g, .bl b, .int m, .int 0])) ∧ 0 ≤ m ∧ m < 2 ^ 31 ∧ P (.ref n) (S.set n (some .box))
section
variable {X : Cx} {W : WX} {a : Expr} {c1 : Nat} {w1 : WE}
theorem d_toBox (h : DE X W a c1 w1) : DE X W a c1 (wUn gToBox w1) := by
  refine ⟨fun pins s σ H Q I ⟨R, μ, S, ρ, P, E, st, e, q, o, x⟩ => ?_⟩
  refine thn (h.run pins s σ H (fun v H' => ∃ d S1 μ1, Ext μ S H μ1 S1 H' ∧ Sat X.K X.mg R μ1 S1 H' ∧ Val X.K X.mg μ1 (Lv μ1 S1) H' d v ∧ gToBox d S1 P) I ⟨R, μ, S, ρ, _, E, st, e, q, fun d S1 μ1 v H1 x1 s1 r1 p1 => ⟨d, S1, μ1, x1, s1, r1, p1⟩, x⟩) fun u s1 hu => ?_
  obtain ⟨v, H1, I1, rv, d, S1, μ1, x1, s1, r1, n, g, b, m, rfl, e1, h1, h2, p1⟩ := hu
  obtain ⟨aa, vs, rfl, had, e2, r2⟩ := ref_at s1 r1 e1
  obtain rfl := box_vals r2
  obtain ⟨x2, s2⟩ := s1.recell e1 had e2 .box ⟨g, m, 0, b, rfl, h1, h2, Int.le_refl _, by simpa using s1.bud⟩
  exact ⟨_, H1, I1, rv, (o.ext x1) _ _ _ _ _ x2 s2 (.ref had) p1⟩
end
/-- a draw: any number below -/
def spTake : Spec := fun ds S P _ => ∃ (n : Nat) (many : Int), ds = [.ref n, .int many] ∧ S[n]? = some (some .box) ∧ 1 ≤ many ∧ many < 2 ^ 30 ∧ ∀ i : Int, 0 ≤ i → i < many → P (.int i) S
def SatB (N : Nat) (b : WS) : Prop := ∀ (n : Nat) (many g m k : Int) (bb : Bool) (S : Cells) (P : Q1), S[n]? = some (some (.lst [.int g, .bl bb, .int m, .int k])) → 1 ≤ many → many < 2 ^ 30 → 0 ≤ m → m < 2 ^ 31 → 0 ≤ k → k.toNat ≤ BIG →
  (∀ i g' k' : Int, 0 ≤ i → i < many → 0 ≤ k' → k' ≤ k + 1 → P (.int i) (S.set n (some (.lst [.int g', .bl bb, .int m, .int k'])))) →
  b (startD N [.ref n, .int many]) S ⟨fun _ _ => False, P, fun _ _ => False, fun _ _ => False, fun _ _ _ => False⟩
section
variable {P : Program} {w : World} {K : PySem.W.Frag} {mg : Str → Option Value} {base : Heap}
theorem set_back {S : Cells} {n : Nat} {c : Option Cell} (h : S[n]? = some c) : S.set n c = S := by
  apply List.ext_getElem?
  intro i
  by_cases e : i = n
  · subst e
    have hl := (List.getElem?_eq_some_iff.mp h).1
    rw [List.getElem?_set_self hl, h]
  · rw [List.getElem?_set_ne (Ne.symm e)]
theorem ok_take {x qual : Str} {params : Arguments} {body : List Stmt} {scope : Scope} {f : Addr} {fd : FuncData} {N ps : List Str} {k c : Nat} {b : WS} (F : FunD K x qual params body scope [] [] f fd) (SC : FnScope N ps scope) (hn : ps.length = 2)
    (hb : ∀ (cdv : Value) (A : Around) (outer : List Env) (s : Shared) (H : Hp) (E : XK), Room k (A.deeper (envOfC qual scope s.heap.objs.size f cdv)) →
      DSs (cxOf (L2.CX P w) P w K mg base N qual scope f cdv A outer s H E) (fun cls d _ H' => E cls d H') body c b)
    (hs : SatB N.length b) : FnOk P w K mg base (L2.CX P w) (k + 1) f fd ps (spOf K mg (c + 1) 2 spTake) := by
  refine F.ok SC (fun vs H Q E h => ?_) (fun cdv A outer s H vs Q E hr h => ⟨_, hb cdv A outer s H E hr, ?_⟩)
  · obtain ⟨_, _, _, _, _, _, hl, _⟩ := h
    exact hl.trans hn.symm
  · obtain ⟨R, μ, S, ds, P1, E1, hl, st, r, h, o, xx⟩ := h
    obtain ⟨n, many, rfl, eb, h1, h2, p⟩ := h
    obtain ⟨v, u, rfl, rv, ru⟩ := valL2 r
    cases ru
    cases rv with
    | @ref n aa had =>
    obtain ⟨g, m, kk, bb, eH, m0, m1, k0, kb⟩ := st.ok n _ aa eb had
    have hln : n < S.length := (List.getElem?_eq_some_iff.mp eb).1
    obtain ⟨x1, s1⟩ := st.recell eb had eH (.lst [.int g, .bl bb, .int m, .int kk]) ⟨_, rfl, .cons (.int g) (.cons (.bl bb) (.cons (.int m) (.cons (.int kk) .nil)))⟩
    have e1 : (S.set n (some (.lst [.int g, .bl bb, .int m, .int kk])))[n]? = some (some (.lst [.int g, .bl bb, .int m, .int kk])) := List.getElem?_set_self hln
    have z := hs n many g m kk bb _ (fun d S1 => ∃ i g' k' : Int, d = .int i ∧ 0 ≤ i ∧ i < many ∧ 0 ≤ k' ∧ k' ≤ kk + 1 ∧ S1 = (S.set n (some (.lst [.int g, .bl bb, .int m, .int kk]))).set n (some (.lst [.int g', .bl bb, .int m, .int k']))) e1 h1 h2 m0 m1 k0 (by omega)
      fun i g' k' a b c d => ⟨i, g', k', rfl, a, b, c, d, rfl⟩
    have ev : EnvOk K mg μ _ H (startD N.length [.ref n, .int many]) (L2.start N [.ref aa, .int many]) := startD_ok (.cons (.ref (lv := Lv μ (S.set n (some (.lst [.int g, .bl bb, .int m, .int kk])))) had) (.cons (.int many) .nil))
    refine ⟨R, μ, _, _, _, s1.mono (by omega), ev, z, ⟨fun _ _ _ _ _ _ _ _ z => z.elim, fun d S1 μ1 v1 H1 x2 s2 r2 hd => ?_, fun _ _ _ _ _ _ _ _ z => z.elim, fun _ _ _ _ _ _ _ _ z => z.elim, fun _ _ _ _ _ _ _ _ _ _ _ _ z => z.elim⟩⟩
    obtain ⟨i, g', k', rfl, i0, i1, q0, q1, rfl⟩ := hd
    cases r2
    have had1 := x2.pre n aa had
    have e2 : ((S.set n (some (.lst [.int g, .bl bb, .int m, .int kk]))).set n (some (.lst [.int g', .bl bb, .int m, .int k'])))[n]? = some (some (.lst [.int g', .bl bb, .int m, .int k'])) := List.getElem?_set_self (by simpa using hln)
    obtain ⟨vs2, eH2, rv2⟩ := s2.ok n _ aa e2 had1
    obtain rfl := box_vals rv2
    obtain ⟨x3, s3⟩ := s2.recell e2 had1 eH2 .box ⟨g', m, k', bb, rfl, m0, m1, q0, by omega⟩
    have eS : ((S.set n (some (.lst [.int g, .bl bb, .int m, .int kk]))).set n (some (.lst [.int g', .bl bb, .int m, .int k']))).set n (some .box) = S := by
      rw [List.set_set, List.set_set]
      exact set_back eb
    rw [eS] at x3 s3
    exact o _ _ _ _ _ ((x1.trans x2).trans x3) s3 (.int i) (p i i0 i1)
end
end DD

end

section
set_option Elab.async false
set_option linter.all false
set_option autoImplicit false
set_option maxRecDepth 100000
set_option maxHeartbeats 2000000
/-! Defs as they stand behind the top; the law's end. -/
namespace DD
open PySem PySem.Spec PyProof.Rows L2
theorem takesF {X : Cx} : Takes X (fun _ _ _ _ => False) := fun _ _ ⟨_, _, _, _, _, _, _, _, _, _, _, _, _, _, _, _, z⟩ => z.elim
section
variable {P : Program} {w : World} {K : PySem.W.Frag} {mg : Str → Option Value} {base : Heap} {x : Str} {params : Arguments} {body : List Stmt} {scope : Scope}
/-- a def's promise, by name -/
structure FnAt (P : Program) (w : World) (K : PySem.W.Frag) (mg : Str → Option Value) (base : Heap) (x : Str) (params : Arguments) (body : List Stmt) (scope : Scope) (ps : List Str) (k c n : Nat) (sp : Spec) : Prop where
  ex : ∃ (f : Addr) (fd : FuncData), FunD K x x params body scope [] [] f fd ∧ mg x = some (.ref f) ∧ ps.length = n ∧ FnOk P w K mg base (L2.CX P w) k f fd ps (spOf K mg c n sp)
theorem spOf_mono {c c' n : Nat} {sp : Spec} (h : c ≤ c') (vs : List V) (H : Hp) (Q : VK) (E : XK) (q : spOf K mg c' n sp vs H Q E) : spOf K mg c n sp vs H Q E := by
  obtain ⟨R, μ, S, ds, P, Ex, hl, st, r⟩ := q
  exact ⟨R, μ, S, ds, P, Ex, hl, st.mono (by omega), r⟩
theorem fn_at {f : Addr} {fd : FuncData} {N ps : List Str} {k c c' n : Nat} {sp : Spec} {b : WS} (F : FunD K x x params body scope [] [] f fd) (hm : mg x = some (.ref f)) (SC : FnScope N ps scope) (hn : ps.length = n) (hc : c ≤ c')
    (hb : ∀ (cdv : Value) (A : Around) (outer : List Env) (s : Shared) (H : Hp) (E : XK), Room k (A.deeper (envOfC x scope s.heap.objs.size f cdv)) →
      DSs (cxOf (L2.CX P w) P w K mg base N x scope f cdv A outer s H E) (fun cls d _ H' => E cls d H') body c b)
    (hs : Sat' n N.length b sp) : FnAt P w K mg base x params body scope ps (k + 1) c' n sp :=
  ⟨f, fd, F, hm, hn, (ok_def F SC hn hb hs).imp (spOf_mono hc)⟩
theorem fn_take {f : Addr} {fd : FuncData} {N ps : List Str} {k c : Nat} {b : WS} (F : FunD K x x params body scope [] [] f fd) (hm : mg x = some (.ref f)) (SC : FnScope N ps scope) (hn : ps.length = 2) (hc : c = 0)
    (hb : ∀ (cdv : Value) (A : Around) (outer : List Env) (s : Shared) (H : Hp) (E : XK), Room k (A.deeper (envOfC x scope s.heap.objs.size f cdv)) →
      DSs (cxOf (L2.CX P w) P w K mg base N x scope f cdv A outer s H E) (fun cls d _ H' => E cls d H') body c b)
    (hs : SatB N.length b) : FnAt P w K mg base x params body scope ps (k + 1) 1 2 spTake := by
  subst hc
  exact ⟨f, fd, F, hm, hn, ok_take F SC hn hb hs⟩
variable {ps : List Str} {k c n : Nat} {sp : Spec}
theorem FnAt.ok (h : FnAt P w K mg base x params body scope ps k c n sp) (bind : ∀ (kV doc pm : Value) (an : Option Addr) (cdv ct : Value) (us : List Value), us.length = ps.length → bindArgs (PySem.W.fnOf x x params body scope .none kV doc pm an cdv ct) ⟨us, []⟩ = pure (ps.zip us)) :
    OkAt P w K mg base x k c n sp := by
  obtain ⟨f, fd, F, hm, hn, G⟩ := h.ex
  exact ⟨f, fd, ps, hn, G, F.bindsN bind, hm, F.kp⟩
theorem FnAt.okK (h : FnAt P w K mg base x params body scope ps k c n sp) (ks : List Str) (π : List Nat) (bind : ∀ (kV doc pm : Value) (an : Option Addr) (cdv ct : Value) (us : List Value), us.length = ks.length → bindArgs (PySem.W.fnOf x x params body scope .none kV doc pm an cdv ct) ⟨[], ks.zip us⟩ = pure (ps.zip (perm π us))) :
    OkAtK P w K mg base x k c n sp ks π := by
  obtain ⟨f, fd, F, hm, hn, G⟩ := h.ex
  refine ⟨f, fd, ps, hn, G, hm, F.kp, fun s ws hl => ?_⟩
  obtain ⟨oc, od, dV, kV, doc, pm, an, cdv, ct, osl, rfl, lk, hcd, hD, hK⟩ := F.ex
  rcases hD with ⟨_, rfl⟩ | ⟨e, _⟩
  · exact .of_eq (bind kV doc pm an cdv ct ws hl)
  · exact absurd rfl e
theorem FnAt.imp {sp' : Spec} (h : FnAt P w K mg base x params body scope ps k c n sp) (i : ∀ ds S Q E, sp' ds S Q E → sp ds S Q E) : FnAt P w K mg base x params body scope ps k c n sp' := by
  obtain ⟨f, fd, F, hm, hn, G⟩ := h.ex
  refine ⟨f, fd, F, hm, hn, G.imp fun vs H Q E ⟨R, μ, S, ds, P, Ex, hl, st, r, q, o⟩ => ⟨R, μ, S, ds, P, Ex, hl, st, r, i _ _ _ _ q, o⟩⟩
end

/-! ### own error classes -/
theorem oexC_of {K : PySem.W.Frag} {C : Addr} (h : DH.excB K C = true) : OexC K C ∧ IsC K C ∧ XfC K C := by
  unfold DH.excB at h
  simp only [Bool.and_eq_true, decide_eq_true_eq] at h
  obtain ⟨⟨⟨⟨⟨⟨⟨⟨⟨⟨⟨⟨ho, sa⟩, sub⟩, ty⟩, kp⟩, ga⟩, gg⟩, hd⟩, hcl⟩, sg⟩, tk⟩, mo⟩, ic⟩ := h
  have cls : ∃ nm q N bs bm sn sub ab col dd k0 k1 k2 k3 k5, K.lookup C = some (excClassObj nm q C N bs bm true sn sub ab col dd k0 k1 k2 k3 k5 "ValueError.__new__") ∧ PySem.HandSPX.refsVE bm = true := by
    unfold DH.oexB at ho
    split at ho
    · rename_i dd cd sl hl
      split at ho
      · rename_i C' bm k0 k1 k2 k3 nid k5 hm hsl
        obtain ⟨⟨⟨⟨h1, h2⟩, h3⟩, h4⟩, h5⟩ := by simpa only [Bool.and_eq_true] using ho
        obtain ⟨nm, bs, mro, ns, qn, hasD, sn, sb, ab, col, del⟩ := cd
        simp only at hm h3 h4
        have e1 : C' = C := by simpa using h1
        have e2 : nid = "ValueError.__new__" := by simpa using h2
        have e3 : del = false := by simpa using h3
        subst e1 e2 e3 hm h4
        obtain ⟨sl⟩ := sl
        simp only at hsl
        subst hsl
        exact ⟨nm, qn, ns, bs, bm, sn, sb, ab, col, dd, k0, k1, k2, k3, k5, hl, h5⟩
      · exact absurd ho Bool.false_ne_true
    · exact absurd ho Bool.false_ne_true
  exact ⟨⟨cls, sa, sub, ty, kp⟩, ⟨⟨ga, gg, sub, hd, hcl, sg, tk, mo⟩, ic⟩, ⟨ga, gg, sub, hd⟩⟩
/-! ### what the head tells -/
structure Hd (fa : List DH.Fc) (fn : List He.DefD) (K : PySem.W.Frag) (mg : Str → Option Value) : Prop where
  says : DH.SaysP fa fn K
  ns : ∃ h : Heap, K.In h ∧ h.Ns mainGlobals mg
section
variable {fa : List DH.Fc} {fn : List He.DefD} {K : PySem.W.Frag} {mg : Str → Option Value}
theorem Hd.fact (h : Hd fa fn K mg) (i : Nat) {f : DH.Fc} (e : fa[i]? = some f) : f.ok K = true := h.says.fact (List.mem_of_getElem? e)
theorem Hd.free (h : Hd fa fn K mg) (i : Nat) {x : Str} (e : fa[i]? = some (.free x) := by rfl) : mg x = none := let ⟨_, hK, G⟩ := h.ns; He.free_ok hK G (h.fact i e)
theorem Hd.glo (h : Hd fa fn K mg) (i : Nat) {x : Str} (e : fa[i]? = some (.glo x) := by rfl) : mg x = some (.ref (He.ga K x)) := let ⟨_, hK, G⟩ := h.ns; He.glo_ok hK G (h.fact i e)
theorem Hd.int (h : Hd fa fn K mg) (i : Nat) {x : Str} {k : Int} (e : fa[i]? = some (.int x k) := by rfl) : ∃ t, mg x = some (.int k t) := let ⟨_, hK, G⟩ := h.ns; He.int_ok hK G (h.fact i e)
theorem Hd.str (h : Hd fa fn K mg) (i : Nat) {x z : Str} (e : fa[i]? = some (.str x z) := by rfl) : ∃ t, mg x = some (.str z t) := let ⟨_, hK, G⟩ := h.ns; He.str_ok hK G (h.fact i e)
theorem Hd.exc (h : Hd fa fn K mg) (i : Nat) {x f : Str} (e : fa[i]? = some (.exc x f) := by rfl) : mg x = some (.ref (He.ga K x)) ∧ (OexC K (He.ga K x) ∧ IsC K (He.ga K x) ∧ XfC K (He.ga K x)) ∧ PySem.W.findIn K (.ref (He.ga K x)) f = some none ∧
    PySem.W.findIn K (.ref (He.ga K x)) "__init__" = some (some (.ref (He.ma K (He.ga K x) "__init__"))) ∧ PySem.W.typeIn K (.ref (He.ma K (He.ga K x) "__init__")) = some (.type "function") := by
  obtain ⟨hp, hK, G⟩ := h.ns
  have c := h.fact i e
  unfold DH.Fc.ok at c
  simp only [Bool.and_eq_true, decide_eq_true_eq] at c
  obtain ⟨⟨⟨⟨c1, c2⟩, c3⟩, c4⟩, c5⟩ := c
  exact ⟨He.glo_ok hK G c1, oexC_of c2, c3, c4, c5⟩
theorem Hd.sub (h : Hd fa fn K mg) (i : Nat) {x y : Str} {b : Bool} (e : fa[i]? = some (.sub x y b) := by rfl) : PySem.W.exmOne K (.ref (He.ga K x)) (.ref (He.ga K y)) = some b ∧ PySem.W.kitOne K (.ref (He.ga K x)) (.ref (He.ga K y)) = some b := by
  have c := h.fact i e
  unfold DH.Fc.ok at c
  simpa only [Bool.and_eq_true, decide_eq_true_eq] using c
theorem Hd.def_ (h : Hd fa fn K mg) (i : Nat) {d : He.DefD} (e : fn[i]? = some d := by rfl) : ∃ fd, FunD K d.name d.qual d.params d.body d.scope (d.dvs K) (d.kws K) (He.fAd K d.at_) fd := h.says.def_ i e
end
/-! ### the own error classes together -/
/-- L: the classes, their fields; all below B -/
def excsB (fa : List DH.Fc) (B : Str) (L : List (Str × Str)) : Bool := decide (.glo B ∈ fa) && L.all fun p => decide (.exc p.1 p.2 ∈ fa) && decide (.sub p.1 B true ∈ fa) && L.all fun q => decide (.sub p.1 q.1 (decide (p.1 = q.1)) ∈ fa)
/-- of which class is it, as far as the head tells -/
def isBox (L : List (Str × Str)) (x : Str) : Option Bool := if x ∈ L.map (·.1) then some true else none
def tabX (L : List (Str × Str)) (x y : Str) : Option Bool := if x ∈ L.map (·.1) ∧ y ∈ L.map (·.1) then some (decide (x = y)) else none
section
variable {fa : List DH.Fc} {fn : List He.DefD} {K : PySem.W.Frag} {mg : Str → Option Value} {B : Str} {L : List (Str × Str)}
theorem Hd.mem (h : Hd fa fn K mg) {f : DH.Fc} (m : f ∈ fa) : f.ok K = true := h.says.fact m
theorem Hd.idx (h : Hd fa fn K mg) {f : DH.Fc} (m : f ∈ fa) : ∃ i : Nat, fa[i]? = some f := List.getElem?_of_mem m
theorem excs_at (c : excsB fa B L = true) {x : Str} (m : x ∈ L.map (·.1)) : ∃ f, (x, f) ∈ L ∧ .exc x f ∈ fa ∧ .sub x B true ∈ fa ∧ ∀ y ∈ L.map (·.1), .sub x y (decide (x = y)) ∈ fa := by
  obtain ⟨p, hp, rfl⟩ := List.mem_map.mp m
  have c2 := List.all_eq_true.mp (Bool.and_eq_true_iff.mp c).2 p hp
  simp only [Bool.and_eq_true, decide_eq_true_eq] at c2
  refine ⟨p.2, hp, c2.1.1, c2.1.2, fun y hy => ?_⟩
  obtain ⟨q, hq, rfl⟩ := List.mem_map.mp hy
  simpa using List.all_eq_true.mp c2.2 q hq
theorem box_mg (h : Hd fa fn K mg) (c : excsB fa B L = true) : mg B = some (.ref (He.ga K B)) := by
  have m : .glo B ∈ fa := by simpa using (Bool.and_eq_true_iff.mp c).1
  obtain ⟨i, hi⟩ := h.idx m
  exact h.glo i hi
theorem isBox_ok (h : Hd fa fn K mg) (c : excsB fa B L = true) (z : Str) (t : Bool) (C : Addr) (e : isBox L z = some t) (hm : mg z = some (.ref C)) : PySem.W.exmOne K (.ref C) (.ref (He.ga K B)) = some t := by
  unfold isBox at e
  split at e
  · rename_i m
    cases e
    obtain ⟨f, _, hf, hs, _⟩ := excs_at c m
    obtain ⟨i, hi⟩ := h.idx hf
    obtain ⟨j, hj⟩ := h.idx hs
    have e2 := (h.exc i hi).1
    rw [hm] at e2
    cases e2
    exact (h.sub j hj).1
  · cases e
theorem tabX_ok (h : Hd fa fn K mg) (c : excsB fa B L = true) (y : Str) (z : Str) (t : Bool) (e : tabX L z y = some t) : ∃ B', mg y = some (.ref B') ∧ ∀ C, mg z = some (.ref C) → IsC K C ∧ PySem.W.kitOne K (.ref C) (.ref B') = some t := by
  unfold tabX at e
  split at e
  · rename_i m
    cases e
    obtain ⟨f, _, hf, _, hs⟩ := excs_at c m.1
    obtain ⟨g, _, hg, _, _⟩ := excs_at c m.2
    obtain ⟨i, hi⟩ := h.idx hf
    obtain ⟨i2, hi2⟩ := h.idx hg
    obtain ⟨j, hj⟩ := h.idx (hs y m.2)
    refine ⟨_, (h.exc i2 hi2).1, fun C hm => ?_⟩
    have e2 := (h.exc i hi).1
    rw [hm] at e2
    cases e2
    exact ⟨(h.exc i hi).2.1.2.1, (h.sub j hj).2⟩
  · cases e
theorem fld_ok (h : Hd fa fn K mg) (c : excsB fa B L = true) {f : Str} (nm : Str) (m : nm ∈ (L.filter fun p => p.2 == f).map (·.1)) (C : Addr) (hm : mg nm = some (.ref C)) : XfC K C ∧ PySem.W.findIn K (.ref C) f = some none := by
  obtain ⟨p, hp, rfl⟩ := List.mem_map.mp m
  obtain ⟨hp1, hp2⟩ := List.mem_filter.mp hp
  have c2 := List.all_eq_true.mp (Bool.and_eq_true_iff.mp c).2 p hp1
  simp only [Bool.and_eq_true, decide_eq_true_eq] at c2
  have ef : p.2 = f := by simpa using hp2
  obtain ⟨i, hi⟩ := h.idx c2.1.1
  have q := h.exc i hi
  rw [hm] at q
  obtain ⟨e1, e2, e3, _⟩ := q
  cases e1
  exact ⟨e2.2.2, by rw [← ef]; exact e3⟩
end
/-- no promise at all -/
theorem fn_none {P : Program} {w : World} {K : PySem.W.Frag} {mg : Str → Option Value} {base : Heap} {x : Str} {params : Arguments} {body : List Stmt} {scope : Scope} {f : Addr} {fd : FuncData} {ps : List Str} {k c n : Nat} (F : FunD K x x params body scope [] [] f fd) (hm : mg x = some (.ref f)) (hn : ps.length = n) :
    FnAt P w K mg base x params body scope ps k c n (fun _ _ _ _ => False) :=
  ⟨f, fd, F, hm, hn, ⟨fun _ _ _ _ ⟨_, _, _, _, _, _, _, _, _, z, _⟩ => z.elim, fun _ _ _ _ _ _ _ _ _ _ _ _ _ ⟨_, _, _, _, _, _, _, _, _, z, _⟩ => z.elim⟩⟩
/-! ### the law's end -/
/-- the law: of any numbers it answers True -/
def spLaw (most : Nat) : Spec := fun ds S P _ => ∃ ns : List Int, ds = [.lst (ns.map .int)] ∧ ns.length ≤ most ∧ S = [] ∧ ∀ S', P (.bl true) S'
theorem law_in {K : PySem.W.Frag} {mg : Str → Option Value} {c most : Nat} (hc : c ≤ BIG) {H : Hp} {a : Addr} {ns : List Int} (hl : ns.length ≤ most) (hs : SqL K H a (ns.map V.int)) :
    spOf K mg c 1 (spLaw most) [.ref a] H (fun v _ => v = .bl true) fun _ _ _ => False := by
  have nl : ¬ Lv ⟨[], []⟩ [] a := by
    rintro (⟨n, c, h, _⟩ | h)
    · simp at h
    · cases h
  have hv : ValL K mg ⟨[], []⟩ (Lv ⟨[], []⟩ []) H (ns.map D.int) (ns.map V.int) := by
    clear hl hs
    induction ns with
    | nil => exact .nil
    | cons n ns ih => exact .cons (.int n) ih
  have hL : HasL K (Lv ⟨[], []⟩ []) H a (ns.map V.int) := by
    rcases hs with hs | hs
    · exact .inl ⟨hs, nl⟩
    · exact .inr fun H' => .inr hs
  refine ⟨0, ⟨[], []⟩, [], [.lst (ns.map .int)], fun d _ => d = .bl true, fun _ _ => False, rfl, ⟨by omega, rfl, fun n m c c' a h => by simp at h, fun n c a h => by simp at h, fun a h => by cases h⟩, .cons (.lst hL hv) .nil, ⟨ns, rfl, hl, rfl, fun _ => rfl⟩, ?_, fun _ _ _ _ _ _ _ _ _ z => z.elim⟩
  intro d S1 μ1 v H1 _ _ r e
  subst e
  cases r
  rfl
theorem fn_cx0 {P : Program} {w : World} {K : PySem.W.Frag} {mg : Str → Option Value} {base : Heap} {k : Nat} {f : Addr} {fd : FuncData} {ps : List Str} {sp : Sp} (F : FnOk P w K mg base (L2.CX P w) k f fd ps sp) (h : ∀ vs H Q E, sp vs H Q E → sp vs H Q fun _ _ _ => False) :
    FnOk P w K mg base CX0 k f fd ps sp := by
  refine ⟨F.len, fun A outer s H args us vs Q E hr he hb hv hs => codeAny_mono (F.run A outer s H args us vs Q (fun _ _ _ => False) hr he hb hv (h _ _ _ _ hs)) fun r s' q => ?_⟩
  cases r with
  | ok fl =>
    cases fl with
    | ret u => exact q
    | next => exact q
    | brk => exact q
    | cont => exact q
  | error e =>
    obtain ⟨_, _, _, _, _, _, _, _, _, _, _, _, z⟩ := q
    exact z.elim
theorem spLaw_E {K : PySem.W.Frag} {mg : Str → Option Value} {c most : Nat} (vs : List V) (H : Hp) (Q : VK) (E : XK) (h : spOf K mg c 1 (spLaw most) vs H Q E) : spOf K mg c 1 (spLaw most) vs H Q fun _ _ _ => False := by
  obtain ⟨R, μ, S, ds, P, Ex, hl, st, r, q, o, _⟩ := h
  exact ⟨R, μ, S, ds, P, fun _ _ => False, hl, st, r, q, o, fun _ _ _ _ _ _ _ _ _ z => z.elim⟩
end DD

end

section
set_option Elab.async false
set_option linter.all false
set_option autoImplicit false
set_option maxRecDepth 100000
set_option maxHeartbeats 2000000
/-! Dict displays over data. -/
namespace DD
open PySem PySem.Spec PyProof.Rows L2
abbrev PrL := List ((Nat × WE) × (Nat × WE))
def prC : PrL → Nat
  | [] => 0
  | p :: r => p.1.1 + (p.2.1 + prC r)
def wPrs : PrL → Rho → Cells → (List (D × D) → Cells → Prop) → EQ → Prop
  | [], _, S, P, _ => P [] S
  | p :: r, ρ, S, P, E => p.1.2 ρ S (fun a S1 => p.2.2 ρ S1 (fun b S2 => wPrs r ρ S2 (fun l S3 => P ((a, b) :: l) S3) E) E) E
def keysOf : List (D × D) → Option (List (Key × D))
  | [] => some []
  | (a, b) :: r => (kOf a).bind fun k => (keysOf r).map fun l => (k, b) :: l
def wDisp (prs : PrL) : WE := fun ρ S P E => wPrs prs ρ (S ++ [some (.dct [])]) (fun l S2 => ∃ kds, keysOf l = some kds ∧ kds.length ≤ 15 ∧ S2[S.length]? = some (some (.dct [])) ∧ P (.ref S.length) (S2.set S.length (some (.dct (mergeD [] kds))))) E
section
variable {X : Cx} {W : WX} {pos : Pos}
abbrev prT (X : Cx) (W : WX) (prs : PrL) : List (TE × TE) := prs.map fun p => (tE X.K X.mg W p.1.1 p.1.2, tE X.K X.mg W p.2.1 p.2.2)
abbrev DPs (X : Cx) (W : WX) (pos : Pos) (ks : List (Option Expr)) (vs : List Expr) (prs : PrL) : Prop := PPs X pos ks vs (prT X W prs)
theorem dps_nil : DPs X W pos [] [] [] := pps_nil
theorem dps_cons {k v : Expr} {ks : List (Option Expr)} {vs : List Expr} {c1 c2 : Nat} {w1 w2 : WE} {r : PrL} (hk : DE X W k c1 w1) (hv : DE X W v c2 w2) (hr : DPs X W pos ks vs r) : DPs X W pos (some k :: ks) (v :: vs) (((c1, w1), (c2, w2)) :: r) := pps_cons hk hv hr
inductive PairV (K : PySem.W.Frag) (mg : Str → Option Value) (μ : Mu) (lv : Addr → Prop) (H : Hp) : List (D × D) → List (V × V) → Prop
  | nil : PairV K mg μ lv H [] []
  | cons {a b : D} {u v : V} {l : List (D × D)} {m : List (V × V)} : Val K mg μ lv H a u → Val K mg μ lv H b v → PairV K mg μ lv H l m → PairV K mg μ lv H ((a, b) :: l) ((u, v) :: m)
theorem pairs_run : ∀ (prs : PrL) {R : Nat} {μ : Mu} {S : Cells} {H : Hp} {ρ : Rho} {σ : L2.St} {P : List (D × D) → Cells → Prop} {E : EQ} {Q : List (V × V) → Hp → Prop}, Sat X.K X.mg (R + prC prs) μ S H → EnvOk X.K X.mg μ S H ρ σ → wPrs prs ρ S P E →
    (∀ l S1 μ1 m H1, Ext μ S H μ1 S1 H1 → Sat X.K X.mg R μ1 S1 H1 → PairV X.K X.mg μ1 (Lv μ1 S1) H1 l m → P l S1 → Q m H1) → OutX X.K X.mg R μ S H E (fun cls d H' => W cls d σ H') → tPairs (prT X W prs) σ H Q
  | [], R, μ, S, H, ρ, σ, P, E, Q, s, e, p, o, x => o [] S μ [] H .refl s .nil p
  | pr :: r, R, μ, S, H, ρ, σ, P, E, Q, s, e, p, o, x => by
    refine tE_of (R := R + prC r + pr.2.1) (s.mono (by simp only [prC]; omega)) e p (fun a S1 μ1 u H1 x1 s1 e1 r1 h1 => ?_) (x.mono (by omega))
    refine tE_of (R := R + prC r) s1 e1 h1 (fun b S2 μ2 v H2 x2 s2 e2 r2 h2 => ?_) ((x.ext x1).mono (by omega))
    refine pairs_run r (R := R) s2 e2 h2 (fun l S3 μ3 m H3 x3 s3 r3 h3 => ?_) (x.ext (x1.trans x2))
    exact o _ S3 μ3 _ H3 (x1.trans (x2.trans x3)) s3 (.cons ((r1.ext x2).ext x3) (r2.ext x3) r3) h3
theorem pairV_keys {K : PySem.W.Frag} {mg : Str → Option Value} {μ : Mu} {lv : Addr → Prop} {H : Hp} : ∀ {l : List (D × D)} {m : List (V × V)} {kds : List (Key × D)}, PairV K mg μ lv H l m → keysOf l = some kds → ∃ kvs : List (Key × V), m = kvs.map (fun kv => (kV kv.1, kv.2)) ∧ ValK K mg μ lv H kds kvs
  | _, _, _, .nil, e => by cases e; exact ⟨[], rfl, .nil⟩
  | _, _, _, .cons ha hb t, e => by
    simp only [keysOf] at e
    obtain ⟨k, ek, e⟩ := Option.bind_eq_some_iff.mp e
    obtain ⟨l', el, e⟩ := Option.map_eq_some_iff.mp e
    subst e
    obtain ⟨kvs, rfl, rv⟩ := pairV_keys t el
    exact ⟨(k, _) :: kvs, by rw [List.map_cons, kOf_val ha ek], .cons hb rv⟩
theorem d_disp {keys : List (Option Expr)} {values : List Expr} {prs : PrL} (h : DPs X W pos keys values prs) (hall : keys.all (·.isSome) = true := by rfl) (hl : keys.length = values.length := by rfl) (h0 : keys ≠ [] := by exact List.cons_ne_nil _ _) (h15 : keys.length ≤ 15 := by decide) :
    DE X W (.Dict keys values pos) (prC prs) (wDisp prs) := by
  refine PE.imp (pe_disp h hall hl h0 h15) fun σ H Q ⟨R, μ, S, ρ, P, E, s, e, p, o, x⟩ => ?_
  intro q hq
  obtain ⟨x1, s1⟩ := s.cell hq (.dK []) (.dct []) ⟨[], rfl, .nil⟩
  refine pairs_run prs s1 (e.ext x1) p (fun l S2 μ2 m H2 x2 s2 r2 h2 => ?_) (x.ext x1)
  obtain ⟨kds, ek, hk, es, pp⟩ := h2
  obtain ⟨kvs, rfl, rv⟩ := pairV_keys r2 ek
  have had : μ2.ad[S.length]? = some q := x2.pre _ _ (by unfold Mu.push; rw [← s.len]; simp)
  obtain ⟨kvs0, e0, r0⟩ := s2.ok _ _ _ es had
  have : kvs0 = [] := by cases r0; rfl
  subst this
  obtain ⟨x3, s3⟩ := s2.put es had (.dK (mergeK [] kvs)) (.dct (mergeD [] kds)) ⟨_, rfl, valK_merge rv .nil⟩
  refine ⟨e0, kvs, rfl, by rw [← (valK_len rv).1]; exact hk, o _ _ _ _ _ (x1.trans (x2.trans x3)) s3 (.ref had) pp⟩
end
end DD

end

section
set_option Elab.async false
set_option linter.all false
set_option autoImplicit false
set_option maxRecDepth 100000
set_option maxHeartbeats 2000000
/-! list of a text. -/
namespace DD
open PySem PySem.Spec PyProof.Rows L2
section
variable {prog : Program} {w : World} {A : Around} {E : Value → Shared → Prop} {s : Shared}
theorem hint_text {x : Str} {t : Tok} {Q : Bool → Shared → Prop} (h : Q false s) : wpAny (model prog w) A (Builtin.List.listLengthHint (.str x t)) Q E s := by
  have hT : s.TypeIs (.str x t) "str" := typeIs_str s x t
  unfold Builtin.List.listLengthHint
  refine wpAny_bind (wpAny_specialOf hT F.slot_str_len.lookup ?_)
  generalize hid : ("str.__len__" : String) = id0
  wp_delta
  rw [show splitId id0 = some ("str", "__len__") from by subst hid; decide +kernel]
  subst hid
  refine wpAny_bind (wpAny_isInstance (T := "str") (b := true) hT (by rw [isSubtype_type]; kernel_rfl) ?_)
  refine wpAny_ite_split (fun hab => absurd hab (by decide)) (fun _ => ?_)
  refine wpAny_ite_split (fun _ => ?_) (fun hab => absurd (by decide +kernel) hab)
  exact wpAny_bind (wpAny_typeOf hT (wpAny_pure h))
theorem extend_text {R : Result → Shared → Prop} (hh : A.handled = none) (x : Str) (t : Tok) (S : Addr) (res : Value) (c₀ : Nat) (hS : s.heap.get? S = some { cls := .type "list", data := .seq #[] c₀ })
    (hR : ∀ h' tk acc' c', (∀ b o, b ≠ S → s.heap.get? b = some o → h'.get? b = some o) → h'.get? S = some { cls := .type "list", dict := none, data := .seq acc' c', slots := #[] } → ItemsOf (SignAt x) acc' x.cps.size → R (.ok (.ret res)) { s with heap := h', toks := tk })
    (hn : x.cps.size ≤ sizeLine) :
    wpAny (model prog w) A.in1 (Builtin.List.listExtendWith (.ref S) (.str x t) res)
      (fun fin s' => match fin with | .done f => R (.ok f) s' | .again c' => c'.quiet = true ∧ codeAny (model prog w) A c' R s') (fun e s' => R (.error e) s') s := by
  have hSI : S ≠ s.heap.objs.size := Nat.ne_of_lt (Heap.lt_size hS)
  have hSf : S ∉ [s.heap.objs.size] := fun hm => hSI (List.mem_singleton.mp hm)
  unfold Builtin.List.listExtendWith
  refine wpAny_bind (wpAny_typeOf (T := "str") (v := .str x t) (typeIs_str s x t) ?_)
  have h1 : Builtin.List.listSameRef (.ref S) (.str x t) = false := rfl
  have h2 : (Value.type "str" == Value.type "list") = false := by decide
  have h3 : (Value.type "str" == Value.type "tuple") = false := by decide
  simp only [h1, h2, h3, Bool.or_false, Bool.false_eq_true, if_false]
  have fin : ∀ {h' : Heap} {tk : Nat} {acc' : Array Value} {c' : Nat} {ob : Obj}, (∀ b o, b ∉ [S, s.heap.objs.size] → (s.heap.push ob).get? b = some o → h'.get? b = some o) → h'.get? S = some { cls := .type "list", dict := none, data := .seq acc' c', slots := #[] } → ItemsOf (SignAt x) acc' x.cps.size → R (.ok (.ret res)) { s with heap := h', toks := tk } := fun {h' tk acc' c' ob} kp hS' hacc =>
    hR h' tk acc' c' (fun b o hb e => kp b o (fun hm => by
      rcases List.mem_cons.mp hm with e' | hm
      · exact hb e'
      · exact absurd (Heap.lt_size e) (by rw [List.mem_singleton.mp hm]; exact Nat.lt_irrefl _)) (Heap.get?_push_of_some _ e)) hS' hacc
  cases ha : x.cps.all (· < 128) with
  | false =>
    refine wpAny_bind (wpAny_pyIter_wide ha ?_)
    refine wpAny_bind (wpAny_holding (hint_text ?_))
    rw [if_neg (by first | decide | decide +kernel)]
    have W := Walks.strWide (prog := prog) (w := w) (A := A.in1) hh s.heap.objs.size x t
    have hst : (s.heap.push { cls := .type "str_iterator", data := .fields #[.str x t, .int 0 0] }).IsStrIter s.heap.objs.size "str_iterator" x t 0 := ⟨_, Heap.get?_push_size _ rfl, rfl, rfl⟩
    refine wpAny_pure ⟨plainId_quiet PySem.F.plain_extend_loop _, codeAny_extend_loopS W.toS hn _ hSf _ x.cps.size 0 _ _ _ rfl (Nat.zero_le _) hst (Heap.get?_push_of_some _ hS) (ItemsOf.nil _) fun s' acc' c' hm hS' hacc => ?_⟩
    rw [Moved.eq_with hm]
    exact fin hm.heap hS' hacc
  | true =>
    refine wpAny_bind (wpAny_pyIter_ascii ha ?_)
    refine wpAny_bind (wpAny_holding (hint_text ?_))
    rw [if_neg (by first | decide | decide +kernel)]
    have W := Walks.strAscii (prog := prog) (w := w) (A := A.in1) hh s.heap.objs.size x t
    have hst : (s.heap.push { cls := .type "str_ascii_iterator", data := .fields #[.str x t, .int 0 0] }).IsStrIter s.heap.objs.size "str_ascii_iterator" x t 0 := ⟨_, Heap.get?_push_size _ rfl, rfl, rfl⟩
    refine wpAny_pure ⟨plainId_quiet PySem.F.plain_extend_loop _, codeAny_extend_loopS W.toS hn _ hSf _ x.cps.size 0 _ _ _ rfl (Nat.zero_le _) hst (Heap.get?_push_of_some _ hS) (ItemsOf.nil _) fun s' acc' c' hm hS' hacc => ?_⟩
    rw [Moved.eq_with hm]
    exact fin hm.heap hS' hacc
theorem init_text {R : Result → Shared → Prop} (hh : A.handled = none) (x : Str) (t : Tok) (S : Addr) (hS : s.heap.get? S = some { cls := .type "list", data := .seq #[] })
    (hR : ∀ h' tk acc' c', (∀ b o, b ≠ S → s.heap.get? b = some o → h'.get? b = some o) → h'.get? S = some { cls := .type "list", dict := none, data := .seq acc' c', slots := #[] } → ItemsOf (SignAt x) acc' x.cps.size → R (.ok (.ret .none)) { s with heap := h', toks := tk })
    (hn : x.cps.size ≤ sizeLine) :
    wpAny (model prog w) A.in1 (Builtin.«list.__init__» ⟨[.ref S, .str x t], []⟩)
      (fun fin s' => match fin with | .done f => R (.ok f) s' | .again c' => c'.quiet = true ∧ codeAny (model prog w) A c' R s') (fun e s' => R (.error e) s') s := by
  show wpAny _ _ (do let old ← Builtin.List.listItems (.ref S); Builtin.List.listUpdate (.ref S) (fun _ => #[]); letGo old.toList.reverse; Builtin.List.listExtendWith (.ref S) (.str x t) .none) _ _ s
  refine wpAny_bind ?_
  unfold Builtin.List.listItems
  refine wpAny_bind (wpAny_seqItems hS rfl (wpAny_pure ?_))
  show wpAny _ _ (updateSeq S (fun _ => #[]) >>= fun _ => letGo (#[] : Array Value).toList.reverse >>= fun _ => Builtin.List.listExtendWith (.ref S) (.str x t) .none) _ _ s
  refine wpAny_bind (wpAny_updateSeq hS rfl ?_)
  have hS₂ := Heap.get?_update_self (Obj.mapSeq (fun _ => (#[] : Array Value))) hS rfl
  refine wpAny_bind (wpAny_letGo ?_)
  refine extend_text hh x t S .none _ hS₂ (fun h' tk acc' c' hk hS' hacc => ?_) hn
  exact hR h' tk acc' c' (fun b o hb e => hk b o hb ((Heap.get?_update_other _ _ (Ne.symm hb)).trans e)) hS' hacc
theorem call_listText {x : Str} {t : Tok} {Q : Value → Shared → Prop} (hh : A.handled = none) (hn : x.cps.size ≤ sizeLine)
    (hQ : ∀ h' tk acc' c', (∀ b o, s.heap.get? b = some o → h'.get? b = some o) → h'.get? s.heap.objs.size = some { cls := .type "list", dict := none, data := .seq acc' c', slots := #[] } → ItemsOf (SignAt x) acc' x.cps.size → Q (.ref s.heap.objs.size) { s with heap := h', toks := tk }) :
    wpAny (model prog w) A (call (.type "list") [.str x t]) Q E s := by
  refine callType_codes (Q₁ := fun obj s₁ => obj = .ref s.heap.objs.size ∧ s₁ = { s with heap := s.heap.push { cls := .type "list", data := .seq #[] } }) PySem.F.called_list (PySem.F.typeCall_list_1 _) PySem.F.entry_list_init
    (code_list_new _ ⟨rfl, rfl⟩) fun obj s₁ h₁ => ?_
  obtain ⟨rfl, rfl⟩ := h₁
  have hS : (s.heap.push { cls := .type "list", data := .seq #[] }).get? s.heap.objs.size = some { cls := .type "list", data := .seq #[] } := Heap.get?_push_size _ rfl
  refine ⟨⟨_, hS, rfl⟩, PySem.F.args_list_init_2 _ _, init_text (A := A.in1) hh x t _ hS (fun h' tk acc' c' hk hS' hacc => ?_) hn⟩
  exact ⟨rfl, hQ h' tk acc' c' (fun b o e => hk b o (Nat.ne_of_lt (Heap.lt_size e)) (Heap.get?_push_of_some _ e)) hS' hacc⟩
end
/-- list(text) -/
def rLstS : List V → Hp → VK → Prop := fun xs H Q => ∃ x : List Nat, xs = [.str (S' x)] ∧ x.length ≤ sizeLine ∧ ∀ q, H q = none → Q (.ref q) (upd H q (.lst (x.map fun c => V.str (S' [c]))))
theorem call_lstS {X : Cx} (hc : X.calm = true) : CallR X (.type "list") rLstS := by
  intro pins s σ H xs us Q I r ⟨x, ex, hz, q⟩
  subst ex
  obtain ⟨u, eu, t, rfl⟩ := vals1 r
  subst eu
  have hsz : (S' x).cps.size = x.length := by simp [S']
  refine call_listText (I.ok.hd hc) (by rw [hsz]; exact hz) fun h' tk acc c' hk e hi => ?_
  refine ⟨.ref s.heap.objs.size, upd H s.heap.objs.size (.lst (x.map fun c => V.str (S' [c]))), I.laid hk (Nat.le_refl _) ⟨by rw [List.length_map]; exact hz, acc.toList, c', ?_, by rw [Array.toArray_toList]; exact e⟩, rfl, q _ (I.hok.fresh (Nat.le_refl _))⟩
  refine vals_of_idx _ _ (by rw [List.length_map, Array.length_toList, hi.1, hsz]) fun j u hj => ?_
  obtain ⟨c, t', hc, rfl⟩ := hi.2 j u (by rw [← Array.getElem?_toList]; exact hj)
  have hc' : x[j]? = some c := by simpa [S'] using hc
  exact ⟨V.str (S' [c]), by rw [List.getElem?_map, hc']; rfl, ⟨_, rfl⟩⟩
section
variable {X : Cx} {W : WX} {K : PySem.W.Frag} {mg : Str → Option Value} {a : Expr} {c1 : Nat} {pos p : Pos} {ws : WA}
/-- list(x) of a list, a tuple, a dict, a text -/
def gList4 (m : Bool) (ds : List D) (S : Cells) (P : Q1) : Prop := match ds with
  | [.str x] => x.length ≤ sizeLine ∧ mkL m (x.map fun c => D.str [c]) S P
  | ds => gList3 m ds S P
theorem valL_signs {μ : Mu} {lv : Addr → Prop} {H : Hp} : ∀ x : List Nat, ValL K mg μ lv H (x.map fun c => D.str [c]) (x.map fun c => V.str (S' [c]))
  | [] => .nil
  | c :: x => .cons (.str [c]) (valL_signs x)
theorem cd_list4 (m : Bool) : CallD K mg (fun xs H Q => rLstS xs H Q ∨ ((∃ p ys, xs = [.ref p] ∧ (SqL K H p ys ∨ SqT K H p ys) ∧ ∀ l, H l = none → Q (.ref l) (upd H l (.lst ys))) ∨ ∃ (a : Addr) (kvs : List (Key × V)), xs = [.ref a] ∧ Rd H a (.dK kvs) ∧ ∀ p, H p = none → Q (.ref p) (upd H p (.lst (kvs.map fun kv => kV kv.1))))) (gList4 m) := by
  intro R μ S H ds vs P Q s r h o
  unfold gList4 at h
  split at h
  · obtain ⟨v, rfl, rv⟩ := valL1 r
    cases rv
    exact .inl ⟨_, rfl, h.1, fun l n => o.mk s (valL_signs _) n h.2⟩
  · exact .inr (cd_list3 m R μ S H _ _ P Q s r h o)
theorem d_list4 (m : Bool) (hc : X.calm = true) (hm : X.mg "list" = none) {es : List Expr} (ha : DA X W (a :: es) c1 ws) (hg : Gl X "list" := by rfl)
    (he : starEach (a :: es) X.env = (false, eval a X.env) :: starEach es X.env := by rfl) (hpl : (backTo pos (starEach es X.env)).any (·.1) = false := by rfl) : DE X W (.Call (.Name "list" p) (a :: es) [] pos) c1 (wB (gList4 m) ws) :=
  d_callTy ((call_lstS hc).or (call_list_of.or (call_listD hc))) (cd_list4 m) hm ha (by decide +kernel) hg (by decide) (by decide) he hpl
end
end DD

end

section
set_option Elab.async false
set_option linter.all false
set_option autoImplicit false
set_option maxRecDepth 100000
set_option maxHeartbeats 2000000
/-! Plain facts that many laws use. -/
namespace DD
open PySem L2
abbrev tyL : List String := ["NoneType", "bool", "int", "str", "tuple", "list", "dict"]
theorem tyN_mem {S : Cells} {d : D} {n : String} (h : tyN S d = some n) : n ∈ tyL := by
  unfold tyN at h
  split at h <;> (try cases h) <;> (try decide)
  split at h <;> (try cases h) <;> decide
theorem isTy_tab : (tyL.all fun n => ((isTy n "int" && !isTy n "bool") == (n == "int")) && (isTy n "str" == (n == "str")) && (isTy n "list" == (n == "list")) && (isTy n "tuple" == (n == "tuple")) && (isTy n "dict" == (n == "dict")) && (isTy n "bool" == (n == "bool")) && (isTy n "int" == (n == "int" || n == "bool"))) = true := by decide
theorem isTy_of {n : String} (h : n ∈ tyL) : (isTy n "int" && !isTy n "bool") = (n == "int") ∧ isTy n "str" = (n == "str") ∧ isTy n "list" = (n == "list") ∧ isTy n "tuple" = (n == "tuple") ∧ isTy n "dict" = (n == "dict") ∧ isTy n "bool" = (n == "bool") ∧ isTy n "int" = (n == "int" || n == "bool") := by
  have := List.all_eq_true.mp isTy_tab n h
  simpa only [Bool.and_eq_true, beq_iff_eq, and_assoc] using this
/-- an int between two -/
def inR (d : D) (a b : Int) : Bool := match d with
  | .int i => decide (a ≤ i) && decide (i ≤ b)
  | _ => false
theorem tyN_int {S : Cells} {d : D} : tyN S d = some "int" ↔ ∃ i, d = .int i := by
  constructor
  · intro h
    cases d with
    | int i => exact ⟨_, rfl⟩
    | ref n =>
      simp only [tyN] at h
      split at h <;> simp at h
    | _ => simp [tyN] at h
  · rintro ⟨i, rfl⟩; rfl
theorem inR_no {S : Cells} {d : D} {n : String} {a b : Int} (h : tyN S d = some n) (hn : (n == "int") = false) : inR d a b = false := by
  unfold inR
  split
  · simp only [tyN, Option.some.injEq] at h
    subst h
    simp at hn
  · rfl
/-! ### loops -/
theorem loopC_inv {body : D → Cells → (Option D → Cells → Prop) → Prop} {C : Cells → Prop} (I : List D → List D → Cells → Prop) {P : List D → Cells → Prop}
    (step : ∀ x xs acc S K, I (x :: xs) acc S → (∀ r S1, I xs (acc ++ r.toList) S1 → K r S1) → C S ∧ body x S K) (fin : ∀ acc S, I [] acc S → C S ∧ P acc S) : ∀ (xs acc : List D) (S : Cells), I xs acc S → loopC body C xs acc S P
  | [], acc, S, h => fin acc S h
  | x :: xs, acc, S, h => step x xs acc S _ h fun r S1 h1 => loopC_inv I step fin xs _ S1 h1
theorem loopC_pure {body : D → Cells → (Option D → Cells → Prop) → Prop} {C : Cells → Prop} {P : List D → Cells → Prop} {S : Cells} (f : D → Option D) (hC : C S) : ∀ (xs acc : List D), (∀ x ∈ xs, ∀ Q, Q (f x) S → body x S Q) → P (acc ++ xs.filterMap f) S → loopC body C xs acc S P
  | [], acc, _, p => ⟨hC, by simpa using p⟩
  | x :: xs, acc, h, p => by
    refine ⟨hC, h x List.mem_cons_self _ (loopC_pure f hC xs _ (fun y hy => h y (List.mem_cons_of_mem _ hy)) ?_)⟩
    cases e : f x with
    | none => simpa [List.filterMap_cons, e] using p
    | some d => simpa [List.filterMap_cons, e] using p
theorem loopA_pure {body : D → Cells → (Option D → Cells → Prop) → Prop} {C : Cells → Prop} {P : List D → Cells → Prop} {S : Cells} (f : D → Option D) (hC : C S) : ∀ (xs acc : List D), (∀ x ∈ xs, ∀ Q, Q (f x) S → body x S Q) → acc.length + xs.length ≤ sizeLine → P (acc ++ xs.filterMap f) S → loopA body C xs acc S P
  | [], acc, _, _, p => ⟨hC, by simpa using p⟩
  | x :: xs, acc, h, hl, p => by
    rw [List.length_cons] at hl
    refine ⟨hC, h x List.mem_cons_self _ ⟨by omega, loopA_pure f hC xs _ (fun y hy => h y (List.mem_cons_of_mem _ hy)) ?_ ?_⟩⟩
    · rw [List.length_append]
      cases f x <;> simp <;> omega
    · cases e : f x with
      | none => simpa [List.filterMap_cons, e] using p
      | some d => simpa [List.filterMap_cons, e] using p
theorem loopO_pure {body : D → List D → Cells → (List D → Cells → Prop) → Prop} {C : Cells → Prop} {P : List D → Cells → Prop} {S : Cells} (f : D → List D) (hC : C S) : ∀ (xs acc : List D), (∀ x ∈ xs, ∀ acc Q, acc.length + (f x).length ≤ sizeLine → Q (acc ++ f x) S → body x acc S Q) → acc.length + (xs.flatMap f).length ≤ sizeLine → P (acc ++ xs.flatMap f) S → loopO body C xs acc S P
  | [], acc, _, _, p => ⟨hC, by simpa using p⟩
  | x :: xs, acc, h, hl, p => by
    rw [List.flatMap_cons, List.length_append] at hl
    refine ⟨hC, h x List.mem_cons_self acc _ (by omega) (loopO_pure f hC xs _ (fun y hy => h y (List.mem_cons_of_mem _ hy)) ?_ ?_)⟩
    · rw [List.length_append]; omega
    · simpa [List.flatMap_cons] using p
theorem loopF_inv {body : D → Rho → Cells → EndsD → Prop} {C : Cells → Prop} {P : EndsD} (I : List D → Rho → Cells → Prop)
    (step : ∀ x xs ρ S (K : Rho → Cells → Prop), I (x :: xs) ρ S → (∀ ρ1 S1, I xs ρ1 S1 → K ρ1 S1) → C S ∧ body x ρ S { P with nx := K, ct := K, bk := P.nx }) (fin : ∀ ρ S, I [] ρ S → C S ∧ P.nx ρ S) : ∀ (xs : List D) (ρ : Rho) (S : Cells), I xs ρ S → loopF body C xs ρ S P
  | [], ρ, S, h => fin ρ S h
  | x :: xs, ρ, S, h => by
    obtain ⟨h1, h2⟩ := step x xs ρ S (fun ρ1 S1 => loopF body C xs ρ1 S1 P) h fun ρ1 S1 h1 => loopF_inv I step fin xs ρ1 S1 h1
    exact ⟨h1, h2⟩
/-! ### texts -/
theorem sIx_hi (n : Nat) (l : Int) (h : 0 ≤ l) : HT.sIx n n (some l) = min l.toNat n := by
  unfold HT.sIx
  simp
  omega
end DD
namespace DD
open PySem L2
/-! ### words over the alphabet -/
def abL (l : Int) : List Nat := cutD [97, 98] none (some l)
theorem abL_le (l : Int) : (abL l).length ≤ 2 := by
  unfold abL cutD
  simp
  omega
def strOk (d : D) : Prop := ∀ s, d = .str s → s.length ≤ sizeLine
def wordOk (l : Int) : D → Bool
  | .str s => decide (s.length ≤ 130) && s.all fun c => decide (c ∈ abL l)
  | _ => false
end DD
namespace DD
open PySem L2
theorem tyN_str {S : Cells} {d : D} : tyN S d = some "str" ↔ ∃ s, d = .str s := by
  constructor
  · intro h
    cases d with
    | str s => exact ⟨_, rfl⟩
    | ref n =>
      simp only [tyN] at h
      split at h <;> simp at h
    | _ => simp [tyN] at h
  · rintro ⟨i, rfl⟩; rfl
theorem wordOk_no {S : Cells} {d : D} {n : String} {l : Int} (h : tyN S d = some n) (hn : n ≠ "str") : wordOk l d = false := by
  unfold wordOk
  split
  · simp only [tyN, Option.some.injEq] at h
    exact absurd h.symm hn
  · rfl
end DD
namespace DD
open PySem L2
def signIn (ab : List Nat) : D → Bool
  | .str [c] => decide (c ∈ ab)
  | _ => false
theorem boolsOf_signs (ab : List Nat) : ∀ s : List Nat, boolsOf (s.filterMap ((fun d => some (D.bl (signIn ab d))) ∘ fun c => D.str [c])) = some (s.map fun c => decide (c ∈ ab))
  | [] => rfl
  | c :: s => by
    have := boolsOf_signs ab s
    simp only [List.filterMap_cons, Function.comp, signIn, boolsOf, List.map_cons] at this ⊢
    rw [this]
    rfl
end DD
namespace DD
open PySem L2
theorem tm_bool : ("bool" ∈ ["bool", "int", "str", "tuple", "list", "dict"]) = True := by simp
theorem tm_int : ("int" ∈ ["bool", "int", "str", "tuple", "list", "dict"]) = True := by simp
theorem tm_str : ("str" ∈ ["bool", "int", "str", "tuple", "list", "dict"]) = True := by simp
theorem tm_tuple : ("tuple" ∈ ["bool", "int", "str", "tuple", "list", "dict"]) = True := by simp
theorem tm_list : ("list" ∈ ["bool", "int", "str", "tuple", "list", "dict"]) = True := by simp
theorem tm_dict : ("dict" ∈ ["bool", "int", "str", "tuple", "list", "dict"]) = True := by simp
theorem ite_t {α : Prop} {a b : α} : True := trivial
end DD
namespace DD
open PySem L2
theorem inR_int {d : D} {a b : Int} (h : DD.inR d a b = true) : ∃ i, d = .int i ∧ a ≤ i ∧ i ≤ b := by
  unfold DD.inR at h
  split at h
  · simp at h
    exact ⟨_, rfl, h⟩
  · cases h
def keyD (s : List Nat) : D := .tup [.int (s.length : Int), .str s]
end DD
namespace DD
open PySem L2
/-- a new list, in a new cell -/
def newL (S : Cells) (ys : List D) (P : Q1) : Prop := ∀ (T : Cells) (n : Nat), S.length ≤ n → (S ++ T)[n]? = some (some (.lst ys)) → P (.ref n) (S ++ T)
theorem strsOf_map : ∀ {xs : List D} {zs : List (List Nat)}, strsOf xs = some zs → xs = zs.map D.str
  | [], zs, h => by simp [strsOf] at h; subst h; rfl
  | d :: xs, zs, h => by
    cases d with
    | str s =>
      simp only [strsOf] at h
      obtain ⟨ys, h1, h2⟩ := Option.map_eq_some_iff.mp h
      subst h2
      rw [strsOf_map h1]
      rfl
    | _ => simp [strsOf] at h
theorem strsOf_str : ∀ zs : List (List Nat), strsOf (zs.map D.str) = some zs
  | [] => rfl
  | z :: zs => by simp [strsOf, strsOf_str zs]
theorem srcD_seqL {S : Cells} {d : D} {xs : List D} (h : seqL S d = some xs) : ∃ C, srcD S d = some (xs, C) ∧ C S := by
  unfold seqL at h
  split at h
  · cases h; exact ⟨_, rfl, trivial⟩
  · split at h
    · rename_i q
      cases h
      exact ⟨_, by simp only [srcD, q]; rfl, q⟩
    · cases h
  · cases h
/-- the texts, each once, in the order in which they come first -/
def dedup (zs : List (List Nat)) : List (List Nat) := zs.foldl (fun acc z => if z ∈ acc then acc else acc ++ [z]) []
def trues (zs : List (List Nat)) : List (Key × D) := zs.map fun z => (Sum.inr (S' z), D.bl true)
theorem put_trues (acc : List (List Nat)) (z : List Nat) : putD (trues acc) (Sum.inr (S' z)) (.bl true) = trues (if z ∈ acc then acc else acc ++ [z]) := by
  have hany : ((trues acc).any fun kd => decide (kd.1 = Sum.inr (S' z))) = decide (z ∈ acc) := by
    rw [Bool.eq_iff_iff]
    simp [trues, S'_inj]
  unfold putD
  rw [hany]
  by_cases h : z ∈ acc
  · rw [decide_eq_true h, if_pos rfl, if_pos h]
    unfold trues
    rw [List.map_map]
    apply List.map_congr_left
    intro y hy
    simp [S'_inj]
  · rw [decide_eq_false h, if_neg Bool.false_ne_true, if_neg h]
    simp [trues]
theorem merge_trues (zs : List (List Nat)) : mergeD [] (trues zs) = trues (dedup zs) := by
  have key : ∀ (zs acc : List (List Nat)), mergeD (trues acc) (trues zs) = trues (zs.foldl (fun acc z => if z ∈ acc then acc else acc ++ [z]) acc) := by
    intro zs
    induction zs with
    | nil => intro acc; rfl
    | cons z zs ih =>
      intro acc
      show mergeD (putD (trues acc) (Sum.inr (S' z)) (.bl true)) (trues zs) = _
      rw [put_trues, ih]
      rfl
  exact key zs []
theorem trues_keys (zs : List (List Nat)) : (trues zs).map (fun kd => kD kd.1) = zs.map D.str := by
  unfold trues
  rw [List.map_map]
  apply List.map_congr_left
  intro z _
  simp [kD]
theorem pairs_trues : ∀ zs : List (List Nat), pairsOf (zs.map fun z => D.tup [.str z, .bl true]) = some (trues zs)
  | [] => rfl
  | z :: zs => by simp [pairsOf, kOf, pairs_trues zs, trues]
theorem dedup_spec (zs : List (List Nat)) : (dedup zs).Nodup ∧ (∀ z, z ∈ dedup zs ↔ z ∈ zs) ∧ (dedup zs).length ≤ zs.length := by
  have key : ∀ (zs acc : List (List Nat)), acc.Nodup → (zs.foldl (fun acc z => if z ∈ acc then acc else acc ++ [z]) acc).Nodup ∧ (∀ z, z ∈ zs.foldl (fun acc z => if z ∈ acc then acc else acc ++ [z]) acc ↔ z ∈ acc ∨ z ∈ zs) ∧ (zs.foldl (fun acc z => if z ∈ acc then acc else acc ++ [z]) acc).length ≤ acc.length + zs.length := by
    intro zs
    induction zs with
    | nil => intro acc h; simp [h]
    | cons z zs ih =>
      intro acc h
      rw [List.foldl_cons]
      by_cases hz : z ∈ acc
      · rw [if_pos hz]
        obtain ⟨h1, h2, h3⟩ := ih acc h
        refine ⟨h1, fun y => ?_, by rw [List.length_cons]; omega⟩
        rw [h2, List.mem_cons]
        constructor
        · rintro (h | h)
          · exact .inl h
          · exact .inr (.inr h)
        · rintro (h | h | h)
          · exact .inl h
          · subst h; exact .inl hz
          · exact .inr h
      · rw [if_neg hz]
        obtain ⟨h1, h2, h3⟩ := ih (acc ++ [z]) (by
          rw [List.nodup_append]
          exact ⟨h, by simp, fun a ha b hb => by simp at hb; subst hb; exact fun e => hz (e ▸ ha)⟩)
        refine ⟨h1, fun y => ?_, by rw [List.length_append] at h3; simp at h3 ⊢; omega⟩
        rw [h2]
        simp [or_assoc]
  have := key zs [] List.nodup_nil
  simpa [dedup] using this
theorem dedup_mem {zs : List (List Nat)} {z : List Nat} : z ∈ dedup zs ↔ z ∈ zs := (dedup_spec zs).2.1 z
theorem dedup_len (zs : List (List Nat)) : (dedup zs).length ≤ zs.length := (dedup_spec zs).2.2
end DD
namespace DD
open PySem L2
theorem fm_some {α β : Type} (f : α → β) (xs : List α) : xs.filterMap (fun x => some (f x)) = xs.map f := by
  induction xs with
  | nil => rfl
  | cons x xs ih => simp [List.filterMap_cons, ih]
end DD
namespace DD
open PySem L2
/-- the words of a length -/
def ofLen (l : Int) : Nat → List (List Nat)
  | 0 => [[]]
  | n + 1 => (ofLen l n).flatMap fun w => (abL l).map fun c => w ++ [c]
theorem ofLen_len (l : Int) : ∀ n, (ofLen l n).length ≤ 2 ^ n
  | 0 => by simp [ofLen]
  | n + 1 => by
    have h := ofLen_len l n
    have h2 := abL_le l
    have e : (ofLen l (n + 1)).length = (ofLen l n).length * (abL l).length := by
      show ((ofLen l n).flatMap fun w => (abL l).map fun c => w ++ [c]).length = _
      rw [List.length_flatMap]
      simp [List.map_const', List.sum_replicate_nat]
    rw [e, Nat.pow_succ]
    exact Nat.mul_le_mul h h2
theorem ofLen_each (l : Int) : ∀ n, ∀ w ∈ ofLen l n, w.length = n
  | 0, w, h => by simp [ofLen] at h; simp [h]
  | n + 1, w, h => by
    unfold ofLen at h
    obtain ⟨v, hv, hw⟩ := List.mem_flatMap.mp h
    obtain ⟨c, _, rfl⟩ := List.mem_map.mp hw
    simp [ofLen_each l n v hv]
end DD
namespace DD
open PySem L2
/-- a word with each sign behind it -/
def longerD (l : Int) : D → List D
  | .str s => (abL l).map fun c => .str (s ++ [c])
  | _ => []
theorem longer_map (l : Int) : ∀ zs : List (List Nat), (zs.map D.str).flatMap (longerD l) = (zs.flatMap fun w => (abL l).map fun c => w ++ [c]).map D.str
  | [] => rfl
  | z :: zs => by
    rw [List.map_cons, List.flatMap_cons, List.flatMap_cons, List.map_append, longer_map l zs]
    congr 1
    simp [longerD]
end DD
namespace DD
open PySem L2
def wordsTo (l : Int) (n : Nat) : List (List Nat) := (List.range (n + 1)).flatMap (ofLen l)
theorem upTo_len (l : Int) (n : Nat) : (wordsTo l n).length ≤ 2 ^ (n + 1) := by
  have key : ∀ n, ((List.range n).flatMap (ofLen l)).length + 1 ≤ 2 ^ n := by
    intro n
    induction n with
    | zero => simp
    | succ n ih =>
      rw [List.range_succ, List.flatMap_append, List.length_append, Nat.pow_succ]
      have := ofLen_len l n
      rw [List.flatMap_cons, List.flatMap_nil, List.append_nil]
      omega
  have := key (n + 1)
  unfold wordsTo
  omega
theorem upTo_rng (l : Int) (n k : Nat) (h : k = n + 1) : (rangeD 0 k).flatMap (fun k => match k with | .int k => (ofLen l k.toNat).map D.str | _ => []) = (wordsTo l n).map D.str := by
  subst h
  unfold rangeD wordsTo
  rw [List.flatMap_map, List.map_flatMap]
  congr 1
  funext k
  simp
theorem wordOk_str {l : Int} {d : D} (h : wordOk l d = true) : ∃ s, d = .str s ∧ s.length ≤ 130 ∧ ∀ c ∈ s, c ∈ abL l := by
  unfold wordOk at h
  split at h
  · simp at h
    exact ⟨_, rfl, h.1, h.2⟩
  · cases h
theorem abL_sign {l : Int} {c : Nat} (h : c ∈ abL l) : c = 97 ∨ c = 98 := by
  unfold abL cutD at h
  have := List.mem_of_mem_drop (List.mem_of_mem_take h)
  simpa using this
theorem key_pl {l : Int} {s : List Nat} (h : ∀ c ∈ s, c ∈ abL l) : (keyD s).pl = true := by
  have : s.all (· < 0x110000) = true := by
    rw [List.all_eq_true]
    intro c hc
    rcases abL_sign (h c hc) with rfl | rfl <;> decide
  simp [keyD, D.pl, plL, this]
theorem key_lt {S : Cells} {l : Int} {s t : List Nat} (hs : ∀ c ∈ s, c ∈ abL l) (ht : ∀ c ∈ t, c ∈ abL l) : ltR S (keyD s) (keyD t) = some (dLt (keyD s) (keyD t)) := by
  have e1 := key_pl hs
  have e2 := key_pl ht
  have ha : dAlike (keyD s) (keyD t) = true := by simp [dAlike, keyD, D.py, pyL, PySem.W.alike, PySem.W.alikeAll]
  have d1 : (keyD s).dep ≤ 64 := by simp [keyD, D.dep, depL]
  have d2 : (keyD t).dep ≤ 64 := by simp [keyD, D.dep, depL]
  show (if (res S (keyD s)).pl = true ∧ (res S (keyD t)).pl = true ∧ (res S (keyD s)).dep ≤ 64 ∧ (res S (keyD t)).dep ≤ 64 ∧ dAlike (res S (keyD s)) (res S (keyD t)) = true ∧ (res S (keyD s)).seq = true then some (dLt (res S (keyD s)) (res S (keyD t))) else none) = _
  rw [if_pos]
  · rfl
  · exact ⟨e1, e2, d1, d2, ha, rfl⟩
def begD (s : List Nat) : List D := (List.range (s.length + 1)).map fun k => D.str (s.take k)
def endD (s : List Nat) : List D := (List.range (s.length + 1)).map fun k => D.str (s.drop (s.length - k))
theorem cut_take (s : List Nat) (k : Int) (h : 0 ≤ k) : cutD s none (some k) = s.take k.toNat := by
  unfold cutD
  rw [sIx_hi _ _ h]
  simp [HT.sIx]
theorem cut_drop (s : List Nat) (k i : Int) (h : i = (s.length : Int) - k) (h0 : 0 ≤ i) : cutD s (some i) none = s.drop i.toNat := by
  unfold cutD
  have e : HT.sIx s.length 0 (some i) = min i.toNat s.length := by
    unfold HT.sIx
    simp
    omega
  rw [e]
  simp [HT.sIx]
  rw [List.take_of_length_le (by simp)]
  by_cases hl : i.toNat ≤ s.length
  · rw [Nat.min_eq_left hl]
  · rw [Nat.min_eq_right (by omega), List.drop_of_length_le (by omega), List.drop_of_length_le (by omega)]
def begF (s : List Nat) : D → Option D
  | .int k => some (.str (s.take k.toNat))
  | _ => none
def endF (s : List Nat) : D → Option D
  | .int k => some (.str (s.drop (s.length - k.toNat)))
  | _ => none
theorem beg_rng (s : List Nat) (n : Nat) (h : n = s.length + 1) : (rangeD 0 n).filterMap (begF s) = begD s := by
  subst h
  unfold rangeD begD
  rw [List.filterMap_map, ← fm_some]
  congr 1
  funext k
  simp [begF, endF]
theorem end_rng (s : List Nat) (n : Nat) (h : n = s.length + 1) : (rangeD 0 n).filterMap (endF s) = endD s := by
  subst h
  unfold rangeD endD
  rw [List.filterMap_map, ← fm_some]
  congr 1
  funext k
  simp [begF, endF]
end DD
namespace DD
open PySem L2
theorem ix_of {S : Cells} {n : Nat} {xs : List D} {k : Int} {d : D} {P : Q1} (h : S[n]? = some (some (.lst xs))) (e : atI xs k = some d) (p : P d S) : gIx3 (.ref n) (.int k) S P := by
  unfold gIx3
  simp only [dctOf, h]
  exact ⟨xs, d, by simp only [seqA, seqL, h], e, p⟩
theorem ix_lst {S : Cells} {xs : List D} {k : Int} {d : D} {P : Q1} (e : atI xs k = some d) (p : P d S) : gIx3 (.lst xs) (.int k) S P := by
  unfold gIx3
  simp only [dctOf]
  exact ⟨xs, d, rfl, e, p⟩
theorem ix_tup {S : Cells} {xs : List D} {k : Int} {d : D} {P : Q1} (e : atI xs k = some d) (p : P d S) : gIx3 (.tup xs) (.int k) S P := by
  unfold gIx3
  simp only [dctOf]
  exact ⟨xs, d, rfl, e, p⟩
theorem put_of {S : Cells} {n : Nat} {xs : List D} {k : Int} {j : Nat} {d : D} {P : Cells → Prop} (h : S[n]? = some (some (.lst xs))) (e : ixN xs.length k = some j) (p : P (S.set n (some (.lst (xs.set j d))))) : gPut (.ref n) (.int k) d S P :=
  ⟨n, rfl, .inr ⟨xs, k, j, h, rfl, e, p⟩⟩
theorem BIG_pos : 1 ≤ BIG := Nat.one_le_two_pow
theorem pw_ok {x : Int} {e : Int} (h0 : 0 ≤ e) (he : e ≤ 5) (hx : x.natAbs ≤ 2 ^ 60 * BIG) : CPw x e := by
  refine CPw.of 10000061 ?_ h0 ?_
  · have h1 : 2 ^ 10000061 = 2 ^ 61 * BIG := by
      unfold BIG
      rw [← Nat.pow_add]
    rw [h1]
    have := BIG_pos
    omega
  · have : (10000061 : Int) * e ≤ 10000061 * 5 := Int.mul_le_mul_of_nonneg_left he (by decide)
    have h2 : ((10000061 : Nat) : Int) * e ≤ 10000061 * 5 := this
    exact Int.le_trans h2 (by decide)
end DD
namespace DD
open PySem L2
theorem gAdd_int {a b : Int} {S : Cells} {P : Q1} : gAdd (.int a) (.int b) S P = P (.int (a + b)) S := rfl
theorem gMul_int {a b : Int} {S : Cells} {P : Q1} : gMul (.int a) (.int b) S P = (CMul a b ∧ P (.int (a * b)) S) := rfl
theorem gInt_int {a : Int} {S : Cells} {P : Q1} : gInt [.int a] S P = P (.int a) S := by
  unfold gInt
  simp
theorem gInt_bl {b : Bool} {S : Cells} {P : Q1} : gInt [.bl b] S P = P (.int (if b then 1 else 0)) S := by
  unfold gInt
  simp
theorem CMul.l {i j : Int} (h : -(2 ^ 64) < i ∧ i < 2 ^ 64 := by decide) : CMul i j := .inl h
theorem CMul.r {i j : Int} (h : -(2 ^ 64) < j ∧ j < 2 ^ 64 := by decide) : CMul i j := .inr h
end DD
namespace DD
open PySem L2
theorem atI_int {ns : List Int} {k : Int} (h0 : 0 ≤ k) (h : k < ns.length) : atI (ns.map D.int) k = some (.int (ns[k.toNat]'(by omega))) := by
  unfold atI ixN
  have : (ns.map D.int).length = ns.length := List.length_map _
  rw [this]
  simp [h0, h]
theorem cutD_map {α β : Type} (f : α → β) (xs : List α) (lo hi : Option Int) : cutD (xs.map f) lo hi = (cutD xs lo hi).map f := by
  unfold cutD
  simp [List.map_take, List.map_drop]
theorem intsOf_map : ∀ ns : List Int, intsOf (ns.map D.int) = some ns
  | [] => rfl
  | n :: ns => by simp [intsOf, intsOf_map ns]
end DD
namespace DD
open PySem L2
section
variable {S T : Cells} {a b c x : Option Cell}
theorem c0 : (S ++ a :: T)[S.length]? = some a := by simp
theorem c1 : (S ++ a :: b :: T)[S.length + 1]? = some b := by simp
theorem c2 : (S ++ a :: b :: c :: T)[S.length + 2]? = some c := by simp
theorem s0 : (S ++ a :: T).set S.length x = S ++ x :: T := by simp
theorem s1 : (S ++ a :: b :: T).set (S.length + 1) x = S ++ a :: x :: T := by simp
theorem s2 : (S ++ a :: b :: c :: T).set (S.length + 2) x = S ++ a :: b :: x :: T := by simp
theorem cL {n : Nat} (h : S[n]? = some a) : (S ++ T)[n]? = some a := by
  rw [List.getElem?_append_left (List.getElem?_eq_some_iff.mp h).1]
  exact h
end
theorem tyM_ref {S : Cells} {n : Nat} {xs : List D} (h : S[n]? = some (some (.lst xs))) : tyM S (.ref n) = some "list" := by simp [tyM, h]
theorem seqIx {n : Nat} {i : Int} (h0 : 0 ≤ i) (h : i < n) : seqIndex? i n = some i.toNat := by
  unfold seqIndex?
  simp
  omega
theorem perm_pop {xs : List D} {i : Nat} {y : D} (h : xs[i]? = some y) : (y :: xs.eraseIdx i).Perm xs := by
  induction xs generalizing i with
  | nil => simp at h
  | cons x xs ih =>
    cases i with
    | zero => simp at h; subst h; simp
    | succ i =>
      simp at h
      rw [List.eraseIdx_cons_succ]
      exact (List.Perm.swap _ _ _).trans ((ih h).cons x)
end DD
namespace DD
open PySem L2
section
variable {S : Cells} {P : Q1}
theorem lenD3_lst {xs : List D} : lenD3 S (.lst xs) = some xs.length := rfl
theorem lenD3_tup {xs : List D} : lenD3 S (.tup xs) = some xs.length := rfl
theorem lenD3_dct {xs : List (Key × D)} : lenD3 S (.dct xs) = some xs.length := rfl
theorem lenD3_str {s : List Nat} : lenD3 S (.str s) = if s.length ≤ sizeLine then some s.length else none := rfl
theorem gIn3_str {neg : Bool} {d : D} {s : List Nat} : gIn3 neg d (.str s) S P = gInS neg d (.str s) S P := rfl
theorem gIn3_lst {neg : Bool} {d : D} {xs : List D} : gIn3 neg d (.lst xs) S P = gIn neg d (.lst xs) S P := rfl
theorem gIn3_tup {neg : Bool} {d : D} {xs : List D} : gIn3 neg d (.tup xs) S P = gIn neg d (.tup xs) S P := rfl
theorem seqL_dct {d : D} {xs : List D} (h : seqL S d = some xs) : dctOf S d = none := by
  unfold seqL at h
  unfold dctOf
  split at h
  · rfl
  · split at h
    · rename_i q; simp [q]
    · cases h
  · cases h
theorem seqL_A {d : D} {xs : List D} (h : seqL S d = some xs) : seqA S d = some xs := by
  cases d <;> first | exact h | (simp [seqL] at h)
theorem seqA_dct {d : D} {xs : List D} (h : seqA S d = some xs) : dctOf S d = none := by
  cases d with
  | tup => rfl
  | lst => rfl
  | ref n => exact seqL_dct (show seqL S (.ref n) = some xs from h)
  | _ => simp [seqA, seqL] at h
theorem len_seqA {d : D} {xs : List D} (h : seqA S d = some xs) : lenD3 S d = some xs.length := by
  unfold lenD3
  rw [seqA_dct h]
  unfold lenD
  cases d <;> first | (simp [seqA, seqL] at h; done) | (simp [h])
theorem len_seq {d : D} {xs : List D} (h : seqL S d = some xs) : lenD3 S d = some xs.length := len_seqA (seqL_A h)
theorem list_seqA {m : Bool} {d : D} {xs : List D} (h : seqA S d = some xs) (p : mkL m xs S P) : gList4 m [d] S P := by
  have e := seqA_dct h
  have : gList3 m [d] S P := ⟨d, rfl, by rw [e]; exact ⟨xs, h, p⟩⟩
  cases d <;> first | exact this | (simp [seqA, seqL] at h)
theorem list_seq {m : Bool} {d : D} {xs : List D} (h : seqL S d = some xs) (p : mkL m xs S P) : gList4 m [d] S P := list_seqA (seqL_A h) p
theorem seqL_app {T : Cells} {d : D} {xs : List D} (h : seqL S d = some xs) : seqL (S ++ T) d = some xs := by
  unfold seqL at h ⊢
  split at h
  · exact h
  · split at h
    · rename_i q
      rw [cL q]
      exact h
    · cases h
  · cases h
theorem seqA_app {T : Cells} {d : D} {xs : List D} (h : seqA S d = some xs) : seqA (S ++ T) d = some xs := by
  cases d with
  | ref n => exact (seqL_app (show seqL S (.ref n) = some xs from h) : seqL (S ++ T) (.ref n) = some xs)
  | lst ys => exact h
  | tup ys => exact h
  | _ => simp [seqA, seqL] at h
end
end DD
namespace DD
open PySem L2
theorem rbL_all (n : Nat) : ∀ ds : List D, rbL n ds = ds.all (D.rb n)
  | [] => rfl
  | d :: ds => by rw [rbL, rbL_all n ds]; rfl
theorem rbL_perm {n : Nat} {xs ys : List D} (h : ys.Perm xs) (r : rbL n xs = true) : rbL n ys = true := by
  rw [rbL_all] at r ⊢
  rw [List.all_eq_true] at r ⊢
  exact fun x hx => r x (h.mem_iff.mp hx)
end DD
namespace DD
open PySem L2
theorem seqL_ref {S : Cells} {n : Nat} {xs : List D} (h : S[n]? = some (some (.lst xs))) : seqL S (.ref n) = some xs := by simp [seqL, h]
theorem seqA_ref {S : Cells} {n : Nat} {xs : List D} (h : S[n]? = some (some (.lst xs))) : seqA S (.ref n) = some xs := seqL_ref h
theorem len_ref {S : Cells} {n : Nat} {xs : List D} (h : S[n]? = some (some (.lst xs))) : lenD3 S (.ref n) = some xs.length := len_seq (seqL_ref h)
end DD
namespace DD
open PySem L2
theorem srcD_app {S T : Cells} {d : D} {xs : List D} (h : seqL S d = some xs) : ∃ C, srcD (S ++ T) d = some (xs, C) ∧ ∀ T', C (S ++ T') := by
  unfold seqL at h
  split at h
  · cases h; exact ⟨_, rfl, fun _ => trivial⟩
  · split at h
    · rename_i q
      cases h
      exact ⟨_, by simp only [srcD, cL q]; rfl, fun T' => cL q⟩
    · cases h
  · cases h
theorem rb_strs (n : Nat) (zs : List (List Nat)) : D.rb n (.lst (zs.map D.str)) = true := by
  simp only [D.rb]
  rw [rbL_all, List.all_map]
  simp [D.rb]
def turnD : D → Option D
  | .str s => some (.str s.reverse)
  | _ => none
theorem turn_map (zs : List (List Nat)) : (zs.map D.str).filterMap turnD = (zs.map List.reverse).map D.str := by
  rw [List.filterMap_map, List.map_map]
  exact fm_some _ _
theorem wordsTo_succ (l : Int) (k : Nat) : wordsTo l (k + 1) = wordsTo l k ++ ofLen l (k + 1) := by
  unfold wordsTo
  rw [List.range_succ, List.flatMap_append]
  simp
end DD
namespace DD
open PySem L2
theorem srcD_seqA {S : Cells} {d : D} {xs : List D} (h : seqA S d = some xs) : ∃ C, srcD S d = some (xs, C) ∧ C S := by
  cases d with
  | tup ys => cases h; exact ⟨_, rfl, trivial⟩
  | _ => exact srcD_seqL h
theorem boolsOf_fm {α : Type} (f : α → Bool) : ∀ xs : List α, boolsOf (xs.filterMap (fun x => some (D.bl (f x)))) = some (xs.map f)
  | [] => rfl
  | x :: xs => by
    have := boolsOf_fm f xs
    rw [fm_some] at this ⊢
    simp [boolsOf, this]
theorem all_words {l : Int} : ∀ {xs : List D}, xs.all (wordOk l) = true → ∃ zs : List (List Nat), xs = zs.map D.str ∧ ∀ z ∈ zs, z.length ≤ 130 ∧ ∀ c ∈ z, c ∈ abL l
  | [], _ => ⟨[], rfl, by simp⟩
  | x :: xs, h => by
    rw [List.all_cons, Bool.and_eq_true] at h
    obtain ⟨zs, rfl, hz⟩ := all_words h.2
    obtain ⟨s, rfl, h1, h2⟩ := wordOk_str h.1
    exact ⟨s :: zs, rfl, by simp only [List.mem_cons]; rintro z (rfl | hz'); exact ⟨h1, h2⟩; exact hz z hz'⟩
end DD

namespace DD
open PySem L2
def travD (f : D → Option D) : List D → Option (List D)
  | [] => some []
  | d :: ds => (f d).bind fun x => (travD f ds).map (x :: ·)
def travK (f : D → Option D) : List (Key × D) → Option (List (Key × D))
  | [] => some []
  | (k, d) :: ds => (f d).bind fun x => (travK f ds).map ((k, x) :: ·)
/-- the datum with its cells read: what a comparison sees; at most n deep; texts and lists at most a line -/
def full (S : Cells) : Nat → D → Option D
  | 0, _ => none
  | n + 1, d => match d with
    | .non => some .non
    | .bl b => some (.bl b)
    | .int i => some (.int i)
    | .str s => if s.length ≤ sizeLine then some (.str s) else none
    | .tup xs => if xs.length ≤ sizeLine then (travD (full S n) xs).map .tup else none
    | .lst xs => if xs.length ≤ sizeLine then (travD (full S n) xs).map .lst else none
    | .dct kds => if kds.length ≤ sizeLine then (travK (full S n) kds).map .dct else none
    | .ref k => match S[k]? with
      | some (some (.lst xs)) => if xs.length ≤ sizeLine then (travD (full S n) xs).map .lst else none
      | _ => none
    | _ => none
end DD

namespace DD
open PySem L2
theorem travD_len {f : D → Option D} : ∀ {xs ys : List D}, travD f xs = some ys → ys.length = xs.length
  | [], ys, h => by cases h; rfl
  | x :: xs, ys, h => by
    simp only [travD, Option.bind_eq_some_iff, Option.map_eq_some_iff] at h
    obtain ⟨y, _, zs, hz, rfl⟩ := h
    simp [travD_len hz]
theorem travD_get {f : D → Option D} : ∀ {xs ys : List D}, travD f xs = some ys → ∀ (k : Nat) (x : D), xs[k]? = some x → ∃ y, f x = some y ∧ ys[k]? = some y
  | [], ys, h => by simp
  | x :: xs, ys, h => by
    simp only [travD, Option.bind_eq_some_iff, Option.map_eq_some_iff] at h
    obtain ⟨y, hy, zs, hz, rfl⟩ := h
    intro k z hk
    cases k with
    | zero => simp at hk; subst hk; exact ⟨y, hy, rfl⟩
    | succ k => simp at hk; simpa using travD_get hz k z hk
theorem travK_len {f : D → Option D} : ∀ {xs ys : List (Key × D)}, travK f xs = some ys → ys.length = xs.length
  | [], ys, h => by cases h; rfl
  | (k, x) :: xs, ys, h => by
    simp only [travK, Option.bind_eq_some_iff, Option.map_eq_some_iff] at h
    obtain ⟨y, _, zs, hz, rfl⟩ := h
    simp [travK_len hz]
theorem travK_get {f : D → Option D} (k : Key) : ∀ {xs ys : List (Key × D)}, travK f xs = some ys → (∀ x, valD xs k = some x → ∃ y, f x = some y ∧ valD ys k = some y) ∧ (valD xs k = none → valD ys k = none)
  | [], ys, h => by cases h; simp [valD]
  | (j, x) :: xs, ys, h => by
    simp only [travK, Option.bind_eq_some_iff, Option.map_eq_some_iff] at h
    obtain ⟨y, hy, zs, hz, rfl⟩ := h
    have ih := travK_get k hz
    unfold valD at ih ⊢
    by_cases e : j = k
    · simp [e, hy]
    · simp only [List.find?_cons, decide_eq_false e]
      exact ih
theorem valD_mem {k : Key} : ∀ {kds : List (Key × D)}, k ∈ kds.map (·.1) → ∃ x, valD kds k = some x
  | [], h => by simp at h
  | (j, x) :: kds, h => by
    unfold valD
    by_cases e : j = k
    · simp [e]
    · simp only [List.find?_cons, decide_eq_false e]
      simp only [List.map_cons, List.mem_cons] at h
      exact valD_mem (h.resolve_left fun q => e q.symm)
theorem kOf_kD (k : Key) : kOf (kD k) = some k := by
  cases k with
  | inl i => rfl
  | inr s => simp [kD, kOf, S'_of]
theorem full_inv {S : Cells} {n : Nat} {d x : D} (h : full S (n + 1) d = some x) :
    (d = .non ∧ x = .non) ∨ (∃ b, d = .bl b ∧ x = .bl b) ∨ (∃ i, d = .int i ∧ x = .int i) ∨ (∃ s, d = .str s ∧ x = .str s ∧ s.length ≤ sizeLine) ∨
    (∃ xs ys, seqA S d = some xs ∧ x = .tup ys ∧ tyN S d = some "tuple" ∧ isR d .non = some false ∧ xs.length ≤ sizeLine ∧ travD (full S n) xs = some ys) ∨
    (∃ xs ys, seqA S d = some xs ∧ x = .lst ys ∧ tyN S d = some "list" ∧ isR d .non = some false ∧ xs.length ≤ sizeLine ∧ travD (full S n) xs = some ys) ∨
    (∃ xs ys, d = .dct xs ∧ x = .dct ys ∧ xs.length ≤ sizeLine ∧ travK (full S n) xs = some ys) := by
  unfold full at h
  split at h
  · cases h; exact .inl ⟨rfl, rfl⟩
  · cases h; exact .inr (.inl ⟨_, rfl, rfl⟩)
  · cases h; exact .inr (.inr (.inl ⟨_, rfl, rfl⟩))
  · split at h
    · cases h; exact .inr (.inr (.inr (.inl ⟨_, rfl, rfl, by assumption⟩)))
    · cases h
  · split at h
    · obtain ⟨ys, hy, rfl⟩ := Option.map_eq_some_iff.mp h
      exact .inr (.inr (.inr (.inr (.inl ⟨_, _, rfl, rfl, rfl, rfl, by assumption, hy⟩))))
    · cases h
  · split at h
    · obtain ⟨ys, hy, rfl⟩ := Option.map_eq_some_iff.mp h
      exact .inr (.inr (.inr (.inr (.inr (.inl ⟨_, _, rfl, rfl, rfl, rfl, by assumption, hy⟩)))))
    · cases h
  · split at h
    · obtain ⟨ys, hy, rfl⟩ := Option.map_eq_some_iff.mp h
      exact .inr (.inr (.inr (.inr (.inr (.inr ⟨_, _, rfl, rfl, by assumption, hy⟩)))))
    · cases h
  · split at h
    · rename_i q
      split at h
      · obtain ⟨ys, hy, rfl⟩ := Option.map_eq_some_iff.mp h
        exact .inr (.inr (.inr (.inr (.inr (.inl ⟨_, _, seqA_ref q, rfl, by simp [tyN, q], rfl, by assumption, hy⟩)))))
      · cases h
    · cases h
  · cases h
theorem seqA_tup_ix {S : Cells} {d : D} {xs : List D} {k : Int} {x : D} {P : Q1} (h : seqA S d = some xs) (e : atI xs k = some x) (p : P x S) : gIx3 d (.int k) S P := by
  unfold gIx3
  rw [seqA_dct h]
  unfold gIx
  cases d <;> first | (simp [seqA, seqL] at h; done) | exact ⟨xs, x, h, e, p⟩
theorem atI_nat {α : Type} {xs : List α} {k : Nat} {x : α} (h : xs[k]? = some x) : atI xs ((0 : Int) + (k : Nat)) = some x := by
  have hk : k < xs.length := (List.getElem?_eq_some_iff.mp h).1
  unfold atI ixN
  rw [Int.zero_add]
  simp [seqIndex?, hk]
  exact (List.getElem?_eq_some_iff.mp h).2
end DD

namespace DD
theorem ty_bool_bool : isTy "bool" "bool" = true := rfl
theorem ty_bool_int : isTy "bool" "int" = true := rfl
theorem ty_bool_str : isTy "bool" "str" = false := rfl
theorem ty_bool_list : isTy "bool" "list" = false := rfl
theorem ty_bool_tuple : isTy "bool" "tuple" = false := rfl
theorem ty_bool_dict : isTy "bool" "dict" = false := rfl
theorem ty_int_bool : isTy "int" "bool" = false := rfl
theorem ty_int_int : isTy "int" "int" = true := rfl
theorem ty_int_str : isTy "int" "str" = false := rfl
theorem ty_int_list : isTy "int" "list" = false := rfl
theorem ty_int_tuple : isTy "int" "tuple" = false := rfl
theorem ty_int_dict : isTy "int" "dict" = false := rfl
theorem ty_str_bool : isTy "str" "bool" = false := rfl
theorem ty_str_int : isTy "str" "int" = false := rfl
theorem ty_str_str : isTy "str" "str" = true := rfl
theorem ty_str_list : isTy "str" "list" = false := rfl
theorem ty_str_tuple : isTy "str" "tuple" = false := rfl
theorem ty_str_dict : isTy "str" "dict" = false := rfl
theorem ty_list_bool : isTy "list" "bool" = false := rfl
theorem ty_list_int : isTy "list" "int" = false := rfl
theorem ty_list_str : isTy "list" "str" = false := rfl
theorem ty_list_list : isTy "list" "list" = true := rfl
theorem ty_list_tuple : isTy "list" "tuple" = false := rfl
theorem ty_list_dict : isTy "list" "dict" = false := rfl
theorem ty_tuple_bool : isTy "tuple" "bool" = false := rfl
theorem ty_tuple_int : isTy "tuple" "int" = false := rfl
theorem ty_tuple_str : isTy "tuple" "str" = false := rfl
theorem ty_tuple_list : isTy "tuple" "list" = false := rfl
theorem ty_tuple_tuple : isTy "tuple" "tuple" = true := rfl
theorem ty_tuple_dict : isTy "tuple" "dict" = false := rfl
theorem ty_dict_bool : isTy "dict" "bool" = false := rfl
theorem ty_dict_int : isTy "dict" "int" = false := rfl
theorem ty_dict_str : isTy "dict" "str" = false := rfl
theorem ty_dict_list : isTy "dict" "list" = false := rfl
theorem ty_dict_tuple : isTy "dict" "tuple" = false := rfl
theorem ty_dict_dict : isTy "dict" "dict" = true := rfl
theorem ty_NoneType_bool : isTy "NoneType" "bool" = false := rfl
theorem ty_NoneType_int : isTy "NoneType" "int" = false := rfl
theorem ty_NoneType_str : isTy "NoneType" "str" = false := rfl
theorem ty_NoneType_list : isTy "NoneType" "list" = false := rfl
theorem ty_NoneType_tuple : isTy "NoneType" "tuple" = false := rfl
theorem ty_NoneType_dict : isTy "NoneType" "dict" = false := rfl
end DD

namespace DD
open PySem L2
theorem cut_one (s : List Nat) (k : Nat) (c : Nat) (h : s[k]? = some c) : cutD s (some (0 + (k : Int))) (some (0 + (k : Int) + 1)) = [c] := by
  have hk : k < s.length := (List.getElem?_eq_some_iff.mp h).1
  unfold cutD
  have e : HT.sIx s.length 0 (some (0 + (k : Int))) = k := by
    unfold HT.sIx
    simp only
    rw [if_neg (by omega)]
    omega
  have e2 : HT.sIx s.length s.length (some (0 + (k : Int) + 1)) = k + 1 := by rw [sIx_hi _ _ (by omega)]; omega
  have e3 := (List.getElem?_eq_some_iff.mp h).2
  rw [e, e2, Nat.add_sub_cancel_left, List.drop_eq_getElem_cons hk, e3]
  rfl
theorem str_ix {S : Cells} {s : List Nat} {k : Int} {c : Nat} {P : Q1} (hs : s.length ≤ sizeLine) (e : atI s k = some c) (p : P (.str [c]) S) : gIx3 (.str s) (.int k) S P := ⟨hs, c, e, p⟩
end DD

namespace DD
open PySem L2
theorem pick_lst {S : Cells} {xs : List D} {i : Int} {P : Q1} (i0 : 0 ≤ i) (i1 : i < (xs.length : Nat)) (p : ∀ d ∈ xs, P d S) : gIx3 (.lst xs) (.int i) S P := by
  have hi : i.toNat < xs.length := by omega
  have e : i = 0 + ((i.toNat : Nat) : Int) := by omega
  have h : atI xs (0 + ((i.toNat : Nat) : Int)) = some xs[i.toNat] := atI_nat (List.getElem?_eq_getElem hi)
  rw [← e] at h
  exact ix_lst h (p _ (List.getElem_mem hi))
theorem pick_str {S : Cells} {s : List Nat} {i : Int} {P : Q1} (hs : s.length ≤ sizeLine) (i0 : 0 ≤ i) (i1 : i < (s.length : Nat)) (p : ∀ c ∈ s, P (.str [c]) S) : gIx3 (.str s) (.int i) S P := by
  have hi : i.toNat < s.length := by omega
  have e : i = 0 + ((i.toNat : Nat) : Int) := by omega
  have h : atI s (0 + ((i.toNat : Nat) : Int)) = some s[i.toNat] := atI_nat (List.getElem?_eq_getElem hi)
  rw [← e] at h
  exact str_ix hs h (p _ (List.getElem_mem hi))
end DD

namespace DD
open PySem L2
theorem eq_nil {S : Cells} {xs : List D} {P : Q1} (h1 : plL xs = true) (h2 : depL xs ≤ 60) (p : P (.bl xs.isEmpty) S) : gEq (.lst xs) (.lst []) S P := by
  refine ⟨xs.isEmpty, ?_, p⟩
  have e0 : eqR S (.lst xs) (.lst []) = if (res S (.lst xs)).pl = true ∧ (res S (.lst [])).pl = true ∧ (res S (.lst xs)).dep ≤ 64 ∧ (res S (.lst [])).dep ≤ 64 then some ((res S (.lst xs)).eqb (res S (.lst []))) else none := rfl
  rw [e0]
  have e : (res S (.lst xs)).eqb (res S (.lst [])) = xs.isEmpty := by cases xs <;> rfl
  rw [if_pos, e]
  refine ⟨?_, rfl, ?_, Nat.le_of_ble_eq_true rfl⟩
  · simpa [res, D.pl] using h1
  · simp only [res, D.dep]; omega
theorem depL_strs : ∀ zs : List (List Nat), depL (zs.map D.str) = 0
  | [] => rfl
  | z :: zs => by rw [List.map_cons, depL, depL_strs zs]; rfl
def strPl (d : D) : Prop := ∀ s, d = .str s → s.all (· < 0x110000) = true
theorem plL_signs (s : List Nat) (h : s.all (· < 0x110000) = true) (f : Nat → Bool) : plL ((s.filter f).map fun c => D.str [c]) = true := by
  rw [plL_all, List.all_map, List.all_eq_true]
  intro c hc
  have := (List.all_eq_true.mp h) c (List.mem_filter.mp hc).1
  simpa [D.pl] using this
theorem depL_signs : ∀ s : List Nat, depL (s.map fun c => D.str [c]) = 0
  | [] => rfl
  | z :: zs => by rw [List.map_cons, depL, depL_signs zs]; rfl
theorem any_sign (ab : List Nat) (c : Nat) : (ab.map fun c => D.str [c]).any (fun y => y.eqb (.str [c])) = decide (c ∈ ab) := by
  rw [List.any_map, Bool.eq_iff_iff, List.any_eq_true, decide_eq_true_iff]
  constructor
  · rintro ⟨x, hx, e⟩
    simp [D.eqb] at e
    exact e ▸ hx
  · intro h
    exact ⟨c, h, by simp [D.eqb]⟩
theorem flat_signs (ab : List Nat) : (ab.map fun c => D.str [c]).all flatD = true := by
  rw [List.all_map, List.all_eq_true]
  intro c _
  rfl
def outSign (ab : List Nat) : D → Option D
  | .str [c] => if c ∈ ab then none else some (.str [c])
  | _ => none
theorem out_signs (ab : List Nat) : ∀ s : List Nat, (s.map fun c => D.str [c]).filterMap (outSign ab) = (s.filter fun c => !decide (c ∈ ab)).map fun c => D.str [c]
  | [] => rfl
  | c :: s => by
    rw [List.map_cons, List.filterMap_cons, out_signs ab s, List.filter_cons]
    by_cases h : c ∈ ab <;> simp [outSign, h]
theorem out_empty (ab : List Nat) (s : List Nat) : ((s.filter fun c => !decide (c ∈ ab)).map fun c => D.str [c]).isEmpty = s.all fun c => decide (c ∈ ab) := by
  rw [Bool.eq_iff_iff, List.isEmpty_iff, List.map_eq_nil_iff, List.filter_eq_nil_iff, List.all_eq_true]
  simp
end DD

namespace DD
open PySem PySem.Spec PyProof.Rows L2
theorem pick_ab {S : Cells} {l j : Int} {P : Q1} (l1 : 1 ≤ l) (l2 : l ≤ 2) (j0 : 0 ≤ j) (j1 : j < l) (p : ∀ c ∈ abL l, P (.str [c]) S) : gIx3 (.str [97, 98]) (.int j) S P := by
  have hz := sizeLine_eq
  have hl : l = 1 ∨ l = 2 := by omega
  rcases hl with rfl | rfl
  · obtain rfl : j = 0 := by omega
    exact str_ix (c := 97) (by decide) rfl (p 97 (by decide))
  · have hj : j = 0 ∨ j = 1 := by omega
    rcases hj with rfl | rfl
    · exact str_ix (c := 97) (by decide) rfl (p 97 (by decide))
    · exact str_ix (c := 98) (by decide) rfl (p 98 (by decide))
theorem strsOf_signs (zs : List Nat) : strsOf (zs.map fun c => D.str [c]) = some (zs.map fun c => [c]) := by
  have h := strsOf_str (zs.map fun c => [c])
  rw [List.map_map] at h
  exact h
theorem sum_ones : ∀ zs : List Nat, ((zs.map fun c => [c]).map List.length).sum = zs.length
  | [] => rfl
  | z :: zs => by simp only [List.map_cons, List.sum_cons, sum_ones zs, List.length_cons, List.length_nil]; omega
theorem join_signs (zs : List Nat) : TL.joinL [] (zs.map fun c => [c]) = zs := by
  rw [joinL_nil]
  induction zs with
  | nil => rfl
  | cons z zs ih => rw [List.map_cons, List.flatten_cons, ih]; rfl
end DD

namespace DD
open PySem L2
/-- what a draw of a word, right or wrong, may give -/
inductive Nice : D → Prop
  | str (s : List Nat) : s.length ≤ 1000 → s.all (· < 0x110000) = true → Nice (.str s)
  | tup (s : List Nat) : s.length ≤ 1000 → s.all (· < 0x110000) = true → Nice (.tup [.str s])
  | lst (s : List Nat) : s.length ≤ 1000 → s.all (· < 0x110000) = true → Nice (.lst [.str s])
  | non : Nice .non
  | int (i : Int) : Nice (.int i)
  | bl (b : Bool) : Nice (.bl b)
end DD

namespace DD
open PySem L2
def sOk (n : Nat) (s : List Nat) : Prop := s.length ≤ n ∧ s.all (· < 0x110000) = true
theorem sOk.add {S : Cells} {P : Q1} {x y : List Nat} {n m : Nat} (hx : sOk n x) (hy : sOk m y) (h : n + m ≤ 1000) (p : ∀ z, sOk (n + m) z → P (.str z) S) : gAdd (.str x) (.str y) S P := by
  have hz := sizeLine_eq
  have h1 := hx.1
  have h2 := hy.1
  refine ⟨by omega, p _ ⟨by rw [List.length_append]; omega, by rw [List.all_append, hx.2, hy.2]; rfl⟩⟩
theorem sOk.cut {s : List Nat} {n : Nat} (h : sOk n s) (a b : Option Int) : sOk n (cutD s a b) := by
  refine ⟨?_, ?_⟩
  · have := h.1
    unfold cutD
    rw [List.length_take, List.length_drop]
    omega
  · rw [List.all_eq_true]
    intro c hc
    unfold cutD at hc
    exact (List.all_eq_true.mp h.2) c (List.mem_of_mem_drop (List.mem_of_mem_take hc))
theorem sOk.ab {s : List Nat} {n : Nat} {l : Int} (h : s.length ≤ n) (hc : ∀ c ∈ s, c ∈ abL l) : sOk n s := by
  refine ⟨h, ?_⟩
  rw [List.all_eq_true]
  intro c hc'
  rcases abL_sign (hc c hc') with rfl | rfl <;> decide
theorem add_lst {S : Cells} {P : Q1} {xs ys : List D} (h : xs.length + ys.length ≤ sizeLine) (p : P (.lst (xs ++ ys)) S) : gAdd (.lst xs) (.lst ys) S P := ⟨xs, ys, rfl, rfl, h, p⟩
end DD

namespace DD
open PySem L2
def Nice2 (d : D) : Prop := Nice d ∨ ∃ zs : List (List Nat), d = .lst (zs.map D.str) ∧ zs.length ≤ 10 ∧ ∀ z ∈ zs, z.length ≤ 1000
/-- no list of words -/
def BadWs (l : Int) (d : D) : Prop :=
  (∃ xs, (d = .lst xs ∨ d = .tup xs) ∧ xs.length ≤ 401 ∧ (∀ x ∈ xs, Nice2 x) ∧ (decide (xs.length ≤ 400) && xs.all (wordOk l)) = false) ∨ d = .str [97, 98] ∨ d = .non ∨ d = .dct [(.inr (S' [97]), .str [98])]
end DD

namespace DD
open PySem L2
theorem Nice.ty {S : Cells} {d : D} (h : Nice d) : ∃ n, tyN S d = some n := by cases h <;> exact ⟨_, rfl⟩
theorem Nice.ok {d : D} (h : Nice d) : strOk d := by
  have hz := sizeLine_eq
  rintro s rfl
  cases h
  omega
theorem Nice.spl {d : D} (h : Nice d) : strPl d := by
  rintro s rfl
  cases h
  assumption
end DD

namespace DD
open PySem L2
theorem cutD_len {α : Type} (xs : List α) (a b : Option Int) : (cutD xs a b).length ≤ xs.length := by
  unfold cutD
  rw [List.length_take, List.length_drop]
  omega
theorem cutD_mem {α : Type} {xs : List α} {a b : Option Int} {x : α} (h : x ∈ cutD xs a b) : x ∈ xs := List.mem_of_mem_drop (List.mem_of_mem_take h)
end DD

namespace DD
open PySem L2
theorem Nice.rb {d : D} (n : Nat) (h : Nice d) : D.rb n d = true := by cases h <;> simp [D.rb, rbL]
theorem Nice2.rb {d : D} (n : Nat) (h : Nice2 d) : D.rb n d = true := by
  rcases h with h | ⟨zs, rfl, _⟩
  · exact h.rb n
  · exact rb_strs n zs
theorem BadWs.rb {l : Int} {d : D} (n : Nat) (h : BadWs l d) : D.rb n d = true := by
  rcases h with ⟨xs, h, _, h2, _⟩ | rfl | rfl | rfl
  · have : rbL n xs = true := by rw [rbL_all, List.all_eq_true]; exact fun x hx => (h2 x hx).rb n
    rcases h with rfl | rfl <;> simpa [D.rb] using this
  · rfl
  · rfl
  · simp [D.rb, rbK]
theorem str_nice {l : Int} {z : List Nat} (h : z.length ≤ 100 ∧ ∀ c ∈ z, c ∈ abL l) : Nice (.str z) := .str _ (by omega) (sOk.ab (Nat.le_refl _) h.2).2
end DD

namespace DD
open PySem L2
theorem trav_strs {S : Cells} {n : Nat} : ∀ {zs : List (List Nat)}, (∀ z ∈ zs, z.length ≤ sizeLine) → travD (full S (n + 1)) (zs.map D.str) = some (zs.map D.str)
  | [], _ => rfl
  | z :: zs, h => by
    have h1 := h z List.mem_cons_self
    have ih := trav_strs (S := S) (n := n) (zs := zs) fun y hy => h y (List.mem_cons_of_mem _ hy)
    rw [List.map_cons, travD, ih]
    simp [full, h1]
theorem full_strs {S : Cells} {n : Nat} {zs : List (List Nat)} (hl : zs.length ≤ sizeLine) (h : ∀ z ∈ zs, z.length ≤ sizeLine) : full S (n + 2) (.lst (zs.map D.str)) = some (.lst (zs.map D.str)) := by
  have e := trav_strs (S := S) (n := n) h
  rw [full]
  simp [hl, e]
theorem full_ref {S : Cells} {n k : Nat} {zs : List (List Nat)} (hk : S[k]? = some (some (.lst (zs.map D.str)))) (hl : zs.length ≤ sizeLine) (h : ∀ z ∈ zs, z.length ≤ sizeLine) : full S (n + 2) (.ref k) = some (.lst (zs.map D.str)) := by
  have e := trav_strs (S := S) (n := n) h
  rw [full]
  simp [hk, hl, e]
theorem full_pair {S : Cells} {n : Nat} {s : List Nat} {d x : D} (hs : s.length ≤ sizeLine) (h : full S (n + 1) d = some x) : full S (n + 2) (.lst [.str s, d]) = some (.lst [.str s, x]) := by
  have h2 : [D.str s, d].length ≤ sizeLine := by show 2 ≤ sizeLine; decide
  have h1 : full S (n + 1) (.str s) = some (.str s) := by simp [full, hs]
  rw [full]
  simp only [h2, if_true, travD, h, h1]
  rfl
theorem set_app {S T : Cells} {k : Nat} {c : Option Cell} (h : S.length ≤ k) : (S ++ T).set k c = S ++ T.set (k - S.length) c := by
  rw [List.set_append_right _ _ h]
end DD

namespace DD
open PySem PySem.Spec PyProof.Rows L2
/-- a suite in two: what holds between them -/
theorem stage {a b : WS} {ρ : Rho} {S : Cells} {P : EndsD} (M : Rho → Cells → Prop) (h1 : ∀ K : Rho → Cells → Prop, (∀ ρ1 S1, M ρ1 S1 → K ρ1 S1) → a ρ S { P with nx := K }) (h2 : ∀ ρ1 S1, M ρ1 S1 → b ρ1 S1 P) : wSeq a b ρ S P :=
  h1 (fun ρ1 S1 => b ρ1 S1 P) h2
end DD

namespace DD
open PySem L2
theorem leW_eq (x y : List Nat) : leW x y = decide (¬ (y.length < x.length ∨ (y.length = x.length ∧ y < x))) := by
  unfold leW leK
  rw [PySem.W.dataLe_eq]
  show (!PySem.W.dataLt (kW (S' y)) (kW (S' x))) = _
  unfold kW
  rw [PySem.W.dataLt_pair rfl rfl, PySem.W.dataLt_int, PySem.W.dataLt_str]
  simp only [PyData.eqv, beq_iff_eq, S'_inj, S'_toList, S'_length, Int.natCast_inj, decide_not]
  congr 1
  by_cases h1 : y.length = x.length
  · by_cases h2 : y = x
    · subst h2; simp [List.lt_irrefl]
    · simp [h1, h2]
  · simp [h1]
theorem leW_trans (a b c : List Nat) (h1 : leW a b = true) (h2 : leW b c = true) : leW a c = true := by
  rw [leW_eq, decide_eq_true_iff] at h1 h2 ⊢
  rintro (h | ⟨h, k⟩)
  · have : b.length = a.length ∨ b.length ≠ a.length := by omega
    omega
  · by_cases e : b.length = a.length
    · have e2 : c.length = b.length := by omega
      have k1 : ¬ b < a := fun q => h1 (.inr ⟨e, q⟩)
      have k2 : ¬ c < b := fun q => h2 (.inr ⟨e2, q⟩)
      have l1 : a ≤ b := List.not_lt.mp k1
      have l2 : b ≤ c := List.not_lt.mp k2
      exact absurd k (List.not_lt.mpr (List.le_trans l1 l2))
    · have : ¬ b.length < a.length := fun q => h1 (.inl q)
      have : ¬ c.length < b.length := fun q => h2 (.inl q)
      omega
theorem leW_total (a b : List Nat) : (leW a b || leW b a) = true := by
  rw [leW_eq, leW_eq, Bool.or_eq_true, decide_eq_true_iff, decide_eq_true_iff]
  by_cases h : b.length < a.length ∨ (b.length = a.length ∧ b < a)
  · right
    rintro (k | ⟨k, l⟩)
    · rcases h with h | ⟨h, _⟩ <;> omega
    · rcases h with h | ⟨_, h⟩
      · omega
      · exact List.lt_asymm h l
  · exact .inl h
theorem leW_anti (a b : List Nat) (h1 : leW a b = true) (h2 : leW b a = true) : a = b := by
  rw [leW_eq, decide_eq_true_iff] at h1 h2
  have e : b.length = a.length := by
    have : ¬ b.length < a.length := fun q => h1 (.inl q)
    have : ¬ a.length < b.length := fun q => h2 (.inl q)
    omega
  have k1 : ¬ b < a := fun q => h1 (.inr ⟨e, q⟩)
  have k2 : ¬ a < b := fun q => h2 (.inr ⟨e.symm, q⟩)
  exact List.le_antisymm (List.not_lt.mp k1) (List.not_lt.mp k2)
theorem dedup_perm {xs ys : List (List Nat)} (h : ∀ z, z ∈ xs ↔ z ∈ ys) : (dedup xs).Perm (dedup ys) := by
  refine (List.perm_ext_iff_of_nodup (dedup_spec xs).1 (dedup_spec ys).1).mpr fun z => ?_
  rw [dedup_mem, dedup_mem]
  exact h z
theorem sortW_perm {xs ys : List (List Nat)} (h : xs.Perm ys) : sortW xs = sortW ys := by
  refine List.Perm.eq_of_pairwise (le := fun a b => leW a b = true) (fun a b _ _ h1 h2 => leW_anti a b h1 h2) ?_ ?_ (((List.mergeSort_perm xs leW).trans h).trans (List.mergeSort_perm ys leW).symm)
  · exact List.pairwise_mergeSort (fun a b c => leW_trans a b c) (fun a b => leW_total a b) xs
  · exact List.pairwise_mergeSort (fun a b c => leW_trans a b c) (fun a b => leW_total a b) ys
theorem sort_same {xs ys : List (List Nat)} (h : ∀ z, z ∈ xs ↔ z ∈ ys) : sortW (dedup xs) = sortW (dedup ys) := sortW_perm (dedup_perm h)
theorem sort_mem {xs : List (List Nat)} {z : List Nat} : z ∈ sortW (dedup xs) ↔ z ∈ xs := by
  unfold sortW
  rw [List.mem_mergeSort, dedup_mem]
theorem sort_len (xs : List (List Nat)) : (sortW (dedup xs)).length ≤ xs.length := by
  unfold sortW
  rw [List.length_mergeSort]
  exact dedup_len xs
end DD

end

section
set_option Elab.async false
set_option linter.all false
set_option autoImplicit false
set_option maxRecDepth 100000
set_option maxHeartbeats 2000000
/-! Things: data without cells, at most so deep; their copies. -/
namespace DD
open PySem L2
theorem travD_congr {f g : D → Option D} : ∀ {xs ys : List D}, travD f xs = some ys → (∀ x ∈ xs, ∀ y, f x = some y → g x = some y) → travD g xs = some ys
  | [], ys, h, _ => by cases h; rfl
  | x :: xs, ys, h, k => by
    simp only [travD, Option.bind_eq_some_iff, Option.map_eq_some_iff] at h ⊢
    obtain ⟨y, hy, zs, hz, rfl⟩ := h
    exact ⟨y, k x List.mem_cons_self y hy, zs, travD_congr hz fun x hx => k x (List.mem_cons_of_mem _ hx), rfl⟩
theorem travK_congr {f g : D → Option D} : ∀ {xs ys : List (Key × D)}, travK f xs = some ys → (∀ x ∈ xs, ∀ y, f x.2 = some y → g x.2 = some y) → travK g xs = some ys
  | [], ys, h, _ => by cases h; rfl
  | (j, x) :: xs, ys, h, k => by
    simp only [travK, Option.bind_eq_some_iff, Option.map_eq_some_iff] at h ⊢
    obtain ⟨y, hy, zs, hz, rfl⟩ := h
    exact ⟨y, k (j, x) List.mem_cons_self y hy, zs, travK_congr hz fun x hx => k x (List.mem_cons_of_mem _ hx), rfl⟩
theorem travD_id {f : D → Option D} : ∀ {xs ys : List D}, travD f xs = some ys → (∀ x ∈ xs, ∀ y, f x = some y → y = x) → ys = xs
  | [], ys, h, _ => by cases h; rfl
  | x :: xs, ys, h, k => by
    simp only [travD, Option.bind_eq_some_iff, Option.map_eq_some_iff] at h
    obtain ⟨y, hy, zs, hz, rfl⟩ := h
    rw [k x List.mem_cons_self y hy, travD_id hz fun x hx => k x (List.mem_cons_of_mem _ hx)]
theorem travK_id {f : D → Option D} : ∀ {xs ys : List (Key × D)}, travK f xs = some ys → (∀ x ∈ xs, ∀ y, f x.2 = some y → y = x.2) → ys = xs
  | [], ys, h, _ => by cases h; rfl
  | (j, x) :: xs, ys, h, k => by
    simp only [travK, Option.bind_eq_some_iff, Option.map_eq_some_iff] at h
    obtain ⟨y, hy, zs, hz, rfl⟩ := h
    rw [k (j, x) List.mem_cons_self y hy, travK_id hz fun x hx => k x (List.mem_cons_of_mem _ hx)]
theorem travD_all {f : D → Option D} : ∀ {xs : List D}, (∀ x ∈ xs, f x = some x) → travD f xs = some xs
  | [], _ => rfl
  | x :: xs, h => by simp only [travD, h x List.mem_cons_self, travD_all fun x hx => h x (List.mem_cons_of_mem _ hx)]; rfl
theorem travK_all {f : D → Option D} : ∀ {xs : List (Key × D)}, (∀ x ∈ xs, f x.2 = some x.2) → travK f xs = some xs
  | [], _ => rfl
  | (k, x) :: xs, h => by simp only [travK, h (k, x) List.mem_cons_self, travK_all fun x hx => h x (List.mem_cons_of_mem _ hx)]; rfl
theorem travD_inv {f : D → Option D} : ∀ {xs : List D}, travD f xs = some xs → ∀ x ∈ xs, f x = some x
  | [], _, x, h => by cases h
  | y :: xs, h, x, hx => by
    simp only [travD, Option.bind_eq_some_iff, Option.map_eq_some_iff] at h
    obtain ⟨z, hz, zs, hzs, e⟩ := h
    obtain ⟨rfl, rfl⟩ := List.cons.inj e
    rcases List.mem_cons.mp hx with rfl | hx
    · exact hz
    · exact travD_inv hzs x hx
theorem full_up {n m : Nat} (h : n ≤ m) : ∀ {d x : D} {S : Cells}, full [] n d = some x → x = d ∧ full S m d = some d := by
  induction n generalizing m with
  | zero => intro d x S h; cases h
  | succ n ih =>
    intro d x S e
    cases m with
    | zero => omega
    | succ m =>
      have hm : n ≤ m := by omega
      cases d with
      | non => cases e; exact ⟨rfl, rfl⟩
      | bl => cases e; exact ⟨rfl, rfl⟩
      | int => cases e; exact ⟨rfl, rfl⟩
      | str s =>
        simp only [full] at e ⊢
        split at e
        · cases e; rename_i hl; exact ⟨rfl, if_pos hl⟩
        · cases e
      | tup xs =>
        simp only [full] at e ⊢
        split at e
        · rename_i hl
          obtain ⟨ys, hy, rfl⟩ := Option.map_eq_some_iff.mp e
          have e2 := travD_id hy fun x _ y h => (ih hm (S := S) h).1
          subst e2
          rw [if_pos hl, travD_congr hy fun x _ y h => by rw [(ih hm (S := S) h).1]; exact (ih hm h).2]
          exact ⟨rfl, rfl⟩
        · cases e
      | lst xs =>
        simp only [full] at e ⊢
        split at e
        · rename_i hl
          obtain ⟨ys, hy, rfl⟩ := Option.map_eq_some_iff.mp e
          have e2 := travD_id hy fun x _ y h => (ih hm (S := S) h).1
          subst e2
          rw [if_pos hl, travD_congr hy fun x _ y h => by rw [(ih hm (S := S) h).1]; exact (ih hm h).2]
          exact ⟨rfl, rfl⟩
        · cases e
      | dct xs =>
        simp only [full] at e ⊢
        split at e
        · rename_i hl
          obtain ⟨ys, hy, rfl⟩ := Option.map_eq_some_iff.mp e
          have e2 := travK_id hy fun x _ y h => (ih hm (S := S) h).1
          subst e2
          rw [if_pos hl, travK_congr hy fun x _ y h => by rw [(ih hm (S := S) h).1]; exact (ih hm h).2]
          exact ⟨rfl, rfl⟩
        · cases e
      | ref k => simp [full] at e
      | ty => simp [full] at e
      | glb => simp [full] at e
      | exn => simp [full] at e
/-- a thing: no cells and classes in it, at most n deep, nothing longer than a line -/
def Th (n : Nat) (d : D) : Prop := full [] n d = some d
theorem th_of {n : Nat} {d : D} (h : (full [] n d).isSome = true) : Th n d := by
  obtain ⟨x, hx⟩ := Option.isSome_iff_exists.mp h
  exact (full_up (S := []) (Nat.le_refl n) hx).2
theorem Th.full {n : Nat} {d : D} (h : Th n d) (S : Cells) : full S n d = some d := (full_up (Nat.le_refl n) h).2
theorem Th.mono {n m : Nat} {d : D} (h : Th n d) (e : n ≤ m) : Th m d := (full_up e h).2
theorem Th.pos {n : Nat} {d : D} (h : Th n d) : ∃ m, n = m + 1 := by
  cases n with
  | zero => cases h
  | succ m => exact ⟨m, rfl⟩
theorem th_int {n : Nat} {i : Int} : Th (n + 1) (.int i) := rfl
theorem th_bl {n : Nat} {b : Bool} : Th (n + 1) (.bl b) := rfl
theorem th_non {n : Nat} : Th (n + 1) .non := rfl
theorem th_str {n : Nat} {s : List Nat} (h : s.length ≤ sizeLine) : Th (n + 1) (.str s) := if_pos h
theorem th_lst {n : Nat} {xs : List D} (h : xs.length ≤ sizeLine) (k : ∀ x ∈ xs, Th n x) : Th (n + 1) (.lst xs) := by
  unfold Th
  simp only [DD.full, h, if_true, travD_all k]
  rfl
theorem th_tup {n : Nat} {xs : List D} (h : xs.length ≤ sizeLine) (k : ∀ x ∈ xs, Th n x) : Th (n + 1) (.tup xs) := by
  unfold Th
  simp only [DD.full, h, if_true, travD_all k]
  rfl
theorem th_dct {n : Nat} {xs : List (Key × D)} (h : xs.length ≤ sizeLine) (k : ∀ x ∈ xs, Th n x.2) : Th (n + 1) (.dct xs) := by
  unfold Th
  simp only [DD.full, h, if_true, travK_all k]
  rfl
theorem Th.lst {n : Nat} {xs : List D} (h : Th (n + 1) (.lst xs)) : xs.length ≤ sizeLine ∧ ∀ x ∈ xs, Th n x := by
  unfold Th at h
  simp only [DD.full] at h
  split at h
  · rename_i hl
    obtain ⟨ys, hy, e⟩ := Option.map_eq_some_iff.mp h
    cases e
    exact ⟨hl, travD_inv hy⟩
  · cases h
theorem Th.ty {n : Nat} {d : D} (h : Th n d) : ∃ m, ∀ S : Cells, tyN S d = some m := by
  obtain ⟨n, rfl⟩ := h.pos
  cases d <;> first | exact ⟨_, fun _ => rfl⟩ | (simp [Th, DD.full] at h)
theorem Th.strOk {n : Nat} {d : D} (h : Th n d) : strOk d := by
  obtain ⟨n, rfl⟩ := h.pos
  rintro s rfl
  unfold Th at h
  simp only [DD.full] at h
  split at h
  · assumption
  · cases h
mutual
theorem rb_mono {n m : Nat} (h : n ≤ m) : ∀ {d : D}, d.rb n = true → d.rb m = true
  | .ref k, e => by simp [D.rb] at e ⊢; omega
  | .tup xs, e => by simp only [D.rb] at e ⊢; exact rbL_mono h e
  | .lst xs, e => by simp only [D.rb] at e ⊢; exact rbL_mono h e
  | .dct xs, e => by simp only [D.rb] at e ⊢; exact rbK_mono h e
  | .exn _ _ _ _ _ d, e => by simp only [D.rb] at e ⊢; exact rb_mono h e
  | .non, _ => rfl
  | .bl _, _ => rfl
  | .int _, _ => rfl
  | .str _, _ => rfl
  | .ty _, _ => rfl
  | .glb _, _ => rfl
theorem rbL_mono {n m : Nat} (h : n ≤ m) : ∀ {ds : List D}, rbL n ds = true → rbL m ds = true
  | [], _ => rfl
  | d :: ds, e => by
    simp only [rbL, Bool.and_eq_true] at e ⊢
    exact ⟨rb_mono h e.1, rbL_mono h e.2⟩
theorem rbK_mono {n m : Nat} (h : n ≤ m) : ∀ {ds : List (Key × D)}, rbK n ds = true → rbK m ds = true
  | [], _ => rfl
  | (k, d) :: ds, e => by
    simp only [rbK, Bool.and_eq_true] at e ⊢
    exact ⟨rb_mono h e.1, rbK_mono h e.2⟩
end
theorem rbL_of {n : Nat} {ds : List D} (h : ∀ d ∈ ds, D.rb n d = true) : rbL n ds = true := by rw [rbL_all, List.all_eq_true]; exact h
theorem rbK_of {n : Nat} : ∀ {ds : List (Key × D)}, (∀ d ∈ ds, D.rb n d.2 = true) → rbK n ds = true
  | [], _ => rfl
  | (k, d) :: ds, h => by simp [rbK, h (k, d) List.mem_cons_self, rbK_of fun x hx => h x (List.mem_cons_of_mem _ hx)]
theorem travK_inv {f : D → Option D} : ∀ {xs : List (Key × D)}, travK f xs = some xs → ∀ x ∈ xs, f x.2 = some x.2
  | [], _, x, h => by cases h
  | (j, y) :: xs, h, x, hx => by
    simp only [travK, Option.bind_eq_some_iff, Option.map_eq_some_iff] at h
    obtain ⟨z, hz, zs, hzs, e⟩ := h
    obtain ⟨e1, rfl⟩ := List.cons.inj e
    obtain ⟨_, rfl⟩ := Prod.mk.inj e1
    rcases List.mem_cons.mp hx with rfl | hx
    · exact hz
    · exact travK_inv hzs x hx
theorem Th.rb {n : Nat} (k : Nat) : ∀ {d : D}, Th n d → D.rb k d = true := by
  induction n with
  | zero => intro d h; cases h
  | succ n ih =>
    intro d h
    unfold Th at h
    cases d with
    | tup xs =>
      simp only [DD.full] at h
      split at h
      · obtain ⟨ys, hy, e⟩ := Option.map_eq_some_iff.mp h
        cases e
        exact rbL_of fun x hx => ih (travD_inv hy x hx)
      · cases h
    | lst xs =>
      simp only [DD.full] at h
      split at h
      · obtain ⟨ys, hy, e⟩ := Option.map_eq_some_iff.mp h
        cases e
        exact rbL_of fun x hx => ih (travD_inv hy x hx)
      · cases h
    | dct xs =>
      simp only [DD.full] at h
      split at h
      · obtain ⟨ys, hy, e⟩ := Option.map_eq_some_iff.mp h
        cases e
        exact rbK_of fun x hx => ih (travK_inv hy x hx)
      · cases h
    | ref k => simp [DD.full] at h
    | ty => simp [DD.full] at h
    | glb => simp [DD.full] at h
    | exn => simp [DD.full] at h
    | _ => rfl
theorem Nice.th {n : Nat} {d : D} (h : Nice d) : Th (n + 2) d := by
  have hz := sizeLine_eq
  cases h with
  | str s h _ => exact th_str (by omega)
  | tup s h _ => exact th_tup (by show 1 ≤ sizeLine; omega) fun x hx => by rw [List.mem_singleton.mp hx]; exact th_str (by omega)
  | lst s h _ => exact th_lst (by show 1 ≤ sizeLine; omega) fun x hx => by rw [List.mem_singleton.mp hx]; exact th_str (by omega)
  | non => exact th_non
  | int i => exact th_int
  | bl b => exact th_bl
/-! ### copies -/
/-- d' is a copy of the thing d: a list stands in a cell at or behind B -/
def Cp (B : Nat) (S : Cells) (d d' : D) : Prop := (d' = d ∧ ∀ xs, d ≠ .lst xs) ∨ ∃ xs k, d = .lst xs ∧ d' = .ref k ∧ B ≤ k ∧ S[k]? = some (some (.lst xs))
section
variable {B : Nat} {S : Cells} {d d' : D} {n : Nat}
theorem Cp.app (h : Cp B S d d') (T : Cells) : Cp B (S ++ T) d d' := by
  rcases h with h | ⟨xs, k, h1, h2, hb, h3⟩
  · exact .inl h
  · exact .inr ⟨xs, k, h1, h2, hb, by rw [List.getElem?_append_left (List.getElem?_eq_some_iff.mp h3).1]; exact h3⟩
theorem Cp.same (h : Cp B S d d') (k : ∀ xs, d ≠ .lst xs) : d' = d := by
  rcases h with h | ⟨xs, _, h, _⟩
  · exact h.1
  · exact absurd h (k xs)
theorem Cp.ty (h : Cp B S d d') (t : Th n d) : ∃ m, tyN S d' = some m := by
  rcases h with ⟨rfl, _⟩ | ⟨xs, k, rfl, rfl, _, h⟩
  · obtain ⟨m, hm⟩ := t.ty; exact ⟨m, hm S⟩
  · exact ⟨"list", by simp [tyN, h]⟩
theorem Cp.tyOf {m : String} (h : Cp B S d d') (t : tyN [] d = some m) (k : Th n d) : tyN S d' = some m := by
  rcases h with ⟨rfl, _⟩ | ⟨xs, k, rfl, rfl, _, h⟩
  · obtain ⟨m', hm⟩ := k.ty
    rw [hm] at t
    rw [hm]; exact t
  · cases t; simp [tyN, h]
theorem Cp.strOk (h : Cp B S d d') (t : Th n d) : strOk d' := by
  rcases h with ⟨rfl, _⟩ | ⟨xs, k, rfl, rfl, _, h⟩
  · exact t.strOk
  · rintro s e; cases e
theorem Cp.full (h : Cp B S d d') (t : Th n d) : full S n d' = some d := by
  rcases h with ⟨rfl, _⟩ | ⟨xs, k, rfl, rfl, _, h⟩
  · exact t.full S
  · have := t.full S
    obtain ⟨n, rfl⟩ := t.pos
    simp only [DD.full] at this ⊢
    rw [h]
    exact this
theorem Cp.wordNo {l : Int} (h : Cp B S d d') (t : wordOk l d = false) : wordOk l d' = false := by
  rcases h with ⟨rfl, _⟩ | ⟨xs, k, rfl, rfl, _, h⟩
  · exact t
  · rfl
theorem Cp.word {l : Int} (h : Cp B S d d') (t : wordOk l d = true) : d' = d := h.same fun xs e => by rw [e] at t; cases t
theorem Cp.inR {a b : Int} (h : Cp B S d d') (t : DD.inR d a b = false) : DD.inR d' a b = false := by
  rcases h with ⟨rfl, _⟩ | ⟨xs, k, rfl, rfl, _, h⟩
  · exact t
  · rfl
theorem Cp.seqA {xs : List D} (h : Cp B S d d') (t : seqA [] d = some xs) (k : Th n d) : seqA S d' = some xs := by
  rcases h with ⟨rfl, h⟩ | ⟨ys, k, rfl, rfl, _, h⟩
  · cases d' with
    | tup => exact t
    | lst ys => exact absurd rfl (h ys)
    | _ => simp [DD.seqA, seqL] at t
  · cases t
    exact seqA_ref h
end
end DD

end

section
set_option Elab.async false
set_option linter.all false
set_option maxRecDepth 100000
set_option maxHeartbeats 0
namespace HD
open PySem PySem.Spec PyProof.Rows L2
def top (i : Nat) : Stmt := PySem.Challenge.pw_onetable_k02_words.main.body.getD i (.Pass ⟨0, 0, 0, 0⟩)
abbrev R : PySem.W.OpenRow := PySem.W.OpenLaw.row PySem.Challenge.rw_onetable_k02_words
def fa0 : List DH.Fc := [.free "ValueError",
  .free "abs",
  .free "all",
  .free "bool",
  .free "dict",
  .free "int",
  .free "isinstance",
  .free "len",
  .free "list",
  .free "max",
  .free "min",
  .free "range",
  .free "sorted",
  .free "str",
  .free "sum",
  .free "tuple",
  .str "ALPHABET" "ab",
  .int "MOST_LENGTH" 130,
  .int "MOST_STEM" 8,
  .int "MOST_SUITE" 400,
  .glo "is_integer",
  .glo "is_between",
  .glo "is_list",
  .glo "check_letters",
  .glo "alphabet_of",
  .glo "is_word_of",
  .glo "is_word",
  .glo "check_word",
  .glo "key_of",
  .glo "in_order",
  .glo "of_length",
  .glo "words_up_to",
  .glo "is_ahead",
  .glo "beginnings_of",
  .glo "ends_of",
  .glo "beginnings",
  .glo "ends",
  .glo "turned_words",
  .glo "_law_cell",
  .glo "_law_box"]
def fa1 : List DH.Fc := [.glo "_law_take",
  .glo "_law_mixed",
  .glo "_law_same",
  .glo "_law_grow",
  .glo "_law_key",
  .glo "_law_order",
  .glo "_law_words",
  .glo "_law_turned",
  .glo "_law_copy",
  .glo "_law_blamed",
  .glo "_law_no_number",
  .glo "_law_word",
  .glo "_law_is_word",
  .glo "_law_near_word",
  .glo "_law_no_letters",
  .glo "_law_no_words",
  .glo "_law_asked",
  .glo "_law_told_right",
  .glo "_law_words_right",
  .glo "_law_turned_right",
  .glo "_law_refused_right",
  .glo "law",
  .glo "BoxError",
  .exc "InvalidNumber" "given",
  .exc "InvalidLetters" "given",
  .exc "InvalidWord" "given",
  .exc "InvalidWords" "given",
  .sub "InvalidNumber" "BoxError" true,
  .sub "InvalidNumber" "InvalidNumber" true,
  .sub "InvalidNumber" "InvalidLetters" false,
  .sub "InvalidNumber" "InvalidWord" false,
  .sub "InvalidNumber" "InvalidWords" false,
  .sub "InvalidLetters" "BoxError" true,
  .sub "InvalidLetters" "InvalidNumber" false,
  .sub "InvalidLetters" "InvalidLetters" true,
  .sub "InvalidLetters" "InvalidWord" false,
  .sub "InvalidLetters" "InvalidWords" false,
  .sub "InvalidWord" "BoxError" true,
  .sub "InvalidWord" "InvalidNumber" false,
  .sub "InvalidWord" "InvalidLetters" false]
def fa2 : List DH.Fc := [.sub "InvalidWord" "InvalidWord" true,
  .sub "InvalidWord" "InvalidWords" false,
  .sub "InvalidWords" "BoxError" true,
  .sub "InvalidWords" "InvalidNumber" false,
  .sub "InvalidWords" "InvalidLetters" false,
  .sub "InvalidWords" "InvalidWord" false,
  .sub "InvalidWords" "InvalidWords" true]
def fa : List DH.Fc := fa0 ++ (fa1 ++ (fa2))
def fn0 : List He.DefD := [⟨("is_integer", none), "is_integer", "is_integer", defArgs (top 7), defBody (top 7), defScope (top 7), [], []⟩,
  ⟨("is_between", none), "is_between", "is_between", defArgs (top 8), defBody (top 8), defScope (top 8), [], []⟩,
  ⟨("is_list", none), "is_list", "is_list", defArgs (top 9), defBody (top 9), defScope (top 9), [], []⟩,
  ⟨("check_letters", none), "check_letters", "check_letters", defArgs (top 15), defBody (top 15), defScope (top 15), [], []⟩,
  ⟨("alphabet_of", none), "alphabet_of", "alphabet_of", defArgs (top 16), defBody (top 16), defScope (top 16), [], []⟩,
  ⟨("is_word_of", none), "is_word_of", "is_word_of", defArgs (top 17), defBody (top 17), defScope (top 17), [], []⟩,
  ⟨("is_word", none), "is_word", "is_word", defArgs (top 18), defBody (top 18), defScope (top 18), [], []⟩,
  ⟨("check_word", none), "check_word", "check_word", defArgs (top 19), defBody (top 19), defScope (top 19), [], []⟩,
  ⟨("key_of", none), "key_of", "key_of", defArgs (top 20), defBody (top 20), defScope (top 20), [], []⟩,
  ⟨("in_order", none), "in_order", "in_order", defArgs (top 21), defBody (top 21), defScope (top 21), [], []⟩,
  ⟨("of_length", none), "of_length", "of_length", defArgs (top 22), defBody (top 22), defScope (top 22), [], []⟩,
  ⟨("words_up_to", none), "words_up_to", "words_up_to", defArgs (top 23), defBody (top 23), defScope (top 23), [], []⟩,
  ⟨("is_ahead", none), "is_ahead", "is_ahead", defArgs (top 24), defBody (top 24), defScope (top 24), [], []⟩,
  ⟨("beginnings_of", none), "beginnings_of", "beginnings_of", defArgs (top 25), defBody (top 25), defScope (top 25), [], []⟩,
  ⟨("ends_of", none), "ends_of", "ends_of", defArgs (top 26), defBody (top 26), defScope (top 26), [], []⟩,
  ⟨("beginnings", none), "beginnings", "beginnings", defArgs (top 27), defBody (top 27), defScope (top 27), [], []⟩,
  ⟨("ends", none), "ends", "ends", defArgs (top 28), defBody (top 28), defScope (top 28), [], []⟩,
  ⟨("turned_words", none), "turned_words", "turned_words", defArgs (top 29), defBody (top 29), defScope (top 29), [], []⟩,
  ⟨("_law_cell", none), "_law_cell", "_law_cell", defArgs (top 31), defBody (top 31), defScope (top 31), [], []⟩,
  ⟨("_law_box", none), "_law_box", "_law_box", defArgs (top 32), defBody (top 32), defScope (top 32), [], []⟩]
def fn1 : List He.DefD := [⟨("_law_take", none), "_law_take", "_law_take", defArgs (top 33), defBody (top 33), defScope (top 33), [], []⟩,
  ⟨("_law_mixed", none), "_law_mixed", "_law_mixed", defArgs (top 34), defBody (top 34), defScope (top 34), [], []⟩,
  ⟨("_law_same", none), "_law_same", "_law_same", defArgs (top 35), defBody (top 35), defScope (top 35), [], []⟩,
  ⟨("_law_grow", none), "_law_grow", "_law_grow", defArgs (top 36), defBody (top 36), defScope (top 36), [], []⟩,
  ⟨("_law_key", none), "_law_key", "_law_key", defArgs (top 37), defBody (top 37), defScope (top 37), [], []⟩,
  ⟨("_law_order", none), "_law_order", "_law_order", defArgs (top 38), defBody (top 38), defScope (top 38), [], []⟩,
  ⟨("_law_words", none), "_law_words", "_law_words", defArgs (top 39), defBody (top 39), defScope (top 39), [], []⟩,
  ⟨("_law_turned", none), "_law_turned", "_law_turned", defArgs (top 40), defBody (top 40), defScope (top 40), [], []⟩,
  ⟨("_law_copy", none), "_law_copy", "_law_copy", defArgs (top 41), defBody (top 41), defScope (top 41), [], []⟩,
  ⟨("_law_blamed", none), "_law_blamed", "_law_blamed", defArgs (top 42), defBody (top 42), defScope (top 42), [], []⟩,
  ⟨("_law_no_number", none), "_law_no_number", "_law_no_number", defArgs (top 43), defBody (top 43), defScope (top 43), [], []⟩,
  ⟨("_law_word", none), "_law_word", "_law_word", defArgs (top 44), defBody (top 44), defScope (top 44), [], []⟩,
  ⟨("_law_is_word", none), "_law_is_word", "_law_is_word", defArgs (top 45), defBody (top 45), defScope (top 45), [], []⟩,
  ⟨("_law_near_word", none), "_law_near_word", "_law_near_word", defArgs (top 46), defBody (top 46), defScope (top 46), [], []⟩,
  ⟨("_law_no_letters", none), "_law_no_letters", "_law_no_letters", defArgs (top 47), defBody (top 47), defScope (top 47), [], []⟩,
  ⟨("_law_no_words", none), "_law_no_words", "_law_no_words", defArgs (top 48), defBody (top 48), defScope (top 48), [], []⟩,
  ⟨("_law_asked", none), "_law_asked", "_law_asked", defArgs (top 49), defBody (top 49), defScope (top 49), [], []⟩,
  ⟨("_law_told_right", none), "_law_told_right", "_law_told_right", defArgs (top 50), defBody (top 50), defScope (top 50), [], []⟩,
  ⟨("_law_words_right", none), "_law_words_right", "_law_words_right", defArgs (top 51), defBody (top 51), defScope (top 51), [], []⟩,
  ⟨("_law_turned_right", none), "_law_turned_right", "_law_turned_right", defArgs (top 52), defBody (top 52), defScope (top 52), [], []⟩]
def fn2 : List He.DefD := [⟨("_law_refused_right", none), "_law_refused_right", "_law_refused_right", defArgs (top 53), defBody (top 53), defScope (top 53), [], []⟩,
  ⟨("law", none), "law", "law", defArgs (top 54), defBody (top 54), defScope (top 54), [], []⟩,
  ⟨("InvalidNumber", some "__init__"), "__init__", "InvalidNumber.__init__", defArgs (inClass (top 2) 0), defBody (inClass (top 2) 0), defScope (inClass (top 2) 0), [], []⟩,
  ⟨("InvalidLetters", some "__init__"), "__init__", "InvalidLetters.__init__", defArgs (inClass (top 3) 0), defBody (inClass (top 3) 0), defScope (inClass (top 3) 0), [], []⟩,
  ⟨("InvalidWord", some "__init__"), "__init__", "InvalidWord.__init__", defArgs (inClass (top 4) 0), defBody (inClass (top 4) 0), defScope (inClass (top 4) 0), [], []⟩,
  ⟨("InvalidWords", some "__init__"), "__init__", "InvalidWords.__init__", defArgs (inClass (top 5) 0), defBody (inClass (top 5) 0), defScope (inClass (top 5) 0), [], []⟩]
def fn : List He.DefD := fn0 ++ (fn1 ++ (fn2))
def names0 : List PySem.Str := ["BoxError",
  "InvalidNumber",
  "InvalidLetters",
  "InvalidWord",
  "InvalidWords",
  "is_integer",
  "is_between",
  "is_list",
  "ALPHABET",
  "MOST_LENGTH",
  "MOST_STEM",
  "MOST_SUITE",
  "check_letters",
  "alphabet_of",
  "is_word_of"]
def names1 : List PySem.Str := ["is_word",
  "check_word",
  "key_of",
  "in_order",
  "of_length",
  "words_up_to",
  "is_ahead",
  "beginnings_of",
  "ends_of",
  "beginnings",
  "ends",
  "turned_words",
  "_law_cell",
  "_law_box",
  "_law_take"]
def names2 : List PySem.Str := ["_law_mixed",
  "_law_same",
  "_law_grow",
  "_law_key",
  "_law_order",
  "_law_words",
  "_law_turned",
  "_law_copy",
  "_law_blamed",
  "_law_no_number",
  "_law_word",
  "_law_is_word",
  "_law_near_word",
  "_law_no_letters",
  "_law_no_words"]
def names3 : List PySem.Str := ["_law_asked",
  "_law_told_right",
  "_law_words_right",
  "_law_turned_right",
  "_law_refused_right"]
def names : List PySem.Str := names0 ++ (names1 ++ (names2 ++ (names3)))
abbrev hk : PySem.W.Hook := DH.hookP 4 fa fn
def ob (s : PySem.W.SharedT) : DH.Al := DH.obsPG 4 fa fn (HandSHeadRun.getT s)
theorem ob_eq (s : PySem.W.SharedT) : ob s = hk.obs s.abs := DH.obsPG_eq (HandSHeadRun.getT_eq s)
theorem run (w : World) : HandSHeadRun.RunEq R (PySem.W.view R.prog [54]) hk ob 6000 names w := by
  intro os
  kernel_rfl
end HD

end

section
set_option Elab.async false
set_option linter.all false
set_option autoImplicit false
set_option maxRecDepth 100000
set_option maxHeartbeats 4000000
namespace LK
open PySem PySem.Spec PyProof.Rows L2 DD He HD
def spF : DD.Spec := fun _ _ _ _ => False
def spFn : Nat → DD.Spec := fun _ _ _ _ _ => False

theorem sx_InvalidNumber : FnScope ["self", "given"] ["self", "given"] (defScope (inClass (HD.top 2) 0)) := ⟨rfl, rfl, rfl, by decide +kernel, rfl, by decide +kernel, by decide +kernel⟩
theorem ex_InvalidNumber {P : Program} {w : World} {K : PySem.W.Frag} {mg : Str → Option Value} {base : Heap} (h : Hd fa fn K mg) : ExcAt P w K mg base "InvalidNumber" "given" 1 := by
  obtain ⟨hm, ⟨hO, _, _⟩, hf, hi, ht⟩ := h.exc (x := "InvalidNumber") (f := "given") 63
  obtain ⟨fd, F⟩ := h.def_ 42
  exact ⟨_, _, fd, _, hm, hO, hf, hi, ht, ok_init (f := "given") (s1 := "self") (s2 := "given") F sx_InvalidNumber (by decide +kernel) (by decide +kernel) (by decide +kernel) (by decide +kernel) (by decide +kernel) (by decide +kernel) (fun _ => rfl), F.bindsN fun _ _ _ _ _ _ us hl => match us, hl with | [_, _], _ => rfl⟩
theorem sx_InvalidLetters : FnScope ["self", "given"] ["self", "given"] (defScope (inClass (HD.top 3) 0)) := ⟨rfl, rfl, rfl, by decide +kernel, rfl, by decide +kernel, by decide +kernel⟩
theorem ex_InvalidLetters {P : Program} {w : World} {K : PySem.W.Frag} {mg : Str → Option Value} {base : Heap} (h : Hd fa fn K mg) : ExcAt P w K mg base "InvalidLetters" "given" 1 := by
  obtain ⟨hm, ⟨hO, _, _⟩, hf, hi, ht⟩ := h.exc (x := "InvalidLetters") (f := "given") 64
  obtain ⟨fd, F⟩ := h.def_ 43
  exact ⟨_, _, fd, _, hm, hO, hf, hi, ht, ok_init (f := "given") (s1 := "self") (s2 := "given") F sx_InvalidLetters (by decide +kernel) (by decide +kernel) (by decide +kernel) (by decide +kernel) (by decide +kernel) (by decide +kernel) (fun _ => rfl), F.bindsN fun _ _ _ _ _ _ us hl => match us, hl with | [_, _], _ => rfl⟩
theorem sx_InvalidWord : FnScope ["self", "given"] ["self", "given"] (defScope (inClass (HD.top 4) 0)) := ⟨rfl, rfl, rfl, by decide +kernel, rfl, by decide +kernel, by decide +kernel⟩
theorem ex_InvalidWord {P : Program} {w : World} {K : PySem.W.Frag} {mg : Str → Option Value} {base : Heap} (h : Hd fa fn K mg) : ExcAt P w K mg base "InvalidWord" "given" 1 := by
  obtain ⟨hm, ⟨hO, _, _⟩, hf, hi, ht⟩ := h.exc (x := "InvalidWord") (f := "given") 65
  obtain ⟨fd, F⟩ := h.def_ 44
  exact ⟨_, _, fd, _, hm, hO, hf, hi, ht, ok_init (f := "given") (s1 := "self") (s2 := "given") F sx_InvalidWord (by decide +kernel) (by decide +kernel) (by decide +kernel) (by decide +kernel) (by decide +kernel) (by decide +kernel) (fun _ => rfl), F.bindsN fun _ _ _ _ _ _ us hl => match us, hl with | [_, _], _ => rfl⟩
theorem sx_InvalidWords : FnScope ["self", "given"] ["self", "given"] (defScope (inClass (HD.top 5) 0)) := ⟨rfl, rfl, rfl, by decide +kernel, rfl, by decide +kernel, by decide +kernel⟩
theorem ex_InvalidWords {P : Program} {w : World} {K : PySem.W.Frag} {mg : Str → Option Value} {base : Heap} (h : Hd fa fn K mg) : ExcAt P w K mg base "InvalidWords" "given" 1 := by
  obtain ⟨hm, ⟨hO, _, _⟩, hf, hi, ht⟩ := h.exc (x := "InvalidWords") (f := "given") 66
  obtain ⟨fd, F⟩ := h.def_ 45
  exact ⟨_, _, fd, _, hm, hO, hf, hi, ht, ok_init (f := "given") (s1 := "self") (s2 := "given") F sx_InvalidWords (by decide +kernel) (by decide +kernel) (by decide +kernel) (by decide +kernel) (by decide +kernel) (by decide +kernel) (fun _ => rfl), F.bindsN fun _ _ _ _ _ _ us hl => match us, hl with | [_, _], _ => rfl⟩
def excL : List (Str × Str) := [("InvalidNumber", "given"), ("InvalidLetters", "given"), ("InvalidWord", "given"), ("InvalidWords", "given")]
theorem excC : excsB fa "BoxError" excL = true := by decide +kernel
def sp_is_integer : DD.Spec := fun ds S P _ => ∃ d n, ds = [d] ∧ tyN S d = some n ∧ P (.bl (n == "int")) S
def N_is_integer : List Str := ["value"]
theorem sc_is_integer : FnScope N_is_integer ["value"] (defScope (HD.top 7)) := ⟨rfl, rfl, rfl, by decide +kernel, rfl, by decide +kernel, by decide +kernel⟩
def w_is_integer : WS :=
  (wRet (wAnd (wB gIsi (wCons (wVar 0) (wCons (wC (.ty "int")) wNil))) (wNot (wB gIsi (wCons (wVar 0) (wCons (wC (.ty "bool")) wNil))))))
theorem sat_is_integer : Sat' 1 N_is_integer.length w_is_integer sp_is_integer := by
  rintro ds S P E - hS hd ⟨d, n, rfl, hn, p⟩
  have h7 := isTy_of (tyN_mem hn)
  simp only [w_is_integer, N_is_integer, wRet, wRetN, wSeq, wSet, wIf, wPar, wPar3, wExpr, wAsg, wNext, wBreak, wCont, gdTup, gdCons, gdNil, gdName, wIte, wAnd, wOr, DD.wNot, wTest, wNotT, wAndT, wOrT, wBin, wUn, wB, wCons, wNil, wVar, wC, wTup, wLst, mkL, wYes, wCall, wChain, startD, List.map_cons, List.map_nil, List.length_cons, List.length_nil, List.replicate, List.cons_append, List.nil_append, List.append_nil, List.getElem?_cons_zero, List.getElem?_cons_succ, List.set_cons_zero, List.set_cons_succ, Option.some.injEq, exists_eq_left', exists_eq_left, true_and, and_true, if_true, if_false, Bool.false_eq_true, gI, D.int.injEq, D.bl.injEq, D.str.injEq, wLc, wSrc, srcD, wSl, wSmO, wNoO, gSl, bodyC, wipeD, beq_self_eq_true, Bool.not_true, exists_and_left, List.cons.injEq, gLen3, D.ty.injEq, D.ref.injEq, D.tup.injEq, D.lst.injEq, and_assoc, tm_bool, tm_int, tm_str, tm_tuple, tm_list, tm_dict, gIsi, wIsi2, wRaise, gLe, gGt, gGe, DD.gSub, Prod.mk.injEq, gAdd_int, gMul_int, gInt_int, gInt_bl, wPut, lenD3_lst, lenD3_tup, lenD3_str, lenD3_dct, gIn3_str, gIn3_lst, gIn3_tup, gInS, gIn, hn]
  rw [← h7.1] at p
  cases h : isTy n "int" <;> rw [h] at p <;> exact outD_id p
theorem fa_is_integer {P : Program} {w : World} {K : PySem.W.Frag} {mg : Str → Option Value} {base : Heap} (h : Hd fa fn K mg) : FnAt P w K mg base "is_integer" (defArgs (HD.top 7)) (defBody (HD.top 7)) (defScope (HD.top 7)) ["value"] 1 0 1 (sp_is_integer) := by
  obtain ⟨fd, F⟩ := h.def_ 0
  have F : FunD K "is_integer" "is_integer" (defArgs (HD.top 7)) (defBody (HD.top 7)) (defScope (HD.top 7)) [] [] (ga K "is_integer") fd := F
  refine' fn_at (c := ((0 + (0 + 0)) + (0 + (0 + 0)))) F (h.glo 20) sc_is_integer rfl ?hc (b := w_is_integer) (fun cdv A outer s H E hr => ?hb) (sat_is_integer)
  case hb =>
    have hu : (cxOf (L2.CX P w) P w K mg base N_is_integer "is_integer" (defScope (HD.top 7)) (ga K "is_integer") cdv A outer s H E).A.units + 100 < cLine := by
      show (A.deeper (envOfC "is_integer" (defScope (HD.top 7)) s.heap.objs.size (ga K "is_integer") cdv)).units + 100 < cLine
      have := hr.un
      omega
    have tk := takes_of (X := cxOf (L2.CX P w) P w K mg base N_is_integer "is_integer" (defScope (HD.top 7)) (ga K "is_integer") cdv A outer s H E) rfl rfl rfl rfl
    have hp := passes_of (X := cxOf (L2.CX P w) P w K mg base N_is_integer "is_integer" (defScope (HD.top 7)) (ga K "is_integer") cdv A outer s H E) rfl
    have D : DSs (cxOf (L2.CX P w) P w K mg base N_is_integer "is_integer" (defScope (HD.top 7)) (ga K "is_integer") cdv A outer s H E) (fun cls d _ H' => E cls d H') (defBody (HD.top 7)) _ _ := (ds_one (ds_ret (d_and (d_callB call_isi cd_isi (h.free 6) (da_cons (d_var 0) (da_cons (d_ty "int" (h.free 5)) da_nil))) (d_one (d_not (d_callB call_isi cd_isi (h.free 6) (da_cons (d_var 0) (da_cons (d_ty "bool" (h.free 3)) da_nil))))))))
    exact D
  case hc => decide +kernel
theorem ok_is_integer {P : Program} {w : World} {K : PySem.W.Frag} {mg : Str → Option Value} {base : Heap} (h : Hd fa fn K mg) : OkAt P w K mg base "is_integer" 1 0 1 (sp_is_integer) := (fa_is_integer h).ok (fun _ _ _ _ _ _ us hl => match us, hl with | [_], _ => rfl)
def sp_is_between : DD.Spec := fun ds S P _ => ∃ d n a b, ds = [d, .int a, .int b] ∧ tyN S d = some n ∧ P (.bl (DD.inR d a b)) S
def N_is_between : List Str := ["value", "least", "most"]
theorem sc_is_between : FnScope N_is_between ["value", "least", "most"] (defScope (HD.top 8)) := ⟨rfl, rfl, rfl, by decide +kernel, rfl, by decide +kernel, by decide +kernel⟩
def w_is_between : WS :=
  (wRet (wAnd (wCall 1 (sp_is_integer) (wCons (wVar 0) wNil)) (wChain gLe gLe (wVar 1) (wVar 0) (wVar 2))))
theorem sat_is_between : Sat' 3 N_is_between.length w_is_between sp_is_between := by
  rintro ds S P E - hS hd ⟨d, n, a, b, rfl, hn, p⟩
  simp only [w_is_between, N_is_between, wRet, wRetN, wSeq, wSet, wIf, wPar, wPar3, wExpr, wAsg, wNext, wBreak, wCont, gdTup, gdCons, gdNil, gdName, wIte, wAnd, wOr, DD.wNot, wTest, wNotT, wAndT, wOrT, wBin, wUn, wB, wCons, wNil, wVar, wC, wTup, wLst, mkL, wYes, wCall, wChain, startD, List.map_cons, List.map_nil, List.length_cons, List.length_nil, List.replicate, List.cons_append, List.nil_append, List.append_nil, List.getElem?_cons_zero, List.getElem?_cons_succ, List.set_cons_zero, List.set_cons_succ, Option.some.injEq, exists_eq_left', exists_eq_left, true_and, and_true, if_true, if_false, Bool.false_eq_true, gI, D.int.injEq, D.bl.injEq, D.str.injEq, wLc, wSrc, srcD, wSl, wSmO, wNoO, gSl, bodyC, wipeD, beq_self_eq_true, Bool.not_true, exists_and_left, List.cons.injEq, gLen3, D.ty.injEq, D.ref.injEq, D.tup.injEq, D.lst.injEq, and_assoc, tm_bool, tm_int, tm_str, tm_tuple, tm_list, tm_dict, gIsi, wIsi2, wRaise, gLe, gGt, gGe, DD.gSub, Prod.mk.injEq, gAdd_int, gMul_int, gInt_int, gInt_bl, wPut, lenD3_lst, lenD3_tup, lenD3_str, lenD3_dct, gIn3_str, gIn3_lst, gIn3_tup, gInS, gIn, sp_is_integer, hn]
  split
  · rename_i h
    have h : n = "int" := by simpa using h
    subst h
    obtain ⟨i, rfl⟩ := tyN_int.mp hn
    simp only [DD.inR] at p
    simp only [wRet, wRetN, wSeq, wSet, wIf, wPar, wPar3, wExpr, wAsg, wNext, wBreak, wCont, gdTup, gdCons, gdNil, gdName, wIte, wAnd, wOr, DD.wNot, wTest, wNotT, wAndT, wOrT, wBin, wUn, wB, wCons, wNil, wVar, wC, wTup, wLst, mkL, wYes, wCall, wChain, startD, List.map_cons, List.map_nil, List.length_cons, List.length_nil, List.replicate, List.cons_append, List.nil_append, List.append_nil, List.getElem?_cons_zero, List.getElem?_cons_succ, List.set_cons_zero, List.set_cons_succ, Option.some.injEq, exists_eq_left', exists_eq_left, true_and, and_true, if_true, if_false, Bool.false_eq_true, gI, D.int.injEq, D.bl.injEq, D.str.injEq, wLc, wSrc, srcD, wSl, wSmO, wNoO, gSl, bodyC, wipeD, beq_self_eq_true, Bool.not_true, exists_and_left, List.cons.injEq, gLen3, D.ty.injEq, D.ref.injEq, D.tup.injEq, D.lst.injEq, and_assoc, tm_bool, tm_int, tm_str, tm_tuple, tm_list, tm_dict, gIsi, wIsi2, wRaise, gLe, gGt, gGe, DD.gSub, Prod.mk.injEq, gAdd_int, gMul_int, gInt_int, gInt_bl, wPut, lenD3_lst, lenD3_tup, lenD3_str, lenD3_dct, gIn3_str, gIn3_lst, gIn3_tup, gInS, gIn]
    cases h2 : decide (a ≤ i) <;> rw [h2] at p <;> exact outD_id p
  · rename_i h
    rw [inR_no hn (by simpa using h)] at p
    exact outD_id p
theorem fa_is_between {P : Program} {w : World} {K : PySem.W.Frag} {mg : Str → Option Value} {base : Heap} (h : Hd fa fn K mg) : FnAt P w K mg base "is_between" (defArgs (HD.top 8)) (defBody (HD.top 8)) (defScope (HD.top 8)) ["value", "least", "most"] 2 0 3 (sp_is_between) := by
  obtain ⟨fd, F⟩ := h.def_ 1
  have F : FunD K "is_between" "is_between" (defArgs (HD.top 8)) (defBody (HD.top 8)) (defScope (HD.top 8)) [] [] (ga K "is_between") fd := F
  refine' fn_at (c := (((0 + 0) + 0) + ((0 + 0) + 0))) F (h.glo 21) sc_is_between rfl ?hc (b := w_is_between) (fun cdv A outer s H E hr => ?hb) (sat_is_between)
  case hb =>
    have hu : (cxOf (L2.CX P w) P w K mg base N_is_between "is_between" (defScope (HD.top 8)) (ga K "is_between") cdv A outer s H E).A.units + 100 < cLine := by
      show (A.deeper (envOfC "is_between" (defScope (HD.top 8)) s.heap.objs.size (ga K "is_between") cdv)).units + 100 < cLine
      have := hr.un
      omega
    have tk := takes_of (X := cxOf (L2.CX P w) P w K mg base N_is_between "is_between" (defScope (HD.top 8)) (ga K "is_between") cdv A outer s H E) rfl rfl rfl rfl
    have hp := passes_of (X := cxOf (L2.CX P w) P w K mg base N_is_between "is_between" (defScope (HD.top 8)) (ga K "is_between") cdv A outer s H E) rfl
    have D : DSs (cxOf (L2.CX P w) P w K mg base N_is_between "is_between" (defScope (HD.top 8)) (ga K "is_between") cdv A outer s H E) (fun cls d _ H' => E cls d H') (defBody (HD.top 8)) _ _ := (ds_one (ds_ret (d_and (d_call (ok_is_integer h) hr (by decide) tk (da_cons (d_var 0) da_nil)) (d_one (d_chain op_le op_le (od_I0 fun _ _ _ _ _ => .bl _) (od_I0 fun _ _ _ _ _ => .bl _) (d_var 1) (d_var 0) (d_var 2) (pe_chain op_le op_le (d_var 1) (d_var 0) (d_var 2)))))))
    exact D
  case hc => decide +kernel
theorem ok_is_between {P : Program} {w : World} {K : PySem.W.Frag} {mg : Str → Option Value} {base : Heap} (h : Hd fa fn K mg) : OkAt P w K mg base "is_between" 2 0 3 (sp_is_between) := (fa_is_between h).ok (fun _ _ _ _ _ _ us hl => match us, hl with | [_, _, _], _ => rfl)
def sp_is_list : DD.Spec := fun ds S P _ => ∃ d n, ds = [d] ∧ tyN S d = some n ∧ P (.bl (n == "list" || n == "tuple")) S
def N_is_list : List Str := ["value"]
theorem sc_is_list : FnScope N_is_list ["value"] (defScope (HD.top 9)) := ⟨rfl, rfl, rfl, by decide +kernel, rfl, by decide +kernel, by decide +kernel⟩
def w_is_list : WS :=
  (wRet (wIsi2 "list" "tuple" (wVar 0)))
theorem sat_is_list : Sat' 1 N_is_list.length w_is_list sp_is_list := by
  rintro ds S P E - hS hd ⟨d, n, rfl, hn, p⟩
  have h7 := isTy_of (tyN_mem hn)
  simp only [w_is_list, N_is_list, wRet, wRetN, wSeq, wSet, wIf, wPar, wPar3, wExpr, wAsg, wNext, wBreak, wCont, gdTup, gdCons, gdNil, gdName, wIte, wAnd, wOr, DD.wNot, wTest, wNotT, wAndT, wOrT, wBin, wUn, wB, wCons, wNil, wVar, wC, wTup, wLst, mkL, wYes, wCall, wChain, startD, List.map_cons, List.map_nil, List.length_cons, List.length_nil, List.replicate, List.cons_append, List.nil_append, List.append_nil, List.getElem?_cons_zero, List.getElem?_cons_succ, List.set_cons_zero, List.set_cons_succ, Option.some.injEq, exists_eq_left', exists_eq_left, true_and, and_true, if_true, if_false, Bool.false_eq_true, gI, D.int.injEq, D.bl.injEq, D.str.injEq, wLc, wSrc, srcD, wSl, wSmO, wNoO, gSl, bodyC, wipeD, beq_self_eq_true, Bool.not_true, exists_and_left, List.cons.injEq, gLen3, D.ty.injEq, D.ref.injEq, D.tup.injEq, D.lst.injEq, and_assoc, tm_bool, tm_int, tm_str, tm_tuple, tm_list, tm_dict, gIsi, wIsi2, wRaise, gLe, gGt, gGe, DD.gSub, Prod.mk.injEq, gAdd_int, gMul_int, gInt_int, gInt_bl, wPut, lenD3_lst, lenD3_tup, lenD3_str, lenD3_dct, gIn3_str, gIn3_lst, gIn3_tup, gInS, gIn, hn, h7]
  exact outD_id p
theorem fa_is_list {P : Program} {w : World} {K : PySem.W.Frag} {mg : Str → Option Value} {base : Heap} (h : Hd fa fn K mg) : FnAt P w K mg base "is_list" (defArgs (HD.top 9)) (defBody (HD.top 9)) (defScope (HD.top 9)) ["value"] 1 0 1 (sp_is_list) := by
  obtain ⟨fd, F⟩ := h.def_ 2
  have F : FunD K "is_list" "is_list" (defArgs (HD.top 9)) (defBody (HD.top 9)) (defScope (HD.top 9)) [] [] (ga K "is_list") fd := F
  refine' fn_at (c := 0) F (h.glo 22) sc_is_list rfl ?hc (b := w_is_list) (fun cdv A outer s H E hr => ?hb) (sat_is_list)
  case hb =>
    have hu : (cxOf (L2.CX P w) P w K mg base N_is_list "is_list" (defScope (HD.top 9)) (ga K "is_list") cdv A outer s H E).A.units + 100 < cLine := by
      show (A.deeper (envOfC "is_list" (defScope (HD.top 9)) s.heap.objs.size (ga K "is_list") cdv)).units + 100 < cLine
      have := hr.un
      omega
    have tk := takes_of (X := cxOf (L2.CX P w) P w K mg base N_is_list "is_list" (defScope (HD.top 9)) (ga K "is_list") cdv A outer s H E) rfl rfl rfl rfl
    have hp := passes_of (X := cxOf (L2.CX P w) P w K mg base N_is_list "is_list" (defScope (HD.top 9)) (ga K "is_list") cdv A outer s H E) rfl
    have D : DSs (cxOf (L2.CX P w) P w K mg base N_is_list "is_list" (defScope (HD.top 9)) (ga K "is_list") cdv A outer s H E) (fun cls d _ H' => E cls d H') (defBody (HD.top 9)) _ _ := (ds_one (ds_ret (d_isi2 "list" "tuple" (d_var 0) (hm := (h.free 6)) (hmT := (h.free 8)) (hmU := (h.free 15)))))
    exact D
  case hc => decide +kernel
theorem ok_is_list {P : Program} {w : World} {K : PySem.W.Frag} {mg : Str → Option Value} {base : Heap} (h : Hd fa fn K mg) : OkAt P w K mg base "is_list" 1 0 1 (sp_is_list) := (fa_is_list h).ok (fun _ _ _ _ _ _ us hl => match us, hl with | [_], _ => rfl)
def sp_check_letters : DD.Spec := fun ds S P E => ∃ d n, ds = [d] ∧ tyN S d = some n ∧ if DD.inR d 1 2 = true then P .non S else E ⟨"InvalidLetters", [("given", d)]⟩ S
def N_check_letters : List Str := ["letters"]
theorem sc_check_letters : FnScope N_check_letters ["letters"] (defScope (HD.top 15)) := ⟨rfl, rfl, rfl, by decide +kernel, rfl, by decide +kernel, by decide +kernel⟩
def w_check_letters : WS :=
  (wIf (wNotT (wTest (wCall 3 (sp_is_between) (wCons (wVar 0) (wCons (wC (.int 1)) (wCons (wC (.int 2)) wNil))))))
  (wRaise "InvalidLetters" "given" (wVar 0))
  wNext)
theorem sat_check_letters : Sat' 1 N_check_letters.length w_check_letters sp_check_letters := by
  rintro ds S P E - hS hd ⟨d, n, rfl, hn, p⟩
  simp only [w_check_letters, N_check_letters, wRet, wRetN, wSeq, wSet, wIf, wPar, wPar3, wExpr, wAsg, wNext, wBreak, wCont, gdTup, gdCons, gdNil, gdName, wIte, wAnd, wOr, DD.wNot, wTest, wNotT, wAndT, wOrT, wBin, wUn, wB, wCons, wNil, wVar, wC, wTup, wLst, mkL, wYes, wCall, wChain, startD, List.map_cons, List.map_nil, List.length_cons, List.length_nil, List.replicate, List.cons_append, List.nil_append, List.append_nil, List.getElem?_cons_zero, List.getElem?_cons_succ, List.set_cons_zero, List.set_cons_succ, Option.some.injEq, exists_eq_left', exists_eq_left, true_and, and_true, if_true, if_false, Bool.false_eq_true, gI, D.int.injEq, D.bl.injEq, D.str.injEq, wLc, wSrc, srcD, wSl, wSmO, wNoO, gSl, bodyC, wipeD, beq_self_eq_true, Bool.not_true, exists_and_left, List.cons.injEq, gLen3, D.ty.injEq, D.ref.injEq, D.tup.injEq, D.lst.injEq, and_assoc, tm_bool, tm_int, tm_str, tm_tuple, tm_list, tm_dict, gIsi, wIsi2, wRaise, gLe, gGt, gGe, DD.gSub, Prod.mk.injEq, gAdd_int, gMul_int, gInt_int, gInt_bl, wPut, lenD3_lst, lenD3_tup, lenD3_str, lenD3_dct, gIn3_str, gIn3_lst, gIn3_tup, gInS, gIn, sp_is_between, hn]
  cases h : DD.inR d 1 2 with
  | true => rw [h] at p; exact outD_id p
  | false => rw [h] at p; exact .inr p
theorem fa_check_letters {P : Program} {w : World} {K : PySem.W.Frag} {mg : Str → Option Value} {base : Heap} (h : Hd fa fn K mg) : FnAt P w K mg base "check_letters" (defArgs (HD.top 15)) (defBody (HD.top 15)) (defScope (HD.top 15)) ["letters"] 3 0 1 (sp_check_letters) := by
  obtain ⟨fd, F⟩ := h.def_ 3
  have F : FunD K "check_letters" "check_letters" (defArgs (HD.top 15)) (defBody (HD.top 15)) (defScope (HD.top 15)) [] [] (ga K "check_letters") fd := F
  refine' fn_at (c := (((0 + (0 + (0 + 0))) + 0) + (0 + 0))) F (h.glo 23) sc_check_letters rfl ?hc (b := w_check_letters) (fun cdv A outer s H E hr => ?hb) (sat_check_letters)
  case hb =>
    have hu : (cxOf (L2.CX P w) P w K mg base N_check_letters "check_letters" (defScope (HD.top 15)) (ga K "check_letters") cdv A outer s H E).A.units + 100 < cLine := by
      show (A.deeper (envOfC "check_letters" (defScope (HD.top 15)) s.heap.objs.size (ga K "check_letters") cdv)).units + 100 < cLine
      have := hr.un
      omega
    have tk := takes_of (X := cxOf (L2.CX P w) P w K mg base N_check_letters "check_letters" (defScope (HD.top 15)) (ga K "check_letters") cdv A outer s H E) rfl rfl rfl rfl
    have hp := passes_of (X := cxOf (L2.CX P w) P w K mg base N_check_letters "check_letters" (defScope (HD.top 15)) (ga K "check_letters") cdv A outer s H E) rfl
    have D : DSs (cxOf (L2.CX P w) P w K mg base N_check_letters "check_letters" (defScope (HD.top 15)) (ga K "check_letters") cdv A outer s H E) (fun cls d _ H' => E cls d H') (defBody (HD.top 15)) _ _ := (ds_one (ds_if (dt_not (dt_val (d_call (ok_is_between h) hr (by decide) tk (da_cons (d_var 0) (da_cons d_int (da_cons d_int da_nil))))))
    (ds_one (ds_raise (ex_InvalidLetters h) hr (by decide) rfl tk (d_var 0)))
    ds_nil))
    exact D
  case hc => decide +kernel
theorem ok_check_letters {P : Program} {w : World} {K : PySem.W.Frag} {mg : Str → Option Value} {base : Heap} (h : Hd fa fn K mg) : OkAt P w K mg base "check_letters" 3 0 1 (sp_check_letters) := (fa_check_letters h).ok (fun _ _ _ _ _ _ us hl => match us, hl with | [_], _ => rfl)
def sp_alphabet_of : DD.Spec := fun ds S P _ => ∃ l : Int, ds = [.int l] ∧ P (.lst ((abL l).map fun c => D.str [c])) S
def N_alphabet_of : List Str := ["letters"]
theorem sc_alphabet_of : FnScope N_alphabet_of ["letters"] (defScope (HD.top 16)) := ⟨rfl, rfl, rfl, by decide +kernel, rfl, by decide +kernel, by decide +kernel⟩
def w_alphabet_of : WS :=
  (wRet (wB (gList4 false) (wCons (wSl false (wC (.str [97, 98])) wNoO (wSmO (wVar 0))) wNil)))
theorem sat_alphabet_of : Sat' 1 N_alphabet_of.length w_alphabet_of sp_alphabet_of := by
  rintro ds S P E - hS hd ⟨l, rfl, p⟩
  simp only [w_alphabet_of, N_alphabet_of, wRet, wRetN, wSeq, wSet, wIf, wPar, wPar3, wExpr, wAsg, wNext, wBreak, wCont, gdTup, gdCons, gdNil, gdName, wIte, wAnd, wOr, DD.wNot, wTest, wNotT, wAndT, wOrT, wBin, wUn, wB, wCons, wNil, wVar, wC, wTup, wLst, mkL, wYes, wCall, wChain, startD, List.map_cons, List.map_nil, List.length_cons, List.length_nil, List.replicate, List.cons_append, List.nil_append, List.append_nil, List.getElem?_cons_zero, List.getElem?_cons_succ, List.set_cons_zero, List.set_cons_succ, Option.some.injEq, exists_eq_left', exists_eq_left, true_and, and_true, if_true, if_false, Bool.false_eq_true, gI, D.int.injEq, D.bl.injEq, D.str.injEq, wLc, wSrc, srcD, wSl, wSmO, wNoO, gSl, bodyC, wipeD, beq_self_eq_true, Bool.not_true, exists_and_left, List.cons.injEq, gLen3, D.ty.injEq, D.ref.injEq, D.tup.injEq, D.lst.injEq, and_assoc, tm_bool, tm_int, tm_str, tm_tuple, tm_list, tm_dict, gIsi, wIsi2, wRaise, gLe, gGt, gGe, DD.gSub, Prod.mk.injEq, gAdd_int, gMul_int, gInt_int, gInt_bl, wPut, lenD3_lst, lenD3_tup, lenD3_str, lenD3_dct, gIn3_str, gIn3_lst, gIn3_tup, gInS, gIn, gList4]
  exact ⟨by decide, Nat.le_trans (abL_le l) (by decide), outD_id p⟩
theorem fa_alphabet_of {P : Program} {w : World} {K : PySem.W.Frag} {mg : Str → Option Value} {base : Heap} (h : Hd fa fn K mg) : FnAt P w K mg base "alphabet_of" (defArgs (HD.top 16)) (defBody (HD.top 16)) (defScope (HD.top 16)) ["letters"] 1 0 1 (sp_alphabet_of) := by
  obtain ⟨fd, F⟩ := h.def_ 4
  have F : FunD K "alphabet_of" "alphabet_of" (defArgs (HD.top 16)) (defBody (HD.top 16)) (defScope (HD.top 16)) [] [] (ga K "alphabet_of") fd := F
  refine' fn_at (c := (((0 + 0) + 0) + 0)) F (h.glo 24) sc_alphabet_of rfl ?hc (b := w_alphabet_of) (fun cdv A outer s H E hr => ?hb) (sat_alphabet_of)
  case hb =>
    have hu : (cxOf (L2.CX P w) P w K mg base N_alphabet_of "alphabet_of" (defScope (HD.top 16)) (ga K "alphabet_of") cdv A outer s H E).A.units + 100 < cLine := by
      show (A.deeper (envOfC "alphabet_of" (defScope (HD.top 16)) s.heap.objs.size (ga K "alphabet_of") cdv)).units + 100 < cLine
      have := hr.un
      omega
    have tk := takes_of (X := cxOf (L2.CX P w) P w K mg base N_alphabet_of "alphabet_of" (defScope (HD.top 16)) (ga K "alphabet_of") cdv A outer s H E) rfl rfl rfl rfl
    have hp := passes_of (X := cxOf (L2.CX P w) P w K mg base N_alphabet_of "alphabet_of" (defScope (HD.top 16)) (ga K "alphabet_of") cdv A outer s H E) rfl
    have D : DSs (cxOf (L2.CX P w) P w K mg base N_alphabet_of "alphabet_of" (defScope (HD.top 16)) (ga K "alphabet_of") cdv A outer s H E) (fun cls d _ H' => E cls d H') (defBody (HD.top 16)) _ _ := (ds_one (ds_ret (d_list4 false rfl (h.free 8) (da_cons (d_sl false (d_gstr [97, 98] (h.str 16)) do_none (do_some (d_var 0))) da_nil))))
    exact D
  case hc => decide +kernel
theorem ok_alphabet_of {P : Program} {w : World} {K : PySem.W.Frag} {mg : Str → Option Value} {base : Heap} (h : Hd fa fn K mg) : OkAt P w K mg base "alphabet_of" 1 0 1 (sp_alphabet_of) := (fa_alphabet_of h).ok (fun _ _ _ _ _ _ us hl => match us, hl with | [_], _ => rfl)
def sp_is_word_of : DD.Spec := fun ds S P _ => ∃ (l : Int) (d : D) (n : String), ds = [.int l, d] ∧ tyN S d = some n ∧ strOk d ∧ P (.bl (wordOk l d)) S
def N_is_word_of : List Str := ["letters", "value", "letter"]
theorem sc_is_word_of : FnScope N_is_word_of ["letters", "value"] (defScope (HD.top 17)) := ⟨rfl, rfl, rfl, by decide +kernel, rfl, by decide +kernel, by decide +kernel⟩
def w_is_word_of : WS :=
  (wSeq (wIf (wOrT (wNotT (wTest (wB gIsi (wCons (wVar 1) (wCons (wC (.ty "str")) wNil))))) (wTest (wBin gGt (wB gLen3 (wCons (wVar 1) wNil)) (wC (.int 130)))))
  (wRet (wC (.bl false)))
  wNext)
  (wRet (wB gAll (wCons (wLc false (wSrc (wVar 1)) (gdName 2) wYes (wBin (gIn3 false) (wVar 2) (wSl false (wC (.str [97, 98])) wNoO (wSmO (wVar 0)))) (List.map (fun p : Str × Nat => p.2) [("letter", 2)])) wNil))))
theorem sat_is_word_of : Sat' 2 N_is_word_of.length w_is_word_of sp_is_word_of := by
  rintro ds S P E - hS hd ⟨l, d, n, rfl, hn, hs, p⟩
  have h7 := isTy_of (tyN_mem hn)
  simp only [w_is_word_of, N_is_word_of, wRet, wRetN, wSeq, wSet, wIf, wPar, wPar3, wExpr, wAsg, wNext, wBreak, wCont, gdTup, gdCons, gdNil, gdName, wIte, wAnd, wOr, DD.wNot, wTest, wNotT, wAndT, wOrT, wBin, wUn, wB, wCons, wNil, wVar, wC, wTup, wLst, mkL, wYes, wCall, wChain, startD, List.map_cons, List.map_nil, List.length_cons, List.length_nil, List.replicate, List.cons_append, List.nil_append, List.append_nil, List.getElem?_cons_zero, List.getElem?_cons_succ, List.set_cons_zero, List.set_cons_succ, Option.some.injEq, exists_eq_left', exists_eq_left, true_and, and_true, if_true, if_false, Bool.false_eq_true, gI, D.int.injEq, D.bl.injEq, D.str.injEq, wLc, wSrc, srcD, wSl, wSmO, wNoO, gSl, bodyC, wipeD, beq_self_eq_true, Bool.not_true, exists_and_left, List.cons.injEq, gLen3, D.ty.injEq, D.ref.injEq, D.tup.injEq, D.lst.injEq, and_assoc, tm_bool, tm_int, tm_str, tm_tuple, tm_list, tm_dict, gIsi, wIsi2, wRaise, gLe, gGt, gGe, DD.gSub, Prod.mk.injEq, gAdd_int, gMul_int, gInt_int, gInt_bl, wPut, lenD3_lst, lenD3_tup, lenD3_str, lenD3_dct, gIn3_str, gIn3_lst, gIn3_tup, gInS, gIn, hn, h7]
  by_cases hstr : n = "str"
  · subst hstr
    obtain ⟨s, rfl⟩ := tyN_str.mp hn
    have hl := hs s rfl
    simp only [hl, wRet, wRetN, wSeq, wSet, wIf, wPar, wPar3, wExpr, wAsg, wNext, wBreak, wCont, gdTup, gdCons, gdNil, gdName, wIte, wAnd, wOr, DD.wNot, wTest, wNotT, wAndT, wOrT, wBin, wUn, wB, wCons, wNil, wVar, wC, wTup, wLst, mkL, wYes, wCall, wChain, startD, List.map_cons, List.map_nil, List.length_cons, List.length_nil, List.replicate, List.cons_append, List.nil_append, List.append_nil, List.getElem?_cons_zero, List.getElem?_cons_succ, List.set_cons_zero, List.set_cons_succ, Option.some.injEq, exists_eq_left', exists_eq_left, true_and, and_true, if_true, if_false, Bool.false_eq_true, gI, D.int.injEq, D.bl.injEq, D.str.injEq, wLc, wSrc, srcD, wSl, wSmO, wNoO, gSl, bodyC, wipeD, beq_self_eq_true, Bool.not_true, exists_and_left, List.cons.injEq, gLen3, D.ty.injEq, D.ref.injEq, D.tup.injEq, D.lst.injEq, and_assoc, tm_bool, tm_int, tm_str, tm_tuple, tm_list, tm_dict, gIsi, wIsi2, wRaise, gLe, gGt, gGe, DD.gSub, Prod.mk.injEq, gAdd_int, gMul_int, gInt_int, gInt_bl, wPut, lenD3_lst, lenD3_tup, lenD3_str, lenD3_dct, gIn3_str, gIn3_lst, gIn3_tup, gInS, gIn]
    by_cases h130 : s.length ≤ 130
    · rw [if_neg (by simp; omega)]
      refine loopC_pure (fun d => some (.bl (signIn (abL l) d))) trivial _ _ (fun x hx Q hQ => ?_) ?_
      · obtain ⟨c, hc, rfl⟩ := List.mem_map.mp hx
        simp only [wRet, wRetN, wSeq, wSet, wIf, wPar, wPar3, wExpr, wAsg, wNext, wBreak, wCont, gdTup, gdCons, gdNil, gdName, wIte, wAnd, wOr, DD.wNot, wTest, wNotT, wAndT, wOrT, wBin, wUn, wB, wCons, wNil, wVar, wC, wTup, wLst, mkL, wYes, wCall, wChain, startD, List.map_cons, List.map_nil, List.length_cons, List.length_nil, List.replicate, List.cons_append, List.nil_append, List.append_nil, List.getElem?_cons_zero, List.getElem?_cons_succ, List.set_cons_zero, List.set_cons_succ, Option.some.injEq, exists_eq_left', exists_eq_left, true_and, and_true, if_true, if_false, Bool.false_eq_true, gI, D.int.injEq, D.bl.injEq, D.str.injEq, wLc, wSrc, srcD, wSl, wSmO, wNoO, gSl, bodyC, wipeD, beq_self_eq_true, Bool.not_true, exists_and_left, List.cons.injEq, gLen3, D.ty.injEq, D.ref.injEq, D.tup.injEq, D.lst.injEq, and_assoc, tm_bool, tm_int, tm_str, tm_tuple, tm_list, tm_dict, gIsi, wIsi2, wRaise, gLe, gGt, gGe, DD.gSub, Prod.mk.injEq, gAdd_int, gMul_int, gInt_int, gInt_bl, wPut, lenD3_lst, lenD3_tup, lenD3_str, lenD3_dct, gIn3_str, gIn3_lst, gIn3_tup, gInS, gIn]
        exact ⟨by decide, hQ⟩
      · refine ⟨_, _, s.map fun c => decide (c ∈ abL l), rfl, rfl, ?_, ?_⟩
        · rw [List.nil_append, List.filterMap_map]
          exact boolsOf_signs (abL l) s
        · rw [wordOk, decide_eq_true h130, Bool.true_and] at p
          rw [List.all_map]
          exact outD_id p
    · rw [if_pos (by simp; omega)]
      rw [wordOk, decide_eq_false h130, Bool.false_and] at p
      exact outD_id p
  · have hb : (n == "str") = false := by simpa using hstr
    simp only [hb, wRet, wRetN, wSeq, wSet, wIf, wPar, wPar3, wExpr, wAsg, wNext, wBreak, wCont, gdTup, gdCons, gdNil, gdName, wIte, wAnd, wOr, DD.wNot, wTest, wNotT, wAndT, wOrT, wBin, wUn, wB, wCons, wNil, wVar, wC, wTup, wLst, mkL, wYes, wCall, wChain, startD, List.map_cons, List.map_nil, List.length_cons, List.length_nil, List.replicate, List.cons_append, List.nil_append, List.append_nil, List.getElem?_cons_zero, List.getElem?_cons_succ, List.set_cons_zero, List.set_cons_succ, Option.some.injEq, exists_eq_left', exists_eq_left, true_and, and_true, if_true, if_false, Bool.false_eq_true, gI, D.int.injEq, D.bl.injEq, D.str.injEq, wLc, wSrc, srcD, wSl, wSmO, wNoO, gSl, bodyC, wipeD, beq_self_eq_true, Bool.not_true, exists_and_left, List.cons.injEq, gLen3, D.ty.injEq, D.ref.injEq, D.tup.injEq, D.lst.injEq, and_assoc, tm_bool, tm_int, tm_str, tm_tuple, tm_list, tm_dict, gIsi, wIsi2, wRaise, gLe, gGt, gGe, DD.gSub, Prod.mk.injEq, gAdd_int, gMul_int, gInt_int, gInt_bl, wPut, lenD3_lst, lenD3_tup, lenD3_str, lenD3_dct, gIn3_str, gIn3_lst, gIn3_tup, gInS, gIn]
    rw [wordOk_no hn hstr] at p
    exact outD_id p
theorem fa_is_word_of {P : Program} {w : World} {K : PySem.W.Frag} {mg : Str → Option Value} {base : Heap} (h : Hd fa fn K mg) : FnAt P w K mg base "is_word_of" (defArgs (HD.top 17)) (defBody (HD.top 17)) (defScope (HD.top 17)) ["letters", "value"] 1 0 2 (sp_is_word_of) := by
  obtain ⟨fd, F⟩ := h.def_ 5
  have F : FunD K "is_word_of" "is_word_of" (defArgs (HD.top 17)) (defBody (HD.top 17)) (defScope (HD.top 17)) [] [] (ga K "is_word_of") fd := F
  refine' fn_at (c := ((((0 + (0 + 0)) + ((0 + 0) + 0)) + (0 + 0)) + ((0 + (2 ^ 24 * (0 + (0 + ((0 + 0) + 0))))) + 0))) F (h.glo 25) sc_is_word_of rfl ?hc (b := w_is_word_of) (fun cdv A outer s H E hr => ?hb) (sat_is_word_of)
  case hb =>
    have hu : (cxOf (L2.CX P w) P w K mg base N_is_word_of "is_word_of" (defScope (HD.top 17)) (ga K "is_word_of") cdv A outer s H E).A.units + 100 < cLine := by
      show (A.deeper (envOfC "is_word_of" (defScope (HD.top 17)) s.heap.objs.size (ga K "is_word_of") cdv)).units + 100 < cLine
      have := hr.un
      omega
    have tk := takes_of (X := cxOf (L2.CX P w) P w K mg base N_is_word_of "is_word_of" (defScope (HD.top 17)) (ga K "is_word_of") cdv A outer s H E) rfl rfl rfl rfl
    have hp := passes_of (X := cxOf (L2.CX P w) P w K mg base N_is_word_of "is_word_of" (defScope (HD.top 17)) (ga K "is_word_of") cdv A outer s H E) rfl
    have D : DSs (cxOf (L2.CX P w) P w K mg base N_is_word_of "is_word_of" (defScope (HD.top 17)) (ga K "is_word_of") cdv A outer s H E) (fun cls d _ H' => E cls d H') (defBody (HD.top 17)) _ _ := (ds_cons (ds_if (dt_w (dw_or (dt_not (dt_val (d_callB call_isi cd_isi (h.free 6) (da_cons (d_var 1) (da_cons (d_ty "str" (h.free 13)) da_nil))))) (dw_or1 (dt_gt (d_len3 (h.free 7) (da_cons (d_var 1) da_nil)) (d_gint (h.int 17))))))
    (ds_one (ds_ret d_bl))
    ds_nil)
    (ds_one (ds_ret (d_callB (cr_all rfl) cd_all (h.free 2) (da_cons (d_lc false rfl sc_is_word_of.nd (di_any (d_var 1)) (show BlkOk N_is_word_of (defScope (HD.top 17)) _ [("letter", 2)] from blkOk_by (by decide +kernel)) (fun _ _ _ _ _ => (dg_name 2 sc_is_word_of.nd)) (fun _ _ _ _ _ => dts_nil) (fun _ _ _ _ _ => (d_in3 hu (d_var 2) (d_sl false (d_gstr [97, 98] (h.str 16)) do_none (do_some (d_var 0)))))) da_nil)))))
    exact D
  case hc => decide +kernel
theorem ok_is_word_of {P : Program} {w : World} {K : PySem.W.Frag} {mg : Str → Option Value} {base : Heap} (h : Hd fa fn K mg) : OkAt P w K mg base "is_word_of" 1 0 2 (sp_is_word_of) := (fa_is_word_of h).ok (fun _ _ _ _ _ _ us hl => match us, hl with | [_, _], _ => rfl)
def sp_is_word : DD.Spec := fun ds S P E => ∃ (l d : D) (m n : String), ds = [l, d] ∧ tyN S l = some m ∧ tyN S d = some n ∧ strOk d ∧
  if DD.inR l 1 2 = true then ∀ i, l = .int i → P (.bl (wordOk i d)) S else E ⟨"InvalidLetters", [("given", l)]⟩ S
def N_is_word : List Str := ["letters", "value"]
theorem sc_is_word : FnScope N_is_word ["letters", "value"] (defScope (HD.top 18)) := ⟨rfl, rfl, rfl, by decide +kernel, rfl, by decide +kernel, by decide +kernel⟩
def w_is_word : WS :=
  (wSeq (wExpr (wCall 1 (sp_check_letters) (wCons (wVar 0) wNil)))
  (wRet (wCall 2 (sp_is_word_of) (wCons (wVar 0) (wCons (wVar 1) wNil)))))
theorem sat_is_word : Sat' 2 N_is_word.length w_is_word sp_is_word := by
  rintro ds S P E - hS hd ⟨l, d, m, n, rfl, hm, hn, hs, p⟩
  simp only [w_is_word, N_is_word, wRet, wRetN, wSeq, wSet, wIf, wPar, wPar3, wExpr, wAsg, wNext, wBreak, wCont, gdTup, gdCons, gdNil, gdName, wIte, wAnd, wOr, DD.wNot, wTest, wNotT, wAndT, wOrT, wBin, wUn, wB, wCons, wNil, wVar, wC, wTup, wLst, mkL, wYes, wCall, wChain, startD, List.map_cons, List.map_nil, List.length_cons, List.length_nil, List.replicate, List.cons_append, List.nil_append, List.append_nil, List.getElem?_cons_zero, List.getElem?_cons_succ, List.set_cons_zero, List.set_cons_succ, Option.some.injEq, exists_eq_left', exists_eq_left, true_and, and_true, if_true, if_false, Bool.false_eq_true, gI, D.int.injEq, D.bl.injEq, D.str.injEq, wLc, wSrc, srcD, wSl, wSmO, wNoO, gSl, bodyC, wipeD, beq_self_eq_true, Bool.not_true, exists_and_left, List.cons.injEq, gLen3, D.ty.injEq, D.ref.injEq, D.tup.injEq, D.lst.injEq, and_assoc, tm_bool, tm_int, tm_str, tm_tuple, tm_list, tm_dict, gIsi, wIsi2, wRaise, gLe, gGt, gGe, DD.gSub, Prod.mk.injEq, gAdd_int, gMul_int, gInt_int, gInt_bl, wPut, lenD3_lst, lenD3_tup, lenD3_str, lenD3_dct, gIn3_str, gIn3_lst, gIn3_tup, gInS, gIn, sp_check_letters, hm]
  cases h : DD.inR l 1 2 with
  | true =>
    rw [h] at p
    obtain ⟨i, rfl, _⟩ := inR_int h
    simp only [wRet, wRetN, wSeq, wSet, wIf, wPar, wPar3, wExpr, wAsg, wNext, wBreak, wCont, gdTup, gdCons, gdNil, gdName, wIte, wAnd, wOr, DD.wNot, wTest, wNotT, wAndT, wOrT, wBin, wUn, wB, wCons, wNil, wVar, wC, wTup, wLst, mkL, wYes, wCall, wChain, startD, List.map_cons, List.map_nil, List.length_cons, List.length_nil, List.replicate, List.cons_append, List.nil_append, List.append_nil, List.getElem?_cons_zero, List.getElem?_cons_succ, List.set_cons_zero, List.set_cons_succ, Option.some.injEq, exists_eq_left', exists_eq_left, true_and, and_true, if_true, if_false, Bool.false_eq_true, gI, D.int.injEq, D.bl.injEq, D.str.injEq, wLc, wSrc, srcD, wSl, wSmO, wNoO, gSl, bodyC, wipeD, beq_self_eq_true, Bool.not_true, exists_and_left, List.cons.injEq, gLen3, D.ty.injEq, D.ref.injEq, D.tup.injEq, D.lst.injEq, and_assoc, tm_bool, tm_int, tm_str, tm_tuple, tm_list, tm_dict, gIsi, wIsi2, wRaise, gLe, gGt, gGe, DD.gSub, Prod.mk.injEq, gAdd_int, gMul_int, gInt_int, gInt_bl, wPut, lenD3_lst, lenD3_tup, lenD3_str, lenD3_dct, gIn3_str, gIn3_lst, gIn3_tup, gInS, gIn, sp_is_word_of, hn]
    exact ⟨hs, outD_id (p i rfl)⟩
  | false => rw [h] at p; exact .inr p
theorem fa_is_word {P : Program} {w : World} {K : PySem.W.Frag} {mg : Str → Option Value} {base : Heap} (h : Hd fa fn K mg) : FnAt P w K mg base "is_word" (defArgs (HD.top 18)) (defBody (HD.top 18)) (defScope (HD.top 18)) ["letters", "value"] 4 0 2 (sp_is_word) := by
  obtain ⟨fd, F⟩ := h.def_ 6
  have F : FunD K "is_word" "is_word" (defArgs (HD.top 18)) (defBody (HD.top 18)) (defScope (HD.top 18)) [] [] (ga K "is_word") fd := F
  refine' fn_at (c := (((0 + 0) + 0) + ((0 + (0 + 0)) + 0))) F (h.glo 26) sc_is_word rfl ?hc (b := w_is_word) (fun cdv A outer s H E hr => ?hb) (sat_is_word)
  case hb =>
    have hu : (cxOf (L2.CX P w) P w K mg base N_is_word "is_word" (defScope (HD.top 18)) (ga K "is_word") cdv A outer s H E).A.units + 100 < cLine := by
      show (A.deeper (envOfC "is_word" (defScope (HD.top 18)) s.heap.objs.size (ga K "is_word") cdv)).units + 100 < cLine
      have := hr.un
      omega
    have tk := takes_of (X := cxOf (L2.CX P w) P w K mg base N_is_word "is_word" (defScope (HD.top 18)) (ga K "is_word") cdv A outer s H E) rfl rfl rfl rfl
    have hp := passes_of (X := cxOf (L2.CX P w) P w K mg base N_is_word "is_word" (defScope (HD.top 18)) (ga K "is_word") cdv A outer s H E) rfl
    have D : DSs (cxOf (L2.CX P w) P w K mg base N_is_word "is_word" (defScope (HD.top 18)) (ga K "is_word") cdv A outer s H E) (fun cls d _ H' => E cls d H') (defBody (HD.top 18)) _ _ := (ds_cons (ds_expr (d_call (ok_check_letters h) hr (by decide) tk (da_cons (d_var 0) da_nil)))
    (ds_one (ds_ret (d_call (ok_is_word_of h) hr (by decide) tk (da_cons (d_var 0) (da_cons (d_var 1) da_nil))))))
    exact D
  case hc => decide +kernel
theorem ok_is_word {P : Program} {w : World} {K : PySem.W.Frag} {mg : Str → Option Value} {base : Heap} (h : Hd fa fn K mg) : OkAt P w K mg base "is_word" 4 0 2 (sp_is_word) := (fa_is_word h).ok (fun _ _ _ _ _ _ us hl => match us, hl with | [_, _], _ => rfl)
theorem okk_is_word0 {P : Program} {w : World} {K : PySem.W.Frag} {mg : Str → Option Value} {base : Heap} (h : Hd fa fn K mg) : OkAtK P w K mg base "is_word" 4 0 2 (sp_is_word) ["value", "letters"] [1, 0] := (fa_is_word h).okK _ _ (fun _ _ _ _ _ _ us hl => match us, hl with | [_, _], _ => rfl)
def sp_check_word : DD.Spec := fun ds S P E => ∃ (l : Int) (d : D) (n : String), ds = [.int l, d] ∧ tyN S d = some n ∧ strOk d ∧ if wordOk l d = true then P .non S else E ⟨"InvalidWord", [("given", d)]⟩ S
def N_check_word : List Str := ["letters", "word"]
theorem sc_check_word : FnScope N_check_word ["letters", "word"] (defScope (HD.top 19)) := ⟨rfl, rfl, rfl, by decide +kernel, rfl, by decide +kernel, by decide +kernel⟩
def w_check_word : WS :=
  (wIf (wNotT (wTest (wCall 2 (sp_is_word_of) (wCons (wVar 0) (wCons (wVar 1) wNil)))))
  (wRaise "InvalidWord" "given" (wVar 1))
  wNext)
theorem sat_check_word : Sat' 2 N_check_word.length w_check_word sp_check_word := by
  rintro ds S P E - hS hd ⟨l, d, n, rfl, hn, hs, p⟩
  simp only [w_check_word, N_check_word, wRet, wRetN, wSeq, wSet, wIf, wPar, wPar3, wExpr, wAsg, wNext, wBreak, wCont, gdTup, gdCons, gdNil, gdName, wIte, wAnd, wOr, DD.wNot, wTest, wNotT, wAndT, wOrT, wBin, wUn, wB, wCons, wNil, wVar, wC, wTup, wLst, mkL, wYes, wCall, wChain, startD, List.map_cons, List.map_nil, List.length_cons, List.length_nil, List.replicate, List.cons_append, List.nil_append, List.append_nil, List.getElem?_cons_zero, List.getElem?_cons_succ, List.set_cons_zero, List.set_cons_succ, Option.some.injEq, exists_eq_left', exists_eq_left, true_and, and_true, if_true, if_false, Bool.false_eq_true, gI, D.int.injEq, D.bl.injEq, D.str.injEq, wLc, wSrc, srcD, wSl, wSmO, wNoO, gSl, bodyC, wipeD, beq_self_eq_true, Bool.not_true, exists_and_left, List.cons.injEq, gLen3, D.ty.injEq, D.ref.injEq, D.tup.injEq, D.lst.injEq, and_assoc, tm_bool, tm_int, tm_str, tm_tuple, tm_list, tm_dict, gIsi, wIsi2, wRaise, gLe, gGt, gGe, DD.gSub, Prod.mk.injEq, gAdd_int, gMul_int, gInt_int, gInt_bl, wPut, lenD3_lst, lenD3_tup, lenD3_str, lenD3_dct, gIn3_str, gIn3_lst, gIn3_tup, gInS, gIn, sp_is_word_of, hn, hs]
  cases h : wordOk l d with
  | true => rw [h] at p; exact outD_id p
  | false => rw [h] at p; exact .inr p
theorem fa_check_word {P : Program} {w : World} {K : PySem.W.Frag} {mg : Str → Option Value} {base : Heap} (h : Hd fa fn K mg) : FnAt P w K mg base "check_word" (defArgs (HD.top 19)) (defBody (HD.top 19)) (defScope (HD.top 19)) ["letters", "word"] 3 0 2 (sp_check_word) := by
  obtain ⟨fd, F⟩ := h.def_ 7
  have F : FunD K "check_word" "check_word" (defArgs (HD.top 19)) (defBody (HD.top 19)) (defScope (HD.top 19)) [] [] (ga K "check_word") fd := F
  refine' fn_at (c := (((0 + (0 + 0)) + 0) + (0 + 0))) F (h.glo 27) sc_check_word rfl ?hc (b := w_check_word) (fun cdv A outer s H E hr => ?hb) (sat_check_word)
  case hb =>
    have hu : (cxOf (L2.CX P w) P w K mg base N_check_word "check_word" (defScope (HD.top 19)) (ga K "check_word") cdv A outer s H E).A.units + 100 < cLine := by
      show (A.deeper (envOfC "check_word" (defScope (HD.top 19)) s.heap.objs.size (ga K "check_word") cdv)).units + 100 < cLine
      have := hr.un
      omega
    have tk := takes_of (X := cxOf (L2.CX P w) P w K mg base N_check_word "check_word" (defScope (HD.top 19)) (ga K "check_word") cdv A outer s H E) rfl rfl rfl rfl
    have hp := passes_of (X := cxOf (L2.CX P w) P w K mg base N_check_word "check_word" (defScope (HD.top 19)) (ga K "check_word") cdv A outer s H E) rfl
    have D : DSs (cxOf (L2.CX P w) P w K mg base N_check_word "check_word" (defScope (HD.top 19)) (ga K "check_word") cdv A outer s H E) (fun cls d _ H' => E cls d H') (defBody (HD.top 19)) _ _ := (ds_one (ds_if (dt_not (dt_val (d_call (ok_is_word_of h) hr (by decide) tk (da_cons (d_var 0) (da_cons (d_var 1) da_nil)))))
    (ds_one (ds_raise (ex_InvalidWord h) hr (by decide) rfl tk (d_var 1)))
    ds_nil))
    exact D
  case hc => decide +kernel
theorem ok_check_word {P : Program} {w : World} {K : PySem.W.Frag} {mg : Str → Option Value} {base : Heap} (h : Hd fa fn K mg) : OkAt P w K mg base "check_word" 3 0 2 (sp_check_word) := (fa_check_word h).ok (fun _ _ _ _ _ _ us hl => match us, hl with | [_, _], _ => rfl)
def sp_key_of : DD.Spec := fun ds S P _ => ∃ s : List Nat, ds = [.str s] ∧ s.length ≤ sizeLine ∧ P (keyD s) S
def N_key_of : List Str := ["word"]
theorem sc_key_of : FnScope N_key_of ["word"] (defScope (HD.top 20)) := ⟨rfl, rfl, rfl, by decide +kernel, rfl, by decide +kernel, by decide +kernel⟩
theorem key_key_of {P : Program} {w : World} {K : PySem.W.Frag} {mg : Str → Option Value} {base : Heap} (h : Hd fa fn K mg) : KeyAt P w K mg base "key_of" 1 := by
  obtain ⟨fd, F⟩ := h.def_ 8
  exact ⟨_, h.glo 28, key_fn F sc_key_of (fun _ _ _ _ _ _ us hl => match us, hl with | [_], _ => rfl) (by decide +kernel) (by decide +kernel) (h.free 7) (by decide +kernel) (by decide +kernel)⟩
def w_key_of : WS :=
  (wRet (wTup (wCons (wB gLen3 (wCons (wVar 0) wNil)) (wCons (wVar 0) wNil))))
theorem sat_key_of : Sat' 1 N_key_of.length w_key_of sp_key_of := by
  rintro ds S P E - hS hd ⟨s, rfl, hs, p⟩
  simp only [w_key_of, N_key_of, wRet, wRetN, wSeq, wSet, wIf, wPar, wPar3, wExpr, wAsg, wNext, wBreak, wCont, gdTup, gdCons, gdNil, gdName, wIte, wAnd, wOr, DD.wNot, wTest, wNotT, wAndT, wOrT, wBin, wUn, wB, wCons, wNil, wVar, wC, wTup, wLst, mkL, wYes, wCall, wChain, startD, List.map_cons, List.map_nil, List.length_cons, List.length_nil, List.replicate, List.cons_append, List.nil_append, List.append_nil, List.getElem?_cons_zero, List.getElem?_cons_succ, List.set_cons_zero, List.set_cons_succ, Option.some.injEq, exists_eq_left', exists_eq_left, true_and, and_true, if_true, if_false, Bool.false_eq_true, gI, D.int.injEq, D.bl.injEq, D.str.injEq, wLc, wSrc, srcD, wSl, wSmO, wNoO, gSl, bodyC, wipeD, beq_self_eq_true, Bool.not_true, exists_and_left, List.cons.injEq, gLen3, D.ty.injEq, D.ref.injEq, D.tup.injEq, D.lst.injEq, and_assoc, tm_bool, tm_int, tm_str, tm_tuple, tm_list, tm_dict, gIsi, wIsi2, wRaise, gLe, gGt, gGe, DD.gSub, Prod.mk.injEq, gAdd_int, gMul_int, gInt_int, gInt_bl, wPut, lenD3_lst, lenD3_tup, lenD3_str, lenD3_dct, gIn3_str, gIn3_lst, gIn3_tup, gInS, gIn, hs]
  exact ⟨by decide, outD_id p⟩
theorem fa_key_of {P : Program} {w : World} {K : PySem.W.Frag} {mg : Str → Option Value} {base : Heap} (h : Hd fa fn K mg) : FnAt P w K mg base "key_of" (defArgs (HD.top 20)) (defBody (HD.top 20)) (defScope (HD.top 20)) ["word"] 1 0 1 (sp_key_of) := by
  obtain ⟨fd, F⟩ := h.def_ 8
  have F : FunD K "key_of" "key_of" (defArgs (HD.top 20)) (defBody (HD.top 20)) (defScope (HD.top 20)) [] [] (ga K "key_of") fd := F
  refine' fn_at (c := ((0 + 0) + (0 + 0))) F (h.glo 28) sc_key_of rfl ?hc (b := w_key_of) (fun cdv A outer s H E hr => ?hb) (sat_key_of)
  case hb =>
    have hu : (cxOf (L2.CX P w) P w K mg base N_key_of "key_of" (defScope (HD.top 20)) (ga K "key_of") cdv A outer s H E).A.units + 100 < cLine := by
      show (A.deeper (envOfC "key_of" (defScope (HD.top 20)) s.heap.objs.size (ga K "key_of") cdv)).units + 100 < cLine
      have := hr.un
      omega
    have tk := takes_of (X := cxOf (L2.CX P w) P w K mg base N_key_of "key_of" (defScope (HD.top 20)) (ga K "key_of") cdv A outer s H E) rfl rfl rfl rfl
    have hp := passes_of (X := cxOf (L2.CX P w) P w K mg base N_key_of "key_of" (defScope (HD.top 20)) (ga K "key_of") cdv A outer s H E) rfl
    have D : DSs (cxOf (L2.CX P w) P w K mg base N_key_of "key_of" (defScope (HD.top 20)) (ga K "key_of") cdv A outer s H E) (fun cls d _ H' => E cls d H') (defBody (HD.top 20)) _ _ := (ds_one (ds_ret (d_tup (da_cons (d_len3 (h.free 7) (da_cons (d_var 0) da_nil)) (da_cons (d_var 0) da_nil)))))
    exact D
  case hc => decide +kernel
theorem ok_key_of {P : Program} {w : World} {K : PySem.W.Frag} {mg : Str → Option Value} {base : Heap} (h : Hd fa fn K mg) : OkAt P w K mg base "key_of" 1 0 1 (sp_key_of) := (fa_key_of h).ok (fun _ _ _ _ _ _ us hl => match us, hl with | [_], _ => rfl)
/-- a new list, in a new cell -/
def sp_in_order : DD.Spec := fun ds S P _ => ∃ (d : D) (xs : List D) (zs : List (List Nat)), ds = [d] ∧ seqL S d = some xs ∧ strsOf xs = some zs ∧ zs.length ≤ sizeLine ∧ (∀ z ∈ zs, z.length ≤ sizeLine) ∧ newL S ((sortW (dedup zs)).map D.str) P
def N_in_order : List Str := ["words", "word"]
theorem sc_in_order : FnScope N_in_order ["words"] (defScope (HD.top 21)) := ⟨rfl, rfl, rfl, by decide +kernel, rfl, by decide +kernel, by decide +kernel⟩
def w_in_order : WS :=
  (wRet (wSortW true (wB gDictP (wCons (wLc false (wSrc (wVar 0)) (gdName 1) wYes (wTup (wCons (wVar 1) (wCons (wC (.bl true)) wNil))) (List.map (fun p : Str × Nat => p.2) [("word", 1)])) wNil))))
theorem sat_in_order : Sat' 1 N_in_order.length w_in_order sp_in_order := by
  rintro ds S P E - hS hd ⟨d, xs, zs, rfl, hx, hz, h1, h2, p⟩
  obtain rfl := strsOf_map hz
  simp only [w_in_order, N_in_order, wRet, wRetN, wSeq, wSet, wIf, wPar, wPar3, wExpr, wAsg, wNext, wBreak, wCont, gdTup, gdCons, gdNil, gdName, wIte, wAnd, wOr, DD.wNot, wTest, wNotT, wAndT, wOrT, wBin, wUn, wB, wCons, wNil, wVar, wC, wTup, wLst, mkL, wYes, wCall, wChain, startD, List.map_cons, List.map_nil, List.length_cons, List.length_nil, List.replicate, List.cons_append, List.nil_append, List.append_nil, List.getElem?_cons_zero, List.getElem?_cons_succ, List.set_cons_zero, List.set_cons_succ, Option.some.injEq, exists_eq_left', exists_eq_left, true_and, and_true, if_true, if_false, Bool.false_eq_true, gI, D.int.injEq, D.bl.injEq, D.str.injEq, wLc, wSrc, srcD, wSl, wSmO, wNoO, gSl, bodyC, wipeD, beq_self_eq_true, Bool.not_true, exists_and_left, List.cons.injEq, gLen3, D.ty.injEq, D.ref.injEq, D.tup.injEq, D.lst.injEq, and_assoc, tm_bool, tm_int, tm_str, tm_tuple, tm_list, tm_dict, gIsi, wIsi2, wRaise, gLe, gGt, gGe, DD.gSub, Prod.mk.injEq, gAdd_int, gMul_int, gInt_int, gInt_bl, wPut, lenD3_lst, lenD3_tup, lenD3_str, lenD3_dct, gIn3_str, gIn3_lst, gIn3_tup, gInS, gIn, wSortW]
  obtain ⟨C, hsrc, hC⟩ := srcD_seqL hx
  refine ⟨_, C, hsrc, loopC_pure (fun x => some (.tup [x, .bl true])) hC _ _ (fun x hx Q hQ => ?_) ?_⟩
  · simp only [wRet, wRetN, wSeq, wSet, wIf, wPar, wPar3, wExpr, wAsg, wNext, wBreak, wCont, gdTup, gdCons, gdNil, gdName, wIte, wAnd, wOr, DD.wNot, wTest, wNotT, wAndT, wOrT, wBin, wUn, wB, wCons, wNil, wVar, wC, wTup, wLst, mkL, wYes, wCall, wChain, startD, List.map_cons, List.map_nil, List.length_cons, List.length_nil, List.replicate, List.cons_append, List.nil_append, List.append_nil, List.getElem?_cons_zero, List.getElem?_cons_succ, List.set_cons_zero, List.set_cons_succ, Option.some.injEq, exists_eq_left', exists_eq_left, true_and, and_true, if_true, if_false, Bool.false_eq_true, gI, D.int.injEq, D.bl.injEq, D.str.injEq, wLc, wSrc, srcD, wSl, wSmO, wNoO, gSl, bodyC, wipeD, beq_self_eq_true, Bool.not_true, exists_and_left, List.cons.injEq, gLen3, D.ty.injEq, D.ref.injEq, D.tup.injEq, D.lst.injEq, and_assoc, tm_bool, tm_int, tm_str, tm_tuple, tm_list, tm_dict, gIsi, wIsi2, wRaise, gLe, gGt, gGe, DD.gSub, Prod.mk.injEq, gAdd_int, gMul_int, gInt_int, gInt_bl, wPut, lenD3_lst, lenD3_tup, lenD3_str, lenD3_dct, gIn3_str, gIn3_lst, gIn3_tup, gInS, gIn]
    exact ⟨by decide, hQ⟩
  · rw [List.nil_append, fm_some, List.map_map]
    simp only [wRet, wRetN, wSeq, wSet, wIf, wPar, wPar3, wExpr, wAsg, wNext, wBreak, wCont, gdTup, gdCons, gdNil, gdName, wIte, wAnd, wOr, DD.wNot, wTest, wNotT, wAndT, wOrT, wBin, wUn, wB, wCons, wNil, wVar, wC, wTup, wLst, mkL, wYes, wCall, wChain, startD, List.map_cons, List.map_nil, List.length_cons, List.length_nil, List.replicate, List.cons_append, List.nil_append, List.append_nil, List.getElem?_cons_zero, List.getElem?_cons_succ, List.set_cons_zero, List.set_cons_succ, Option.some.injEq, exists_eq_left', exists_eq_left, true_and, and_true, if_true, if_false, Bool.false_eq_true, gI, D.int.injEq, D.bl.injEq, D.str.injEq, wLc, wSrc, srcD, wSl, wSmO, wNoO, gSl, bodyC, wipeD, beq_self_eq_true, Bool.not_true, exists_and_left, List.cons.injEq, gLen3, D.ty.injEq, D.ref.injEq, D.tup.injEq, D.lst.injEq, and_assoc, tm_bool, tm_int, tm_str, tm_tuple, tm_list, tm_dict, gIsi, wIsi2, wRaise, gLe, gGt, gGe, DD.gSub, Prod.mk.injEq, gAdd_int, gMul_int, gInt_int, gInt_bl, wPut, lenD3_lst, lenD3_tup, lenD3_str, lenD3_dct, gIn3_str, gIn3_lst, gIn3_tup, gInS, gIn, gDictP, seqL]
    refine ⟨_, pairs_trues zs, dedup zs, ?_, Nat.le_trans (dedup_len zs) h1, fun z hz => h2 z (dedup_mem.mp hz), ?_⟩
    · simp [DD.wordsOf, dctOf, merge_trues, trues_keys, strsOf_str]
    · rw [List.append_assoc]
      exact .inr (p _ _ (by simp) (by simp))
theorem fa_in_order {P : Program} {w : World} {K : PySem.W.Frag} {mg : Str → Option Value} {base : Heap} (h : Hd fa fn K mg) : FnAt P w K mg base "in_order" (defArgs (HD.top 21)) (defBody (HD.top 21)) (defScope (HD.top 21)) ["words"] 4 0 1 (sp_in_order) := by
  obtain ⟨fd, F⟩ := h.def_ 9
  have F : FunD K "in_order" "in_order" (defArgs (HD.top 21)) (defBody (HD.top 21)) (defScope (HD.top 21)) [] [] (ga K "in_order") fd := F
  refine' fn_at (c := ((0 + (2 ^ 24 * (0 + (0 + (0 + 0))))) + 0)) F (h.glo 29) sc_in_order rfl ?hc (b := w_in_order) (fun cdv A outer s H E hr => ?hb) (sat_in_order)
  case hb =>
    have hu : (cxOf (L2.CX P w) P w K mg base N_in_order "in_order" (defScope (HD.top 21)) (ga K "in_order") cdv A outer s H E).A.units + 100 < cLine := by
      show (A.deeper (envOfC "in_order" (defScope (HD.top 21)) s.heap.objs.size (ga K "in_order") cdv)).units + 100 < cLine
      have := hr.un
      omega
    have tk := takes_of (X := cxOf (L2.CX P w) P w K mg base N_in_order "in_order" (defScope (HD.top 21)) (ga K "in_order") cdv A outer s H E) rfl rfl rfl rfl
    have hp := passes_of (X := cxOf (L2.CX P w) P w K mg base N_in_order "in_order" (defScope (HD.top 21)) (ga K "in_order") cdv A outer s H E) rfl
    have D : DSs (cxOf (L2.CX P w) P w K mg base N_in_order "in_order" (defScope (HD.top 21)) (ga K "in_order") cdv A outer s H E) (fun cls d _ H' => E cls d H') (defBody (HD.top 21)) _ _ := (ds_one (ds_ret (d_sortW true (key_key_of h) rfl hr (by decide) (h.free 12) (d_dictP rfl (h.free 4) (da_cons (d_lc false rfl sc_in_order.nd (di_any (d_var 0)) (show BlkOk N_in_order (defScope (HD.top 21)) _ [("word", 1)] from blkOk_by (by decide +kernel)) (fun _ _ _ _ _ => (dg_name 1 sc_in_order.nd)) (fun _ _ _ _ _ => dts_nil) (fun _ _ _ _ _ => (d_tup (da_cons (d_var 1) (da_cons d_bl da_nil))))) da_nil)))))
    exact D
  case hc => decide +kernel
theorem ok_in_order {P : Program} {w : World} {K : PySem.W.Frag} {mg : Str → Option Value} {base : Heap} (h : Hd fa fn K mg) : OkAt P w K mg base "in_order" 4 0 1 (sp_in_order) := (fa_in_order h).ok (fun _ _ _ _ _ _ us hl => match us, hl with | [_], _ => rfl)
def sp_of_length : DD.Spec := fun ds S P _ => ∃ (l n : Int), ds = [.int l, .int n] ∧ 0 ≤ n ∧ n ≤ 16 ∧ P (.lst ((ofLen l n.toNat).map D.str)) S
def N_of_length : List Str := ["letters", "length", "found", "turn", "word", "letter"]
theorem sc_of_length : FnScope N_of_length ["letters", "length"] (defScope (HD.top 22)) := ⟨rfl, rfl, rfl, by decide +kernel, rfl, by decide +kernel, by decide +kernel⟩
def w_of_length : WS :=
  (wSeq (wSet 2 (wLst false (wCons (wC (.str [])) wNil)))
  (wSeq (wFor (wRng1 (wCons (wVar 1) wNil)) (gdName 3)
  (wSet 2 (wLc2 false (wSrc (wVar 2)) (gdName 4) wYes (wSrc (wCall 1 (sp_alphabet_of) (wCons (wVar 0) wNil))) (gdName 5) wYes (wBin gAdd (wVar 4) (wVar 5)) (List.map (fun p : Str × Nat => p.2) [("word", 4), ("letter", 5)]) [5])))
  (wRet (wVar 2))))
theorem sat_of_length : Sat' 2 N_of_length.length w_of_length sp_of_length := by
  rintro ds S P E - hS hd ⟨l, n, rfl, h0, hn, p⟩
  simp only [w_of_length, N_of_length, wRet, wRetN, wSeq, wSet, wIf, wPar, wPar3, wExpr, wAsg, wNext, wBreak, wCont, gdTup, gdCons, gdNil, gdName, wIte, wAnd, wOr, DD.wNot, wTest, wNotT, wAndT, wOrT, wBin, wUn, wB, wCons, wNil, wVar, wC, wTup, wLst, mkL, wYes, wCall, wChain, startD, List.map_cons, List.map_nil, List.length_cons, List.length_nil, List.replicate, List.cons_append, List.nil_append, List.append_nil, List.getElem?_cons_zero, List.getElem?_cons_succ, List.set_cons_zero, List.set_cons_succ, Option.some.injEq, exists_eq_left', exists_eq_left, true_and, and_true, if_true, if_false, Bool.false_eq_true, gI, D.int.injEq, D.bl.injEq, D.str.injEq, wLc, wSrc, srcD, wSl, wSmO, wNoO, gSl, bodyC, wipeD, beq_self_eq_true, Bool.not_true, exists_and_left, List.cons.injEq, gLen3, D.ty.injEq, D.ref.injEq, D.tup.injEq, D.lst.injEq, and_assoc, tm_bool, tm_int, tm_str, tm_tuple, tm_list, tm_dict, gIsi, wIsi2, wRaise, gLe, gGt, gGe, DD.gSub, Prod.mk.injEq, gAdd_int, gMul_int, gInt_int, gInt_bl, wPut, lenD3_lst, lenD3_tup, lenD3_str, lenD3_dct, gIn3_str, gIn3_lst, gIn3_tup, gInS, gIn, wFor, wRng1]
  have hz := sizeLine_eq
  refine ⟨by decide, by omega, by omega, ?_⟩
  refine loopF_inv (fun xs ρ S1 => S1 = S ∧ ∃ k t, k + xs.length = n.toNat ∧ ρ = [some (.int l), some (.int n), some (.lst ((ofLen l k).map D.str)), t, none, none]) ?_ ?_ _ _ _ ⟨rfl, 0, none, by simp [rangeD], rfl⟩
  · rintro x xs ρ S1 K ⟨rfl, k, t, hk, rfl⟩ hK
    rw [List.length_cons] at hk
    refine ⟨trivial, ?_⟩
    simp only [bodyF, wRet, wRetN, wSeq, wSet, wIf, wPar, wPar3, wExpr, wAsg, wNext, wBreak, wCont, gdTup, gdCons, gdNil, gdName, wIte, wAnd, wOr, DD.wNot, wTest, wNotT, wAndT, wOrT, wBin, wUn, wB, wCons, wNil, wVar, wC, wTup, wLst, mkL, wYes, wCall, wChain, startD, List.map_cons, List.map_nil, List.length_cons, List.length_nil, List.replicate, List.cons_append, List.nil_append, List.append_nil, List.getElem?_cons_zero, List.getElem?_cons_succ, List.set_cons_zero, List.set_cons_succ, Option.some.injEq, exists_eq_left', exists_eq_left, true_and, and_true, if_true, if_false, Bool.false_eq_true, gI, D.int.injEq, D.bl.injEq, D.str.injEq, wLc, wSrc, srcD, wSl, wSmO, wNoO, gSl, bodyC, wipeD, beq_self_eq_true, Bool.not_true, exists_and_left, List.cons.injEq, gLen3, D.ty.injEq, D.ref.injEq, D.tup.injEq, D.lst.injEq, and_assoc, tm_bool, tm_int, tm_str, tm_tuple, tm_list, tm_dict, gIsi, wIsi2, wRaise, gLe, gGt, gGe, DD.gSub, Prod.mk.injEq, gAdd_int, gMul_int, gInt_int, gInt_bl, wPut, lenD3_lst, lenD3_tup, lenD3_str, lenD3_dct, gIn3_str, gIn3_lst, gIn3_tup, gInS, gIn, wLc2]
    have hb : (ofLen l (k + 1)).length ≤ 2 ^ 16 := Nat.le_trans (ofLen_len l (k + 1)) (Nat.pow_le_pow_right (by decide) (by omega))
    have e : ((ofLen l k).map D.str).flatMap (longerD l) = (ofLen l (k + 1)).map D.str := longer_map l _
    refine loopO_pure (longerD l) trivial _ _ (fun w hw acc Q hl hQ => ?_) (by rw [e]; simp; omega) ?_
    · obtain ⟨s, hs, rfl⟩ := List.mem_map.mp hw
      simp only [bodyO, wRet, wRetN, wSeq, wSet, wIf, wPar, wPar3, wExpr, wAsg, wNext, wBreak, wCont, gdTup, gdCons, gdNil, gdName, wIte, wAnd, wOr, DD.wNot, wTest, wNotT, wAndT, wOrT, wBin, wUn, wB, wCons, wNil, wVar, wC, wTup, wLst, mkL, wYes, wCall, wChain, startD, List.map_cons, List.map_nil, List.length_cons, List.length_nil, List.replicate, List.cons_append, List.nil_append, List.append_nil, List.getElem?_cons_zero, List.getElem?_cons_succ, List.set_cons_zero, List.set_cons_succ, Option.some.injEq, exists_eq_left', exists_eq_left, true_and, and_true, if_true, if_false, Bool.false_eq_true, gI, D.int.injEq, D.bl.injEq, D.str.injEq, wLc, wSrc, srcD, wSl, wSmO, wNoO, gSl, bodyC, wipeD, beq_self_eq_true, Bool.not_true, exists_and_left, List.cons.injEq, gLen3, D.ty.injEq, D.ref.injEq, D.tup.injEq, D.lst.injEq, and_assoc, tm_bool, tm_int, tm_str, tm_tuple, tm_list, tm_dict, gIsi, wIsi2, wRaise, gLe, gGt, gGe, DD.gSub, Prod.mk.injEq, gAdd_int, gMul_int, gInt_int, gInt_bl, wPut, lenD3_lst, lenD3_tup, lenD3_str, lenD3_dct, gIn3_str, gIn3_lst, gIn3_tup, gInS, gIn, sp_alphabet_of]
      have hs2 := ofLen_each l k s hs
      refine loopA_pure (fun c => match c with | .str y => some (.str (s ++ y)) | _ => none) trivial _ _ (fun c hc Q' hQ' => ?_) ?_ ?_
      · obtain ⟨y, _, rfl⟩ := List.mem_map.mp hc
        simp only [wRet, wRetN, wSeq, wSet, wIf, wPar, wPar3, wExpr, wAsg, wNext, wBreak, wCont, gdTup, gdCons, gdNil, gdName, wIte, wAnd, wOr, DD.wNot, wTest, wNotT, wAndT, wOrT, wBin, wUn, wB, wCons, wNil, wVar, wC, wTup, wLst, mkL, wYes, wCall, wChain, startD, List.map_cons, List.map_nil, List.length_cons, List.length_nil, List.replicate, List.cons_append, List.nil_append, List.append_nil, List.getElem?_cons_zero, List.getElem?_cons_succ, List.set_cons_zero, List.set_cons_succ, Option.some.injEq, exists_eq_left', exists_eq_left, true_and, and_true, if_true, if_false, Bool.false_eq_true, gI, D.int.injEq, D.bl.injEq, D.str.injEq, wLc, wSrc, srcD, wSl, wSmO, wNoO, gSl, bodyC, wipeD, beq_self_eq_true, Bool.not_true, exists_and_left, List.cons.injEq, gLen3, D.ty.injEq, D.ref.injEq, D.tup.injEq, D.lst.injEq, and_assoc, tm_bool, tm_int, tm_str, tm_tuple, tm_list, tm_dict, gIsi, wIsi2, wRaise, gLe, gGt, gGe, DD.gSub, Prod.mk.injEq, gAdd_int, gMul_int, gInt_int, gInt_bl, wPut, lenD3_lst, lenD3_tup, lenD3_str, lenD3_dct, gIn3_str, gIn3_lst, gIn3_tup, gInS, gIn, gAdd]
        exact ⟨by omega, hQ'⟩
      · simpa [longerD] using hl
      · rw [List.filterMap_map]
        have : (abL l).filterMap ((fun c => match c with | .str y => some (D.str (s ++ y)) | _ => none) ∘ fun c => D.str [c]) = longerD l (.str s) := by
          unfold longerD
          exact fm_some _ _
        rw [this]
        exact hQ
    · rw [List.nil_append, e]
      exact hK _ _ ⟨rfl, k + 1, some x, by omega, rfl⟩
  · rintro ρ S1 ⟨rfl, k, t, hk, rfl⟩
    simp only [List.length_nil, Nat.add_zero] at hk
    subst hk
    simp only [wRet, wRetN, wSeq, wSet, wIf, wPar, wPar3, wExpr, wAsg, wNext, wBreak, wCont, gdTup, gdCons, gdNil, gdName, wIte, wAnd, wOr, DD.wNot, wTest, wNotT, wAndT, wOrT, wBin, wUn, wB, wCons, wNil, wVar, wC, wTup, wLst, mkL, wYes, wCall, wChain, startD, List.map_cons, List.map_nil, List.length_cons, List.length_nil, List.replicate, List.cons_append, List.nil_append, List.append_nil, List.getElem?_cons_zero, List.getElem?_cons_succ, List.set_cons_zero, List.set_cons_succ, Option.some.injEq, exists_eq_left', exists_eq_left, true_and, and_true, if_true, if_false, Bool.false_eq_true, gI, D.int.injEq, D.bl.injEq, D.str.injEq, wLc, wSrc, srcD, wSl, wSmO, wNoO, gSl, bodyC, wipeD, beq_self_eq_true, Bool.not_true, exists_and_left, List.cons.injEq, gLen3, D.ty.injEq, D.ref.injEq, D.tup.injEq, D.lst.injEq, and_assoc, tm_bool, tm_int, tm_str, tm_tuple, tm_list, tm_dict, gIsi, wIsi2, wRaise, gLe, gGt, gGe, DD.gSub, Prod.mk.injEq, gAdd_int, gMul_int, gInt_int, gInt_bl, wPut, lenD3_lst, lenD3_tup, lenD3_str, lenD3_dct, gIn3_str, gIn3_lst, gIn3_tup, gInS, gIn]
    exact outD_id p
theorem fa_of_length {P : Program} {w : World} {K : PySem.W.Frag} {mg : Str → Option Value} {base : Heap} (h : Hd fa fn K mg) : FnAt P w K mg base "of_length" (defArgs (HD.top 22)) (defBody (HD.top 22)) (defScope (HD.top 22)) ["letters", "length"] 2 0 2 (sp_of_length) := by
  obtain ⟨fd, F⟩ := h.def_ 10
  have F : FunD K "of_length" "of_length" (defArgs (HD.top 22)) (defBody (HD.top 22)) (defScope (HD.top 22)) [] [] (ga K "of_length") fd := F
  refine' fn_at (c := ((0 + 0) + (((0 + 0) + (2 ^ 24 * (0 + (2 ^ 24 * (0 + (((0 + 0) + 0) + (2 ^ 24 * (0 + (0 + 0))))))))) + 0))) F (h.glo 30) sc_of_length rfl ?hc (b := w_of_length) (fun cdv A outer s H E hr => ?hb) (sat_of_length)
  case hb =>
    have hu : (cxOf (L2.CX P w) P w K mg base N_of_length "of_length" (defScope (HD.top 22)) (ga K "of_length") cdv A outer s H E).A.units + 100 < cLine := by
      show (A.deeper (envOfC "of_length" (defScope (HD.top 22)) s.heap.objs.size (ga K "of_length") cdv)).units + 100 < cLine
      have := hr.un
      omega
    have tk := takes_of (X := cxOf (L2.CX P w) P w K mg base N_of_length "of_length" (defScope (HD.top 22)) (ga K "of_length") cdv A outer s H E) rfl rfl rfl rfl
    have hp := passes_of (X := cxOf (L2.CX P w) P w K mg base N_of_length "of_length" (defScope (HD.top 22)) (ga K "of_length") cdv A outer s H E) rfl
    have D : DSs (cxOf (L2.CX P w) P w K mg base N_of_length "of_length" (defScope (HD.top 22)) (ga K "of_length") cdv A outer s H E) (fun cls d _ H' => E cls d H') (defBody (HD.top 22)) _ _ := (ds_cons (ds_set 2 sc_of_length.nd (d_lst false (da_cons (d_str []) da_nil)))
    (ds_cons (ds_for hp rfl (di_range1 (h.free 11) (da_cons (d_var 1) da_nil)) (dg_name 3 sc_of_length.nd)
    (ds_one (ds_setLc2 2 false [5] rfl sc_of_length.nd (di_any (d_var 2)) (show BlkOk N_of_length (defScope (HD.top 22)) _ [("word", 4), ("letter", 5)] from blkOk_by (by decide +kernel)) (fun _ _ _ _ _ => (dg_name 4 sc_of_length.nd)) (fun _ _ _ _ _ => dts_nil) (fun _ _ _ _ _ => (di_any (d_call (ok_alphabet_of h) hr (by decide) takesF (da_cons (d_var 0) da_nil)))) (fun _ _ _ _ _ => (dg_name 5 sc_of_length.nd)) (fun _ _ _ _ _ => dts_nil) (fun _ _ _ _ _ => (d_add (d_var 4) (d_var 5))) (by rfl))))
    (ds_one (ds_ret (d_var 2)))))
    exact D
  case hc => decide +kernel
theorem ok_of_length {P : Program} {w : World} {K : PySem.W.Frag} {mg : Str → Option Value} {base : Heap} (h : Hd fa fn K mg) : OkAt P w K mg base "of_length" 2 0 2 (sp_of_length) := (fa_of_length h).ok (fun _ _ _ _ _ _ us hl => match us, hl with | [_, _], _ => rfl)
def sp_words_up_to : DD.Spec := fun ds S P E => ∃ (l d : D) (m n : String), ds = [l, d] ∧ tyN S l = some m ∧ tyN S d = some n ∧
  if DD.inR l 1 2 = true then (if DD.inR d 0 8 = true then ∀ i j, l = .int i → d = .int j → newL S ((wordsTo i j.toNat).map D.str) P else E ⟨"InvalidNumber", [("given", d)]⟩ S) else E ⟨"InvalidLetters", [("given", l)]⟩ S
def N_words_up_to : List Str := ["letters", "length", "size", "word"]
theorem sc_words_up_to : FnScope N_words_up_to ["letters", "length"] (defScope (HD.top 23)) := ⟨rfl, rfl, rfl, by decide +kernel, rfl, by decide +kernel, by decide +kernel⟩
def w_words_up_to : WS :=
  (wSeq (wExpr (wCall 1 (sp_check_letters) (wCons (wVar 0) wNil)))
  (wSeq (wIf (wNotT (wTest (wCall 3 (sp_is_between) (wCons (wVar 1) (wCons (wC (.int 0)) (wCons (wC (.int 8)) wNil))))))
  (wRaise "InvalidNumber" "given" (wVar 1))
  wNext)
  (wRet (wLc2 true (wRng1 (wCons (wBin gAdd (wVar 1) (wC (.int 1))) wNil)) (gdName 2) wYes (wSrc (wCall 2 (sp_of_length) (wCons (wVar 0) (wCons (wVar 2) wNil)))) (gdName 3) wYes (wVar 3) (List.map (fun p : Str × Nat => p.2) [("size", 2), ("word", 3)]) [3]))))
theorem sat_words_up_to : Sat' 2 N_words_up_to.length w_words_up_to sp_words_up_to := by
  rintro ds S P E - hS hd ⟨l, d, m, n, rfl, hm, hn, p⟩
  simp only [w_words_up_to, N_words_up_to, wRet, wRetN, wSeq, wSet, wIf, wPar, wPar3, wExpr, wAsg, wNext, wBreak, wCont, gdTup, gdCons, gdNil, gdName, wIte, wAnd, wOr, DD.wNot, wTest, wNotT, wAndT, wOrT, wBin, wUn, wB, wCons, wNil, wVar, wC, wTup, wLst, mkL, wYes, wCall, wChain, startD, List.map_cons, List.map_nil, List.length_cons, List.length_nil, List.replicate, List.cons_append, List.nil_append, List.append_nil, List.getElem?_cons_zero, List.getElem?_cons_succ, List.set_cons_zero, List.set_cons_succ, Option.some.injEq, exists_eq_left', exists_eq_left, true_and, and_true, if_true, if_false, Bool.false_eq_true, gI, D.int.injEq, D.bl.injEq, D.str.injEq, wLc, wSrc, srcD, wSl, wSmO, wNoO, gSl, bodyC, wipeD, beq_self_eq_true, Bool.not_true, exists_and_left, List.cons.injEq, gLen3, D.ty.injEq, D.ref.injEq, D.tup.injEq, D.lst.injEq, and_assoc, tm_bool, tm_int, tm_str, tm_tuple, tm_list, tm_dict, gIsi, wIsi2, wRaise, gLe, gGt, gGe, DD.gSub, Prod.mk.injEq, gAdd_int, gMul_int, gInt_int, gInt_bl, wPut, lenD3_lst, lenD3_tup, lenD3_str, lenD3_dct, gIn3_str, gIn3_lst, gIn3_tup, gInS, gIn, sp_check_letters, sp_is_between, hm, hn]
  cases h : DD.inR l 1 2 with
  | false => rw [h] at p; exact .inr p
  | true =>
    rw [h] at p
    obtain ⟨i, rfl, _⟩ := inR_int h
    cases h2 : DD.inR d 0 8 with
    | false => rw [h2] at p; exact .inr p
    | true =>
      rw [h2] at p
      obtain ⟨j, rfl, hj⟩ := inR_int h2
      have hz := sizeLine_eq
      simp only [wRet, wRetN, wSeq, wSet, wIf, wPar, wPar3, wExpr, wAsg, wNext, wBreak, wCont, gdTup, gdCons, gdNil, gdName, wIte, wAnd, wOr, DD.wNot, wTest, wNotT, wAndT, wOrT, wBin, wUn, wB, wCons, wNil, wVar, wC, wTup, wLst, mkL, wYes, wCall, wChain, startD, List.map_cons, List.map_nil, List.length_cons, List.length_nil, List.replicate, List.cons_append, List.nil_append, List.append_nil, List.getElem?_cons_zero, List.getElem?_cons_succ, List.set_cons_zero, List.set_cons_succ, Option.some.injEq, exists_eq_left', exists_eq_left, true_and, and_true, if_true, if_false, Bool.false_eq_true, gI, D.int.injEq, D.bl.injEq, D.str.injEq, wLc, wSrc, srcD, wSl, wSmO, wNoO, gSl, bodyC, wipeD, beq_self_eq_true, Bool.not_true, exists_and_left, List.cons.injEq, gLen3, D.ty.injEq, D.ref.injEq, D.tup.injEq, D.lst.injEq, and_assoc, tm_bool, tm_int, tm_str, tm_tuple, tm_list, tm_dict, gIsi, wIsi2, wRaise, gLe, gGt, gGe, DD.gSub, Prod.mk.injEq, gAdd_int, gMul_int, gInt_int, gInt_bl, wPut, lenD3_lst, lenD3_tup, lenD3_str, lenD3_dct, gIn3_str, gIn3_lst, gIn3_tup, gInS, gIn, wRng1, wLc2, gAdd]
      refine ⟨by omega, by omega, ?_⟩
      have e : (rangeD 0 (j + 1).toNat).flatMap (fun k => match k with | .int k => (ofLen i k.toNat).map D.str | _ => []) = (wordsTo i j.toNat).map D.str := upTo_rng i j.toNat (j + 1).toNat (by omega)
      have hlen := upTo_len i j.toNat
      have h9 : 2 ^ (j.toNat + 1) ≤ 2 ^ 9 := Nat.pow_le_pow_right (by decide) (by omega)
      refine loopO_pure (fun k => match k with | .int k => (ofLen i k.toNat).map D.str | _ => []) trivial _ _ (fun w hw acc Q hl hQ => ?_) (by rw [e]; simp; omega) ?_
      · obtain ⟨k, hk, rfl⟩ := List.mem_map.mp hw
        have hk := List.mem_range.mp hk
        simp only [bodyO, wRet, wRetN, wSeq, wSet, wIf, wPar, wPar3, wExpr, wAsg, wNext, wBreak, wCont, gdTup, gdCons, gdNil, gdName, wIte, wAnd, wOr, DD.wNot, wTest, wNotT, wAndT, wOrT, wBin, wUn, wB, wCons, wNil, wVar, wC, wTup, wLst, mkL, wYes, wCall, wChain, startD, List.map_cons, List.map_nil, List.length_cons, List.length_nil, List.replicate, List.cons_append, List.nil_append, List.append_nil, List.getElem?_cons_zero, List.getElem?_cons_succ, List.set_cons_zero, List.set_cons_succ, Option.some.injEq, exists_eq_left', exists_eq_left, true_and, and_true, if_true, if_false, Bool.false_eq_true, gI, D.int.injEq, D.bl.injEq, D.str.injEq, wLc, wSrc, srcD, wSl, wSmO, wNoO, gSl, bodyC, wipeD, beq_self_eq_true, Bool.not_true, exists_and_left, List.cons.injEq, gLen3, D.ty.injEq, D.ref.injEq, D.tup.injEq, D.lst.injEq, and_assoc, tm_bool, tm_int, tm_str, tm_tuple, tm_list, tm_dict, gIsi, wIsi2, wRaise, gLe, gGt, gGe, DD.gSub, Prod.mk.injEq, gAdd_int, gMul_int, gInt_int, gInt_bl, wPut, lenD3_lst, lenD3_tup, lenD3_str, lenD3_dct, gIn3_str, gIn3_lst, gIn3_tup, gInS, gIn, sp_of_length]
        refine ⟨by omega, by omega, ?_⟩
        refine loopA_pure some trivial _ _ (fun c hc Q' hQ' => ?_) ?_ ?_
        · simp only [wRet, wRetN, wSeq, wSet, wIf, wPar, wPar3, wExpr, wAsg, wNext, wBreak, wCont, gdTup, gdCons, gdNil, gdName, wIte, wAnd, wOr, DD.wNot, wTest, wNotT, wAndT, wOrT, wBin, wUn, wB, wCons, wNil, wVar, wC, wTup, wLst, mkL, wYes, wCall, wChain, startD, List.map_cons, List.map_nil, List.length_cons, List.length_nil, List.replicate, List.cons_append, List.nil_append, List.append_nil, List.getElem?_cons_zero, List.getElem?_cons_succ, List.set_cons_zero, List.set_cons_succ, Option.some.injEq, exists_eq_left', exists_eq_left, true_and, and_true, if_true, if_false, Bool.false_eq_true, gI, D.int.injEq, D.bl.injEq, D.str.injEq, wLc, wSrc, srcD, wSl, wSmO, wNoO, gSl, bodyC, wipeD, beq_self_eq_true, Bool.not_true, exists_and_left, List.cons.injEq, gLen3, D.ty.injEq, D.ref.injEq, D.tup.injEq, D.lst.injEq, and_assoc, tm_bool, tm_int, tm_str, tm_tuple, tm_list, tm_dict, gIsi, wIsi2, wRaise, gLe, gGt, gGe, DD.gSub, Prod.mk.injEq, gAdd_int, gMul_int, gInt_int, gInt_bl, wPut, lenD3_lst, lenD3_tup, lenD3_str, lenD3_dct, gIn3_str, gIn3_lst, gIn3_tup, gInS, gIn]; exact hQ'
        · simpa using hl
        · simpa using hQ
      · rw [List.nil_append, e]
        exact .inr (p i j rfl rfl _ _ (Nat.le_refl _) (by simp))
theorem fa_words_up_to {P : Program} {w : World} {K : PySem.W.Frag} {mg : Str → Option Value} {base : Heap} (h : Hd fa fn K mg) : FnAt P w K mg base "words_up_to" (defArgs (HD.top 23)) (defBody (HD.top 23)) (defScope (HD.top 23)) ["letters", "length"] 4 0 2 (sp_words_up_to) := by
  obtain ⟨fd, F⟩ := h.def_ 11
  have F : FunD K "words_up_to" "words_up_to" (defArgs (HD.top 23)) (defBody (HD.top 23)) (defScope (HD.top 23)) [] [] (ga K "words_up_to") fd := F
  refine' fn_at (c := (((0 + 0) + 0) + ((((0 + (0 + (0 + 0))) + 0) + (0 + 0)) + (((0 + 0) + 0) + (2 ^ 24 * (0 + (((0 + (0 + 0)) + 0) + (2 ^ 24 * (0 + 0))))))))) F (h.glo 31) sc_words_up_to rfl ?hc (b := w_words_up_to) (fun cdv A outer s H E hr => ?hb) (sat_words_up_to)
  case hb =>
    have hu : (cxOf (L2.CX P w) P w K mg base N_words_up_to "words_up_to" (defScope (HD.top 23)) (ga K "words_up_to") cdv A outer s H E).A.units + 100 < cLine := by
      show (A.deeper (envOfC "words_up_to" (defScope (HD.top 23)) s.heap.objs.size (ga K "words_up_to") cdv)).units + 100 < cLine
      have := hr.un
      omega
    have tk := takes_of (X := cxOf (L2.CX P w) P w K mg base N_words_up_to "words_up_to" (defScope (HD.top 23)) (ga K "words_up_to") cdv A outer s H E) rfl rfl rfl rfl
    have hp := passes_of (X := cxOf (L2.CX P w) P w K mg base N_words_up_to "words_up_to" (defScope (HD.top 23)) (ga K "words_up_to") cdv A outer s H E) rfl
    have D : DSs (cxOf (L2.CX P w) P w K mg base N_words_up_to "words_up_to" (defScope (HD.top 23)) (ga K "words_up_to") cdv A outer s H E) (fun cls d _ H' => E cls d H') (defBody (HD.top 23)) _ _ := (ds_cons (ds_expr (d_call (ok_check_letters h) hr (by decide) tk (da_cons (d_var 0) da_nil)))
    (ds_cons (ds_if (dt_not (dt_val (d_call (ok_is_between h) hr (by decide) tk (da_cons (d_var 1) (da_cons d_int (da_cons (d_gint (h.int 18)) da_nil))))))
    (ds_one (ds_raise (ex_InvalidNumber h) hr (by decide) rfl tk (d_var 1)))
    ds_nil)
    (ds_one (ds_ret (d_lc2 true [3] rfl sc_words_up_to.nd (di_range1 (h.free 11) (da_cons (d_add (d_var 1) d_int) da_nil)) (show BlkOk N_words_up_to (defScope (HD.top 23)) _ [("size", 2), ("word", 3)] from blkOk_by (by decide +kernel)) (fun _ _ _ _ _ => (dg_name 2 sc_words_up_to.nd)) (fun _ _ _ _ _ => dts_nil) (fun _ _ _ _ _ => (di_any (d_call (ok_of_length h) hr (by decide) takesF (da_cons (d_var 0) (da_cons (d_var 2) da_nil))))) (fun _ _ _ _ _ => (dg_name 3 sc_words_up_to.nd)) (fun _ _ _ _ _ => dts_nil) (fun _ _ _ _ _ => (d_var 3)))))))
    exact D
  case hc => decide +kernel
theorem ok_words_up_to {P : Program} {w : World} {K : PySem.W.Frag} {mg : Str → Option Value} {base : Heap} (h : Hd fa fn K mg) : OkAt P w K mg base "words_up_to" 4 0 2 (sp_words_up_to) := (fa_words_up_to h).ok (fun _ _ _ _ _ _ us hl => match us, hl with | [_, _], _ => rfl)
theorem okk_words_up_to0 {P : Program} {w : World} {K : PySem.W.Frag} {mg : Str → Option Value} {base : Heap} (h : Hd fa fn K mg) : OkAtK P w K mg base "words_up_to" 4 0 2 (sp_words_up_to) ["length", "letters"] [1, 0] := (fa_words_up_to h).okK _ _ (fun _ _ _ _ _ _ us hl => match us, hl with | [_, _], _ => rfl)
def sp_is_ahead : DD.Spec := fun ds S P E => ∃ (l a b : D) (m n o : String), ds = [l, a, b] ∧ tyN S l = some m ∧ tyN S a = some n ∧ tyN S b = some o ∧ strOk a ∧ strOk b ∧
  if DD.inR l 1 2 = true then ∀ i, l = .int i → (if wordOk i a = true then (if wordOk i b = true then ∀ s t, a = .str s → b = .str t → P (.bl (dLt (keyD s) (keyD t))) S else E ⟨"InvalidWord", [("given", b)]⟩ S) else E ⟨"InvalidWord", [("given", a)]⟩ S)
  else E ⟨"InvalidLetters", [("given", l)]⟩ S
def N_is_ahead : List Str := ["letters", "one", "other"]
theorem sc_is_ahead : FnScope N_is_ahead ["letters", "one", "other"] (defScope (HD.top 24)) := ⟨rfl, rfl, rfl, by decide +kernel, rfl, by decide +kernel, by decide +kernel⟩
def w_is_ahead : WS :=
  (wSeq (wExpr (wCall 1 (sp_check_letters) (wCons (wVar 0) wNil)))
  (wSeq (wExpr (wCall 2 (sp_check_word) (wCons (wVar 0) (wCons (wVar 1) wNil))))
  (wSeq (wExpr (wCall 2 (sp_check_word) (wCons (wVar 0) (wCons (wVar 2) wNil))))
  (wRet (wBin gLt (wCall 1 (sp_key_of) (wCons (wVar 1) wNil)) (wCall 1 (sp_key_of) (wCons (wVar 2) wNil)))))))
theorem sat_is_ahead : Sat' 3 N_is_ahead.length w_is_ahead sp_is_ahead := by
  rintro ds S P E - hS hd ⟨l, a, b, m, n, o, rfl, hm, hn, ho, sa, sb, p⟩
  simp only [w_is_ahead, N_is_ahead, wRet, wRetN, wSeq, wSet, wIf, wPar, wPar3, wExpr, wAsg, wNext, wBreak, wCont, gdTup, gdCons, gdNil, gdName, wIte, wAnd, wOr, DD.wNot, wTest, wNotT, wAndT, wOrT, wBin, wUn, wB, wCons, wNil, wVar, wC, wTup, wLst, mkL, wYes, wCall, wChain, startD, List.map_cons, List.map_nil, List.length_cons, List.length_nil, List.replicate, List.cons_append, List.nil_append, List.append_nil, List.getElem?_cons_zero, List.getElem?_cons_succ, List.set_cons_zero, List.set_cons_succ, Option.some.injEq, exists_eq_left', exists_eq_left, true_and, and_true, if_true, if_false, Bool.false_eq_true, gI, D.int.injEq, D.bl.injEq, D.str.injEq, wLc, wSrc, srcD, wSl, wSmO, wNoO, gSl, bodyC, wipeD, beq_self_eq_true, Bool.not_true, exists_and_left, List.cons.injEq, gLen3, D.ty.injEq, D.ref.injEq, D.tup.injEq, D.lst.injEq, and_assoc, tm_bool, tm_int, tm_str, tm_tuple, tm_list, tm_dict, gIsi, wIsi2, wRaise, gLe, gGt, gGe, DD.gSub, Prod.mk.injEq, gAdd_int, gMul_int, gInt_int, gInt_bl, wPut, lenD3_lst, lenD3_tup, lenD3_str, lenD3_dct, gIn3_str, gIn3_lst, gIn3_tup, gInS, gIn, sp_check_letters, hm, hn, ho]
  cases h : DD.inR l 1 2 with
  | false => rw [h] at p; exact .inr p
  | true =>
    rw [h] at p
    obtain ⟨i, rfl, _⟩ := inR_int h
    have p := p i rfl
    simp only [wRet, wRetN, wSeq, wSet, wIf, wPar, wPar3, wExpr, wAsg, wNext, wBreak, wCont, gdTup, gdCons, gdNil, gdName, wIte, wAnd, wOr, DD.wNot, wTest, wNotT, wAndT, wOrT, wBin, wUn, wB, wCons, wNil, wVar, wC, wTup, wLst, mkL, wYes, wCall, wChain, startD, List.map_cons, List.map_nil, List.length_cons, List.length_nil, List.replicate, List.cons_append, List.nil_append, List.append_nil, List.getElem?_cons_zero, List.getElem?_cons_succ, List.set_cons_zero, List.set_cons_succ, Option.some.injEq, exists_eq_left', exists_eq_left, true_and, and_true, if_true, if_false, Bool.false_eq_true, gI, D.int.injEq, D.bl.injEq, D.str.injEq, wLc, wSrc, srcD, wSl, wSmO, wNoO, gSl, bodyC, wipeD, beq_self_eq_true, Bool.not_true, exists_and_left, List.cons.injEq, gLen3, D.ty.injEq, D.ref.injEq, D.tup.injEq, D.lst.injEq, and_assoc, tm_bool, tm_int, tm_str, tm_tuple, tm_list, tm_dict, gIsi, wIsi2, wRaise, gLe, gGt, gGe, DD.gSub, Prod.mk.injEq, gAdd_int, gMul_int, gInt_int, gInt_bl, wPut, lenD3_lst, lenD3_tup, lenD3_str, lenD3_dct, gIn3_str, gIn3_lst, gIn3_tup, gInS, gIn, sp_check_word, hn, ho, sa, sb]
    cases h2 : wordOk i a with
    | false => rw [h2] at p; exact .inr p
    | true =>
      rw [h2] at p
      simp only [wRet, wRetN, wSeq, wSet, wIf, wPar, wPar3, wExpr, wAsg, wNext, wBreak, wCont, gdTup, gdCons, gdNil, gdName, wIte, wAnd, wOr, DD.wNot, wTest, wNotT, wAndT, wOrT, wBin, wUn, wB, wCons, wNil, wVar, wC, wTup, wLst, mkL, wYes, wCall, wChain, startD, List.map_cons, List.map_nil, List.length_cons, List.length_nil, List.replicate, List.cons_append, List.nil_append, List.append_nil, List.getElem?_cons_zero, List.getElem?_cons_succ, List.set_cons_zero, List.set_cons_succ, Option.some.injEq, exists_eq_left', exists_eq_left, true_and, and_true, if_true, if_false, Bool.false_eq_true, gI, D.int.injEq, D.bl.injEq, D.str.injEq, wLc, wSrc, srcD, wSl, wSmO, wNoO, gSl, bodyC, wipeD, beq_self_eq_true, Bool.not_true, exists_and_left, List.cons.injEq, gLen3, D.ty.injEq, D.ref.injEq, D.tup.injEq, D.lst.injEq, and_assoc, tm_bool, tm_int, tm_str, tm_tuple, tm_list, tm_dict, gIsi, wIsi2, wRaise, gLe, gGt, gGe, DD.gSub, Prod.mk.injEq, gAdd_int, gMul_int, gInt_int, gInt_bl, wPut, lenD3_lst, lenD3_tup, lenD3_str, lenD3_dct, gIn3_str, gIn3_lst, gIn3_tup, gInS, gIn, sp_check_word, hn, ho, sa, sb]
      cases h3 : wordOk i b with
      | false => rw [h3] at p; exact .inr p
      | true =>
        rw [h3] at p
        obtain ⟨s, rfl, hs, hs2⟩ := wordOk_str h2
        obtain ⟨t, rfl, ht, ht2⟩ := wordOk_str h3
        have hz := sizeLine_eq
        simp only [wRet, wRetN, wSeq, wSet, wIf, wPar, wPar3, wExpr, wAsg, wNext, wBreak, wCont, gdTup, gdCons, gdNil, gdName, wIte, wAnd, wOr, DD.wNot, wTest, wNotT, wAndT, wOrT, wBin, wUn, wB, wCons, wNil, wVar, wC, wTup, wLst, mkL, wYes, wCall, wChain, startD, List.map_cons, List.map_nil, List.length_cons, List.length_nil, List.replicate, List.cons_append, List.nil_append, List.append_nil, List.getElem?_cons_zero, List.getElem?_cons_succ, List.set_cons_zero, List.set_cons_succ, Option.some.injEq, exists_eq_left', exists_eq_left, true_and, and_true, if_true, if_false, Bool.false_eq_true, gI, D.int.injEq, D.bl.injEq, D.str.injEq, wLc, wSrc, srcD, wSl, wSmO, wNoO, gSl, bodyC, wipeD, beq_self_eq_true, Bool.not_true, exists_and_left, List.cons.injEq, gLen3, D.ty.injEq, D.ref.injEq, D.tup.injEq, D.lst.injEq, and_assoc, tm_bool, tm_int, tm_str, tm_tuple, tm_list, tm_dict, gIsi, wIsi2, wRaise, gLe, gGt, gGe, DD.gSub, Prod.mk.injEq, gAdd_int, gMul_int, gInt_int, gInt_bl, wPut, lenD3_lst, lenD3_tup, lenD3_str, lenD3_dct, gIn3_str, gIn3_lst, gIn3_tup, gInS, gIn, sp_key_of, gLt]
        refine ⟨by omega, by omega, _, key_lt hs2 ht2, outD_id (p s t rfl rfl)⟩
theorem fa_is_ahead {P : Program} {w : World} {K : PySem.W.Frag} {mg : Str → Option Value} {base : Heap} (h : Hd fa fn K mg) : FnAt P w K mg base "is_ahead" (defArgs (HD.top 24)) (defBody (HD.top 24)) (defScope (HD.top 24)) ["letters", "one", "other"] 4 0 3 (sp_is_ahead) := by
  obtain ⟨fd, F⟩ := h.def_ 12
  have F : FunD K "is_ahead" "is_ahead" (defArgs (HD.top 24)) (defBody (HD.top 24)) (defScope (HD.top 24)) [] [] (ga K "is_ahead") fd := F
  refine' fn_at (c := (((0 + 0) + 0) + (((0 + (0 + 0)) + 0) + (((0 + (0 + 0)) + 0) + (((0 + 0) + 0) + ((0 + 0) + 0)))))) F (h.glo 32) sc_is_ahead rfl ?hc (b := w_is_ahead) (fun cdv A outer s H E hr => ?hb) (sat_is_ahead)
  case hb =>
    have hu : (cxOf (L2.CX P w) P w K mg base N_is_ahead "is_ahead" (defScope (HD.top 24)) (ga K "is_ahead") cdv A outer s H E).A.units + 100 < cLine := by
      show (A.deeper (envOfC "is_ahead" (defScope (HD.top 24)) s.heap.objs.size (ga K "is_ahead") cdv)).units + 100 < cLine
      have := hr.un
      omega
    have tk := takes_of (X := cxOf (L2.CX P w) P w K mg base N_is_ahead "is_ahead" (defScope (HD.top 24)) (ga K "is_ahead") cdv A outer s H E) rfl rfl rfl rfl
    have hp := passes_of (X := cxOf (L2.CX P w) P w K mg base N_is_ahead "is_ahead" (defScope (HD.top 24)) (ga K "is_ahead") cdv A outer s H E) rfl
    have D : DSs (cxOf (L2.CX P w) P w K mg base N_is_ahead "is_ahead" (defScope (HD.top 24)) (ga K "is_ahead") cdv A outer s H E) (fun cls d _ H' => E cls d H') (defBody (HD.top 24)) _ _ := (ds_cons (ds_expr (d_call (ok_check_letters h) hr (by decide) tk (da_cons (d_var 0) da_nil)))
    (ds_cons (ds_expr (d_call (ok_check_word h) hr (by decide) tk (da_cons (d_var 0) (da_cons (d_var 1) da_nil))))
    (ds_cons (ds_expr (d_call (ok_check_word h) hr (by decide) tk (da_cons (d_var 0) (da_cons (d_var 2) da_nil))))
    (ds_one (ds_ret (d_lt hu (d_call (ok_key_of h) hr (by decide) tk (da_cons (d_var 1) da_nil)) (d_call (ok_key_of h) hr (by decide) tk (da_cons (d_var 2) da_nil))))))))
    exact D
  case hc => decide +kernel
theorem ok_is_ahead {P : Program} {w : World} {K : PySem.W.Frag} {mg : Str → Option Value} {base : Heap} (h : Hd fa fn K mg) : OkAt P w K mg base "is_ahead" 4 0 3 (sp_is_ahead) := (fa_is_ahead h).ok (fun _ _ _ _ _ _ us hl => match us, hl with | [_, _, _], _ => rfl)
theorem okk_is_ahead0 {P : Program} {w : World} {K : PySem.W.Frag} {mg : Str → Option Value} {base : Heap} (h : Hd fa fn K mg) : OkAtK P w K mg base "is_ahead" 4 0 3 (sp_is_ahead) ["other", "letters", "one"] [1, 2, 0] := (fa_is_ahead h).okK _ _ (fun _ _ _ _ _ _ us hl => match us, hl with | [_, _, _], _ => rfl)
def sp_beginnings_of : DD.Spec := fun ds S P _ => ∃ s : List Nat, ds = [.str s] ∧ s.length ≤ 1000 ∧ newL S (begD s) P
def N_beginnings_of : List Str := ["word", "size"]
theorem sc_beginnings_of : FnScope N_beginnings_of ["word"] (defScope (HD.top 25)) := ⟨rfl, rfl, rfl, by decide +kernel, rfl, by decide +kernel, by decide +kernel⟩
def w_beginnings_of : WS :=
  (wRet (wLc true (wRng1 (wCons (wBin gAdd (wB gLen3 (wCons (wVar 0) wNil)) (wC (.int 1))) wNil)) (gdName 1) wYes (wSl false (wVar 0) wNoO (wSmO (wVar 1))) (List.map (fun p : Str × Nat => p.2) [("size", 1)])))
theorem sat_beginnings_of : Sat' 1 N_beginnings_of.length w_beginnings_of sp_beginnings_of := by
  rintro ds S P E - hS hd ⟨s, rfl, hs, p⟩
  have hz := sizeLine_eq
  have hl : s.length ≤ sizeLine := by omega
  simp only [w_beginnings_of, N_beginnings_of, wRet, wRetN, wSeq, wSet, wIf, wPar, wPar3, wExpr, wAsg, wNext, wBreak, wCont, gdTup, gdCons, gdNil, gdName, wIte, wAnd, wOr, DD.wNot, wTest, wNotT, wAndT, wOrT, wBin, wUn, wB, wCons, wNil, wVar, wC, wTup, wLst, mkL, wYes, wCall, wChain, startD, List.map_cons, List.map_nil, List.length_cons, List.length_nil, List.replicate, List.cons_append, List.nil_append, List.append_nil, List.getElem?_cons_zero, List.getElem?_cons_succ, List.set_cons_zero, List.set_cons_succ, Option.some.injEq, exists_eq_left', exists_eq_left, true_and, and_true, if_true, if_false, Bool.false_eq_true, gI, D.int.injEq, D.bl.injEq, D.str.injEq, wLc, wSrc, srcD, wSl, wSmO, wNoO, gSl, bodyC, wipeD, beq_self_eq_true, Bool.not_true, exists_and_left, List.cons.injEq, gLen3, D.ty.injEq, D.ref.injEq, D.tup.injEq, D.lst.injEq, and_assoc, tm_bool, tm_int, tm_str, tm_tuple, tm_list, tm_dict, gIsi, wIsi2, wRaise, gLe, gGt, gGe, DD.gSub, Prod.mk.injEq, gAdd_int, gMul_int, gInt_int, gInt_bl, wPut, lenD3_lst, lenD3_tup, lenD3_str, lenD3_dct, gIn3_str, gIn3_lst, gIn3_tup, gInS, gIn, wRng1, gAdd, hl]
  refine ⟨by omega, by omega, ?_⟩
  refine loopC_pure (begF s) trivial _ _ (fun x hx Q hQ => ?_) ?_
  · obtain ⟨k, hk, rfl⟩ := List.mem_map.mp hx
    have hk := List.mem_range.mp hk
    simp only [wRet, wRetN, wSeq, wSet, wIf, wPar, wPar3, wExpr, wAsg, wNext, wBreak, wCont, gdTup, gdCons, gdNil, gdName, wIte, wAnd, wOr, DD.wNot, wTest, wNotT, wAndT, wOrT, wBin, wUn, wB, wCons, wNil, wVar, wC, wTup, wLst, mkL, wYes, wCall, wChain, startD, List.map_cons, List.map_nil, List.length_cons, List.length_nil, List.replicate, List.cons_append, List.nil_append, List.append_nil, List.getElem?_cons_zero, List.getElem?_cons_succ, List.set_cons_zero, List.set_cons_succ, Option.some.injEq, exists_eq_left', exists_eq_left, true_and, and_true, if_true, if_false, Bool.false_eq_true, gI, D.int.injEq, D.bl.injEq, D.str.injEq, wLc, wSrc, srcD, wSl, wSmO, wNoO, gSl, bodyC, wipeD, beq_self_eq_true, Bool.not_true, exists_and_left, List.cons.injEq, gLen3, D.ty.injEq, D.ref.injEq, D.tup.injEq, D.lst.injEq, and_assoc, tm_bool, tm_int, tm_str, tm_tuple, tm_list, tm_dict, gIsi, wIsi2, wRaise, gLe, gGt, gGe, DD.gSub, Prod.mk.injEq, gAdd_int, gMul_int, gInt_int, gInt_bl, wPut, lenD3_lst, lenD3_tup, lenD3_str, lenD3_dct, gIn3_str, gIn3_lst, gIn3_tup, gInS, gIn, hl]
    rw [cut_take _ _ (by omega)]
    exact hQ
  · rw [List.nil_append, beg_rng s ((s.length : Int) + 1).toNat (by omega)]
    exact .inr (p _ _ (Nat.le_refl _) (by simp))
theorem fa_beginnings_of {P : Program} {w : World} {K : PySem.W.Frag} {mg : Str → Option Value} {base : Heap} (h : Hd fa fn K mg) : FnAt P w K mg base "beginnings_of" (defArgs (HD.top 25)) (defBody (HD.top 25)) (defScope (HD.top 25)) ["word"] 1 0 1 (sp_beginnings_of) := by
  obtain ⟨fd, F⟩ := h.def_ 13
  have F : FunD K "beginnings_of" "beginnings_of" (defArgs (HD.top 25)) (defBody (HD.top 25)) (defScope (HD.top 25)) [] [] (ga K "beginnings_of") fd := F
  refine' fn_at (c := ((((0 + 0) + 0) + 0) + (2 ^ 24 * (0 + ((0 + 0) + 0))))) F (h.glo 33) sc_beginnings_of rfl ?hc (b := w_beginnings_of) (fun cdv A outer s H E hr => ?hb) (sat_beginnings_of)
  case hb =>
    have hu : (cxOf (L2.CX P w) P w K mg base N_beginnings_of "beginnings_of" (defScope (HD.top 25)) (ga K "beginnings_of") cdv A outer s H E).A.units + 100 < cLine := by
      show (A.deeper (envOfC "beginnings_of" (defScope (HD.top 25)) s.heap.objs.size (ga K "beginnings_of") cdv)).units + 100 < cLine
      have := hr.un
      omega
    have tk := takes_of (X := cxOf (L2.CX P w) P w K mg base N_beginnings_of "beginnings_of" (defScope (HD.top 25)) (ga K "beginnings_of") cdv A outer s H E) rfl rfl rfl rfl
    have hp := passes_of (X := cxOf (L2.CX P w) P w K mg base N_beginnings_of "beginnings_of" (defScope (HD.top 25)) (ga K "beginnings_of") cdv A outer s H E) rfl
    have D : DSs (cxOf (L2.CX P w) P w K mg base N_beginnings_of "beginnings_of" (defScope (HD.top 25)) (ga K "beginnings_of") cdv A outer s H E) (fun cls d _ H' => E cls d H') (defBody (HD.top 25)) _ _ := (ds_one (ds_ret (d_lc true rfl sc_beginnings_of.nd (di_range1 (h.free 11) (da_cons (d_add (d_len3 (h.free 7) (da_cons (d_var 0) da_nil)) d_int) da_nil)) (show BlkOk N_beginnings_of (defScope (HD.top 25)) _ [("size", 1)] from blkOk_by (by decide +kernel)) (fun _ _ _ _ _ => (dg_name 1 sc_beginnings_of.nd)) (fun _ _ _ _ _ => dts_nil) (fun _ _ _ _ _ => (d_sl false (d_var 0) do_none (do_some (d_var 1)))))))
    exact D
  case hc => decide +kernel
theorem ok_beginnings_of {P : Program} {w : World} {K : PySem.W.Frag} {mg : Str → Option Value} {base : Heap} (h : Hd fa fn K mg) : OkAt P w K mg base "beginnings_of" 1 0 1 (sp_beginnings_of) := (fa_beginnings_of h).ok (fun _ _ _ _ _ _ us hl => match us, hl with | [_], _ => rfl)
def sp_ends_of : DD.Spec := fun ds S P _ => ∃ s : List Nat, ds = [.str s] ∧ s.length ≤ 1000 ∧ newL S (endD s) P
def N_ends_of : List Str := ["word", "size"]
theorem sc_ends_of : FnScope N_ends_of ["word"] (defScope (HD.top 26)) := ⟨rfl, rfl, rfl, by decide +kernel, rfl, by decide +kernel, by decide +kernel⟩
def w_ends_of : WS :=
  (wRet (wLc true (wRng1 (wCons (wBin gAdd (wB gLen3 (wCons (wVar 0) wNil)) (wC (.int 1))) wNil)) (gdName 1) wYes (wSl false (wVar 0) (wSmO (wBin gSub (wB gLen3 (wCons (wVar 0) wNil)) (wVar 1))) wNoO) (List.map (fun p : Str × Nat => p.2) [("size", 1)])))
theorem sat_ends_of : Sat' 1 N_ends_of.length w_ends_of sp_ends_of := by
  rintro ds S P E - hS hd ⟨s, rfl, hs, p⟩
  have hz := sizeLine_eq
  have hl : s.length ≤ sizeLine := by omega
  simp only [w_ends_of, N_ends_of, wRet, wRetN, wSeq, wSet, wIf, wPar, wPar3, wExpr, wAsg, wNext, wBreak, wCont, gdTup, gdCons, gdNil, gdName, wIte, wAnd, wOr, DD.wNot, wTest, wNotT, wAndT, wOrT, wBin, wUn, wB, wCons, wNil, wVar, wC, wTup, wLst, mkL, wYes, wCall, wChain, startD, List.map_cons, List.map_nil, List.length_cons, List.length_nil, List.replicate, List.cons_append, List.nil_append, List.append_nil, List.getElem?_cons_zero, List.getElem?_cons_succ, List.set_cons_zero, List.set_cons_succ, Option.some.injEq, exists_eq_left', exists_eq_left, true_and, and_true, if_true, if_false, Bool.false_eq_true, gI, D.int.injEq, D.bl.injEq, D.str.injEq, wLc, wSrc, srcD, wSl, wSmO, wNoO, gSl, bodyC, wipeD, beq_self_eq_true, Bool.not_true, exists_and_left, List.cons.injEq, gLen3, D.ty.injEq, D.ref.injEq, D.tup.injEq, D.lst.injEq, and_assoc, tm_bool, tm_int, tm_str, tm_tuple, tm_list, tm_dict, gIsi, wIsi2, wRaise, gLe, gGt, gGe, DD.gSub, Prod.mk.injEq, gAdd_int, gMul_int, gInt_int, gInt_bl, wPut, lenD3_lst, lenD3_tup, lenD3_str, lenD3_dct, gIn3_str, gIn3_lst, gIn3_tup, gInS, gIn, wRng1, gAdd, hl]
  refine ⟨by omega, by omega, ?_⟩
  refine loopC_pure (endF s) trivial _ _ (fun x hx Q hQ => ?_) ?_
  · obtain ⟨k, hk, rfl⟩ := List.mem_map.mp hx
    have hk := List.mem_range.mp hk
    simp only [wRet, wRetN, wSeq, wSet, wIf, wPar, wPar3, wExpr, wAsg, wNext, wBreak, wCont, gdTup, gdCons, gdNil, gdName, wIte, wAnd, wOr, DD.wNot, wTest, wNotT, wAndT, wOrT, wBin, wUn, wB, wCons, wNil, wVar, wC, wTup, wLst, mkL, wYes, wCall, wChain, startD, List.map_cons, List.map_nil, List.length_cons, List.length_nil, List.replicate, List.cons_append, List.nil_append, List.append_nil, List.getElem?_cons_zero, List.getElem?_cons_succ, List.set_cons_zero, List.set_cons_succ, Option.some.injEq, exists_eq_left', exists_eq_left, true_and, and_true, if_true, if_false, Bool.false_eq_true, gI, D.int.injEq, D.bl.injEq, D.str.injEq, wLc, wSrc, srcD, wSl, wSmO, wNoO, gSl, bodyC, wipeD, beq_self_eq_true, Bool.not_true, exists_and_left, List.cons.injEq, gLen3, D.ty.injEq, D.ref.injEq, D.tup.injEq, D.lst.injEq, and_assoc, tm_bool, tm_int, tm_str, tm_tuple, tm_list, tm_dict, gIsi, wIsi2, wRaise, gLe, gGt, gGe, DD.gSub, Prod.mk.injEq, gAdd_int, gMul_int, gInt_int, gInt_bl, wPut, lenD3_lst, lenD3_tup, lenD3_str, lenD3_dct, gIn3_str, gIn3_lst, gIn3_tup, gInS, gIn, hl, DD.gSub]
    rw [cut_drop s (0 + (k : Nat)) _ rfl (by omega), show ((s.length : Int) - (0 + (k : Nat))).toNat = s.length - (0 + (k : Int)).toNat by omega]
    exact hQ
  · rw [List.nil_append, end_rng s ((s.length : Int) + 1).toNat (by omega)]
    exact .inr (p _ _ (Nat.le_refl _) (by simp))
theorem fa_ends_of {P : Program} {w : World} {K : PySem.W.Frag} {mg : Str → Option Value} {base : Heap} (h : Hd fa fn K mg) : FnAt P w K mg base "ends_of" (defArgs (HD.top 26)) (defBody (HD.top 26)) (defScope (HD.top 26)) ["word"] 1 0 1 (sp_ends_of) := by
  obtain ⟨fd, F⟩ := h.def_ 14
  have F : FunD K "ends_of" "ends_of" (defArgs (HD.top 26)) (defBody (HD.top 26)) (defScope (HD.top 26)) [] [] (ga K "ends_of") fd := F
  refine' fn_at (c := ((((0 + 0) + 0) + 0) + (2 ^ 24 * (0 + ((0 + ((0 + 0) + 0)) + 0))))) F (h.glo 34) sc_ends_of rfl ?hc (b := w_ends_of) (fun cdv A outer s H E hr => ?hb) (sat_ends_of)
  case hb =>
    have hu : (cxOf (L2.CX P w) P w K mg base N_ends_of "ends_of" (defScope (HD.top 26)) (ga K "ends_of") cdv A outer s H E).A.units + 100 < cLine := by
      show (A.deeper (envOfC "ends_of" (defScope (HD.top 26)) s.heap.objs.size (ga K "ends_of") cdv)).units + 100 < cLine
      have := hr.un
      omega
    have tk := takes_of (X := cxOf (L2.CX P w) P w K mg base N_ends_of "ends_of" (defScope (HD.top 26)) (ga K "ends_of") cdv A outer s H E) rfl rfl rfl rfl
    have hp := passes_of (X := cxOf (L2.CX P w) P w K mg base N_ends_of "ends_of" (defScope (HD.top 26)) (ga K "ends_of") cdv A outer s H E) rfl
    have D : DSs (cxOf (L2.CX P w) P w K mg base N_ends_of "ends_of" (defScope (HD.top 26)) (ga K "ends_of") cdv A outer s H E) (fun cls d _ H' => E cls d H') (defBody (HD.top 26)) _ _ := (ds_one (ds_ret (d_lc true rfl sc_ends_of.nd (di_range1 (h.free 11) (da_cons (d_add (d_len3 (h.free 7) (da_cons (d_var 0) da_nil)) d_int) da_nil)) (show BlkOk N_ends_of (defScope (HD.top 26)) _ [("size", 1)] from blkOk_by (by decide +kernel)) (fun _ _ _ _ _ => (dg_name 1 sc_ends_of.nd)) (fun _ _ _ _ _ => dts_nil) (fun _ _ _ _ _ => (d_sl false (d_var 0) (do_some (d_sub (d_len3 (h.free 7) (da_cons (d_var 0) da_nil)) (d_var 1))) do_none)))))
    exact D
  case hc => decide +kernel
theorem ok_ends_of {P : Program} {w : World} {K : PySem.W.Frag} {mg : Str → Option Value} {base : Heap} (h : Hd fa fn K mg) : OkAt P w K mg base "ends_of" 1 0 1 (sp_ends_of) := (fa_ends_of h).ok (fun _ _ _ _ _ _ us hl => match us, hl with | [_], _ => rfl)
def sp_beginnings : DD.Spec := fun ds S P E => ∃ (l d : D) (m n : String), ds = [l, d] ∧ tyN S l = some m ∧ tyN S d = some n ∧ strOk d ∧
  if DD.inR l 1 2 = true then ∀ i, l = .int i → (if wordOk i d = true then ∀ s, d = .str s → newL S (begD s) P else E ⟨"InvalidWord", [("given", d)]⟩ S) else E ⟨"InvalidLetters", [("given", l)]⟩ S
def N_beginnings : List Str := ["letters", "word"]
theorem sc_beginnings : FnScope N_beginnings ["letters", "word"] (defScope (HD.top 27)) := ⟨rfl, rfl, rfl, by decide +kernel, rfl, by decide +kernel, by decide +kernel⟩
def w_beginnings : WS :=
  (wSeq (wExpr (wCall 1 (sp_check_letters) (wCons (wVar 0) wNil)))
  (wSeq (wExpr (wCall 2 (sp_check_word) (wCons (wVar 0) (wCons (wVar 1) wNil))))
  (wRet (wCall 1 (sp_beginnings_of) (wCons (wVar 1) wNil)))))
theorem sat_beginnings : Sat' 2 N_beginnings.length w_beginnings sp_beginnings := by
  rintro ds S P E - hS hd ⟨l, d, m, n, rfl, hm, hn, hs, p⟩
  simp only [w_beginnings, N_beginnings, wRet, wRetN, wSeq, wSet, wIf, wPar, wPar3, wExpr, wAsg, wNext, wBreak, wCont, gdTup, gdCons, gdNil, gdName, wIte, wAnd, wOr, DD.wNot, wTest, wNotT, wAndT, wOrT, wBin, wUn, wB, wCons, wNil, wVar, wC, wTup, wLst, mkL, wYes, wCall, wChain, startD, List.map_cons, List.map_nil, List.length_cons, List.length_nil, List.replicate, List.cons_append, List.nil_append, List.append_nil, List.getElem?_cons_zero, List.getElem?_cons_succ, List.set_cons_zero, List.set_cons_succ, Option.some.injEq, exists_eq_left', exists_eq_left, true_and, and_true, if_true, if_false, Bool.false_eq_true, gI, D.int.injEq, D.bl.injEq, D.str.injEq, wLc, wSrc, srcD, wSl, wSmO, wNoO, gSl, bodyC, wipeD, beq_self_eq_true, Bool.not_true, exists_and_left, List.cons.injEq, gLen3, D.ty.injEq, D.ref.injEq, D.tup.injEq, D.lst.injEq, and_assoc, tm_bool, tm_int, tm_str, tm_tuple, tm_list, tm_dict, gIsi, wIsi2, wRaise, gLe, gGt, gGe, DD.gSub, Prod.mk.injEq, gAdd_int, gMul_int, gInt_int, gInt_bl, wPut, lenD3_lst, lenD3_tup, lenD3_str, lenD3_dct, gIn3_str, gIn3_lst, gIn3_tup, gInS, gIn, sp_check_letters, hm, hn]
  cases h : DD.inR l 1 2 with
  | false => rw [h] at p; exact .inr p
  | true =>
    rw [h] at p
    obtain ⟨i, rfl, _⟩ := inR_int h
    have p := p i rfl
    simp only [wRet, wRetN, wSeq, wSet, wIf, wPar, wPar3, wExpr, wAsg, wNext, wBreak, wCont, gdTup, gdCons, gdNil, gdName, wIte, wAnd, wOr, DD.wNot, wTest, wNotT, wAndT, wOrT, wBin, wUn, wB, wCons, wNil, wVar, wC, wTup, wLst, mkL, wYes, wCall, wChain, startD, List.map_cons, List.map_nil, List.length_cons, List.length_nil, List.replicate, List.cons_append, List.nil_append, List.append_nil, List.getElem?_cons_zero, List.getElem?_cons_succ, List.set_cons_zero, List.set_cons_succ, Option.some.injEq, exists_eq_left', exists_eq_left, true_and, and_true, if_true, if_false, Bool.false_eq_true, gI, D.int.injEq, D.bl.injEq, D.str.injEq, wLc, wSrc, srcD, wSl, wSmO, wNoO, gSl, bodyC, wipeD, beq_self_eq_true, Bool.not_true, exists_and_left, List.cons.injEq, gLen3, D.ty.injEq, D.ref.injEq, D.tup.injEq, D.lst.injEq, and_assoc, tm_bool, tm_int, tm_str, tm_tuple, tm_list, tm_dict, gIsi, wIsi2, wRaise, gLe, gGt, gGe, DD.gSub, Prod.mk.injEq, gAdd_int, gMul_int, gInt_int, gInt_bl, wPut, lenD3_lst, lenD3_tup, lenD3_str, lenD3_dct, gIn3_str, gIn3_lst, gIn3_tup, gInS, gIn, sp_check_word, hn, hs]
    cases h2 : wordOk i d with
    | false => rw [h2] at p; exact .inr p
    | true =>
      rw [h2] at p
      obtain ⟨s, rfl, hs, _⟩ := wordOk_str h2
      simp only [wRet, wRetN, wSeq, wSet, wIf, wPar, wPar3, wExpr, wAsg, wNext, wBreak, wCont, gdTup, gdCons, gdNil, gdName, wIte, wAnd, wOr, DD.wNot, wTest, wNotT, wAndT, wOrT, wBin, wUn, wB, wCons, wNil, wVar, wC, wTup, wLst, mkL, wYes, wCall, wChain, startD, List.map_cons, List.map_nil, List.length_cons, List.length_nil, List.replicate, List.cons_append, List.nil_append, List.append_nil, List.getElem?_cons_zero, List.getElem?_cons_succ, List.set_cons_zero, List.set_cons_succ, Option.some.injEq, exists_eq_left', exists_eq_left, true_and, and_true, if_true, if_false, Bool.false_eq_true, gI, D.int.injEq, D.bl.injEq, D.str.injEq, wLc, wSrc, srcD, wSl, wSmO, wNoO, gSl, bodyC, wipeD, beq_self_eq_true, Bool.not_true, exists_and_left, List.cons.injEq, gLen3, D.ty.injEq, D.ref.injEq, D.tup.injEq, D.lst.injEq, and_assoc, tm_bool, tm_int, tm_str, tm_tuple, tm_list, tm_dict, gIsi, wIsi2, wRaise, gLe, gGt, gGe, DD.gSub, Prod.mk.injEq, gAdd_int, gMul_int, gInt_int, gInt_bl, wPut, lenD3_lst, lenD3_tup, lenD3_str, lenD3_dct, gIn3_str, gIn3_lst, gIn3_tup, gInS, gIn, sp_beginnings_of]
      exact ⟨by omega, fun T k h1 h2 => .inr (p s rfl T k h1 h2)⟩
theorem fa_beginnings {P : Program} {w : World} {K : PySem.W.Frag} {mg : Str → Option Value} {base : Heap} (h : Hd fa fn K mg) : FnAt P w K mg base "beginnings" (defArgs (HD.top 27)) (defBody (HD.top 27)) (defScope (HD.top 27)) ["letters", "word"] 4 0 2 (sp_beginnings) := by
  obtain ⟨fd, F⟩ := h.def_ 15
  have F : FunD K "beginnings" "beginnings" (defArgs (HD.top 27)) (defBody (HD.top 27)) (defScope (HD.top 27)) [] [] (ga K "beginnings") fd := F
  refine' fn_at (c := (((0 + 0) + 0) + (((0 + (0 + 0)) + 0) + ((0 + 0) + 0)))) F (h.glo 35) sc_beginnings rfl ?hc (b := w_beginnings) (fun cdv A outer s H E hr => ?hb) (sat_beginnings)
  case hb =>
    have hu : (cxOf (L2.CX P w) P w K mg base N_beginnings "beginnings" (defScope (HD.top 27)) (ga K "beginnings") cdv A outer s H E).A.units + 100 < cLine := by
      show (A.deeper (envOfC "beginnings" (defScope (HD.top 27)) s.heap.objs.size (ga K "beginnings") cdv)).units + 100 < cLine
      have := hr.un
      omega
    have tk := takes_of (X := cxOf (L2.CX P w) P w K mg base N_beginnings "beginnings" (defScope (HD.top 27)) (ga K "beginnings") cdv A outer s H E) rfl rfl rfl rfl
    have hp := passes_of (X := cxOf (L2.CX P w) P w K mg base N_beginnings "beginnings" (defScope (HD.top 27)) (ga K "beginnings") cdv A outer s H E) rfl
    have D : DSs (cxOf (L2.CX P w) P w K mg base N_beginnings "beginnings" (defScope (HD.top 27)) (ga K "beginnings") cdv A outer s H E) (fun cls d _ H' => E cls d H') (defBody (HD.top 27)) _ _ := (ds_cons (ds_expr (d_call (ok_check_letters h) hr (by decide) tk (da_cons (d_var 0) da_nil)))
    (ds_cons (ds_expr (d_call (ok_check_word h) hr (by decide) tk (da_cons (d_var 0) (da_cons (d_var 1) da_nil))))
    (ds_one (ds_ret (d_call (ok_beginnings_of h) hr (by decide) tk (da_cons (d_var 1) da_nil))))))
    exact D
  case hc => decide +kernel
theorem ok_beginnings {P : Program} {w : World} {K : PySem.W.Frag} {mg : Str → Option Value} {base : Heap} (h : Hd fa fn K mg) : OkAt P w K mg base "beginnings" 4 0 2 (sp_beginnings) := (fa_beginnings h).ok (fun _ _ _ _ _ _ us hl => match us, hl with | [_, _], _ => rfl)
theorem okk_beginnings0 {P : Program} {w : World} {K : PySem.W.Frag} {mg : Str → Option Value} {base : Heap} (h : Hd fa fn K mg) : OkAtK P w K mg base "beginnings" 4 0 2 (sp_beginnings) ["word", "letters"] [1, 0] := (fa_beginnings h).okK _ _ (fun _ _ _ _ _ _ us hl => match us, hl with | [_, _], _ => rfl)
def sp_ends : DD.Spec := fun ds S P E => ∃ (l d : D) (m n : String), ds = [l, d] ∧ tyN S l = some m ∧ tyN S d = some n ∧ strOk d ∧
  if DD.inR l 1 2 = true then ∀ i, l = .int i → (if wordOk i d = true then ∀ s, d = .str s → newL S (endD s) P else E ⟨"InvalidWord", [("given", d)]⟩ S) else E ⟨"InvalidLetters", [("given", l)]⟩ S
def N_ends : List Str := ["letters", "word"]
theorem sc_ends : FnScope N_ends ["letters", "word"] (defScope (HD.top 28)) := ⟨rfl, rfl, rfl, by decide +kernel, rfl, by decide +kernel, by decide +kernel⟩
def w_ends : WS :=
  (wSeq (wExpr (wCall 1 (sp_check_letters) (wCons (wVar 0) wNil)))
  (wSeq (wExpr (wCall 2 (sp_check_word) (wCons (wVar 0) (wCons (wVar 1) wNil))))
  (wRet (wCall 1 (sp_ends_of) (wCons (wVar 1) wNil)))))
theorem sat_ends : Sat' 2 N_ends.length w_ends sp_ends := by
  rintro ds S P E - hS hd ⟨l, d, m, n, rfl, hm, hn, hs, p⟩
  simp only [w_ends, N_ends, wRet, wRetN, wSeq, wSet, wIf, wPar, wPar3, wExpr, wAsg, wNext, wBreak, wCont, gdTup, gdCons, gdNil, gdName, wIte, wAnd, wOr, DD.wNot, wTest, wNotT, wAndT, wOrT, wBin, wUn, wB, wCons, wNil, wVar, wC, wTup, wLst, mkL, wYes, wCall, wChain, startD, List.map_cons, List.map_nil, List.length_cons, List.length_nil, List.replicate, List.cons_append, List.nil_append, List.append_nil, List.getElem?_cons_zero, List.getElem?_cons_succ, List.set_cons_zero, List.set_cons_succ, Option.some.injEq, exists_eq_left', exists_eq_left, true_and, and_true, if_true, if_false, Bool.false_eq_true, gI, D.int.injEq, D.bl.injEq, D.str.injEq, wLc, wSrc, srcD, wSl, wSmO, wNoO, gSl, bodyC, wipeD, beq_self_eq_true, Bool.not_true, exists_and_left, List.cons.injEq, gLen3, D.ty.injEq, D.ref.injEq, D.tup.injEq, D.lst.injEq, and_assoc, tm_bool, tm_int, tm_str, tm_tuple, tm_list, tm_dict, gIsi, wIsi2, wRaise, gLe, gGt, gGe, DD.gSub, Prod.mk.injEq, gAdd_int, gMul_int, gInt_int, gInt_bl, wPut, lenD3_lst, lenD3_tup, lenD3_str, lenD3_dct, gIn3_str, gIn3_lst, gIn3_tup, gInS, gIn, sp_check_letters, hm, hn]
  cases h : DD.inR l 1 2 with
  | false => rw [h] at p; exact .inr p
  | true =>
    rw [h] at p
    obtain ⟨i, rfl, _⟩ := inR_int h
    have p := p i rfl
    simp only [wRet, wRetN, wSeq, wSet, wIf, wPar, wPar3, wExpr, wAsg, wNext, wBreak, wCont, gdTup, gdCons, gdNil, gdName, wIte, wAnd, wOr, DD.wNot, wTest, wNotT, wAndT, wOrT, wBin, wUn, wB, wCons, wNil, wVar, wC, wTup, wLst, mkL, wYes, wCall, wChain, startD, List.map_cons, List.map_nil, List.length_cons, List.length_nil, List.replicate, List.cons_append, List.nil_append, List.append_nil, List.getElem?_cons_zero, List.getElem?_cons_succ, List.set_cons_zero, List.set_cons_succ, Option.some.injEq, exists_eq_left', exists_eq_left, true_and, and_true, if_true, if_false, Bool.false_eq_true, gI, D.int.injEq, D.bl.injEq, D.str.injEq, wLc, wSrc, srcD, wSl, wSmO, wNoO, gSl, bodyC, wipeD, beq_self_eq_true, Bool.not_true, exists_and_left, List.cons.injEq, gLen3, D.ty.injEq, D.ref.injEq, D.tup.injEq, D.lst.injEq, and_assoc, tm_bool, tm_int, tm_str, tm_tuple, tm_list, tm_dict, gIsi, wIsi2, wRaise, gLe, gGt, gGe, DD.gSub, Prod.mk.injEq, gAdd_int, gMul_int, gInt_int, gInt_bl, wPut, lenD3_lst, lenD3_tup, lenD3_str, lenD3_dct, gIn3_str, gIn3_lst, gIn3_tup, gInS, gIn, sp_check_word, hn, hs]
    cases h2 : wordOk i d with
    | false => rw [h2] at p; exact .inr p
    | true =>
      rw [h2] at p
      obtain ⟨s, rfl, hs, _⟩ := wordOk_str h2
      simp only [wRet, wRetN, wSeq, wSet, wIf, wPar, wPar3, wExpr, wAsg, wNext, wBreak, wCont, gdTup, gdCons, gdNil, gdName, wIte, wAnd, wOr, DD.wNot, wTest, wNotT, wAndT, wOrT, wBin, wUn, wB, wCons, wNil, wVar, wC, wTup, wLst, mkL, wYes, wCall, wChain, startD, List.map_cons, List.map_nil, List.length_cons, List.length_nil, List.replicate, List.cons_append, List.nil_append, List.append_nil, List.getElem?_cons_zero, List.getElem?_cons_succ, List.set_cons_zero, List.set_cons_succ, Option.some.injEq, exists_eq_left', exists_eq_left, true_and, and_true, if_true, if_false, Bool.false_eq_true, gI, D.int.injEq, D.bl.injEq, D.str.injEq, wLc, wSrc, srcD, wSl, wSmO, wNoO, gSl, bodyC, wipeD, beq_self_eq_true, Bool.not_true, exists_and_left, List.cons.injEq, gLen3, D.ty.injEq, D.ref.injEq, D.tup.injEq, D.lst.injEq, and_assoc, tm_bool, tm_int, tm_str, tm_tuple, tm_list, tm_dict, gIsi, wIsi2, wRaise, gLe, gGt, gGe, DD.gSub, Prod.mk.injEq, gAdd_int, gMul_int, gInt_int, gInt_bl, wPut, lenD3_lst, lenD3_tup, lenD3_str, lenD3_dct, gIn3_str, gIn3_lst, gIn3_tup, gInS, gIn, sp_ends_of]
      exact ⟨by omega, fun T k h1 h2 => .inr (p s rfl T k h1 h2)⟩
theorem fa_ends {P : Program} {w : World} {K : PySem.W.Frag} {mg : Str → Option Value} {base : Heap} (h : Hd fa fn K mg) : FnAt P w K mg base "ends" (defArgs (HD.top 28)) (defBody (HD.top 28)) (defScope (HD.top 28)) ["letters", "word"] 4 0 2 (sp_ends) := by
  obtain ⟨fd, F⟩ := h.def_ 16
  have F : FunD K "ends" "ends" (defArgs (HD.top 28)) (defBody (HD.top 28)) (defScope (HD.top 28)) [] [] (ga K "ends") fd := F
  refine' fn_at (c := (((0 + 0) + 0) + (((0 + (0 + 0)) + 0) + ((0 + 0) + 0)))) F (h.glo 36) sc_ends rfl ?hc (b := w_ends) (fun cdv A outer s H E hr => ?hb) (sat_ends)
  case hb =>
    have hu : (cxOf (L2.CX P w) P w K mg base N_ends "ends" (defScope (HD.top 28)) (ga K "ends") cdv A outer s H E).A.units + 100 < cLine := by
      show (A.deeper (envOfC "ends" (defScope (HD.top 28)) s.heap.objs.size (ga K "ends") cdv)).units + 100 < cLine
      have := hr.un
      omega
    have tk := takes_of (X := cxOf (L2.CX P w) P w K mg base N_ends "ends" (defScope (HD.top 28)) (ga K "ends") cdv A outer s H E) rfl rfl rfl rfl
    have hp := passes_of (X := cxOf (L2.CX P w) P w K mg base N_ends "ends" (defScope (HD.top 28)) (ga K "ends") cdv A outer s H E) rfl
    have D : DSs (cxOf (L2.CX P w) P w K mg base N_ends "ends" (defScope (HD.top 28)) (ga K "ends") cdv A outer s H E) (fun cls d _ H' => E cls d H') (defBody (HD.top 28)) _ _ := (ds_cons (ds_expr (d_call (ok_check_letters h) hr (by decide) tk (da_cons (d_var 0) da_nil)))
    (ds_cons (ds_expr (d_call (ok_check_word h) hr (by decide) tk (da_cons (d_var 0) (da_cons (d_var 1) da_nil))))
    (ds_one (ds_ret (d_call (ok_ends_of h) hr (by decide) tk (da_cons (d_var 1) da_nil))))))
    exact D
  case hc => decide +kernel
theorem ok_ends {P : Program} {w : World} {K : PySem.W.Frag} {mg : Str → Option Value} {base : Heap} (h : Hd fa fn K mg) : OkAt P w K mg base "ends" 4 0 2 (sp_ends) := (fa_ends h).ok (fun _ _ _ _ _ _ us hl => match us, hl with | [_, _], _ => rfl)
theorem okk_ends0 {P : Program} {w : World} {K : PySem.W.Frag} {mg : Str → Option Value} {base : Heap} (h : Hd fa fn K mg) : OkAtK P w K mg base "ends" 4 0 2 (sp_ends) ["word", "letters"] [1, 0] := (fa_ends h).okK _ _ (fun _ _ _ _ _ _ us hl => match us, hl with | [_, _], _ => rfl)
def sp_turned_words : DD.Spec := fun ds S P E => ∃ (l d : D) (m n : String), ds = [l, d] ∧ tyN S l = some m ∧ tyN S d = some n ∧
  if DD.inR l 1 2 = true then ∀ i, l = .int i → (if (n == "list" || n == "tuple") = true then ∃ xs, seqA S d = some xs ∧ xs.length ≤ sizeLine ∧ (xs.length ≤ 400 → ∀ x ∈ xs, (∃ k, tyN S x = some k) ∧ strOk x) ∧
      (if (decide (xs.length ≤ 400) && xs.all (wordOk i)) = true then ∀ zs : List (List Nat), xs = zs.map D.str → newL S ((sortW (dedup (zs.map List.reverse))).map D.str) P else E ⟨"InvalidWords", [("given", d)]⟩ S)
    else E ⟨"InvalidWords", [("given", d)]⟩ S) else E ⟨"InvalidLetters", [("given", l)]⟩ S
def N_turned_words : List Str := ["letters", "words", "word"]
theorem sc_turned_words : FnScope N_turned_words ["letters", "words"] (defScope (HD.top 29)) := ⟨rfl, rfl, rfl, by decide +kernel, rfl, by decide +kernel, by decide +kernel⟩
def w_turned_words : WS :=
  (wSeq (wExpr (wCall 1 (sp_check_letters) (wCons (wVar 0) wNil)))
  (wSeq (wIf (wOrT (wNotT (wTest (wCall 1 (sp_is_list) (wCons (wVar 1) wNil)))) (wOrT (wTest (wBin gGt (wB gLen3 (wCons (wVar 1) wNil)) (wC (.int 400)))) (wNotT (wTest (wB gAll (wCons (wLc false (wSrc (wVar 1)) (gdName 2) wYes (wCall 2 (sp_is_word_of) (wCons (wVar 0) (wCons (wVar 2) wNil))) (List.map (fun p : Str × Nat => p.2) [("word", 2)])) wNil))))))
  (wRaise "InvalidWords" "given" (wVar 1))
  wNext)
  (wRet (wCall 1 (sp_in_order) (wCons (wLc false (wSrc (wVar 1)) (gdName 2) wYes (wUn gRev (wVar 2)) (List.map (fun p : Str × Nat => p.2) [("word", 2)])) wNil)))))
theorem sat_turned_words : Sat' 2 N_turned_words.length w_turned_words sp_turned_words := by
  rintro ds S P E - hS hd ⟨l, d, m, n, rfl, hm, hn, p⟩
  simp only [w_turned_words, N_turned_words, wRet, wRetN, wSeq, wSet, wIf, wPar, wPar3, wExpr, wAsg, wNext, wBreak, wCont, gdTup, gdCons, gdNil, gdName, wIte, wAnd, wOr, DD.wNot, wTest, wNotT, wAndT, wOrT, wBin, wUn, wB, wCons, wNil, wVar, wC, wTup, wLst, mkL, wYes, wCall, wChain, startD, List.map_cons, List.map_nil, List.length_cons, List.length_nil, List.replicate, List.cons_append, List.nil_append, List.append_nil, List.getElem?_cons_zero, List.getElem?_cons_succ, List.set_cons_zero, List.set_cons_succ, Option.some.injEq, exists_eq_left', exists_eq_left, true_and, and_true, if_true, if_false, Bool.false_eq_true, gI, D.int.injEq, D.bl.injEq, D.str.injEq, wLc, wSrc, srcD, wSl, wSmO, wNoO, gSl, bodyC, wipeD, beq_self_eq_true, Bool.not_true, exists_and_left, List.cons.injEq, gLen3, D.ty.injEq, D.ref.injEq, D.tup.injEq, D.lst.injEq, and_assoc, tm_bool, tm_int, tm_str, tm_tuple, tm_list, tm_dict, gIsi, wIsi2, wRaise, gLe, gGt, gGe, DD.gSub, Prod.mk.injEq, gAdd_int, gMul_int, gInt_int, gInt_bl, wPut, lenD3_lst, lenD3_tup, lenD3_str, lenD3_dct, gIn3_str, gIn3_lst, gIn3_tup, gInS, gIn, sp_check_letters, hm]
  cases h : DD.inR l 1 2 with
  | false => rw [h] at p; exact .inr p
  | true =>
    rw [h] at p
    obtain ⟨i, rfl, _⟩ := inR_int h
    have p := p i rfl
    simp only [wRet, wRetN, wSeq, wSet, wIf, wPar, wPar3, wExpr, wAsg, wNext, wBreak, wCont, gdTup, gdCons, gdNil, gdName, wIte, wAnd, wOr, DD.wNot, wTest, wNotT, wAndT, wOrT, wBin, wUn, wB, wCons, wNil, wVar, wC, wTup, wLst, mkL, wYes, wCall, wChain, startD, List.map_cons, List.map_nil, List.length_cons, List.length_nil, List.replicate, List.cons_append, List.nil_append, List.append_nil, List.getElem?_cons_zero, List.getElem?_cons_succ, List.set_cons_zero, List.set_cons_succ, Option.some.injEq, exists_eq_left', exists_eq_left, true_and, and_true, if_true, if_false, Bool.false_eq_true, gI, D.int.injEq, D.bl.injEq, D.str.injEq, wLc, wSrc, srcD, wSl, wSmO, wNoO, gSl, bodyC, wipeD, beq_self_eq_true, Bool.not_true, exists_and_left, List.cons.injEq, gLen3, D.ty.injEq, D.ref.injEq, D.tup.injEq, D.lst.injEq, and_assoc, tm_bool, tm_int, tm_str, tm_tuple, tm_list, tm_dict, gIsi, wIsi2, wRaise, gLe, gGt, gGe, DD.gSub, Prod.mk.injEq, gAdd_int, gMul_int, gInt_int, gInt_bl, wPut, lenD3_lst, lenD3_tup, lenD3_str, lenD3_dct, gIn3_str, gIn3_lst, gIn3_tup, gInS, gIn, sp_is_list, hn]
    cases h2 : (n == "list" || n == "tuple") with
    | false => rw [h2] at p; exact .inr p
    | true =>
      rw [h2] at p
      obtain ⟨xs, hx, hl, hw, p⟩ := p
      simp only [wRet, wRetN, wSeq, wSet, wIf, wPar, wPar3, wExpr, wAsg, wNext, wBreak, wCont, gdTup, gdCons, gdNil, gdName, wIte, wAnd, wOr, DD.wNot, wTest, wNotT, wAndT, wOrT, wBin, wUn, wB, wCons, wNil, wVar, wC, wTup, wLst, mkL, wYes, wCall, wChain, startD, List.map_cons, List.map_nil, List.length_cons, List.length_nil, List.replicate, List.cons_append, List.nil_append, List.append_nil, List.getElem?_cons_zero, List.getElem?_cons_succ, List.set_cons_zero, List.set_cons_succ, Option.some.injEq, exists_eq_left', exists_eq_left, true_and, and_true, if_true, if_false, Bool.false_eq_true, gI, D.int.injEq, D.bl.injEq, D.str.injEq, wLc, wSrc, srcD, wSl, wSmO, wNoO, gSl, bodyC, wipeD, beq_self_eq_true, Bool.not_true, exists_and_left, List.cons.injEq, gLen3, D.ty.injEq, D.ref.injEq, D.tup.injEq, D.lst.injEq, and_assoc, tm_bool, tm_int, tm_str, tm_tuple, tm_list, tm_dict, gIsi, wIsi2, wRaise, gLe, gGt, gGe, DD.gSub, Prod.mk.injEq, gAdd_int, gMul_int, gInt_int, gInt_bl, wPut, lenD3_lst, lenD3_tup, lenD3_str, lenD3_dct, gIn3_str, gIn3_lst, gIn3_tup, gInS, gIn, len_seqA hx]
      obtain ⟨C, hsrc, hC⟩ := srcD_seqA hx
      by_cases h4 : xs.length ≤ 400
      · rw [if_neg (by simp; omega)]
        have hw := hw h4
        refine ⟨_, C, hsrc, loopC_pure (fun x => some (.bl (wordOk i x))) hC _ _ (fun x hx Q hQ => ?_) ?_⟩
        · obtain ⟨⟨k, hk⟩, ho⟩ := hw x hx
          simp only [wRet, wRetN, wSeq, wSet, wIf, wPar, wPar3, wExpr, wAsg, wNext, wBreak, wCont, gdTup, gdCons, gdNil, gdName, wIte, wAnd, wOr, DD.wNot, wTest, wNotT, wAndT, wOrT, wBin, wUn, wB, wCons, wNil, wVar, wC, wTup, wLst, mkL, wYes, wCall, wChain, startD, List.map_cons, List.map_nil, List.length_cons, List.length_nil, List.replicate, List.cons_append, List.nil_append, List.append_nil, List.getElem?_cons_zero, List.getElem?_cons_succ, List.set_cons_zero, List.set_cons_succ, Option.some.injEq, exists_eq_left', exists_eq_left, true_and, and_true, if_true, if_false, Bool.false_eq_true, gI, D.int.injEq, D.bl.injEq, D.str.injEq, wLc, wSrc, srcD, wSl, wSmO, wNoO, gSl, bodyC, wipeD, beq_self_eq_true, Bool.not_true, exists_and_left, List.cons.injEq, gLen3, D.ty.injEq, D.ref.injEq, D.tup.injEq, D.lst.injEq, and_assoc, tm_bool, tm_int, tm_str, tm_tuple, tm_list, tm_dict, gIsi, wIsi2, wRaise, gLe, gGt, gGe, DD.gSub, Prod.mk.injEq, gAdd_int, gMul_int, gInt_int, gInt_bl, wPut, lenD3_lst, lenD3_tup, lenD3_str, lenD3_dct, gIn3_str, gIn3_lst, gIn3_tup, gInS, gIn, sp_is_word_of, hk]
          exact ⟨ho, hQ⟩
        · refine ⟨_, _, xs.map (wordOk i), rfl, rfl, ?_, ?_⟩
          · rw [List.nil_append]
            exact boolsOf_fm (wordOk i) xs
          · rw [List.all_map]
            rw [decide_eq_true h4, Bool.true_and] at p
            have e7 : xs.all (id ∘ wordOk i) = xs.all (wordOk i) := rfl
            refine ⟨_, rfl, ?_⟩
            rw [e7]
            cases h5 : xs.all (wordOk i) with
            | false => rw [h5] at p; exact .inr p
            | true =>
              rw [h5] at p
              obtain ⟨zs, rfl, hz⟩ := all_words h5
              rw [List.length_map] at h4 hl
              have hS2 := sizeLine_eq
              refine ⟨_, C, hsrc, loopC_pure turnD hC _ _ (fun x hx Q hQ => ?_) ?_⟩
              · obtain ⟨z, hz', rfl⟩ := List.mem_map.mp hx
                have := (hz z hz').1
                simp only [wRet, wRetN, wSeq, wSet, wIf, wPar, wPar3, wExpr, wAsg, wNext, wBreak, wCont, gdTup, gdCons, gdNil, gdName, wIte, wAnd, wOr, DD.wNot, wTest, wNotT, wAndT, wOrT, wBin, wUn, wB, wCons, wNil, wVar, wC, wTup, wLst, mkL, wYes, wCall, wChain, startD, List.map_cons, List.map_nil, List.length_cons, List.length_nil, List.replicate, List.cons_append, List.nil_append, List.append_nil, List.getElem?_cons_zero, List.getElem?_cons_succ, List.set_cons_zero, List.set_cons_succ, Option.some.injEq, exists_eq_left', exists_eq_left, true_and, and_true, if_true, if_false, Bool.false_eq_true, gI, D.int.injEq, D.bl.injEq, D.str.injEq, wLc, wSrc, srcD, wSl, wSmO, wNoO, gSl, bodyC, wipeD, beq_self_eq_true, Bool.not_true, exists_and_left, List.cons.injEq, gLen3, D.ty.injEq, D.ref.injEq, D.tup.injEq, D.lst.injEq, and_assoc, tm_bool, tm_int, tm_str, tm_tuple, tm_list, tm_dict, gIsi, wIsi2, wRaise, gLe, gGt, gGe, DD.gSub, Prod.mk.injEq, gAdd_int, gMul_int, gInt_int, gInt_bl, wPut, lenD3_lst, lenD3_tup, lenD3_str, lenD3_dct, gIn3_str, gIn3_lst, gIn3_tup, gInS, gIn, gRev]
                exact ⟨by omega, hQ⟩
              · rw [List.nil_append, turn_map]
                refine ⟨_, _, zs.map List.reverse, rfl, rfl, strsOf_str _, by simp; omega, ?_, fun T k h1 h2 => .inr (p zs rfl T k h1 h2)⟩
                intro z hz'
                obtain ⟨y, hy, rfl⟩ := List.mem_map.mp hz'
                have := (hz y hy).1
                simp; omega
      · rw [if_pos (by simp; omega)]
        rw [decide_eq_false h4, Bool.false_and] at p
        exact .inr p
theorem fa_turned_words {P : Program} {w : World} {K : PySem.W.Frag} {mg : Str → Option Value} {base : Heap} (h : Hd fa fn K mg) : FnAt P w K mg base "turned_words" (defArgs (HD.top 29)) (defBody (HD.top 29)) (defScope (HD.top 29)) ["letters", "words"] 5 0 2 (sp_turned_words) := by
  obtain ⟨fd, F⟩ := h.def_ 17
  have F : FunD K "turned_words" "turned_words" (defArgs (HD.top 29)) (defBody (HD.top 29)) (defScope (HD.top 29)) [] [] (ga K "turned_words") fd := F
  refine' fn_at (c := (((0 + 0) + 0) + (((((0 + 0) + 0) + (((0 + 0) + 0) + ((0 + (2 ^ 24 * (0 + ((0 + (0 + 0)) + 0)))) + 0))) + (0 + 0)) + (((0 + (2 ^ 24 * (0 + 0))) + 0) + 0)))) F (h.glo 37) sc_turned_words rfl ?hc (b := w_turned_words) (fun cdv A outer s H E hr => ?hb) (sat_turned_words)
  case hb =>
    have hu : (cxOf (L2.CX P w) P w K mg base N_turned_words "turned_words" (defScope (HD.top 29)) (ga K "turned_words") cdv A outer s H E).A.units + 100 < cLine := by
      show (A.deeper (envOfC "turned_words" (defScope (HD.top 29)) s.heap.objs.size (ga K "turned_words") cdv)).units + 100 < cLine
      have := hr.un
      omega
    have tk := takes_of (X := cxOf (L2.CX P w) P w K mg base N_turned_words "turned_words" (defScope (HD.top 29)) (ga K "turned_words") cdv A outer s H E) rfl rfl rfl rfl
    have hp := passes_of (X := cxOf (L2.CX P w) P w K mg base N_turned_words "turned_words" (defScope (HD.top 29)) (ga K "turned_words") cdv A outer s H E) rfl
    have D : DSs (cxOf (L2.CX P w) P w K mg base N_turned_words "turned_words" (defScope (HD.top 29)) (ga K "turned_words") cdv A outer s H E) (fun cls d _ H' => E cls d H') (defBody (HD.top 29)) _ _ := (ds_cons (ds_expr (d_call (ok_check_letters h) hr (by decide) tk (da_cons (d_var 0) da_nil)))
    (ds_cons (ds_if (dt_w (dw_or (dt_not (dt_val (d_call (ok_is_list h) hr (by decide) tk (da_cons (d_var 1) da_nil)))) (dw_or (dt_gt (d_len3 (h.free 7) (da_cons (d_var 1) da_nil)) (d_gint (h.int 19))) (dw_or1 (dt_not (dt_val (d_callB (cr_all rfl) cd_all (h.free 2) (da_cons (d_lc false rfl sc_turned_words.nd (di_any (d_var 1)) (show BlkOk N_turned_words (defScope (HD.top 29)) _ [("word", 2)] from blkOk_by (by decide +kernel)) (fun _ _ _ _ _ => (dg_name 2 sc_turned_words.nd)) (fun _ _ _ _ _ => dts_nil) (fun _ _ _ _ _ => (d_call (ok_is_word_of h) hr (by decide) takesF (da_cons (d_var 0) (da_cons (d_var 2) da_nil))))) da_nil))))))))
    (ds_one (ds_raise (ex_InvalidWords h) hr (by decide) rfl tk (d_var 1)))
    ds_nil)
    (ds_one (ds_ret (d_call (ok_in_order h) hr (by decide) tk (da_cons (d_lc false rfl sc_turned_words.nd (di_any (d_var 1)) (show BlkOk N_turned_words (defScope (HD.top 29)) _ [("word", 2)] from blkOk_by (by decide +kernel)) (fun _ _ _ _ _ => (dg_name 2 sc_turned_words.nd)) (fun _ _ _ _ _ => dts_nil) (fun _ _ _ _ _ => (d_rev (d_var 2)))) da_nil))))))
    exact D
  case hc => decide +kernel
theorem ok_turned_words {P : Program} {w : World} {K : PySem.W.Frag} {mg : Str → Option Value} {base : Heap} (h : Hd fa fn K mg) : OkAt P w K mg base "turned_words" 5 0 2 (sp_turned_words) := (fa_turned_words h).ok (fun _ _ _ _ _ _ us hl => match us, hl with | [_, _], _ => rfl)
theorem okk_turned_words0 {P : Program} {w : World} {K : PySem.W.Frag} {mg : Str → Option Value} {base : Heap} (h : Hd fa fn K mg) : OkAtK P w K mg base "turned_words" 5 0 2 (sp_turned_words) ["words", "letters"] [1, 0] := (fa_turned_words h).okK _ _ (fun _ _ _ _ _ _ us hl => match us, hl with | [_, _], _ => rfl)
def sp__law_cell : DD.Spec := fun ds S P _ => ∃ (ns : List Int) (k : Int), ds = [.lst (ns.map .int), .int k] ∧ 0 ≤ k ∧ k ≤ 1000 ∧ ns.length ≤ sizeLine ∧ ∀ i : Int, P (.int i) S
def N__law_cell : List Str := ["script", "k"]
theorem sc__law_cell : FnScope N__law_cell ["script", "k"] (defScope (HD.top 31)) := ⟨rfl, rfl, rfl, by decide +kernel, rfl, by decide +kernel, by decide +kernel⟩
def w__law_cell : WS :=
  (wRet (wIte (wTest (wBin gLt (wVar 1) (wB gLen3 (wCons (wVar 0) wNil)))) (wBin gIx3 (wVar 0) (wVar 1)) (wBin gAdd (wBin gMul (wC (.int 9915)) (wVar 1)) (wBin gMod (wB gInt (wCons (wB gSum (wCons (wSl false (wVar 0) wNoO (wSmO (wC (.int 1)))) wNil)) wNil)) (wC (.int 1000003))))))
theorem sat__law_cell : Sat' 2 N__law_cell.length w__law_cell sp__law_cell := by
  rintro ds S P E - hS hd ⟨ns, k, rfl, h0, h1, hl, p⟩
  simp only [w__law_cell, N__law_cell, wRet, wRetN, wSeq, wSet, wIf, wPar, wPar3, wExpr, wAsg, wNext, wBreak, wCont, gdTup, gdCons, gdNil, gdName, wIte, wAnd, wOr, DD.wNot, wTest, wNotT, wAndT, wOrT, wBin, wUn, wB, wCons, wNil, wVar, wC, wTup, wLst, mkL, wYes, wCall, wChain, startD, List.map_cons, List.map_nil, List.length_cons, List.length_nil, List.replicate, List.cons_append, List.nil_append, List.append_nil, List.getElem?_cons_zero, List.getElem?_cons_succ, List.set_cons_zero, List.set_cons_succ, Option.some.injEq, exists_eq_left', exists_eq_left, true_and, and_true, if_true, if_false, Bool.false_eq_true, gI, D.int.injEq, D.bl.injEq, D.str.injEq, wLc, wSrc, srcD, wSl, wSmO, wNoO, gSl, bodyC, wipeD, beq_self_eq_true, Bool.not_true, exists_and_left, List.cons.injEq, gLen3, D.ty.injEq, D.ref.injEq, D.tup.injEq, D.lst.injEq, and_assoc, tm_bool, tm_int, tm_str, tm_tuple, tm_list, tm_dict, gIsi, wIsi2, wRaise, gLe, gGt, gGe, DD.gSub, Prod.mk.injEq, gAdd_int, gMul_int, gInt_int, gInt_bl, wPut, lenD3_lst, lenD3_tup, lenD3_str, lenD3_dct, gIn3_str, gIn3_lst, gIn3_tup, gInS, gIn, List.length_map, seqA, seqL, Option.map_some, gLt, ltR]
  split
  · rename_i h
    have h : k < ns.length := by simpa using h
    exact ix_lst (atI_int h0 h) (outD_id (p _))
  · simp only [gSum, seqL, wRet, wRetN, wSeq, wSet, wIf, wPar, wPar3, wExpr, wAsg, wNext, wBreak, wCont, gdTup, gdCons, gdNil, gdName, wIte, wAnd, wOr, DD.wNot, wTest, wNotT, wAndT, wOrT, wBin, wUn, wB, wCons, wNil, wVar, wC, wTup, wLst, mkL, wYes, wCall, wChain, startD, List.map_cons, List.map_nil, List.length_cons, List.length_nil, List.replicate, List.cons_append, List.nil_append, List.append_nil, List.getElem?_cons_zero, List.getElem?_cons_succ, List.set_cons_zero, List.set_cons_succ, Option.some.injEq, exists_eq_left', exists_eq_left, true_and, and_true, if_true, if_false, Bool.false_eq_true, gI, D.int.injEq, D.bl.injEq, D.str.injEq, wLc, wSrc, srcD, wSl, wSmO, wNoO, gSl, bodyC, wipeD, beq_self_eq_true, Bool.not_true, exists_and_left, List.cons.injEq, gLen3, D.ty.injEq, D.ref.injEq, D.tup.injEq, D.lst.injEq, and_assoc, tm_bool, tm_int, tm_str, tm_tuple, tm_list, tm_dict, gIsi, wIsi2, wRaise, gLe, gGt, gGe, DD.gSub, Prod.mk.injEq, gAdd_int, gMul_int, gInt_int, gInt_bl, wPut, lenD3_lst, lenD3_tup, lenD3_str, lenD3_dct, gIn3_str, gIn3_lst, gIn3_tup, gInS, gIn, cutD_map, intsOf_map]
    exact ⟨CMul.l, by decide, outD_id (p _)⟩
theorem fa__law_cell {P : Program} {w : World} {K : PySem.W.Frag} {mg : Str → Option Value} {base : Heap} (h : Hd fa fn K mg) : FnAt P w K mg base "_law_cell" (defArgs (HD.top 31)) (defBody (HD.top 31)) (defScope (HD.top 31)) ["script", "k"] 1 0 2 (sp__law_cell) := by
  obtain ⟨fd, F⟩ := h.def_ 18
  have F : FunD K "_law_cell" "_law_cell" (defArgs (HD.top 31)) (defBody (HD.top 31)) (defScope (HD.top 31)) [] [] (ga K "_law_cell") fd := F
  refine' fn_at (c := ((0 + (0 + 0)) + ((0 + 0) + ((0 + 0) + (((((0 + 0) + 0) + 0) + 0) + 0))))) F (h.glo 38) sc__law_cell rfl ?hc (b := w__law_cell) (fun cdv A outer s H E hr => ?hb) (sat__law_cell)
  case hb =>
    have hu : (cxOf (L2.CX P w) P w K mg base N__law_cell "_law_cell" (defScope (HD.top 31)) (ga K "_law_cell") cdv A outer s H E).A.units + 100 < cLine := by
      show (A.deeper (envOfC "_law_cell" (defScope (HD.top 31)) s.heap.objs.size (ga K "_law_cell") cdv)).units + 100 < cLine
      have := hr.un
      omega
    have tk := takes_of (X := cxOf (L2.CX P w) P w K mg base N__law_cell "_law_cell" (defScope (HD.top 31)) (ga K "_law_cell") cdv A outer s H E) rfl rfl rfl rfl
    have hp := passes_of (X := cxOf (L2.CX P w) P w K mg base N__law_cell "_law_cell" (defScope (HD.top 31)) (ga K "_law_cell") cdv A outer s H E) rfl
    have D : DSs (cxOf (L2.CX P w) P w K mg base N__law_cell "_law_cell" (defScope (HD.top 31)) (ga K "_law_cell") cdv A outer s H E) (fun cls d _ H' => E cls d H') (defBody (HD.top 31)) _ _ := (ds_one (ds_ret (d_ite (dt_lt hu (d_var 1) (d_len3 (h.free 7) (da_cons (d_var 0) da_nil))) (d_ix3 hu (d_var 0) (d_var 1)) (d_add (d_mul d_int (d_var 1)) (d_mod (d_callTy call_int1 cd_int (h.free 5) (da_cons (d_callB (cr_sum rfl) cd_sum (h.free 14) (da_cons (d_sl false (d_var 0) do_none (do_some d_int)) da_nil)) da_nil)) d_int)))))
    exact D
  case hc => decide +kernel
theorem ok__law_cell {P : Program} {w : World} {K : PySem.W.Frag} {mg : Str → Option Value} {base : Heap} (h : Hd fa fn K mg) : OkAt P w K mg base "_law_cell" 1 0 2 (sp__law_cell) := (fa__law_cell h).ok (fun _ _ _ _ _ _ us hl => match us, hl with | [_, _], _ => rfl)
/-- a new box -/
def newBox (S : Cells) (P : Q1) : Prop := ∀ (T : Cells) (n : Nat), S.length ≤ n → (S ++ T)[n]? = some (some .box) → P (.ref n) (S ++ T)
def sp__law_box : DD.Spec := fun ds S P _ => ∃ g : Int, ds = [.int g] ∧ newBox S P
def N__law_box : List Str := ["great"]
theorem sc__law_box : FnScope N__law_box ["great"] (defScope (HD.top 32)) := ⟨rfl, rfl, rfl, by decide +kernel, rfl, by decide +kernel, by decide +kernel⟩
def w__law_box : WS :=
  (wRet (wUn gToBox (wLst true (wCons (wB gAbs (wCons (wVar 0) wNil)) (wCons (wBin gGe (wB gAbs (wCons (wVar 0) wNil)) (wBin gPow (wC (.int 10)) (wC (.int 18)))) (wCons (wBin gMod (wB gInt (wCons (wB gAbs (wCons (wVar 0) wNil)) wNil)) (wC (.int 2147483629))) (wCons (wC (.int 0)) wNil)))))))
theorem sat__law_box : Sat' 1 N__law_box.length w__law_box sp__law_box := by
  rintro ds S P E - hS hd ⟨g, rfl, p⟩
  simp only [w__law_box, N__law_box, wRet, wRetN, wSeq, wSet, wIf, wPar, wPar3, wExpr, wAsg, wNext, wBreak, wCont, gdTup, gdCons, gdNil, gdName, wIte, wAnd, wOr, DD.wNot, wTest, wNotT, wAndT, wOrT, wBin, wUn, wB, wCons, wNil, wVar, wC, wTup, wLst, mkL, wYes, wCall, wChain, startD, List.map_cons, List.map_nil, List.length_cons, List.length_nil, List.replicate, List.cons_append, List.nil_append, List.append_nil, List.getElem?_cons_zero, List.getElem?_cons_succ, List.set_cons_zero, List.set_cons_succ, Option.some.injEq, exists_eq_left', exists_eq_left, true_and, and_true, if_true, if_false, Bool.false_eq_true, gI, D.int.injEq, D.bl.injEq, D.str.injEq, wLc, wSrc, srcD, wSl, wSmO, wNoO, gSl, bodyC, wipeD, beq_self_eq_true, Bool.not_true, exists_and_left, List.cons.injEq, gLen3, D.ty.injEq, D.ref.injEq, D.tup.injEq, D.lst.injEq, and_assoc, tm_bool, tm_int, tm_str, tm_tuple, tm_list, tm_dict, gIsi, wIsi2, wRaise, gLe, gGt, gGe, DD.gSub, Prod.mk.injEq, gAdd_int, gMul_int, gInt_int, gInt_bl, wPut, lenD3_lst, lenD3_tup, lenD3_str, lenD3_dct, gIn3_str, gIn3_lst, gIn3_tup, gInS, gIn, gAbs, gToBox]
  refine ⟨CPw.of 4 (by decide) (by decide) (by decide), by decide, by decide, _, _, _, c0 (T := []), Int.emod_nonneg _ (show (2147483629 : Int) ≠ 0 by decide), Int.lt_trans (Int.emod_lt_of_pos _ (show (0 : Int) < 2147483629 by decide)) (by decide), ?_⟩
  rw [s0]
  exact .inr (p _ _ (Nat.le_refl _) c0)
theorem fa__law_box {P : Program} {w : World} {K : PySem.W.Frag} {mg : Str → Option Value} {base : Heap} (h : Hd fa fn K mg) : FnAt P w K mg base "_law_box" (defArgs (HD.top 32)) (defBody (HD.top 32)) (defScope (HD.top 32)) ["great"] 1 0 1 (sp__law_box) := by
  obtain ⟨fd, F⟩ := h.def_ 19
  have F : FunD K "_law_box" "_law_box" (defArgs (HD.top 32)) (defBody (HD.top 32)) (defScope (HD.top 32)) [] [] (ga K "_law_box") fd := F
  refine' fn_at (c := ((0 + 0) + (((0 + 0) + (0 + 0)) + ((((0 + 0) + 0) + 0) + (0 + 0))))) F (h.glo 39) sc__law_box rfl ?hc (b := w__law_box) (fun cdv A outer s H E hr => ?hb) (sat__law_box)
  case hb =>
    have hu : (cxOf (L2.CX P w) P w K mg base N__law_box "_law_box" (defScope (HD.top 32)) (ga K "_law_box") cdv A outer s H E).A.units + 100 < cLine := by
      show (A.deeper (envOfC "_law_box" (defScope (HD.top 32)) s.heap.objs.size (ga K "_law_box") cdv)).units + 100 < cLine
      have := hr.un
      omega
    have tk := takes_of (X := cxOf (L2.CX P w) P w K mg base N__law_box "_law_box" (defScope (HD.top 32)) (ga K "_law_box") cdv A outer s H E) rfl rfl rfl rfl
    have hp := passes_of (X := cxOf (L2.CX P w) P w K mg base N__law_box "_law_box" (defScope (HD.top 32)) (ga K "_law_box") cdv A outer s H E) rfl
    have D : DSs (cxOf (L2.CX P w) P w K mg base N__law_box "_law_box" (defScope (HD.top 32)) (ga K "_law_box") cdv A outer s H E) (fun cls d _ H' => E cls d H') (defBody (HD.top 32)) _ _ := (ds_one (ds_ret (d_toBox (d_lst true (da_cons (d_callB call_abs cd_abs (h.free 1) (da_cons (d_var 0) da_nil)) (da_cons (d_ge (d_callB call_abs cd_abs (h.free 1) (da_cons (d_var 0) da_nil)) (d_pow d_int d_int)) (da_cons (d_mod (d_callTy call_int1 cd_int (h.free 5) (da_cons (d_callB call_abs cd_abs (h.free 1) (da_cons (d_var 0) da_nil)) da_nil)) d_int) (da_cons d_int da_nil))))))))
    exact D
  case hc => decide +kernel
theorem ok__law_box {P : Program} {w : World} {K : PySem.W.Frag} {mg : Str → Option Value} {base : Heap} (h : Hd fa fn K mg) : OkAt P w K mg base "_law_box" 1 0 1 (sp__law_box) := (fa__law_box h).ok (fun _ _ _ _ _ _ us hl => match us, hl with | [_], _ => rfl)
def N__law_take : List Str := ["box", "many", "digit", "mixed"]
theorem sc__law_take : FnScope N__law_take ["box", "many"] (defScope (HD.top 33)) := ⟨rfl, rfl, rfl, by decide +kernel, rfl, by decide +kernel, by decide +kernel⟩
def w__law_take : WS :=
  (wSeq (wIf (wAndT (wTest (wBin gIx3 (wVar 0) (wC (.int 1)))) (wTest (wBin gGt (wBin gIx3 (wVar 0) (wC (.int 0))) (wC (.int 0)))))
  (wSeq (wSet 2 (wBin gMod (wB gInt (wCons (wBin gIx3 (wVar 0) (wC (.int 0))) wNil)) (wVar 1)))
  (wSeq (wPut (wBin gDiv (wBin gIx3 (wVar 0) (wC (.int 0))) (wVar 1)) (wVar 0) (wC (.int 0)))
  (wRet (wVar 2))))
  wNext)
  (wSeq (wPut (wBin gAdd (wBin gIx3 (wVar 0) (wC (.int 3))) (wC (.int 1))) (wVar 0) (wC (.int 3)))
  (wSeq (wSet 3 (wBin gMod (wB gInt (wCons (wBin gPow (wBin gAdd (wBin gAdd (wBin gIx3 (wVar 0) (wC (.int 2))) (wBin gMul (wC (.int 15487305)) (wBin gIx3 (wVar 0) (wC (.int 3))))) (wC (.int 179426205))) (wC (.int 5))) wNil)) (wC (.int 2147483647))))
  (wRet (wBin gMod (wB gInt (wCons (wBin gDiv (wBin gMod (wB gInt (wCons (wBin gPow (wBin gAdd (wBin gMul (wVar 3) (wC (.int 48271))) (wBin gMul (wC (.int 9907)) (wBin gIx3 (wVar 0) (wC (.int 3))))) (wC (.int 3))) wNil)) (wC (.int 2147483587))) (wC (.int 64))) wNil)) (wVar 1))))))
theorem sat__law_take : SatB N__law_take.length w__law_take := by
  intro n many g m k bb S P hn h1 h2 m0 m1 k0 kb out
  have hl : n < S.length := (List.getElem?_eq_some_iff.mp hn).1
  have hB := BIG_pos
  simp only [w__law_take, N__law_take, wRet, wRetN, wSeq, wSet, wIf, wPar, wPar3, wExpr, wAsg, wNext, wBreak, wCont, gdTup, gdCons, gdNil, gdName, wIte, wAnd, wOr, DD.wNot, wTest, wNotT, wAndT, wOrT, wBin, wUn, wB, wCons, wNil, wVar, wC, wTup, wLst, mkL, wYes, wCall, wChain, startD, List.map_cons, List.map_nil, List.length_cons, List.length_nil, List.replicate, List.cons_append, List.nil_append, List.append_nil, List.getElem?_cons_zero, List.getElem?_cons_succ, List.set_cons_zero, List.set_cons_succ, Option.some.injEq, exists_eq_left', exists_eq_left, true_and, and_true, if_true, if_false, Bool.false_eq_true, gI, D.int.injEq, D.bl.injEq, D.str.injEq, wLc, wSrc, srcD, wSl, wSmO, wNoO, gSl, bodyC, wipeD, beq_self_eq_true, Bool.not_true, exists_and_left, List.cons.injEq, gLen3, D.ty.injEq, D.ref.injEq, D.tup.injEq, D.lst.injEq, and_assoc, tm_bool, tm_int, tm_str, tm_tuple, tm_list, tm_dict, gIsi, wIsi2, wRaise, gLe, gGt, gGe, DD.gSub, Prod.mk.injEq, gAdd_int, gMul_int, gInt_int, gInt_bl, wPut, lenD3_lst, lenD3_tup, lenD3_str, lenD3_dct, gIn3_str, gIn3_lst, gIn3_tup, gInS, gIn]
  refine ix_of hn (d := .bl bb) rfl ⟨bb, rfl, ?_⟩
  split
  · refine ix_of hn (d := .int g) rfl ⟨g, rfl, ?_⟩
    split
    · rename_i hg
      refine ix_of hn (d := .int g) rfl ?_
      simp only [wRet, wRetN, wSeq, wSet, wIf, wPar, wPar3, wExpr, wAsg, wNext, wBreak, wCont, gdTup, gdCons, gdNil, gdName, wIte, wAnd, wOr, DD.wNot, wTest, wNotT, wAndT, wOrT, wBin, wUn, wB, wCons, wNil, wVar, wC, wTup, wLst, mkL, wYes, wCall, wChain, startD, List.map_cons, List.map_nil, List.length_cons, List.length_nil, List.replicate, List.cons_append, List.nil_append, List.append_nil, List.getElem?_cons_zero, List.getElem?_cons_succ, List.set_cons_zero, List.set_cons_succ, Option.some.injEq, exists_eq_left', exists_eq_left, true_and, and_true, if_true, if_false, Bool.false_eq_true, gI, D.int.injEq, D.bl.injEq, D.str.injEq, wLc, wSrc, srcD, wSl, wSmO, wNoO, gSl, bodyC, wipeD, beq_self_eq_true, Bool.not_true, exists_and_left, List.cons.injEq, gLen3, D.ty.injEq, D.ref.injEq, D.tup.injEq, D.lst.injEq, and_assoc, tm_bool, tm_int, tm_str, tm_tuple, tm_list, tm_dict, gIsi, wIsi2, wRaise, gLe, gGt, gGe, DD.gSub, Prod.mk.injEq, gAdd_int, gMul_int, gInt_int, gInt_bl, wPut, lenD3_lst, lenD3_tup, lenD3_str, lenD3_dct, gIn3_str, gIn3_lst, gIn3_tup, gInS, gIn]
      refine ⟨by omega, ix_of hn (d := .int g) rfl ⟨g, rfl, ⟨by omega, by omega⟩, ?_⟩⟩
      refine put_of hn (j := 0) rfl ?_
      simp only [wRet, wRetN, wSeq, wSet, wIf, wPar, wPar3, wExpr, wAsg, wNext, wBreak, wCont, gdTup, gdCons, gdNil, gdName, wIte, wAnd, wOr, DD.wNot, wTest, wNotT, wAndT, wOrT, wBin, wUn, wB, wCons, wNil, wVar, wC, wTup, wLst, mkL, wYes, wCall, wChain, startD, List.map_cons, List.map_nil, List.length_cons, List.length_nil, List.replicate, List.cons_append, List.nil_append, List.append_nil, List.getElem?_cons_zero, List.getElem?_cons_succ, List.set_cons_zero, List.set_cons_succ, Option.some.injEq, exists_eq_left', exists_eq_left, true_and, and_true, if_true, if_false, Bool.false_eq_true, gI, D.int.injEq, D.bl.injEq, D.str.injEq, wLc, wSrc, srcD, wSl, wSmO, wNoO, gSl, bodyC, wipeD, beq_self_eq_true, Bool.not_true, exists_and_left, List.cons.injEq, gLen3, D.ty.injEq, D.ref.injEq, D.tup.injEq, D.lst.injEq, and_assoc, tm_bool, tm_int, tm_str, tm_tuple, tm_list, tm_dict, gIsi, wIsi2, wRaise, gLe, gGt, gGe, DD.gSub, Prod.mk.injEq, gAdd_int, gMul_int, gInt_int, gInt_bl, wPut, lenD3_lst, lenD3_tup, lenD3_str, lenD3_dct, gIn3_str, gIn3_lst, gIn3_tup, gInS, gIn]
      exact out _ _ k (Int.emod_nonneg _ (by omega)) (Int.emod_lt_of_pos _ (by omega)) k0 (by omega)
    ·
      refine ix_of hn (d := .int k) rfl ?_
      simp only [wRet, wRetN, wSeq, wSet, wIf, wPar, wPar3, wExpr, wAsg, wNext, wBreak, wCont, gdTup, gdCons, gdNil, gdName, wIte, wAnd, wOr, DD.wNot, wTest, wNotT, wAndT, wOrT, wBin, wUn, wB, wCons, wNil, wVar, wC, wTup, wLst, mkL, wYes, wCall, wChain, startD, List.map_cons, List.map_nil, List.length_cons, List.length_nil, List.replicate, List.cons_append, List.nil_append, List.append_nil, List.getElem?_cons_zero, List.getElem?_cons_succ, List.set_cons_zero, List.set_cons_succ, Option.some.injEq, exists_eq_left', exists_eq_left, true_and, and_true, if_true, if_false, Bool.false_eq_true, gI, D.int.injEq, D.bl.injEq, D.str.injEq, wLc, wSrc, srcD, wSl, wSmO, wNoO, gSl, bodyC, wipeD, beq_self_eq_true, Bool.not_true, exists_and_left, List.cons.injEq, gLen3, D.ty.injEq, D.ref.injEq, D.tup.injEq, D.lst.injEq, and_assoc, tm_bool, tm_int, tm_str, tm_tuple, tm_list, tm_dict, gIsi, wIsi2, wRaise, gLe, gGt, gGe, DD.gSub, Prod.mk.injEq, gAdd_int, gMul_int, gInt_int, gInt_bl, wPut, lenD3_lst, lenD3_tup, lenD3_str, lenD3_dct, gIn3_str, gIn3_lst, gIn3_tup, gInS, gIn]
      refine put_of hn (j := 3) rfl ?_
      have hn2 : (S.set n (some (.lst ([.int g, .bl bb, .int m, .int k].set 3 (.int (k + 1))))))[n]? = some (some (.lst [.int g, .bl bb, .int m, .int (k + 1)])) := List.getElem?_set_self hl
      simp only [wRet, wRetN, wSeq, wSet, wIf, wPar, wPar3, wExpr, wAsg, wNext, wBreak, wCont, gdTup, gdCons, gdNil, gdName, wIte, wAnd, wOr, DD.wNot, wTest, wNotT, wAndT, wOrT, wBin, wUn, wB, wCons, wNil, wVar, wC, wTup, wLst, mkL, wYes, wCall, wChain, startD, List.map_cons, List.map_nil, List.length_cons, List.length_nil, List.replicate, List.cons_append, List.nil_append, List.append_nil, List.getElem?_cons_zero, List.getElem?_cons_succ, List.set_cons_zero, List.set_cons_succ, Option.some.injEq, exists_eq_left', exists_eq_left, true_and, and_true, if_true, if_false, Bool.false_eq_true, gI, D.int.injEq, D.bl.injEq, D.str.injEq, wLc, wSrc, srcD, wSl, wSmO, wNoO, gSl, bodyC, wipeD, beq_self_eq_true, Bool.not_true, exists_and_left, List.cons.injEq, gLen3, D.ty.injEq, D.ref.injEq, D.tup.injEq, D.lst.injEq, and_assoc, tm_bool, tm_int, tm_str, tm_tuple, tm_list, tm_dict, gIsi, wIsi2, wRaise, gLe, gGt, gGe, DD.gSub, Prod.mk.injEq, gAdd_int, gMul_int, gInt_int, gInt_bl, wPut, lenD3_lst, lenD3_tup, lenD3_str, lenD3_dct, gIn3_str, gIn3_lst, gIn3_tup, gInS, gIn]
      refine ix_of hn2 (d := .int m) rfl ?_
      refine ix_of hn2 (d := .int (k + 1)) rfl ?_
      simp only [wRet, wRetN, wSeq, wSet, wIf, wPar, wPar3, wExpr, wAsg, wNext, wBreak, wCont, gdTup, gdCons, gdNil, gdName, wIte, wAnd, wOr, DD.wNot, wTest, wNotT, wAndT, wOrT, wBin, wUn, wB, wCons, wNil, wVar, wC, wTup, wLst, mkL, wYes, wCall, wChain, startD, List.map_cons, List.map_nil, List.length_cons, List.length_nil, List.replicate, List.cons_append, List.nil_append, List.append_nil, List.getElem?_cons_zero, List.getElem?_cons_succ, List.set_cons_zero, List.set_cons_succ, Option.some.injEq, exists_eq_left', exists_eq_left, true_and, and_true, if_true, if_false, Bool.false_eq_true, gI, D.int.injEq, D.bl.injEq, D.str.injEq, wLc, wSrc, srcD, wSl, wSmO, wNoO, gSl, bodyC, wipeD, beq_self_eq_true, Bool.not_true, exists_and_left, List.cons.injEq, gLen3, D.ty.injEq, D.ref.injEq, D.tup.injEq, D.lst.injEq, and_assoc, tm_bool, tm_int, tm_str, tm_tuple, tm_list, tm_dict, gIsi, wIsi2, wRaise, gLe, gGt, gGe, DD.gSub, Prod.mk.injEq, gAdd_int, gMul_int, gInt_int, gInt_bl, wPut, lenD3_lst, lenD3_tup, lenD3_str, lenD3_dct, gIn3_str, gIn3_lst, gIn3_tup, gInS, gIn]
      refine ⟨CMul.l, pw_ok (by decide) (by decide) (by omega), by decide, CMul.r, ?_⟩
      have hm0 := Int.emod_nonneg ((m + 15487305 * (k + 1) + 179426205) ^ Int.toNat 5) (b := 2147483647) (by decide)
      have hm1 := Int.emod_lt_of_pos ((m + 15487305 * (k + 1) + 179426205) ^ Int.toNat 5) (b := 2147483647) (by decide)
      refine ix_of hn2 (d := .int (k + 1)) rfl ?_
      simp only [wRet, wRetN, wSeq, wSet, wIf, wPar, wPar3, wExpr, wAsg, wNext, wBreak, wCont, gdTup, gdCons, gdNil, gdName, wIte, wAnd, wOr, DD.wNot, wTest, wNotT, wAndT, wOrT, wBin, wUn, wB, wCons, wNil, wVar, wC, wTup, wLst, mkL, wYes, wCall, wChain, startD, List.map_cons, List.map_nil, List.length_cons, List.length_nil, List.replicate, List.cons_append, List.nil_append, List.append_nil, List.getElem?_cons_zero, List.getElem?_cons_succ, List.set_cons_zero, List.set_cons_succ, Option.some.injEq, exists_eq_left', exists_eq_left, true_and, and_true, if_true, if_false, Bool.false_eq_true, gI, D.int.injEq, D.bl.injEq, D.str.injEq, wLc, wSrc, srcD, wSl, wSmO, wNoO, gSl, bodyC, wipeD, beq_self_eq_true, Bool.not_true, exists_and_left, List.cons.injEq, gLen3, D.ty.injEq, D.ref.injEq, D.tup.injEq, D.lst.injEq, and_assoc, tm_bool, tm_int, tm_str, tm_tuple, tm_list, tm_dict, gIsi, wIsi2, wRaise, gLe, gGt, gGe, DD.gSub, Prod.mk.injEq, gAdd_int, gMul_int, gInt_int, gInt_bl, wPut, lenD3_lst, lenD3_tup, lenD3_str, lenD3_dct, gIn3_str, gIn3_lst, gIn3_tup, gInS, gIn]
      generalize (m + 15487305 * (k + 1) + 179426205) ^ Int.toNat 5 % 2147483647 = x at hm0 hm1 ⊢
      refine ⟨CMul.l, pw_ok (by decide) (by decide) (by omega), by decide, ⟨by decide, by decide⟩, by omega, ?_⟩
      have h9 := out ((x * 48271 + 9907 * (k + 1)) ^ Int.toNat 3 % 2147483587 / 64 % many) g (k + 1) (Int.emod_nonneg _ (by omega)) (Int.emod_lt_of_pos _ (by omega)) (by omega) (by omega)
      exact h9
  ·
    refine ix_of hn (d := .int k) rfl ?_
    simp only [wRet, wRetN, wSeq, wSet, wIf, wPar, wPar3, wExpr, wAsg, wNext, wBreak, wCont, gdTup, gdCons, gdNil, gdName, wIte, wAnd, wOr, DD.wNot, wTest, wNotT, wAndT, wOrT, wBin, wUn, wB, wCons, wNil, wVar, wC, wTup, wLst, mkL, wYes, wCall, wChain, startD, List.map_cons, List.map_nil, List.length_cons, List.length_nil, List.replicate, List.cons_append, List.nil_append, List.append_nil, List.getElem?_cons_zero, List.getElem?_cons_succ, List.set_cons_zero, List.set_cons_succ, Option.some.injEq, exists_eq_left', exists_eq_left, true_and, and_true, if_true, if_false, Bool.false_eq_true, gI, D.int.injEq, D.bl.injEq, D.str.injEq, wLc, wSrc, srcD, wSl, wSmO, wNoO, gSl, bodyC, wipeD, beq_self_eq_true, Bool.not_true, exists_and_left, List.cons.injEq, gLen3, D.ty.injEq, D.ref.injEq, D.tup.injEq, D.lst.injEq, and_assoc, tm_bool, tm_int, tm_str, tm_tuple, tm_list, tm_dict, gIsi, wIsi2, wRaise, gLe, gGt, gGe, DD.gSub, Prod.mk.injEq, gAdd_int, gMul_int, gInt_int, gInt_bl, wPut, lenD3_lst, lenD3_tup, lenD3_str, lenD3_dct, gIn3_str, gIn3_lst, gIn3_tup, gInS, gIn]
    refine put_of hn (j := 3) rfl ?_
    have hn2 : (S.set n (some (.lst ([.int g, .bl bb, .int m, .int k].set 3 (.int (k + 1))))))[n]? = some (some (.lst [.int g, .bl bb, .int m, .int (k + 1)])) := List.getElem?_set_self hl
    simp only [wRet, wRetN, wSeq, wSet, wIf, wPar, wPar3, wExpr, wAsg, wNext, wBreak, wCont, gdTup, gdCons, gdNil, gdName, wIte, wAnd, wOr, DD.wNot, wTest, wNotT, wAndT, wOrT, wBin, wUn, wB, wCons, wNil, wVar, wC, wTup, wLst, mkL, wYes, wCall, wChain, startD, List.map_cons, List.map_nil, List.length_cons, List.length_nil, List.replicate, List.cons_append, List.nil_append, List.append_nil, List.getElem?_cons_zero, List.getElem?_cons_succ, List.set_cons_zero, List.set_cons_succ, Option.some.injEq, exists_eq_left', exists_eq_left, true_and, and_true, if_true, if_false, Bool.false_eq_true, gI, D.int.injEq, D.bl.injEq, D.str.injEq, wLc, wSrc, srcD, wSl, wSmO, wNoO, gSl, bodyC, wipeD, beq_self_eq_true, Bool.not_true, exists_and_left, List.cons.injEq, gLen3, D.ty.injEq, D.ref.injEq, D.tup.injEq, D.lst.injEq, and_assoc, tm_bool, tm_int, tm_str, tm_tuple, tm_list, tm_dict, gIsi, wIsi2, wRaise, gLe, gGt, gGe, DD.gSub, Prod.mk.injEq, gAdd_int, gMul_int, gInt_int, gInt_bl, wPut, lenD3_lst, lenD3_tup, lenD3_str, lenD3_dct, gIn3_str, gIn3_lst, gIn3_tup, gInS, gIn]
    refine ix_of hn2 (d := .int m) rfl ?_
    refine ix_of hn2 (d := .int (k + 1)) rfl ?_
    simp only [wRet, wRetN, wSeq, wSet, wIf, wPar, wPar3, wExpr, wAsg, wNext, wBreak, wCont, gdTup, gdCons, gdNil, gdName, wIte, wAnd, wOr, DD.wNot, wTest, wNotT, wAndT, wOrT, wBin, wUn, wB, wCons, wNil, wVar, wC, wTup, wLst, mkL, wYes, wCall, wChain, startD, List.map_cons, List.map_nil, List.length_cons, List.length_nil, List.replicate, List.cons_append, List.nil_append, List.append_nil, List.getElem?_cons_zero, List.getElem?_cons_succ, List.set_cons_zero, List.set_cons_succ, Option.some.injEq, exists_eq_left', exists_eq_left, true_and, and_true, if_true, if_false, Bool.false_eq_true, gI, D.int.injEq, D.bl.injEq, D.str.injEq, wLc, wSrc, srcD, wSl, wSmO, wNoO, gSl, bodyC, wipeD, beq_self_eq_true, Bool.not_true, exists_and_left, List.cons.injEq, gLen3, D.ty.injEq, D.ref.injEq, D.tup.injEq, D.lst.injEq, and_assoc, tm_bool, tm_int, tm_str, tm_tuple, tm_list, tm_dict, gIsi, wIsi2, wRaise, gLe, gGt, gGe, DD.gSub, Prod.mk.injEq, gAdd_int, gMul_int, gInt_int, gInt_bl, wPut, lenD3_lst, lenD3_tup, lenD3_str, lenD3_dct, gIn3_str, gIn3_lst, gIn3_tup, gInS, gIn]
    refine ⟨CMul.l, pw_ok (by decide) (by decide) (by omega), by decide, CMul.r, ?_⟩
    have hm0 := Int.emod_nonneg ((m + 15487305 * (k + 1) + 179426205) ^ Int.toNat 5) (b := 2147483647) (by decide)
    have hm1 := Int.emod_lt_of_pos ((m + 15487305 * (k + 1) + 179426205) ^ Int.toNat 5) (b := 2147483647) (by decide)
    refine ix_of hn2 (d := .int (k + 1)) rfl ?_
    simp only [wRet, wRetN, wSeq, wSet, wIf, wPar, wPar3, wExpr, wAsg, wNext, wBreak, wCont, gdTup, gdCons, gdNil, gdName, wIte, wAnd, wOr, DD.wNot, wTest, wNotT, wAndT, wOrT, wBin, wUn, wB, wCons, wNil, wVar, wC, wTup, wLst, mkL, wYes, wCall, wChain, startD, List.map_cons, List.map_nil, List.length_cons, List.length_nil, List.replicate, List.cons_append, List.nil_append, List.append_nil, List.getElem?_cons_zero, List.getElem?_cons_succ, List.set_cons_zero, List.set_cons_succ, Option.some.injEq, exists_eq_left', exists_eq_left, true_and, and_true, if_true, if_false, Bool.false_eq_true, gI, D.int.injEq, D.bl.injEq, D.str.injEq, wLc, wSrc, srcD, wSl, wSmO, wNoO, gSl, bodyC, wipeD, beq_self_eq_true, Bool.not_true, exists_and_left, List.cons.injEq, gLen3, D.ty.injEq, D.ref.injEq, D.tup.injEq, D.lst.injEq, and_assoc, tm_bool, tm_int, tm_str, tm_tuple, tm_list, tm_dict, gIsi, wIsi2, wRaise, gLe, gGt, gGe, DD.gSub, Prod.mk.injEq, gAdd_int, gMul_int, gInt_int, gInt_bl, wPut, lenD3_lst, lenD3_tup, lenD3_str, lenD3_dct, gIn3_str, gIn3_lst, gIn3_tup, gInS, gIn]
    generalize (m + 15487305 * (k + 1) + 179426205) ^ Int.toNat 5 % 2147483647 = x at hm0 hm1 ⊢
    refine ⟨CMul.l, pw_ok (by decide) (by decide) (by omega), by decide, ⟨by decide, by decide⟩, by omega, ?_⟩
    have h9 := out ((x * 48271 + 9907 * (k + 1)) ^ Int.toNat 3 % 2147483587 / 64 % many) g (k + 1) (Int.emod_nonneg _ (by omega)) (Int.emod_lt_of_pos _ (by omega)) (by omega) (by omega)
    exact h9
theorem fa__law_take {P : Program} {w : World} {K : PySem.W.Frag} {mg : Str → Option Value} {base : Heap} (h : Hd fa fn K mg) : FnAt P w K mg base "_law_take" (defArgs (HD.top 33)) (defBody (HD.top 33)) (defScope (HD.top 33)) ["box", "many"] 1 1 2 (spTake) := by
  obtain ⟨fd, F⟩ := h.def_ 20
  have F : FunD K "_law_take" "_law_take" (defArgs (HD.top 33)) (defBody (HD.top 33)) (defScope (HD.top 33)) [] [] (ga K "_law_take") fd := F
  refine' fn_take (c := ((((0 + 0) + ((0 + 0) + 0)) + (((((0 + 0) + 0) + 0) + ((((0 + 0) + 0) + (0 + 0)) + 0)) + 0)) + ((((0 + 0) + 0) + (0 + 0)) + (((((((0 + 0) + (0 + (0 + 0))) + 0) + 0) + 0) + 0) + ((((((((0 + 0) + (0 + (0 + 0))) + 0) + 0) + 0) + 0) + 0) + 0))))) F (h.glo 40) sc__law_take rfl ?hc (b := w__law_take) (fun cdv A outer s H E hr => ?hb) (sat__law_take)
  case hb =>
    have hu : (cxOf (L2.CX P w) P w K mg base N__law_take "_law_take" (defScope (HD.top 33)) (ga K "_law_take") cdv A outer s H E).A.units + 100 < cLine := by
      show (A.deeper (envOfC "_law_take" (defScope (HD.top 33)) s.heap.objs.size (ga K "_law_take") cdv)).units + 100 < cLine
      have := hr.un
      omega
    have tk := takes_of (X := cxOf (L2.CX P w) P w K mg base N__law_take "_law_take" (defScope (HD.top 33)) (ga K "_law_take") cdv A outer s H E) rfl rfl rfl rfl
    have hp := passes_of (X := cxOf (L2.CX P w) P w K mg base N__law_take "_law_take" (defScope (HD.top 33)) (ga K "_law_take") cdv A outer s H E) rfl
    have D : DSs (cxOf (L2.CX P w) P w K mg base N__law_take "_law_take" (defScope (HD.top 33)) (ga K "_law_take") cdv A outer s H E) (fun cls d _ H' => E cls d H') (defBody (HD.top 33)) _ _ := (ds_cons (ds_if (dt_w (dw_and (dt_val (d_ix3 hu (d_var 0) d_int)) (dw_and1 (dt_gt (d_ix3 hu (d_var 0) d_int) d_int))))
    (ds_cons (ds_set 2 sc__law_take.nd (d_mod (d_callTy call_int1 cd_int (h.free 5) (da_cons (d_ix3 hu (d_var 0) d_int) da_nil)) (d_var 1)))
    (ds_cons (ds_put hu (d_var 0) d_int (d_div (d_ix3 hu (d_var 0) d_int) (d_var 1)))
    (ds_one (ds_ret (d_var 2)))))
    ds_nil)
    (ds_cons (ds_put hu (d_var 0) d_int (d_add (d_ix3 hu (d_var 0) d_int) d_int))
    (ds_cons (ds_set 3 sc__law_take.nd (d_mod (d_callTy call_int1 cd_int (h.free 5) (da_cons (d_pow (d_add (d_add (d_ix3 hu (d_var 0) d_int) (d_mul d_int (d_ix3 hu (d_var 0) d_int))) d_int) d_int) da_nil)) d_int))
    (ds_one (ds_ret (d_mod (d_callTy call_int1 cd_int (h.free 5) (da_cons (d_div (d_mod (d_callTy call_int1 cd_int (h.free 5) (da_cons (d_pow (d_add (d_mul (d_var 3) d_int) (d_mul d_int (d_ix3 hu (d_var 0) d_int))) d_int) da_nil)) d_int) d_int) da_nil)) (d_var 1)))))))
    exact D
  case hc => rfl
theorem ok__law_take {P : Program} {w : World} {K : PySem.W.Frag} {mg : Str → Option Value} {base : Heap} (h : Hd fa fn K mg) : OkAt P w K mg base "_law_take" 1 1 2 (spTake) := (fa__law_take h).ok (fun _ _ _ _ _ _ us hl => match us, hl with | [_, _], _ => rfl)
def sp__law_mixed : DD.Spec := fun ds S P _ => ∃ (b : Nat) (d : D) (xs : List D), ds = [.ref b, d] ∧ S[b]? = some (some .box) ∧ seqL S d = some xs ∧ xs.length ≤ sizeLine ∧ rbL S.length xs = true ∧ ∀ ys : List D, ys.Perm xs → P (.lst ys) S
def N__law_mixed : List Str := ["box", "items", "left", "found", "k"]
theorem sc__law_mixed : FnScope N__law_mixed ["box", "items"] (defScope (HD.top 34)) := ⟨rfl, rfl, rfl, by decide +kernel, rfl, by decide +kernel, by decide +kernel⟩
def w__law_mixed : WS :=
  (wSeq (wPar 2 3 (wCons (wB (gList4 true) (wCons (wVar 1) wNil)) (wCons (wLst true wNil) wNil)))
  (wSeq (wFor (wRng1 (wCons (wB gLen3 (wCons (wVar 1) wNil)) wNil)) (gdName 4)
  (wExpr (wMeth "list" gAppend (wVar 3) (wCons (wMeth "list" gPopAt (wVar 2) (wCons (wCall 2 (spTake) (wCons (wVar 0) (wCons (wB gLen3 (wCons (wVar 2) wNil)) wNil))) wNil)) wNil))))
  (wRet (wFz (wVar 3)))))
theorem sat__law_mixed : Sat' 2 N__law_mixed.length w__law_mixed sp__law_mixed := by
  rintro ds S P E - hS hd ⟨b, d, xs, rfl, hb, hx, hl, hr, p⟩
  have hz := sizeLine_eq
  simp only [w__law_mixed, N__law_mixed, wRet, wRetN, wSeq, wSet, wIf, wPar, wPar3, wExpr, wAsg, wNext, wBreak, wCont, gdTup, gdCons, gdNil, gdName, wIte, wAnd, wOr, DD.wNot, wTest, wNotT, wAndT, wOrT, wBin, wUn, wB, wCons, wNil, wVar, wC, wTup, wLst, mkL, wYes, wCall, wChain, startD, List.map_cons, List.map_nil, List.length_cons, List.length_nil, List.replicate, List.cons_append, List.nil_append, List.append_nil, List.getElem?_cons_zero, List.getElem?_cons_succ, List.set_cons_zero, List.set_cons_succ, Option.some.injEq, exists_eq_left', exists_eq_left, true_and, and_true, if_true, if_false, Bool.false_eq_true, gI, D.int.injEq, D.bl.injEq, D.str.injEq, wLc, wSrc, srcD, wSl, wSmO, wNoO, gSl, bodyC, wipeD, beq_self_eq_true, Bool.not_true, exists_and_left, List.cons.injEq, gLen3, D.ty.injEq, D.ref.injEq, D.tup.injEq, D.lst.injEq, and_assoc, tm_bool, tm_int, tm_str, tm_tuple, tm_list, tm_dict, gIsi, wIsi2, wRaise, gLe, gGt, gGe, DD.gSub, Prod.mk.injEq, gAdd_int, gMul_int, gInt_int, gInt_bl, wPut, lenD3_lst, lenD3_tup, lenD3_str, lenD3_dct, gIn3_str, gIn3_lst, gIn3_tup, gInS, gIn, wFor, wRng1]
  refine list_seq hx ⟨by decide, xs.length, len_seq (seqL_app (seqL_app hx)), by omega, by omega, ?_⟩
  refine loopF_inv (fun ys ρ S1 => ∃ (l f : List D) (k : Option D), l.length = ys.length ∧ (f ++ l).Perm xs ∧ S1 = S ++ [some (.lst l), some (.lst f)] ∧ ρ = [some (.ref b), some d, some (.ref S.length), some (.ref (S.length + 1)), k]) ?_ ?_ _ _ _ ⟨xs, [], none, by simp [rangeD], by simp, by simp, by simp⟩
  · rintro x ys ρ S1 K ⟨l, f, k, hk, hp, rfl, rfl⟩ hK
    rw [List.length_cons] at hk
    have hlp := hp.length_eq
    rw [List.length_append] at hlp
    refine ⟨trivial, ?_⟩
    have e0 : (S ++ [some (Cell.lst l), some (Cell.lst f)])[S.length]? = some (some (.lst l)) := c0
    have e1 : (S ++ [some (Cell.lst l), some (Cell.lst f)])[S.length + 1]? = some (some (.lst f)) := c1
    simp only [bodyF, wRet, wRetN, wSeq, wSet, wIf, wPar, wPar3, wExpr, wAsg, wNext, wBreak, wCont, gdTup, gdCons, gdNil, gdName, wIte, wAnd, wOr, DD.wNot, wTest, wNotT, wAndT, wOrT, wBin, wUn, wB, wCons, wNil, wVar, wC, wTup, wLst, mkL, wYes, wCall, wChain, startD, List.map_cons, List.map_nil, List.length_cons, List.length_nil, List.replicate, List.cons_append, List.nil_append, List.append_nil, List.getElem?_cons_zero, List.getElem?_cons_succ, List.set_cons_zero, List.set_cons_succ, Option.some.injEq, exists_eq_left', exists_eq_left, true_and, and_true, if_true, if_false, Bool.false_eq_true, gI, D.int.injEq, D.bl.injEq, D.str.injEq, wLc, wSrc, srcD, wSl, wSmO, wNoO, gSl, bodyC, wipeD, beq_self_eq_true, Bool.not_true, exists_and_left, List.cons.injEq, gLen3, D.ty.injEq, D.ref.injEq, D.tup.injEq, D.lst.injEq, and_assoc, tm_bool, tm_int, tm_str, tm_tuple, tm_list, tm_dict, gIsi, wIsi2, wRaise, gLe, gGt, gGe, DD.gSub, Prod.mk.injEq, gAdd_int, gMul_int, gInt_int, gInt_bl, wPut, lenD3_lst, lenD3_tup, lenD3_str, lenD3_dct, gIn3_str, gIn3_lst, gIn3_tup, gInS, gIn, wMeth, tyM_ref e0, tyM_ref e1, spTake, len_ref e0]
    refine ⟨cL hb, by omega, by omega, fun i i0 i1 => ?_⟩
    have hi : i.toNat < l.length := by omega
    have hget : l[i.toNat]? = some l[i.toNat] := by simp [hi]
    refine ⟨_, _, _, _, l[i.toNat], rfl, rfl, e0, by omega, by omega, seqIx i0 i1, hget, ?_⟩
    rw [s0]
    refine ⟨_, f, _, rfl, rfl, c1, by omega, ?_⟩
    rw [s1]
    refine hK _ _ ⟨l.eraseIdx i.toNat, f ++ [l[i.toNat]], some x, by rw [List.length_eraseIdx_of_lt hi]; omega, ?_, rfl, rfl⟩
    rw [List.append_assoc]
    exact ((perm_pop hget).append_left f).trans hp
  · rintro ρ S1 ⟨l, f, k, hk, hp, rfl, rfl⟩
    have hl0 : l = [] := List.eq_nil_of_length_eq_zero hk
    subst hl0
    rw [List.append_nil] at hp
    simp only [wRet, wRetN, wSeq, wSet, wIf, wPar, wPar3, wExpr, wAsg, wNext, wBreak, wCont, gdTup, gdCons, gdNil, gdName, wIte, wAnd, wOr, DD.wNot, wTest, wNotT, wAndT, wOrT, wBin, wUn, wB, wCons, wNil, wVar, wC, wTup, wLst, mkL, wYes, wCall, wChain, startD, List.map_cons, List.map_nil, List.length_cons, List.length_nil, List.replicate, List.cons_append, List.nil_append, List.append_nil, List.getElem?_cons_zero, List.getElem?_cons_succ, List.set_cons_zero, List.set_cons_succ, Option.some.injEq, exists_eq_left', exists_eq_left, true_and, and_true, if_true, if_false, Bool.false_eq_true, gI, D.int.injEq, D.bl.injEq, D.str.injEq, wLc, wSrc, srcD, wSl, wSmO, wNoO, gSl, bodyC, wipeD, beq_self_eq_true, Bool.not_true, exists_and_left, List.cons.injEq, gLen3, D.ty.injEq, D.ref.injEq, D.tup.injEq, D.lst.injEq, and_assoc, tm_bool, tm_int, tm_str, tm_tuple, tm_list, tm_dict, gIsi, wIsi2, wRaise, gLe, gGt, gGe, DD.gSub, Prod.mk.injEq, gAdd_int, gMul_int, gInt_int, gInt_bl, wPut, lenD3_lst, lenD3_tup, lenD3_str, lenD3_dct, gIn3_str, gIn3_lst, gIn3_tup, gInS, gIn, wFz, gFz]
    refine .inl ⟨f, c1, ?_⟩
    rw [s1]
    refine outD_app hS ?_ (p f hp)
    simp only [D.rb]
    exact rbL_perm hp hr
theorem fa__law_mixed {P : Program} {w : World} {K : PySem.W.Frag} {mg : Str → Option Value} {base : Heap} (h : Hd fa fn K mg) : FnAt P w K mg base "_law_mixed" (defArgs (HD.top 34)) (defBody (HD.top 34)) (defScope (HD.top 34)) ["box", "items"] 2 16777216 2 (sp__law_mixed) := by
  obtain ⟨fd, F⟩ := h.def_ 21
  have F : FunD K "_law_mixed" "_law_mixed" (defArgs (HD.top 34)) (defBody (HD.top 34)) (defScope (HD.top 34)) [] [] (ga K "_law_mixed") fd := F
  refine' fn_at (c := (((0 + 0) + (0 + 0)) + ((((0 + 0) + 0) + (2 ^ 24 * (0 + ((0 + (((0 + ((0 + 0) + 0)) + 1) + 0)) + 0)))) + 0))) F (h.glo 41) sc__law_mixed rfl ?hc (b := w__law_mixed) (fun cdv A outer s H E hr => ?hb) (sat__law_mixed)
  case hb =>
    have hu : (cxOf (L2.CX P w) P w K mg base N__law_mixed "_law_mixed" (defScope (HD.top 34)) (ga K "_law_mixed") cdv A outer s H E).A.units + 100 < cLine := by
      show (A.deeper (envOfC "_law_mixed" (defScope (HD.top 34)) s.heap.objs.size (ga K "_law_mixed") cdv)).units + 100 < cLine
      have := hr.un
      omega
    have tk := takes_of (X := cxOf (L2.CX P w) P w K mg base N__law_mixed "_law_mixed" (defScope (HD.top 34)) (ga K "_law_mixed") cdv A outer s H E) rfl rfl rfl rfl
    have hp := passes_of (X := cxOf (L2.CX P w) P w K mg base N__law_mixed "_law_mixed" (defScope (HD.top 34)) (ga K "_law_mixed") cdv A outer s H E) rfl
    have D : DSs (cxOf (L2.CX P w) P w K mg base N__law_mixed "_law_mixed" (defScope (HD.top 34)) (ga K "_law_mixed") cdv A outer s H E) (fun cls d _ H' => E cls d H') (defBody (HD.top 34)) _ _ := (ds_cons (ds_par 2 3 rfl sc__law_mixed.nd (da_cons (d_list4 true rfl (h.free 8) (da_cons (d_var 1) da_nil)) (da_cons (d_lst true da_nil) da_nil)))
    (ds_cons (ds_for hp rfl (di_range1 (h.free 11) (da_cons (d_len3 (h.free 7) (da_cons (d_var 1) da_nil)) da_nil)) (dg_name 4 sc__law_mixed.nd)
    (ds_one (ds_expr (d_append (d_var 3) (da_cons (d_popAt (d_var 2) (da_cons (d_call (ok__law_take h) hr (by decide) tk (da_cons (d_var 0) (da_cons (d_len3 (h.free 7) (da_cons (d_var 2) da_nil)) da_nil))) da_nil)) da_nil)))))
    (ds_one (ds_ret (d_fz (d_var 3))))))
    exact D
  case hc => decide +kernel
theorem ok__law_mixed {P : Program} {w : World} {K : PySem.W.Frag} {mg : Str → Option Value} {base : Heap} (h : Hd fa fn K mg) : OkAt P w K mg base "_law_mixed" 2 16777216 2 (sp__law_mixed) := (fa__law_mixed h).ok (fun _ _ _ _ _ _ us hl => match us, hl with | [_, _], _ => rfl)
/-- two data that read alike: it answers yes -/
def sp__law_same (n : Nat) : DD.Spec := fun ds S P _ => ∃ a b x, ds = [a, b] ∧ full S n a = some x ∧ full S n b = some x ∧ P (.bl true) S
theorem same_end {S : Cells} {P : Q1} (p : P (.bl true) S) : gEq (.lst []) (.lst []) S P := ⟨true, rfl, p⟩
theorem tyN_s {S : Cells} {s : List Nat} : tyN S (.str s) = some "str" := rfl
theorem tyN_k {S : Cells} {s : List (Key × D)} : tyN S (.dct s) = some "dict" := rfl
theorem fm_none {α β : Type} (xs : List α) : xs.filterMap (fun _ => (none : Option β)) = [] := by simp
theorem eq_int {S : Cells} {P : Q1} {a b : Int} (h : a = b) (p : P (.bl true) S) : gEq (.int a) (.int b) S P := ⟨true, by simp [eqR, h], p⟩
theorem ne_int {S : Cells} {P : Q1} {a b : Int} (h : a = b) (p : P (.bl false) S) : gNe (.int a) (.int b) S P := ⟨true, by simp [eqR, h], p⟩
theorem ne_bl {S : Cells} {P : Q1} {a : Bool} (p : P (.bl false) S) : gNe (.bl a) (.bl a) S P := ⟨true, by simp [eqR], p⟩
theorem ne_str {S : Cells} {P : Q1} {a b : List Nat} (h : a = b) (p : P (.bl false) S) : gNe (.str a) (.str b) S P := ⟨true, by simp [eqR, h], p⟩
theorem same_ends {n : Nat} {S : Cells} {P : Q1} {E : EQ} {a b : D} {xs xs2 ys : List D} (hx : seqA S b = some xs) (hx2 : seqA S a = some xs2) (hy : travD (full S n) xs = some ys) (hy2 : travD (full S n) xs2 = some ys) (hl : xs.length ≤ sizeLine) (p : P (.bl true) S) :
    wRng1 (wCons (wB gLen3 (wCons (wVar 1) wNil)) wNil) [some a, some b, none, none] S (fun xs C S1 => loopC (bodyC (gdName 2) (wNotT (wTest (wCall 2 (sp__law_same n) (wCons (wBin gIx3 (wVar 0) (wVar 2)) (wCons (wBin gIx3 (wVar 1) (wVar 2)) wNil))))) (wVar 2) [some a, some b, none, none]) C xs [] S1 fun ds S2 => 0 ≤ sizeLine ∧ gEq (D.lst ds) (D.lst []) S2 (outD S P)) (fun x S1 => outE S E x S1) := by
  have hz := sizeLine_eq
  simp only [wRng1, wRet, wRetN, wSeq, wSet, wIf, wPar, wPar3, wExpr, wAsg, wNext, wBreak, wCont, gdTup, gdCons, gdNil, gdName, wIte, wAnd, wOr, DD.wNot, wTest, wNotT, wAndT, wOrT, wBin, wUn, wB, wCons, wNil, wVar, wC, wTup, wLst, mkL, wYes, wCall, wChain, startD, List.map_cons, List.map_nil, List.length_cons, List.length_nil, List.replicate, List.cons_append, List.nil_append, List.append_nil, List.getElem?_cons_zero, List.getElem?_cons_succ, List.set_cons_zero, List.set_cons_succ, Option.some.injEq, exists_eq_left', exists_eq_left, true_and, and_true, if_true, if_false, Bool.false_eq_true, gI, D.int.injEq, D.bl.injEq, D.str.injEq, wLc, wSrc, srcD, wSl, wSmO, wNoO, gSl, bodyC, wipeD, beq_self_eq_true, Bool.not_true, exists_and_left, List.cons.injEq, gLen3, D.ty.injEq, D.ref.injEq, D.tup.injEq, D.lst.injEq, and_assoc, tm_bool, tm_int, tm_str, tm_tuple, tm_list, tm_dict, gIsi, wIsi2, wRaise, gLe, gGt, gGe, DD.gSub, Prod.mk.injEq, gAdd_int, gMul_int, gInt_int, gInt_bl, wPut, lenD3_lst, lenD3_tup, lenD3_str, lenD3_dct, gIn3_str, gIn3_lst, gIn3_tup, gInS, gIn, len_seqA hx]
  refine ⟨by omega, by omega, loopC_pure (fun _ => none) trivial _ _ (fun x hx' Q hQ => ?_) ?_⟩
  · obtain ⟨k, hk, rfl⟩ := List.mem_map.mp hx'
    have hk := List.mem_range.mp hk
    rw [Int.toNat_natCast] at hk
    have hlen := travD_len hy
    have hlen2 := travD_len hy2
    have g1 : xs[k]? = some xs[k] := List.getElem?_eq_getElem hk
    have g2 : xs2[k]? = some (xs2[k]'(by omega)) := List.getElem?_eq_getElem (by omega)
    obtain ⟨y, hy', e1⟩ := travD_get hy k _ g1
    obtain ⟨y2, hy2', e2⟩ := travD_get hy2 k _ g2
    rw [e1] at e2
    cases e2
    simp only [wRet, wRetN, wSeq, wSet, wIf, wPar, wPar3, wExpr, wAsg, wNext, wBreak, wCont, gdTup, gdCons, gdNil, gdName, wIte, wAnd, wOr, DD.wNot, wTest, wNotT, wAndT, wOrT, wBin, wUn, wB, wCons, wNil, wVar, wC, wTup, wLst, mkL, wYes, wCall, wChain, startD, List.map_cons, List.map_nil, List.length_cons, List.length_nil, List.replicate, List.cons_append, List.nil_append, List.append_nil, List.getElem?_cons_zero, List.getElem?_cons_succ, List.set_cons_zero, List.set_cons_succ, Option.some.injEq, exists_eq_left', exists_eq_left, true_and, and_true, if_true, if_false, Bool.false_eq_true, gI, D.int.injEq, D.bl.injEq, D.str.injEq, wLc, wSrc, srcD, wSl, wSmO, wNoO, gSl, bodyC, wipeD, beq_self_eq_true, Bool.not_true, exists_and_left, List.cons.injEq, gLen3, D.ty.injEq, D.ref.injEq, D.tup.injEq, D.lst.injEq, and_assoc, tm_bool, tm_int, tm_str, tm_tuple, tm_list, tm_dict, gIsi, wIsi2, wRaise, gLe, gGt, gGe, DD.gSub, Prod.mk.injEq, gAdd_int, gMul_int, gInt_int, gInt_bl, wPut, lenD3_lst, lenD3_tup, lenD3_str, lenD3_dct, gIn3_str, gIn3_lst, gIn3_tup, gInS, gIn]
    refine seqA_tup_ix hx2 (atI_nat g2) (seqA_tup_ix hx (atI_nat g1) ?_)
    simp only [sp__law_same, wRet, wRetN, wSeq, wSet, wIf, wPar, wPar3, wExpr, wAsg, wNext, wBreak, wCont, gdTup, gdCons, gdNil, gdName, wIte, wAnd, wOr, DD.wNot, wTest, wNotT, wAndT, wOrT, wBin, wUn, wB, wCons, wNil, wVar, wC, wTup, wLst, mkL, wYes, wCall, wChain, startD, List.map_cons, List.map_nil, List.length_cons, List.length_nil, List.replicate, List.cons_append, List.nil_append, List.append_nil, List.getElem?_cons_zero, List.getElem?_cons_succ, List.set_cons_zero, List.set_cons_succ, Option.some.injEq, exists_eq_left', exists_eq_left, true_and, and_true, if_true, if_false, Bool.false_eq_true, gI, D.int.injEq, D.bl.injEq, D.str.injEq, wLc, wSrc, srcD, wSl, wSmO, wNoO, gSl, bodyC, wipeD, beq_self_eq_true, Bool.not_true, exists_and_left, List.cons.injEq, gLen3, D.ty.injEq, D.ref.injEq, D.tup.injEq, D.lst.injEq, and_assoc, tm_bool, tm_int, tm_str, tm_tuple, tm_list, tm_dict, gIsi, wIsi2, wRaise, gLe, gGt, gGe, DD.gSub, Prod.mk.injEq, gAdd_int, gMul_int, gInt_int, gInt_bl, wPut, lenD3_lst, lenD3_tup, lenD3_str, lenD3_dct, gIn3_str, gIn3_lst, gIn3_tup, gInS, gIn]
    exact ⟨_, hy2', hy', hQ⟩
  · rw [List.nil_append, fm_none]
    exact ⟨by decide, same_end (outD_id p)⟩
def N__law_same : List Str := ["given", "due", "k", "key"]
theorem sc__law_same : FnScope N__law_same ["given", "due"] (defScope (HD.top 35)) := ⟨rfl, rfl, rfl, by decide +kernel, rfl, by decide +kernel, by decide +kernel⟩
def w__law_same (n : Nat) : WS :=
  (wSeq (wIf (wOrT (wTest (wBin (gIs false) (wVar 1) (wC .non))) (wTest (wB gIsi (wCons (wVar 1) (wCons (wC (.ty "bool")) wNil)))))
  (wRet (wIte (wTest (wBin (gIs false) (wVar 1) (wC .non))) (wBin (gIs false) (wVar 0) (wC .non)) (wAnd (wB gIsi (wCons (wVar 0) (wCons (wC (.ty "bool")) wNil))) (wBin gEq (wBin (gIs false) (wVar 0) (wC (.bl true))) (wBin (gIs false) (wVar 1) (wC (.bl true)))))))
  wNext)
  (wSeq (wIf (wTest (wB gIsi (wCons (wVar 1) (wCons (wC (.ty "int")) wNil))))
  (wRet (wAnd (wB gIsi (wCons (wVar 0) (wCons (wC (.ty "int")) wNil))) (wAnd (wNot (wB gIsi (wCons (wVar 0) (wCons (wC (.ty "bool")) wNil)))) (wBin gEq (wBin gSub (wB gInt (wCons (wVar 0) wNil)) (wVar 1)) (wC (.int 0))))))
  wNext)
  (wSeq (wIf (wTest (wB gIsi (wCons (wVar 1) (wCons (wC (.ty "str")) wNil))))
  (wRet (wAnd (wB gIsi (wCons (wVar 0) (wCons (wC (.ty "str")) wNil))) (wAnd (wBin gEq (wB gLen3 (wCons (wVar 0) wNil)) (wB gLen3 (wCons (wVar 1) wNil))) (wBin gEq (wLc false (wRng1 (wCons (wB gLen3 (wCons (wVar 1) wNil)) wNil)) (gdName 2) (wTest (wBin gNe (wSl false (wVar 0) (wSmO (wVar 2)) (wSmO (wBin gAdd (wVar 2) (wC (.int 1))))) (wBin gIx3 (wVar 1) (wVar 2)))) (wVar 2) (List.map (fun p : Str × Nat => p.2) [("k", 2)])) (wLst false wNil)))))
  wNext)
  (wSeq (wIf (wTest (wB gIsi (wCons (wVar 1) (wCons (wC (.ty "dict")) wNil))))
  (wSeq (wIf (wOrT (wNotT (wTest (wB gIsi (wCons (wVar 0) (wCons (wC (.ty "dict")) wNil))))) (wTest (wBin gNe (wB gLen3 (wCons (wVar 0) wNil)) (wB gLen3 (wCons (wVar 1) wNil)))))
  (wRet (wC (.bl false)))
  wNext)
  (wRet (wBin gEq (wLc false (wSrc (wVar 1)) (gdName 3) (wOrT (wTest (wBin (gIn3 true) (wVar 3) (wVar 0))) (wNotT (wTest (wCall 2 (sp__law_same n) (wCons (wBin gIx3 (wVar 0) (wVar 3)) (wCons (wBin gIx3 (wVar 1) (wVar 3)) wNil)))))) (wVar 3) (List.map (fun p : Str × Nat => p.2) [("key", 3)])) (wLst false wNil))))
  wNext)
  (wSeq (wIf (wOrT (wNotT (wTest (wIsi2 "list" "tuple" (wVar 1)))) (wOrT (wTest (wBin gNe (wB gIsi (wCons (wVar 0) (wCons (wC (.ty "list")) wNil))) (wB gIsi (wCons (wVar 1) (wCons (wC (.ty "list")) wNil))))) (wTest (wBin gNe (wB gIsi (wCons (wVar 0) (wCons (wC (.ty "tuple")) wNil))) (wB gIsi (wCons (wVar 1) (wCons (wC (.ty "tuple")) wNil)))))))
  (wRet (wC (.bl false)))
  wNext)
  (wRet (wAnd (wBin gEq (wB gLen3 (wCons (wVar 0) wNil)) (wB gLen3 (wCons (wVar 1) wNil))) (wBin gEq (wLc false (wRng1 (wCons (wB gLen3 (wCons (wVar 1) wNil)) wNil)) (gdName 2) (wNotT (wTest (wCall 2 (sp__law_same n) (wCons (wBin gIx3 (wVar 0) (wVar 2)) (wCons (wBin gIx3 (wVar 1) (wVar 2)) wNil))))) (wVar 2) (List.map (fun p : Str × Nat => p.2) [("k", 2)])) (wLst false wNil)))))))))
theorem sat__law_same (n : Nat) : Sat' 2 N__law_same.length (w__law_same n) (sp__law_same (n + 1)) := by
  rintro ds S P E - hS hd ⟨a, b, x, rfl, ha, hb, p⟩
  have hz := sizeLine_eq
  rcases full_inv hb with ⟨rfl, rfl⟩ | ⟨k, rfl, rfl⟩ | ⟨i, rfl, rfl⟩ | ⟨s, rfl, rfl, hs⟩ | ⟨xs, ys, hx, rfl, ht, hi, hl, hy⟩ | ⟨xs, ys, hx, rfl, ht, hi, hl, hy⟩ | ⟨xs, ys, rfl, rfl, hl, hy⟩
  · rcases full_inv ha with ⟨rfl, q⟩ | ⟨k, rfl, q⟩ | ⟨i, rfl, q⟩ | ⟨s, rfl, q, hs⟩ | ⟨xs, ys, hx, q, ht, hi, hl, hy⟩ | ⟨xs, ys, hx, q, ht, hi, hl, hy⟩ | ⟨xs, ys, rfl, q, hl, hy⟩ <;> cases q
    simp only [w__law_same, N__law_same, wRet, wRetN, wSeq, wSet, wIf, wPar, wPar3, wExpr, wAsg, wNext, wBreak, wCont, gdTup, gdCons, gdNil, gdName, wIte, wAnd, wOr, DD.wNot, wTest, wNotT, wAndT, wOrT, wBin, wUn, wB, wCons, wNil, wVar, wC, wTup, wLst, mkL, wYes, wCall, wChain, startD, List.map_cons, List.map_nil, List.length_cons, List.length_nil, List.replicate, List.cons_append, List.nil_append, List.append_nil, List.getElem?_cons_zero, List.getElem?_cons_succ, List.set_cons_zero, List.set_cons_succ, Option.some.injEq, exists_eq_left', exists_eq_left, true_and, and_true, if_true, if_false, Bool.false_eq_true, gI, D.int.injEq, D.bl.injEq, D.str.injEq, wLc, wSrc, srcD, wSl, wSmO, wNoO, gSl, bodyC, wipeD, beq_self_eq_true, Bool.not_true, exists_and_left, List.cons.injEq, gLen3, D.ty.injEq, D.ref.injEq, D.tup.injEq, D.lst.injEq, and_assoc, tm_bool, tm_int, tm_str, tm_tuple, tm_list, tm_dict, gIsi, wIsi2, wRaise, gLe, gGt, gGe, DD.gSub, Prod.mk.injEq, gAdd_int, gMul_int, gInt_int, gInt_bl, wPut, lenD3_lst, lenD3_tup, lenD3_str, lenD3_dct, gIn3_str, gIn3_lst, gIn3_tup, gInS, gIn, gIs, isR]
    exact outD_id p
  · rcases full_inv ha with ⟨rfl, q⟩ | ⟨k, rfl, q⟩ | ⟨i, rfl, q⟩ | ⟨s, rfl, q, hs⟩ | ⟨xs, ys, hx, q, ht, hi, hl, hy⟩ | ⟨xs, ys, hx, q, ht, hi, hl, hy⟩ | ⟨xs, ys, rfl, q, hl, hy⟩ <;> cases q
    simp only [w__law_same, N__law_same, wRet, wRetN, wSeq, wSet, wIf, wPar, wPar3, wExpr, wAsg, wNext, wBreak, wCont, gdTup, gdCons, gdNil, gdName, wIte, wAnd, wOr, DD.wNot, wTest, wNotT, wAndT, wOrT, wBin, wUn, wB, wCons, wNil, wVar, wC, wTup, wLst, mkL, wYes, wCall, wChain, startD, List.map_cons, List.map_nil, List.length_cons, List.length_nil, List.replicate, List.cons_append, List.nil_append, List.append_nil, List.getElem?_cons_zero, List.getElem?_cons_succ, List.set_cons_zero, List.set_cons_succ, Option.some.injEq, exists_eq_left', exists_eq_left, true_and, and_true, if_true, if_false, Bool.false_eq_true, gI, D.int.injEq, D.bl.injEq, D.str.injEq, wLc, wSrc, srcD, wSl, wSmO, wNoO, gSl, bodyC, wipeD, beq_self_eq_true, Bool.not_true, exists_and_left, List.cons.injEq, gLen3, D.ty.injEq, D.ref.injEq, D.tup.injEq, D.lst.injEq, and_assoc, tm_bool, tm_int, tm_str, tm_tuple, tm_list, tm_dict, gIsi, wIsi2, wRaise, gLe, gGt, gGe, DD.gSub, Prod.mk.injEq, gAdd_int, gMul_int, gInt_int, gInt_bl, wPut, lenD3_lst, lenD3_tup, lenD3_str, lenD3_dct, gIn3_str, gIn3_lst, gIn3_tup, gInS, gIn, gIs, isR, tyN, isTy, gEq, eqR]
    simpa using outD_id p
  · rcases full_inv ha with ⟨rfl, q⟩ | ⟨k, rfl, q⟩ | ⟨i, rfl, q⟩ | ⟨s, rfl, q, hs⟩ | ⟨xs, ys, hx, q, ht, hi, hl, hy⟩ | ⟨xs, ys, hx, q, ht, hi, hl, hy⟩ | ⟨xs, ys, rfl, q, hl, hy⟩ <;> cases q
    simp only [w__law_same, N__law_same, wRet, wRetN, wSeq, wSet, wIf, wPar, wPar3, wExpr, wAsg, wNext, wBreak, wCont, gdTup, gdCons, gdNil, gdName, wIte, wAnd, wOr, DD.wNot, wTest, wNotT, wAndT, wOrT, wBin, wUn, wB, wCons, wNil, wVar, wC, wTup, wLst, mkL, wYes, wCall, wChain, startD, List.map_cons, List.map_nil, List.length_cons, List.length_nil, List.replicate, List.cons_append, List.nil_append, List.append_nil, List.getElem?_cons_zero, List.getElem?_cons_succ, List.set_cons_zero, List.set_cons_succ, Option.some.injEq, exists_eq_left', exists_eq_left, true_and, and_true, if_true, if_false, Bool.false_eq_true, gI, D.int.injEq, D.bl.injEq, D.str.injEq, wLc, wSrc, srcD, wSl, wSmO, wNoO, gSl, bodyC, wipeD, beq_self_eq_true, Bool.not_true, exists_and_left, List.cons.injEq, gLen3, D.ty.injEq, D.ref.injEq, D.tup.injEq, D.lst.injEq, and_assoc, tm_bool, tm_int, tm_str, tm_tuple, tm_list, tm_dict, gIsi, wIsi2, wRaise, gLe, gGt, gGe, DD.gSub, Prod.mk.injEq, gAdd_int, gMul_int, gInt_int, gInt_bl, wPut, lenD3_lst, lenD3_tup, lenD3_str, lenD3_dct, gIn3_str, gIn3_lst, gIn3_tup, gInS, gIn, gIs, isR, tyN, isTy, gEq, eqR]
    simpa using outD_id p
  · rcases full_inv ha with ⟨rfl, q⟩ | ⟨k, rfl, q⟩ | ⟨i, rfl, q⟩ | ⟨s, rfl, q, hs2⟩ | ⟨xs, ys, hx, q, ht, hi, hl, hy⟩ | ⟨xs, ys, hx, q, ht, hi, hl, hy⟩ | ⟨xs, ys, rfl, q, hl, hy⟩ <;> cases q
    simp only [w__law_same, N__law_same, wRet, wRetN, wSeq, wSet, wIf, wPar, wPar3, wExpr, wAsg, wNext, wBreak, wCont, gdTup, gdCons, gdNil, gdName, wIte, wAnd, wOr, DD.wNot, wTest, wNotT, wAndT, wOrT, wBin, wUn, wB, wCons, wNil, wVar, wC, wTup, wLst, mkL, wYes, wCall, wChain, startD, List.map_cons, List.map_nil, List.length_cons, List.length_nil, List.replicate, List.cons_append, List.nil_append, List.append_nil, List.getElem?_cons_zero, List.getElem?_cons_succ, List.set_cons_zero, List.set_cons_succ, Option.some.injEq, exists_eq_left', exists_eq_left, true_and, and_true, if_true, if_false, Bool.false_eq_true, gI, D.int.injEq, D.bl.injEq, D.str.injEq, wLc, wSrc, srcD, wSl, wSmO, wNoO, gSl, bodyC, wipeD, beq_self_eq_true, Bool.not_true, exists_and_left, List.cons.injEq, gLen3, D.ty.injEq, D.ref.injEq, D.tup.injEq, D.lst.injEq, and_assoc, tm_bool, tm_int, tm_str, tm_tuple, tm_list, tm_dict, gIsi, wIsi2, wRaise, gLe, gGt, gGe, DD.gSub, Prod.mk.injEq, gAdd_int, gMul_int, gInt_int, gInt_bl, wPut, lenD3_lst, lenD3_tup, lenD3_str, lenD3_dct, gIn3_str, gIn3_lst, gIn3_tup, gInS, gIn, gIs, isR, tyN_s, ty_str_bool, ty_str_int, ty_str_str, hs]
    refine eq_int rfl ⟨_, rfl, ?_⟩
    rw [if_pos rfl]
    simp only [wRet, wRetN, wSeq, wSet, wIf, wPar, wPar3, wExpr, wAsg, wNext, wBreak, wCont, gdTup, gdCons, gdNil, gdName, wIte, wAnd, wOr, DD.wNot, wTest, wNotT, wAndT, wOrT, wBin, wUn, wB, wCons, wNil, wVar, wC, wTup, wLst, mkL, wYes, wCall, wChain, startD, List.map_cons, List.map_nil, List.length_cons, List.length_nil, List.replicate, List.cons_append, List.nil_append, List.append_nil, List.getElem?_cons_zero, List.getElem?_cons_succ, List.set_cons_zero, List.set_cons_succ, Option.some.injEq, exists_eq_left', exists_eq_left, true_and, and_true, if_true, if_false, Bool.false_eq_true, gI, D.int.injEq, D.bl.injEq, D.str.injEq, wLc, wSrc, srcD, wSl, wSmO, wNoO, gSl, bodyC, wipeD, beq_self_eq_true, Bool.not_true, exists_and_left, List.cons.injEq, gLen3, D.ty.injEq, D.ref.injEq, D.tup.injEq, D.lst.injEq, and_assoc, tm_bool, tm_int, tm_str, tm_tuple, tm_list, tm_dict, gIsi, wIsi2, wRaise, gLe, gGt, gGe, DD.gSub, Prod.mk.injEq, gAdd_int, gMul_int, gInt_int, gInt_bl, wPut, lenD3_lst, lenD3_tup, lenD3_str, lenD3_dct, gIn3_str, gIn3_lst, gIn3_tup, gInS, gIn, wRng1, hs]
    refine ⟨by omega, by omega, loopC_pure (fun _ => none) trivial _ _ (fun x hx Q hQ => ?_) ?_⟩
    · obtain ⟨k, hk, rfl⟩ := List.mem_map.mp hx
      have hk := List.mem_range.mp hk
      rw [Int.toNat_natCast] at hk
      simp only [wRet, wRetN, wSeq, wSet, wIf, wPar, wPar3, wExpr, wAsg, wNext, wBreak, wCont, gdTup, gdCons, gdNil, gdName, wIte, wAnd, wOr, DD.wNot, wTest, wNotT, wAndT, wOrT, wBin, wUn, wB, wCons, wNil, wVar, wC, wTup, wLst, mkL, wYes, wCall, wChain, startD, List.map_cons, List.map_nil, List.length_cons, List.length_nil, List.replicate, List.cons_append, List.nil_append, List.append_nil, List.getElem?_cons_zero, List.getElem?_cons_succ, List.set_cons_zero, List.set_cons_succ, Option.some.injEq, exists_eq_left', exists_eq_left, true_and, and_true, if_true, if_false, Bool.false_eq_true, gI, D.int.injEq, D.bl.injEq, D.str.injEq, wLc, wSrc, srcD, wSl, wSmO, wNoO, gSl, bodyC, wipeD, beq_self_eq_true, Bool.not_true, exists_and_left, List.cons.injEq, gLen3, D.ty.injEq, D.ref.injEq, D.tup.injEq, D.lst.injEq, and_assoc, tm_bool, tm_int, tm_str, tm_tuple, tm_list, tm_dict, gIsi, wIsi2, wRaise, gLe, gGt, gGe, DD.gSub, Prod.mk.injEq, gAdd_int, gMul_int, gInt_int, gInt_bl, wPut, lenD3_lst, lenD3_tup, lenD3_str, lenD3_dct, gIn3_str, gIn3_lst, gIn3_tup, gInS, gIn]
      have g : s[k]? = some s[k] := List.getElem?_eq_getElem hk
      refine ⟨hs, str_ix hs (atI_nat g) (ne_str (cut_one s k _ g) ⟨_, rfl, ?_⟩)⟩
      rw [if_neg (by decide)]
      exact hQ
    · rw [List.nil_append, fm_none]
      exact ⟨by decide, same_end (outD_id p)⟩
  · rcases full_inv ha with ⟨rfl, q⟩ | ⟨k, rfl, q⟩ | ⟨i, rfl, q⟩ | ⟨s, rfl, q, hs⟩ | ⟨xs2, ys2, hx2, q, ht2, hi2, hl2, hy2⟩ | ⟨xs2, ys2, hx2, q, ht2, hi2, hl2, hy2⟩ | ⟨xs2, ys2, rfl, q, hl2, hy2⟩ <;> cases q
    simp only [w__law_same, N__law_same, wRet, wRetN, wSeq, wSet, wIf, wPar, wPar3, wExpr, wAsg, wNext, wBreak, wCont, gdTup, gdCons, gdNil, gdName, wIte, wAnd, wOr, DD.wNot, wTest, wNotT, wAndT, wOrT, wBin, wUn, wB, wCons, wNil, wVar, wC, wTup, wLst, mkL, wYes, wCall, wChain, startD, List.map_cons, List.map_nil, List.length_cons, List.length_nil, List.replicate, List.cons_append, List.nil_append, List.append_nil, List.getElem?_cons_zero, List.getElem?_cons_succ, List.set_cons_zero, List.set_cons_succ, Option.some.injEq, exists_eq_left', exists_eq_left, true_and, and_true, if_true, if_false, Bool.false_eq_true, gI, D.int.injEq, D.bl.injEq, D.str.injEq, wLc, wSrc, srcD, wSl, wSmO, wNoO, gSl, bodyC, wipeD, beq_self_eq_true, Bool.not_true, exists_and_left, List.cons.injEq, gLen3, D.ty.injEq, D.ref.injEq, D.tup.injEq, D.lst.injEq, and_assoc, tm_bool, tm_int, tm_str, tm_tuple, tm_list, tm_dict, gIsi, wIsi2, wRaise, gLe, gGt, gGe, DD.gSub, Prod.mk.injEq, gAdd_int, gMul_int, gInt_int, gInt_bl, wPut, lenD3_lst, lenD3_tup, lenD3_str, lenD3_dct, gIn3_str, gIn3_lst, gIn3_tup, gInS, gIn, gIs, hi, hi2, ht, ht2, ty_tuple_bool, ty_tuple_int, ty_tuple_str, ty_tuple_dict, ty_tuple_list, ty_tuple_tuple, Bool.false_or, Bool.true_or]
    refine ne_bl ⟨_, rfl, ?_⟩
    rw [if_neg (by decide)]
    refine ⟨_, ht2, _, ht, ne_bl ⟨_, rfl, ?_⟩⟩
    rw [if_neg (by decide)]
    have hlen := travD_len hy
    have hlen2 := travD_len hy2
    refine ⟨_, len_seqA hx2, _, len_seqA hx, eq_int (by omega) ⟨_, rfl, ?_⟩⟩
    rw [if_pos rfl]
    exact same_ends hx hx2 hy hy2 hl p
  · rcases full_inv ha with ⟨rfl, q⟩ | ⟨k, rfl, q⟩ | ⟨i, rfl, q⟩ | ⟨s, rfl, q, hs⟩ | ⟨xs2, ys2, hx2, q, ht2, hi2, hl2, hy2⟩ | ⟨xs2, ys2, hx2, q, ht2, hi2, hl2, hy2⟩ | ⟨xs2, ys2, rfl, q, hl2, hy2⟩ <;> cases q
    simp only [w__law_same, N__law_same, wRet, wRetN, wSeq, wSet, wIf, wPar, wPar3, wExpr, wAsg, wNext, wBreak, wCont, gdTup, gdCons, gdNil, gdName, wIte, wAnd, wOr, DD.wNot, wTest, wNotT, wAndT, wOrT, wBin, wUn, wB, wCons, wNil, wVar, wC, wTup, wLst, mkL, wYes, wCall, wChain, startD, List.map_cons, List.map_nil, List.length_cons, List.length_nil, List.replicate, List.cons_append, List.nil_append, List.append_nil, List.getElem?_cons_zero, List.getElem?_cons_succ, List.set_cons_zero, List.set_cons_succ, Option.some.injEq, exists_eq_left', exists_eq_left, true_and, and_true, if_true, if_false, Bool.false_eq_true, gI, D.int.injEq, D.bl.injEq, D.str.injEq, wLc, wSrc, srcD, wSl, wSmO, wNoO, gSl, bodyC, wipeD, beq_self_eq_true, Bool.not_true, exists_and_left, List.cons.injEq, gLen3, D.ty.injEq, D.ref.injEq, D.tup.injEq, D.lst.injEq, and_assoc, tm_bool, tm_int, tm_str, tm_tuple, tm_list, tm_dict, gIsi, wIsi2, wRaise, gLe, gGt, gGe, DD.gSub, Prod.mk.injEq, gAdd_int, gMul_int, gInt_int, gInt_bl, wPut, lenD3_lst, lenD3_tup, lenD3_str, lenD3_dct, gIn3_str, gIn3_lst, gIn3_tup, gInS, gIn, gIs, hi, hi2, ht, ht2, ty_list_bool, ty_list_int, ty_list_str, ty_list_dict, ty_list_list, ty_list_tuple, Bool.false_or, Bool.true_or]
    refine ne_bl ⟨_, rfl, ?_⟩
    rw [if_neg (by decide)]
    refine ⟨_, ht2, _, ht, ne_bl ⟨_, rfl, ?_⟩⟩
    rw [if_neg (by decide)]
    have hlen := travD_len hy
    have hlen2 := travD_len hy2
    refine ⟨_, len_seqA hx2, _, len_seqA hx, eq_int (by omega) ⟨_, rfl, ?_⟩⟩
    rw [if_pos rfl]
    exact same_ends hx hx2 hy hy2 hl p
  · rcases full_inv ha with ⟨rfl, q⟩ | ⟨k, rfl, q⟩ | ⟨i, rfl, q⟩ | ⟨s, rfl, q, hs⟩ | ⟨xs2, ys2, hx2, q, ht2, hi2, hl2, hy2⟩ | ⟨xs2, ys2, hx2, q, ht2, hi2, hl2, hy2⟩ | ⟨xs2, ys2, rfl, q, hl2, hy2⟩ <;> cases q
    simp only [w__law_same, N__law_same, wRet, wRetN, wSeq, wSet, wIf, wPar, wPar3, wExpr, wAsg, wNext, wBreak, wCont, gdTup, gdCons, gdNil, gdName, wIte, wAnd, wOr, DD.wNot, wTest, wNotT, wAndT, wOrT, wBin, wUn, wB, wCons, wNil, wVar, wC, wTup, wLst, mkL, wYes, wCall, wChain, startD, List.map_cons, List.map_nil, List.length_cons, List.length_nil, List.replicate, List.cons_append, List.nil_append, List.append_nil, List.getElem?_cons_zero, List.getElem?_cons_succ, List.set_cons_zero, List.set_cons_succ, Option.some.injEq, exists_eq_left', exists_eq_left, true_and, and_true, if_true, if_false, Bool.false_eq_true, gI, D.int.injEq, D.bl.injEq, D.str.injEq, wLc, wSrc, srcD, wSl, wSmO, wNoO, gSl, bodyC, wipeD, beq_self_eq_true, Bool.not_true, exists_and_left, List.cons.injEq, gLen3, D.ty.injEq, D.ref.injEq, D.tup.injEq, D.lst.injEq, and_assoc, tm_bool, tm_int, tm_str, tm_tuple, tm_list, tm_dict, gIsi, wIsi2, wRaise, gLe, gGt, gGe, DD.gSub, Prod.mk.injEq, gAdd_int, gMul_int, gInt_int, gInt_bl, wPut, lenD3_lst, lenD3_tup, lenD3_str, lenD3_dct, gIn3_str, gIn3_lst, gIn3_tup, gInS, gIn, gIs, isR, tyN_k, ty_dict_bool, ty_dict_int, ty_dict_str, ty_dict_dict]
    have hlen := travK_len hy
    have hlen2 := travK_len hy2
    refine ne_int (by omega) ⟨_, rfl, ?_⟩
    rw [if_neg (by decide)]
    refine loopC_pure (fun _ => none) trivial _ _ (fun x hx Q hQ => ?_) ?_
    · obtain ⟨⟨k, v⟩, hk, rfl⟩ := List.mem_map.mp hx
      obtain ⟨v1, e1⟩ := valD_mem (List.mem_map_of_mem (f := fun kd : Key × D => kd.1) hk)
      obtain ⟨y, hy', f1⟩ := (travK_get k hy).1 v1 e1
      have hne : valD xs2 k ≠ none := fun q => by rw [(travK_get k hy2).2 q] at f1; cases f1
      obtain ⟨v2, e2⟩ := Option.ne_none_iff_exists'.mp hne
      obtain ⟨y2, hy2', f2⟩ := (travK_get k hy2).1 v2 e2
      rw [f1] at f2
      cases f2
      simp only [wRet, wRetN, wSeq, wSet, wIf, wPar, wPar3, wExpr, wAsg, wNext, wBreak, wCont, gdTup, gdCons, gdNil, gdName, wIte, wAnd, wOr, DD.wNot, wTest, wNotT, wAndT, wOrT, wBin, wUn, wB, wCons, wNil, wVar, wC, wTup, wLst, mkL, wYes, wCall, wChain, startD, List.map_cons, List.map_nil, List.length_cons, List.length_nil, List.replicate, List.cons_append, List.nil_append, List.append_nil, List.getElem?_cons_zero, List.getElem?_cons_succ, List.set_cons_zero, List.set_cons_succ, Option.some.injEq, exists_eq_left', exists_eq_left, true_and, and_true, if_true, if_false, Bool.false_eq_true, gI, D.int.injEq, D.bl.injEq, D.str.injEq, wLc, wSrc, srcD, wSl, wSmO, wNoO, gSl, bodyC, wipeD, beq_self_eq_true, Bool.not_true, exists_and_left, List.cons.injEq, gLen3, D.ty.injEq, D.ref.injEq, D.tup.injEq, D.lst.injEq, and_assoc, tm_bool, tm_int, tm_str, tm_tuple, tm_list, tm_dict, gIsi, wIsi2, wRaise, gLe, gGt, gGe, DD.gSub, Prod.mk.injEq, gAdd_int, gMul_int, gInt_int, gInt_bl, wPut, lenD3_lst, lenD3_tup, lenD3_str, lenD3_dct, gIn3_str, gIn3_lst, gIn3_tup, gInS, gIn]
      refine ⟨k, kOf_kD k, _, rfl, ?_⟩
      rw [e2, if_neg (by simp)]
      refine ⟨k, v2, kOf_kD k, e2, k, v1, kOf_kD k, e1, ?_⟩
      simp only [sp__law_same, wRet, wRetN, wSeq, wSet, wIf, wPar, wPar3, wExpr, wAsg, wNext, wBreak, wCont, gdTup, gdCons, gdNil, gdName, wIte, wAnd, wOr, DD.wNot, wTest, wNotT, wAndT, wOrT, wBin, wUn, wB, wCons, wNil, wVar, wC, wTup, wLst, mkL, wYes, wCall, wChain, startD, List.map_cons, List.map_nil, List.length_cons, List.length_nil, List.replicate, List.cons_append, List.nil_append, List.append_nil, List.getElem?_cons_zero, List.getElem?_cons_succ, List.set_cons_zero, List.set_cons_succ, Option.some.injEq, exists_eq_left', exists_eq_left, true_and, and_true, if_true, if_false, Bool.false_eq_true, gI, D.int.injEq, D.bl.injEq, D.str.injEq, wLc, wSrc, srcD, wSl, wSmO, wNoO, gSl, bodyC, wipeD, beq_self_eq_true, Bool.not_true, exists_and_left, List.cons.injEq, gLen3, D.ty.injEq, D.ref.injEq, D.tup.injEq, D.lst.injEq, and_assoc, tm_bool, tm_int, tm_str, tm_tuple, tm_list, tm_dict, gIsi, wIsi2, wRaise, gLe, gGt, gGe, DD.gSub, Prod.mk.injEq, gAdd_int, gMul_int, gInt_int, gInt_bl, wPut, lenD3_lst, lenD3_tup, lenD3_str, lenD3_dct, gIn3_str, gIn3_lst, gIn3_tup, gInS, gIn]
      exact ⟨_, hy2', hy', hQ⟩
    · rw [List.nil_append, fm_none]
      exact ⟨by decide, same_end (outD_id p)⟩
theorem fa__law_same {P : Program} {w : World} {K : PySem.W.Frag} {mg : Str → Option Value} {base : Heap} (h : Hd fa fn K mg) : ∀ n : Nat, FnAt P w K mg base "_law_same" (defArgs (HD.top 35)) (defBody (HD.top 35)) (defScope (HD.top 35)) ["given", "due"] (1 + n) 0 2 (sp__law_same n)
  | 0 => by
    obtain ⟨fd, F⟩ := h.def_ 22
    have F : FunD K "_law_same" "_law_same" (defArgs (HD.top 35)) (defBody (HD.top 35)) (defScope (HD.top 35)) [] [] (ga K "_law_same") fd := F
    exact (fn_none F (h.glo 42) rfl).imp fun _ _ _ _ z => by obtain ⟨_, _, _, _, h, _⟩ := z; cases h
  | n + 1 => by
    have ih := (fa__law_same (P := P) (w := w) (K := K) (mg := mg) (base := base) h n).ok (fun _ _ _ _ _ _ us hl => match us, hl with | [_, _], _ => rfl)
    have hrec : 1 + n ≤ 1 + n := Nat.le_refl _
    obtain ⟨fd, F⟩ := h.def_ 22
    have F : FunD K "_law_same" "_law_same" (defArgs (HD.top 35)) (defBody (HD.top 35)) (defScope (HD.top 35)) [] [] (ga K "_law_same") fd := F
    refine' fn_at (c := ((((0 + 0) + (0 + (0 + 0))) + (((0 + 0) + ((0 + 0) + ((0 + (0 + 0)) + ((0 + 0) + (0 + 0))))) + 0)) + (((0 + (0 + 0)) + (((0 + (0 + 0)) + ((0 + (0 + 0)) + (((0 + 0) + 0) + 0))) + 0)) + (((0 + (0 + 0)) + (((0 + (0 + 0)) + (((0 + 0) + (0 + 0)) + ((((0 + 0) + 0) + (2 ^ 24 * ((((0 + 0) + (0 + 0)) + (0 + 0)) + 0))) + 0))) + 0)) + (((0 + (0 + 0)) + (((((0 + (0 + 0)) + ((0 + 0) + (0 + 0))) + (0 + 0)) + ((0 + (2 ^ 24 * (((0 + 0) + (((0 + 0) + ((0 + 0) + 0)) + 0)) + 0))) + 0)) + 0)) + (((0 + (((0 + (0 + 0)) + (0 + (0 + 0))) + ((0 + (0 + 0)) + (0 + (0 + 0))))) + (0 + 0)) + (((0 + 0) + (0 + 0)) + ((((0 + 0) + 0) + (2 ^ 24 * ((((0 + 0) + ((0 + 0) + 0)) + 0) + 0))) + 0)))))))) F (h.glo 42) sc__law_same rfl ?hc (b := w__law_same n) (fun cdv A outer s H E hr => ?hb) ((sat__law_same) n)
    case hb =>
      have hu : (cxOf (L2.CX P w) P w K mg base N__law_same "_law_same" (defScope (HD.top 35)) (ga K "_law_same") cdv A outer s H E).A.units + 100 < cLine := by
        show (A.deeper (envOfC "_law_same" (defScope (HD.top 35)) s.heap.objs.size (ga K "_law_same") cdv)).units + 100 < cLine
        have := hr.un
        omega
      have tk := takes_of (X := cxOf (L2.CX P w) P w K mg base N__law_same "_law_same" (defScope (HD.top 35)) (ga K "_law_same") cdv A outer s H E) rfl rfl rfl rfl
      have hp := passes_of (X := cxOf (L2.CX P w) P w K mg base N__law_same "_law_same" (defScope (HD.top 35)) (ga K "_law_same") cdv A outer s H E) rfl
      have D : DSs (cxOf (L2.CX P w) P w K mg base N__law_same "_law_same" (defScope (HD.top 35)) (ga K "_law_same") cdv A outer s H E) (fun cls d _ H' => E cls d H') (defBody (HD.top 35)) _ _ := (ds_cons (ds_if (dt_w (dw_or (dt_is (d_var 1) d_non) (dw_or1 (dt_val (d_callB call_isi cd_isi (h.free 6) (da_cons (d_var 1) (da_cons (d_ty "bool" (h.free 3)) da_nil)))))))
      (ds_one (ds_ret (d_ite (dt_is (d_var 1) d_non) (d_is (d_var 0) d_non) (d_and (d_callB call_isi cd_isi (h.free 6) (da_cons (d_var 0) (da_cons (d_ty "bool" (h.free 3)) da_nil))) (d_one (d_eq hu (d_is (d_var 0) d_bl) (d_is (d_var 1) d_bl)))))))
      ds_nil)
      (ds_cons (ds_if (dt_val (d_callB call_isi cd_isi (h.free 6) (da_cons (d_var 1) (da_cons (d_ty "int" (h.free 5)) da_nil))))
      (ds_one (ds_ret (d_and (d_callB call_isi cd_isi (h.free 6) (da_cons (d_var 0) (da_cons (d_ty "int" (h.free 5)) da_nil))) (d_and (d_not (d_callB call_isi cd_isi (h.free 6) (da_cons (d_var 0) (da_cons (d_ty "bool" (h.free 3)) da_nil)))) (d_one (d_eq hu (d_sub (d_callTy call_int1 cd_int (h.free 5) (da_cons (d_var 0) da_nil)) (d_var 1)) d_int))))))
      ds_nil)
      (ds_cons (ds_if (dt_val (d_callB call_isi cd_isi (h.free 6) (da_cons (d_var 1) (da_cons (d_ty "str" (h.free 13)) da_nil))))
      (ds_one (ds_ret (d_and (d_callB call_isi cd_isi (h.free 6) (da_cons (d_var 0) (da_cons (d_ty "str" (h.free 13)) da_nil))) (d_and (d_eq hu (d_len3 (h.free 7) (da_cons (d_var 0) da_nil)) (d_len3 (h.free 7) (da_cons (d_var 1) da_nil))) (d_one (d_eq hu (d_lc false rfl sc__law_same.nd (di_range1 (h.free 11) (da_cons (d_len3 (h.free 7) (da_cons (d_var 1) da_nil)) da_nil)) (show BlkOk N__law_same (defScope (HD.top 35)) _ [("k", 2)] from blkOk_by (by decide +kernel)) (fun _ _ _ _ _ => (dg_name 2 sc__law_same.nd)) (fun _ _ _ _ _ => (dts_one (dt_ne hu (d_sl false (d_var 0) (do_some (d_var 2)) (do_some (d_add (d_var 2) d_int))) (d_ix3 hu (d_var 1) (d_var 2))))) (fun _ _ _ _ _ => (d_var 2))) (d_lst false da_nil)))))))
      ds_nil)
      (ds_cons (ds_if (dt_val (d_callB call_isi cd_isi (h.free 6) (da_cons (d_var 1) (da_cons (d_ty "dict" (h.free 4)) da_nil))))
      (ds_cons (ds_if (dt_w (dw_or (dt_not (dt_val (d_callB call_isi cd_isi (h.free 6) (da_cons (d_var 0) (da_cons (d_ty "dict" (h.free 4)) da_nil))))) (dw_or1 (dt_ne hu (d_len3 (h.free 7) (da_cons (d_var 0) da_nil)) (d_len3 (h.free 7) (da_cons (d_var 1) da_nil))))))
      (ds_one (ds_ret d_bl))
      ds_nil)
      (ds_one (ds_ret (d_eq hu (d_lc false rfl sc__law_same.nd (di_any (d_var 1)) (show BlkOk N__law_same (defScope (HD.top 35)) _ [("key", 3)] from blkOk_by (by decide +kernel)) (fun _ _ _ _ _ => (dg_name 3 sc__law_same.nd)) (fun _ _ _ _ _ => (dts_one (dt_w (dw_or (dt_nin3 hu (d_var 3) (d_var 0)) (dw_or1 (dt_not (dt_val (d_call ih hr hrec takesF (da_cons (d_ix3 hu (d_var 0) (d_var 3)) (da_cons (d_ix3 hu (d_var 1) (d_var 3)) da_nil)))))))))) (fun _ _ _ _ _ => (d_var 3))) (d_lst false da_nil)))))
      ds_nil)
      (ds_cons (ds_if (dt_w (dw_or (dt_not (dt_val (d_isi2 "list" "tuple" (d_var 1) (hm := (h.free 6)) (hmT := (h.free 8)) (hmU := (h.free 15))))) (dw_or (dt_ne hu (d_callB call_isi cd_isi (h.free 6) (da_cons (d_var 0) (da_cons (d_ty "list" (h.free 8)) da_nil))) (d_callB call_isi cd_isi (h.free 6) (da_cons (d_var 1) (da_cons (d_ty "list" (h.free 8)) da_nil)))) (dw_or1 (dt_ne hu (d_callB call_isi cd_isi (h.free 6) (da_cons (d_var 0) (da_cons (d_ty "tuple" (h.free 15)) da_nil))) (d_callB call_isi cd_isi (h.free 6) (da_cons (d_var 1) (da_cons (d_ty "tuple" (h.free 15)) da_nil))))))))
      (ds_one (ds_ret d_bl))
      ds_nil)
      (ds_one (ds_ret (d_and (d_eq hu (d_len3 (h.free 7) (da_cons (d_var 0) da_nil)) (d_len3 (h.free 7) (da_cons (d_var 1) da_nil))) (d_one (d_eq hu (d_lc false rfl sc__law_same.nd (di_range1 (h.free 11) (da_cons (d_len3 (h.free 7) (da_cons (d_var 1) da_nil)) da_nil)) (show BlkOk N__law_same (defScope (HD.top 35)) _ [("k", 2)] from blkOk_by (by decide +kernel)) (fun _ _ _ _ _ => (dg_name 2 sc__law_same.nd)) (fun _ _ _ _ _ => (dts_one (dt_not (dt_val (d_call ih hr hrec takesF (da_cons (d_ix3 hu (d_var 0) (d_var 2)) (da_cons (d_ix3 hu (d_var 1) (d_var 2)) da_nil))))))) (fun _ _ _ _ _ => (d_var 2))) (d_lst false da_nil)))))))))))
      exact D
    case hc => decide +kernel
theorem ok__law_same (n : Nat) {P : Program} {w : World} {K : PySem.W.Frag} {mg : Str → Option Value} {base : Heap} (h : Hd fa fn K mg) : OkAt P w K mg base "_law_same" (1 + n) 0 2 (sp__law_same n) := (fa__law_same h n).ok (fun _ _ _ _ _ _ us hl => match us, hl with | [_, _], _ => rfl)
/-- a list in a cell grows; nothing happens to a scalar (tuples and dicts: not asked here) -/
def sp__law_grow : Nat → DD.Spec
  | 0 => fun _ _ _ _ => False
  | _ + 1 => fun ds S P _ => ∃ d n, ds = [d] ∧ tyN S d = some n ∧ n ≠ "tuple" ∧ n ≠ "dict" ∧ if n = "list" then ∃ k xs, d = .ref k ∧ S[k]? = some (some (.lst xs)) ∧ xs.length < sizeLine ∧ P .non (S.set k (some (.lst (xs ++ [.str [109, 111, 114, 101]])))) else P .non S
def N__law_grow : List Str := ["value", "item"]
theorem sc__law_grow : FnScope N__law_grow ["value"] (defScope (HD.top 36)) := ⟨rfl, rfl, rfl, by decide +kernel, rfl, by decide +kernel, by decide +kernel⟩
def w__law_grow (n : Nat) : WS :=
  (wIf (wTest (wB gIsi (wCons (wVar 0) (wCons (wC (.ty "list")) wNil))))
  (wExpr (wMeth "list" gAppend (wVar 0) (wCons (wC (.str [109, 111, 114, 101])) wNil)))
  (wIf (wTest (wB gIsi (wCons (wVar 0) (wCons (wC (.ty "dict")) wNil))))
  (wPut (wC (.int 1)) (wVar 0) (wC (.str [109, 111, 114, 101])))
  (wIf (wTest (wB gIsi (wCons (wVar 0) (wCons (wC (.ty "tuple")) wNil))))
  (wFor (wSrc (wVar 0)) (gdName 1)
  (wExpr (wCall 1 (sp__law_grow n) (wCons (wVar 1) wNil))))
  wNext)))
theorem sat__law_grow (n : Nat) : Sat' 1 N__law_grow.length (w__law_grow n) (sp__law_grow (n + 1)) := by
  rintro ds S P E - hS hd ⟨d, n, rfl, ht, hn1, hn2, p⟩
  have h7 := isTy_of (tyN_mem ht)
  simp only [w__law_grow, N__law_grow, wRet, wRetN, wSeq, wSet, wIf, wPar, wPar3, wExpr, wAsg, wNext, wBreak, wCont, gdTup, gdCons, gdNil, gdName, wIte, wAnd, wOr, DD.wNot, wTest, wNotT, wAndT, wOrT, wBin, wUn, wB, wCons, wNil, wVar, wC, wTup, wLst, mkL, wYes, wCall, wChain, startD, List.map_cons, List.map_nil, List.length_cons, List.length_nil, List.replicate, List.cons_append, List.nil_append, List.append_nil, List.getElem?_cons_zero, List.getElem?_cons_succ, List.set_cons_zero, List.set_cons_succ, Option.some.injEq, exists_eq_left', exists_eq_left, true_and, and_true, if_true, if_false, Bool.false_eq_true, gI, D.int.injEq, D.bl.injEq, D.str.injEq, wLc, wSrc, srcD, wSl, wSmO, wNoO, gSl, bodyC, wipeD, beq_self_eq_true, Bool.not_true, exists_and_left, List.cons.injEq, gLen3, D.ty.injEq, D.ref.injEq, D.tup.injEq, D.lst.injEq, and_assoc, tm_bool, tm_int, tm_str, tm_tuple, tm_list, tm_dict, gIsi, wIsi2, wRaise, gLe, gGt, gGe, DD.gSub, Prod.mk.injEq, gAdd_int, gMul_int, gInt_int, gInt_bl, wPut, lenD3_lst, lenD3_tup, lenD3_str, lenD3_dct, gIn3_str, gIn3_lst, gIn3_tup, gInS, gIn, ht, wMeth, h7]
  by_cases h : n = "list"
  · subst h
    rw [if_pos rfl] at p
    rw [if_pos (by decide)]
    obtain ⟨k, xs, rfl, hk, hl, p⟩ := p
    exact ⟨tyM_ref hk, k, xs, _, rfl, rfl, hk, hl, .inr p⟩
  · rw [if_neg h] at p
    rw [if_neg (by simpa using h), if_neg (by simpa using hn2), if_neg (by simpa using hn1)]
    exact outD_id p
theorem fa__law_grow {P : Program} {w : World} {K : PySem.W.Frag} {mg : Str → Option Value} {base : Heap} (h : Hd fa fn K mg) : ∀ n : Nat, FnAt P w K mg base "_law_grow" (defArgs (HD.top 36)) (defBody (HD.top 36)) (defScope (HD.top 36)) ["value"] (1 + n) 0 1 (sp__law_grow n)
  | 0 => by
    obtain ⟨fd, F⟩ := h.def_ 23
    have F : FunD K "_law_grow" "_law_grow" (defArgs (HD.top 36)) (defBody (HD.top 36)) (defScope (HD.top 36)) [] [] (ga K "_law_grow") fd := F
    exact (fn_none F (h.glo 43) rfl).imp fun _ _ _ _ z => z
  | n + 1 => by
    have ih := (fa__law_grow (P := P) (w := w) (K := K) (mg := mg) (base := base) h n).ok (fun _ _ _ _ _ _ us hl => match us, hl with | [_], _ => rfl)
    have hrec : 1 + n ≤ 1 + n := Nat.le_refl _
    obtain ⟨fd, F⟩ := h.def_ 23
    have F : FunD K "_law_grow" "_law_grow" (defArgs (HD.top 36)) (defBody (HD.top 36)) (defScope (HD.top 36)) [] [] (ga K "_law_grow") fd := F
    refine' fn_at (c := ((0 + (0 + 0)) + ((0 + (0 + 0)) + ((0 + (0 + 0)) + ((0 + (0 + 0)) + ((0 + (0 + 0)) + ((0 + (2 ^ 24 * ((0 + 0) + 0))) + 0))))))) F (h.glo 43) sc__law_grow rfl ?hc (b := w__law_grow n) (fun cdv A outer s H E hr => ?hb) ((sat__law_grow) n)
    case hb =>
      have hu : (cxOf (L2.CX P w) P w K mg base N__law_grow "_law_grow" (defScope (HD.top 36)) (ga K "_law_grow") cdv A outer s H E).A.units + 100 < cLine := by
        show (A.deeper (envOfC "_law_grow" (defScope (HD.top 36)) s.heap.objs.size (ga K "_law_grow") cdv)).units + 100 < cLine
        have := hr.un
        omega
      have tk := takes_of (X := cxOf (L2.CX P w) P w K mg base N__law_grow "_law_grow" (defScope (HD.top 36)) (ga K "_law_grow") cdv A outer s H E) rfl rfl rfl rfl
      have hp := passes_of (X := cxOf (L2.CX P w) P w K mg base N__law_grow "_law_grow" (defScope (HD.top 36)) (ga K "_law_grow") cdv A outer s H E) rfl
      have D : DSs (cxOf (L2.CX P w) P w K mg base N__law_grow "_law_grow" (defScope (HD.top 36)) (ga K "_law_grow") cdv A outer s H E) (fun cls d _ H' => E cls d H') (defBody (HD.top 36)) _ _ := (ds_one (ds_if (dt_val (d_callB call_isi cd_isi (h.free 6) (da_cons (d_var 0) (da_cons (d_ty "list" (h.free 8)) da_nil))))
      (ds_one (ds_expr (d_append (d_var 0) (da_cons (d_str [109, 111, 114, 101]) da_nil))))
      (ds_one (ds_if (dt_val (d_callB call_isi cd_isi (h.free 6) (da_cons (d_var 0) (da_cons (d_ty "dict" (h.free 4)) da_nil))))
      (ds_one (ds_put hu (d_var 0) (d_str [109, 111, 114, 101]) d_int))
      (ds_one (ds_if (dt_val (d_callB call_isi cd_isi (h.free 6) (da_cons (d_var 0) (da_cons (d_ty "tuple" (h.free 15)) da_nil))))
      (ds_one (ds_for hp rfl (di_any (d_var 0)) (dg_name 1 sc__law_grow.nd)
      (ds_one (ds_expr (d_call ih hr hrec tk (da_cons (d_var 1) da_nil))))))
      ds_nil))))))
      exact D
    case hc => decide +kernel
theorem ok__law_grow (n : Nat) {P : Program} {w : World} {K : PySem.W.Frag} {mg : Str → Option Value} {base : Heap} (h : Hd fa fn K mg) : OkAt P w K mg base "_law_grow" (1 + n) 0 1 (sp__law_grow n) := (fa__law_grow h n).ok (fun _ _ _ _ _ _ us hl => match us, hl with | [_], _ => rfl)
def sp__law_key : DD.Spec := fun ds S P _ => ∃ s : List Nat, ds = [.str s] ∧ s.length ≤ sizeLine ∧ P (keyD s) S
def N__law_key : List Str := ["word"]
theorem sc__law_key : FnScope N__law_key ["word"] (defScope (HD.top 37)) := ⟨rfl, rfl, rfl, by decide +kernel, rfl, by decide +kernel, by decide +kernel⟩
theorem key__law_key {P : Program} {w : World} {K : PySem.W.Frag} {mg : Str → Option Value} {base : Heap} (h : Hd fa fn K mg) : KeyAt P w K mg base "_law_key" 1 := by
  obtain ⟨fd, F⟩ := h.def_ 24
  exact ⟨_, h.glo 44, key_fn F sc__law_key (fun _ _ _ _ _ _ us hl => match us, hl with | [_], _ => rfl) (by decide +kernel) (by decide +kernel) (h.free 7) (by decide +kernel) (by decide +kernel)⟩
def w__law_key : WS :=
  (wRet (wTup (wCons (wB gLen3 (wCons (wVar 0) wNil)) (wCons (wVar 0) wNil))))
theorem sat__law_key : Sat' 1 N__law_key.length w__law_key sp__law_key := by
  rintro ds S P E - hS hd ⟨s, rfl, hs, p⟩
  simp only [w__law_key, N__law_key, wRet, wRetN, wSeq, wSet, wIf, wPar, wPar3, wExpr, wAsg, wNext, wBreak, wCont, gdTup, gdCons, gdNil, gdName, wIte, wAnd, wOr, DD.wNot, wTest, wNotT, wAndT, wOrT, wBin, wUn, wB, wCons, wNil, wVar, wC, wTup, wLst, mkL, wYes, wCall, wChain, startD, List.map_cons, List.map_nil, List.length_cons, List.length_nil, List.replicate, List.cons_append, List.nil_append, List.append_nil, List.getElem?_cons_zero, List.getElem?_cons_succ, List.set_cons_zero, List.set_cons_succ, Option.some.injEq, exists_eq_left', exists_eq_left, true_and, and_true, if_true, if_false, Bool.false_eq_true, gI, D.int.injEq, D.bl.injEq, D.str.injEq, wLc, wSrc, srcD, wSl, wSmO, wNoO, gSl, bodyC, wipeD, beq_self_eq_true, Bool.not_true, exists_and_left, List.cons.injEq, gLen3, D.ty.injEq, D.ref.injEq, D.tup.injEq, D.lst.injEq, and_assoc, tm_bool, tm_int, tm_str, tm_tuple, tm_list, tm_dict, gIsi, wIsi2, wRaise, gLe, gGt, gGe, DD.gSub, Prod.mk.injEq, gAdd_int, gMul_int, gInt_int, gInt_bl, wPut, lenD3_lst, lenD3_tup, lenD3_str, lenD3_dct, gIn3_str, gIn3_lst, gIn3_tup, gInS, gIn, hs]
  exact ⟨by decide, outD_id p⟩
theorem fa__law_key {P : Program} {w : World} {K : PySem.W.Frag} {mg : Str → Option Value} {base : Heap} (h : Hd fa fn K mg) : FnAt P w K mg base "_law_key" (defArgs (HD.top 37)) (defBody (HD.top 37)) (defScope (HD.top 37)) ["word"] 1 0 1 (sp__law_key) := by
  obtain ⟨fd, F⟩ := h.def_ 24
  have F : FunD K "_law_key" "_law_key" (defArgs (HD.top 37)) (defBody (HD.top 37)) (defScope (HD.top 37)) [] [] (ga K "_law_key") fd := F
  refine' fn_at (c := ((0 + 0) + (0 + 0))) F (h.glo 44) sc__law_key rfl ?hc (b := w__law_key) (fun cdv A outer s H E hr => ?hb) (sat__law_key)
  case hb =>
    have hu : (cxOf (L2.CX P w) P w K mg base N__law_key "_law_key" (defScope (HD.top 37)) (ga K "_law_key") cdv A outer s H E).A.units + 100 < cLine := by
      show (A.deeper (envOfC "_law_key" (defScope (HD.top 37)) s.heap.objs.size (ga K "_law_key") cdv)).units + 100 < cLine
      have := hr.un
      omega
    have tk := takes_of (X := cxOf (L2.CX P w) P w K mg base N__law_key "_law_key" (defScope (HD.top 37)) (ga K "_law_key") cdv A outer s H E) rfl rfl rfl rfl
    have hp := passes_of (X := cxOf (L2.CX P w) P w K mg base N__law_key "_law_key" (defScope (HD.top 37)) (ga K "_law_key") cdv A outer s H E) rfl
    have D : DSs (cxOf (L2.CX P w) P w K mg base N__law_key "_law_key" (defScope (HD.top 37)) (ga K "_law_key") cdv A outer s H E) (fun cls d _ H' => E cls d H') (defBody (HD.top 37)) _ _ := (ds_one (ds_ret (d_tup (da_cons (d_len3 (h.free 7) (da_cons (d_var 0) da_nil)) (da_cons (d_var 0) da_nil)))))
    exact D
  case hc => decide +kernel
theorem ok__law_key {P : Program} {w : World} {K : PySem.W.Frag} {mg : Str → Option Value} {base : Heap} (h : Hd fa fn K mg) : OkAt P w K mg base "_law_key" 1 0 1 (sp__law_key) := (fa__law_key h).ok (fun _ _ _ _ _ _ us hl => match us, hl with | [_], _ => rfl)
def sp__law_order : DD.Spec := fun ds S P _ => ∃ (d : D) (zs : List (List Nat)), ds = [d] ∧ seqL S d = some (zs.map D.str) ∧ zs.length < sizeLine ∧ (∀ z ∈ zs, z.length ≤ sizeLine) ∧ P (.lst ((sortW (dedup zs)).map D.str)) S
def N__law_order : List Str := ["words", "found", "word"]
theorem sc__law_order : FnScope N__law_order ["words"] (defScope (HD.top 38)) := ⟨rfl, rfl, rfl, by decide +kernel, rfl, by decide +kernel, by decide +kernel⟩
def w__law_order : WS :=
  (wSeq (wSet 1 (wDict0))
  (wSeq (wFor (wSrc (wVar 0)) (gdName 2)
  (wPut (wC (.bl true)) (wVar 1) (wVar 2)))
  (wRet (wSortW false (wVar 1)))))
theorem sat__law_order : Sat' 1 N__law_order.length w__law_order sp__law_order := by
  rintro ds S P E - hS hd ⟨d, zs, rfl, hx, h1, h2, p⟩
  simp only [w__law_order, N__law_order, wRet, wRetN, wSeq, wSet, wIf, wPar, wPar3, wExpr, wAsg, wNext, wBreak, wCont, gdTup, gdCons, gdNil, gdName, wIte, wAnd, wOr, DD.wNot, wTest, wNotT, wAndT, wOrT, wBin, wUn, wB, wCons, wNil, wVar, wC, wTup, wLst, mkL, wYes, wCall, wChain, startD, List.map_cons, List.map_nil, List.length_cons, List.length_nil, List.replicate, List.cons_append, List.nil_append, List.append_nil, List.getElem?_cons_zero, List.getElem?_cons_succ, List.set_cons_zero, List.set_cons_succ, Option.some.injEq, exists_eq_left', exists_eq_left, true_and, and_true, if_true, if_false, Bool.false_eq_true, gI, D.int.injEq, D.bl.injEq, D.str.injEq, wLc, wSrc, srcD, wSl, wSmO, wNoO, gSl, bodyC, wipeD, beq_self_eq_true, Bool.not_true, exists_and_left, List.cons.injEq, gLen3, D.ty.injEq, D.ref.injEq, D.tup.injEq, D.lst.injEq, and_assoc, tm_bool, tm_int, tm_str, tm_tuple, tm_list, tm_dict, gIsi, wIsi2, wRaise, gLe, gGt, gGe, DD.gSub, Prod.mk.injEq, gAdd_int, gMul_int, gInt_int, gInt_bl, wPut, lenD3_lst, lenD3_tup, lenD3_str, lenD3_dct, gIn3_str, gIn3_lst, gIn3_tup, gInS, gIn, wFor, wDict0]
  obtain ⟨C, hsrc, hC⟩ := srcD_app (T := [some (Cell.dct [])]) hx
  refine ⟨_, C, hsrc, ?_⟩
  refine loopF_inv (fun ys ρ S1 => ∃ (acc rest : List (List Nat)) (k : Option D), ys = rest.map D.str ∧ acc.length + rest.length ≤ zs.length ∧ rest.foldl (fun acc z => if z ∈ acc then acc else acc ++ [z]) acc = dedup zs ∧ S1 = S ++ [some (.dct (trues acc))] ∧ ρ = [some d, some (.ref S.length), k]) ?_ ?_ _ _ _ ⟨[], zs, none, rfl, by simp, rfl, rfl, rfl⟩
  · rintro x ys ρ S1 K ⟨acc, rest, k, hy, hl, hf, rfl, rfl⟩ hK
    cases rest with
    | nil => simp at hy
    | cons z rest =>
      rw [List.map_cons] at hy
      obtain ⟨rfl, rfl⟩ := List.cons.inj hy
      rw [List.length_cons] at hl
      refine ⟨hC _, ?_⟩
      simp only [bodyF, wRet, wRetN, wSeq, wSet, wIf, wPar, wPar3, wExpr, wAsg, wNext, wBreak, wCont, gdTup, gdCons, gdNil, gdName, wIte, wAnd, wOr, DD.wNot, wTest, wNotT, wAndT, wOrT, wBin, wUn, wB, wCons, wNil, wVar, wC, wTup, wLst, mkL, wYes, wCall, wChain, startD, List.map_cons, List.map_nil, List.length_cons, List.length_nil, List.replicate, List.cons_append, List.nil_append, List.append_nil, List.getElem?_cons_zero, List.getElem?_cons_succ, List.set_cons_zero, List.set_cons_succ, Option.some.injEq, exists_eq_left', exists_eq_left, true_and, and_true, if_true, if_false, Bool.false_eq_true, gI, D.int.injEq, D.bl.injEq, D.str.injEq, wLc, wSrc, srcD, wSl, wSmO, wNoO, gSl, bodyC, wipeD, beq_self_eq_true, Bool.not_true, exists_and_left, List.cons.injEq, gLen3, D.ty.injEq, D.ref.injEq, D.tup.injEq, D.lst.injEq, and_assoc, tm_bool, tm_int, tm_str, tm_tuple, tm_list, tm_dict, gIsi, wIsi2, wRaise, gLe, gGt, gGe, DD.gSub, Prod.mk.injEq, gAdd_int, gMul_int, gInt_int, gInt_bl, wPut, lenD3_lst, lenD3_tup, lenD3_str, lenD3_dct, gIn3_str, gIn3_lst, gIn3_tup, gInS, gIn, gPut]
      refine .inl ⟨_, c0, _, rfl, by simp [trues]; omega, ?_⟩
      rw [s0, put_trues]
      refine hK _ _ ⟨if z ∈ acc then acc else acc ++ [z], rest, _, rfl, ?_, hf, rfl, rfl⟩
      split
      · omega
      · rw [List.length_append, List.length_singleton]; omega
  · rintro ρ S1 ⟨acc, rest, k, hy, hl, hf, rfl, rfl⟩
    have hr : rest = [] := by cases rest <;> simp at hy ⊢
    subst hr
    rw [List.foldl_nil] at hf
    subst hf
    simp only [wRet, wRetN, wSeq, wSet, wIf, wPar, wPar3, wExpr, wAsg, wNext, wBreak, wCont, gdTup, gdCons, gdNil, gdName, wIte, wAnd, wOr, DD.wNot, wTest, wNotT, wAndT, wOrT, wBin, wUn, wB, wCons, wNil, wVar, wC, wTup, wLst, mkL, wYes, wCall, wChain, startD, List.map_cons, List.map_nil, List.length_cons, List.length_nil, List.replicate, List.cons_append, List.nil_append, List.append_nil, List.getElem?_cons_zero, List.getElem?_cons_succ, List.set_cons_zero, List.set_cons_succ, Option.some.injEq, exists_eq_left', exists_eq_left, true_and, and_true, if_true, if_false, Bool.false_eq_true, gI, D.int.injEq, D.bl.injEq, D.str.injEq, wLc, wSrc, srcD, wSl, wSmO, wNoO, gSl, bodyC, wipeD, beq_self_eq_true, Bool.not_true, exists_and_left, List.cons.injEq, gLen3, D.ty.injEq, D.ref.injEq, D.tup.injEq, D.lst.injEq, and_assoc, tm_bool, tm_int, tm_str, tm_tuple, tm_list, tm_dict, gIsi, wIsi2, wRaise, gLe, gGt, gGe, DD.gSub, Prod.mk.injEq, gAdd_int, gMul_int, gInt_int, gInt_bl, wPut, lenD3_lst, lenD3_tup, lenD3_str, lenD3_dct, gIn3_str, gIn3_lst, gIn3_tup, gInS, gIn, wSortW]
    refine ⟨hC _, dedup zs, ?_, Nat.le_trans (dedup_len zs) (Nat.le_of_lt h1), fun z hz => h2 z (dedup_mem.mp hz), outD_app hS (rb_strs _ _) p⟩
    simp [DD.wordsOf, dctOf, trues_keys, strsOf_str]
theorem fa__law_order {P : Program} {w : World} {K : PySem.W.Frag} {mg : Str → Option Value} {base : Heap} (h : Hd fa fn K mg) : FnAt P w K mg base "_law_order" (defArgs (HD.top 38)) (defBody (HD.top 38)) (defScope (HD.top 38)) ["words"] 4 0 1 (sp__law_order) := by
  obtain ⟨fd, F⟩ := h.def_ 25
  have F : FunD K "_law_order" "_law_order" (defArgs (HD.top 38)) (defBody (HD.top 38)) (defScope (HD.top 38)) [] [] (ga K "_law_order") fd := F
  refine' fn_at (c := (0 + ((0 + (2 ^ 24 * (0 + (0 + 0)))) + 0))) F (h.glo 45) sc__law_order rfl ?hc (b := w__law_order) (fun cdv A outer s H E hr => ?hb) (sat__law_order)
  case hb =>
    have hu : (cxOf (L2.CX P w) P w K mg base N__law_order "_law_order" (defScope (HD.top 38)) (ga K "_law_order") cdv A outer s H E).A.units + 100 < cLine := by
      show (A.deeper (envOfC "_law_order" (defScope (HD.top 38)) s.heap.objs.size (ga K "_law_order") cdv)).units + 100 < cLine
      have := hr.un
      omega
    have tk := takes_of (X := cxOf (L2.CX P w) P w K mg base N__law_order "_law_order" (defScope (HD.top 38)) (ga K "_law_order") cdv A outer s H E) rfl rfl rfl rfl
    have hp := passes_of (X := cxOf (L2.CX P w) P w K mg base N__law_order "_law_order" (defScope (HD.top 38)) (ga K "_law_order") cdv A outer s H E) rfl
    have D : DSs (cxOf (L2.CX P w) P w K mg base N__law_order "_law_order" (defScope (HD.top 38)) (ga K "_law_order") cdv A outer s H E) (fun cls d _ H' => E cls d H') (defBody (HD.top 38)) _ _ := (ds_cons (ds_set 1 sc__law_order.nd d_dict0)
    (ds_cons (ds_for hp rfl (di_any (d_var 0)) (dg_name 2 sc__law_order.nd)
    (ds_one (ds_put hu (d_var 1) (d_var 2) d_bl)))
    (ds_one (ds_ret (d_sortW false (key__law_key h) rfl hr (by decide) (h.free 12) (d_var 1))))))
    exact D
  case hc => decide +kernel
theorem ok__law_order {P : Program} {w : World} {K : PySem.W.Frag} {mg : Str → Option Value} {base : Heap} (h : Hd fa fn K mg) : OkAt P w K mg base "_law_order" 4 0 1 (sp__law_order) := (fa__law_order h).ok (fun _ _ _ _ _ _ us hl => match us, hl with | [_], _ => rfl)
def sp__law_words : DD.Spec := fun ds S P _ => ∃ (l n : Int), ds = [.int l, .int n] ∧ 0 ≤ n ∧ n ≤ 16 ∧ P (.lst ((wordsTo l n.toNat).map D.str)) S
def N__law_words : List Str := ["letters", "length", "found", "last", "turn", "longer", "word", "letter"]
theorem sc__law_words : FnScope N__law_words ["letters", "length"] (defScope (HD.top 39)) := ⟨rfl, rfl, rfl, by decide +kernel, rfl, by decide +kernel, by decide +kernel⟩
def w__law_words : WS :=
  (wSeq (wPar 2 3 (wCons (wLst false (wCons (wC (.str [])) wNil)) (wCons (wLst false (wCons (wC (.str [])) wNil)) wNil)))
  (wSeq (wFor (wRng1 (wCons (wVar 1) wNil)) (gdName 4)
  (wSeq (wSet 5 (wLst true wNil))
  (wSeq (wFor (wSrc (wVar 3)) (gdName 6)
  (wExpr (wMeth "list" gExtend (wVar 5) (wCons (wLc true (wSrc (wSl false (wC (.str [97, 98])) wNoO (wSmO (wVar 0)))) (gdName 7) wYes (wBin gAdd (wVar 6) (wVar 7)) (List.map (fun p : Str × Nat => p.2) [("letter", 7)])) wNil))))
  (wSeq (wSet 3 (wVar 5))
  (wSet 2 (wBin gAdd (wVar 2) (wVar 3)))))))
  (wRet (wVar 2))))
theorem sat__law_words : Sat' 2 N__law_words.length w__law_words sp__law_words := by
  rintro ds S P E - hS hd ⟨l, n, rfl, h0, hn, p⟩
  have hz := sizeLine_eq
  simp only [w__law_words, N__law_words, wRet, wRetN, wSeq, wSet, wIf, wPar, wPar3, wExpr, wAsg, wNext, wBreak, wCont, gdTup, gdCons, gdNil, gdName, wIte, wAnd, wOr, DD.wNot, wTest, wNotT, wAndT, wOrT, wBin, wUn, wB, wCons, wNil, wVar, wC, wTup, wLst, mkL, wYes, wCall, wChain, startD, List.map_cons, List.map_nil, List.length_cons, List.length_nil, List.replicate, List.cons_append, List.nil_append, List.append_nil, List.getElem?_cons_zero, List.getElem?_cons_succ, List.set_cons_zero, List.set_cons_succ, Option.some.injEq, exists_eq_left', exists_eq_left, true_and, and_true, if_true, if_false, Bool.false_eq_true, gI, D.int.injEq, D.bl.injEq, D.str.injEq, wLc, wSrc, srcD, wSl, wSmO, wNoO, gSl, bodyC, wipeD, beq_self_eq_true, Bool.not_true, exists_and_left, List.cons.injEq, gLen3, D.ty.injEq, D.ref.injEq, D.tup.injEq, D.lst.injEq, and_assoc, tm_bool, tm_int, tm_str, tm_tuple, tm_list, tm_dict, gIsi, wIsi2, wRaise, gLe, gGt, gGe, DD.gSub, Prod.mk.injEq, gAdd_int, gMul_int, gInt_int, gInt_bl, wPut, lenD3_lst, lenD3_tup, lenD3_str, lenD3_dct, gIn3_str, gIn3_lst, gIn3_tup, gInS, gIn, wFor, wRng1]
  refine ⟨by decide, by decide, by omega, by omega, ?_⟩
  have hr0 : (0 : Nat) + (rangeD 0 n.toNat).length = n.toNat := by simp [rangeD]
  refine loopF_inv (fun xs ρ S1 => ∃ (k : Nat) (T : Cells) (la : D) (t x5 x6 x7 : Option D), k + xs.length = n.toNat ∧ S1 = S ++ T ∧ seqL (S ++ T) la = some ((ofLen l k).map D.str) ∧ ρ = [some (.int l), some (.int n), some (.lst ((wordsTo l k).map D.str)), some la, t, x5, x6, x7]) ?_ ?_ _ _ _ ⟨0, [], .lst [.str []], none, none, none, none, hr0, (List.append_nil S).symm, rfl, rfl⟩
  · rintro x xs ρ S1 K ⟨k, T, la, t, x5, x6, x7, hk, rfl, hla, rfl⟩ hK
    rw [List.length_cons] at hk
    refine ⟨trivial, ?_⟩
    simp only [bodyF, wRet, wRetN, wSeq, wSet, wIf, wPar, wPar3, wExpr, wAsg, wNext, wBreak, wCont, gdTup, gdCons, gdNil, gdName, wIte, wAnd, wOr, DD.wNot, wTest, wNotT, wAndT, wOrT, wBin, wUn, wB, wCons, wNil, wVar, wC, wTup, wLst, mkL, wYes, wCall, wChain, startD, List.map_cons, List.map_nil, List.length_cons, List.length_nil, List.replicate, List.cons_append, List.nil_append, List.append_nil, List.getElem?_cons_zero, List.getElem?_cons_succ, List.set_cons_zero, List.set_cons_succ, Option.some.injEq, exists_eq_left', exists_eq_left, true_and, and_true, if_true, if_false, Bool.false_eq_true, gI, D.int.injEq, D.bl.injEq, D.str.injEq, wLc, wSrc, srcD, wSl, wSmO, wNoO, gSl, bodyC, wipeD, beq_self_eq_true, Bool.not_true, exists_and_left, List.cons.injEq, gLen3, D.ty.injEq, D.ref.injEq, D.tup.injEq, D.lst.injEq, and_assoc, tm_bool, tm_int, tm_str, tm_tuple, tm_list, tm_dict, gIsi, wIsi2, wRaise, gLe, gGt, gGe, DD.gSub, Prod.mk.injEq, gAdd_int, gMul_int, gInt_int, gInt_bl, wPut, lenD3_lst, lenD3_tup, lenD3_str, lenD3_dct, gIn3_str, gIn3_lst, gIn3_tup, gInS, gIn, wFor]
    refine ⟨by omega, ?_⟩
    obtain ⟨C, hsrc, hC⟩ := srcD_app (T := [some (Cell.lst [])]) hla
    refine ⟨_, C, hsrc, ?_⟩
    have hb : (ofLen l (k + 1)).length ≤ 2 ^ 16 := Nat.le_trans (ofLen_len l (k + 1)) (Nat.pow_le_pow_right (by decide) (by omega))
    refine loopF_inv (fun ys ρ S1 => ∃ (acc rest : List (List Nat)) (U : Cells) (x6 x7 : Option D), ys = rest.map D.str ∧ (∀ z ∈ rest, z.length = k) ∧ acc ++ rest.flatMap (fun w => (abL l).map fun c => w ++ [c]) = ofLen l (k + 1) ∧ S1 = S ++ T ++ some (.lst (acc.map D.str)) :: U ∧ ρ = [some (.int l), some (.int n), some (.lst ((wordsTo l k).map D.str)), some la, some x, some (.ref (S ++ T).length), x6, x7]) ?_ ?_ _ _ _ ⟨[], ofLen l k, [], x6, x7, rfl, ofLen_each l k, rfl, rfl, rfl⟩
    · rintro y ys ρ S1 K ⟨acc, rest, U, x6, x7, hy, hz2, he, rfl, rfl⟩ hK
      cases rest with
      | nil => simp at hy
      | cons z rest =>
        rw [List.map_cons] at hy
        obtain ⟨rfl, rfl⟩ := List.cons.inj hy
        refine ⟨hC _, ?_⟩
        have hzl := hz2 z List.mem_cons_self
        have e0 : (S ++ T ++ some (Cell.lst (acc.map D.str)) :: U)[(S ++ T).length]? = some (some (.lst (acc.map D.str))) := c0
        simp only [bodyF, wRet, wRetN, wSeq, wSet, wIf, wPar, wPar3, wExpr, wAsg, wNext, wBreak, wCont, gdTup, gdCons, gdNil, gdName, wIte, wAnd, wOr, DD.wNot, wTest, wNotT, wAndT, wOrT, wBin, wUn, wB, wCons, wNil, wVar, wC, wTup, wLst, mkL, wYes, wCall, wChain, startD, List.map_cons, List.map_nil, List.length_cons, List.length_nil, List.replicate, List.cons_append, List.nil_append, List.append_nil, List.getElem?_cons_zero, List.getElem?_cons_succ, List.set_cons_zero, List.set_cons_succ, Option.some.injEq, exists_eq_left', exists_eq_left, true_and, and_true, if_true, if_false, Bool.false_eq_true, gI, D.int.injEq, D.bl.injEq, D.str.injEq, wLc, wSrc, srcD, wSl, wSmO, wNoO, gSl, bodyC, wipeD, beq_self_eq_true, Bool.not_true, exists_and_left, List.cons.injEq, gLen3, D.ty.injEq, D.ref.injEq, D.tup.injEq, D.lst.injEq, and_assoc, tm_bool, tm_int, tm_str, tm_tuple, tm_list, tm_dict, gIsi, wIsi2, wRaise, gLe, gGt, gGe, DD.gSub, Prod.mk.injEq, gAdd_int, gMul_int, gInt_int, gInt_bl, wPut, lenD3_lst, lenD3_tup, lenD3_str, lenD3_dct, gIn3_str, gIn3_lst, gIn3_tup, gInS, gIn, wMeth, tyM_ref e0]
        have hle : (abL l).length ≤ sizeLine := by have := abL_le l; omega
        refine ⟨by omega, (abL l).map fun c => D.str [c], fun _ => True, if_pos hle, ?_⟩
        refine loopC_pure (fun c => match c with | .str y => some (.str (z ++ y)) | _ => none) trivial _ _ (fun c hc Q' hQ' => ?_) ?_
        · obtain ⟨y, _, rfl⟩ := List.mem_map.mp hc
          simp only [wRet, wRetN, wSeq, wSet, wIf, wPar, wPar3, wExpr, wAsg, wNext, wBreak, wCont, gdTup, gdCons, gdNil, gdName, wIte, wAnd, wOr, DD.wNot, wTest, wNotT, wAndT, wOrT, wBin, wUn, wB, wCons, wNil, wVar, wC, wTup, wLst, mkL, wYes, wCall, wChain, startD, List.map_cons, List.map_nil, List.length_cons, List.length_nil, List.replicate, List.cons_append, List.nil_append, List.append_nil, List.getElem?_cons_zero, List.getElem?_cons_succ, List.set_cons_zero, List.set_cons_succ, Option.some.injEq, exists_eq_left', exists_eq_left, true_and, and_true, if_true, if_false, Bool.false_eq_true, gI, D.int.injEq, D.bl.injEq, D.str.injEq, wLc, wSrc, srcD, wSl, wSmO, wNoO, gSl, bodyC, wipeD, beq_self_eq_true, Bool.not_true, exists_and_left, List.cons.injEq, gLen3, D.ty.injEq, D.ref.injEq, D.tup.injEq, D.lst.injEq, and_assoc, tm_bool, tm_int, tm_str, tm_tuple, tm_list, tm_dict, gIsi, wIsi2, wRaise, gLe, gGt, gGe, DD.gSub, Prod.mk.injEq, gAdd_int, gMul_int, gInt_int, gInt_bl, wPut, lenD3_lst, lenD3_tup, lenD3_str, lenD3_dct, gIn3_str, gIn3_lst, gIn3_tup, gInS, gIn, gAdd]
          exact ⟨by simp; omega, hQ'⟩
        · have ef : ((abL l).map fun c => D.str [c]).filterMap (fun c => match c with | .str y => some (D.str (z ++ y)) | _ => none) = ((abL l).map fun c => z ++ [c]).map D.str := by
            rw [List.filterMap_map, List.map_map]
            exact fm_some _ _
          rw [List.nil_append, ef]
          have hlen : acc.length + ((abL l).map fun c => z ++ [c]).length ≤ 2 ^ 16 := by
            rw [← he, List.flatMap_cons] at hb
            simp only [List.length_append] at hb
            omega
          refine ⟨_, _, _, _, rfl, rfl, cL e0, c0, by simp only [List.length_map] at hlen ⊢; omega, ?_⟩
          rw [List.append_assoc, List.cons_append, s0]
          refine hK _ _ ⟨acc ++ (abL l).map fun c => z ++ [c], rest, _, some (.str z), x7, rfl, fun y hy => hz2 y (List.mem_cons_of_mem _ hy), ?_, by rw [List.map_append], rfl⟩
          rw [← he, List.flatMap_cons, List.append_assoc]
    · rintro ρ S1 ⟨acc, rest, U, x6, x7, hy, hz2, he, rfl, rfl⟩
      have hr : rest = [] := by cases rest <;> simp at hy ⊢
      subst hr
      rw [List.flatMap_nil, List.append_nil] at he
      subst he
      simp only [wRet, wRetN, wSeq, wSet, wIf, wPar, wPar3, wExpr, wAsg, wNext, wBreak, wCont, gdTup, gdCons, gdNil, gdName, wIte, wAnd, wOr, DD.wNot, wTest, wNotT, wAndT, wOrT, wBin, wUn, wB, wCons, wNil, wVar, wC, wTup, wLst, mkL, wYes, wCall, wChain, startD, List.map_cons, List.map_nil, List.length_cons, List.length_nil, List.replicate, List.cons_append, List.nil_append, List.append_nil, List.getElem?_cons_zero, List.getElem?_cons_succ, List.set_cons_zero, List.set_cons_succ, Option.some.injEq, exists_eq_left', exists_eq_left, true_and, and_true, if_true, if_false, Bool.false_eq_true, gI, D.int.injEq, D.bl.injEq, D.str.injEq, wLc, wSrc, srcD, wSl, wSmO, wNoO, gSl, bodyC, wipeD, beq_self_eq_true, Bool.not_true, exists_and_left, List.cons.injEq, gLen3, D.ty.injEq, D.ref.injEq, D.tup.injEq, D.lst.injEq, and_assoc, tm_bool, tm_int, tm_str, tm_tuple, tm_list, tm_dict, gIsi, wIsi2, wRaise, gLe, gGt, gGe, DD.gSub, Prod.mk.injEq, gAdd_int, gMul_int, gInt_int, gInt_bl, wPut, lenD3_lst, lenD3_tup, lenD3_str, lenD3_dct, gIn3_str, gIn3_lst, gIn3_tup, gInS, gIn]
      have e1 : (S ++ T ++ some (Cell.lst ((ofLen l (k + 1)).map D.str)) :: U)[(S ++ T).length]? = some (some (.lst ((ofLen l (k + 1)).map D.str))) := c0
      have hw := upTo_len l k
      have hp2 : 2 ^ (k + 1) ≤ 2 ^ 16 := Nat.pow_le_pow_right (by decide) (by omega)
      refine ⟨hC _, _, _, rfl, seqL_ref e1, by simp only [List.length_map]; omega, ?_⟩
      rw [← List.map_append, ← wordsTo_succ]
      refine hK _ _ ⟨k + 1, T ++ some (.lst ((ofLen l (k + 1)).map D.str)) :: U, _, _, _, _, _, by omega, by rw [List.append_assoc], by rw [← List.append_assoc]; exact seqL_ref e1, rfl⟩
  · rintro ρ S1 ⟨k, T, la, t, x5, x6, x7, hk, rfl, hla, rfl⟩
    simp only [List.length_nil, Nat.add_zero] at hk
    subst hk
    simp only [wRet, wRetN, wSeq, wSet, wIf, wPar, wPar3, wExpr, wAsg, wNext, wBreak, wCont, gdTup, gdCons, gdNil, gdName, wIte, wAnd, wOr, DD.wNot, wTest, wNotT, wAndT, wOrT, wBin, wUn, wB, wCons, wNil, wVar, wC, wTup, wLst, mkL, wYes, wCall, wChain, startD, List.map_cons, List.map_nil, List.length_cons, List.length_nil, List.replicate, List.cons_append, List.nil_append, List.append_nil, List.getElem?_cons_zero, List.getElem?_cons_succ, List.set_cons_zero, List.set_cons_succ, Option.some.injEq, exists_eq_left', exists_eq_left, true_and, and_true, if_true, if_false, Bool.false_eq_true, gI, D.int.injEq, D.bl.injEq, D.str.injEq, wLc, wSrc, srcD, wSl, wSmO, wNoO, gSl, bodyC, wipeD, beq_self_eq_true, Bool.not_true, exists_and_left, List.cons.injEq, gLen3, D.ty.injEq, D.ref.injEq, D.tup.injEq, D.lst.injEq, and_assoc, tm_bool, tm_int, tm_str, tm_tuple, tm_list, tm_dict, gIsi, wIsi2, wRaise, gLe, gGt, gGe, DD.gSub, Prod.mk.injEq, gAdd_int, gMul_int, gInt_int, gInt_bl, wPut, lenD3_lst, lenD3_tup, lenD3_str, lenD3_dct, gIn3_str, gIn3_lst, gIn3_tup, gInS, gIn]
    exact outD_app hS (rb_strs _ _) p
theorem fa__law_words {P : Program} {w : World} {K : PySem.W.Frag} {mg : Str → Option Value} {base : Heap} (h : Hd fa fn K mg) : FnAt P w K mg base "_law_words" (defArgs (HD.top 39)) (defBody (HD.top 39)) (defScope (HD.top 39)) ["letters", "length"] 1 0 2 (sp__law_words) := by
  obtain ⟨fd, F⟩ := h.def_ 26
  have F : FunD K "_law_words" "_law_words" (defArgs (HD.top 39)) (defBody (HD.top 39)) (defScope (HD.top 39)) [] [] (ga K "_law_words") fd := F
  refine' fn_at (c := (((0 + 0) + ((0 + 0) + 0)) + (((0 + 0) + (2 ^ 24 * (0 + ((0 + (2 ^ 24 * (0 + ((((0 + 0) + 0) + (2 ^ 24 * (0 + (0 + 0)))) + 0)))) + (0 + (0 + 0)))))) + 0))) F (h.glo 46) sc__law_words rfl ?hc (b := w__law_words) (fun cdv A outer s H E hr => ?hb) (sat__law_words)
  case hb =>
    have hu : (cxOf (L2.CX P w) P w K mg base N__law_words "_law_words" (defScope (HD.top 39)) (ga K "_law_words") cdv A outer s H E).A.units + 100 < cLine := by
      show (A.deeper (envOfC "_law_words" (defScope (HD.top 39)) s.heap.objs.size (ga K "_law_words") cdv)).units + 100 < cLine
      have := hr.un
      omega
    have tk := takes_of (X := cxOf (L2.CX P w) P w K mg base N__law_words "_law_words" (defScope (HD.top 39)) (ga K "_law_words") cdv A outer s H E) rfl rfl rfl rfl
    have hp := passes_of (X := cxOf (L2.CX P w) P w K mg base N__law_words "_law_words" (defScope (HD.top 39)) (ga K "_law_words") cdv A outer s H E) rfl
    have D : DSs (cxOf (L2.CX P w) P w K mg base N__law_words "_law_words" (defScope (HD.top 39)) (ga K "_law_words") cdv A outer s H E) (fun cls d _ H' => E cls d H') (defBody (HD.top 39)) _ _ := (ds_cons (ds_par 2 3 rfl sc__law_words.nd (da_cons (d_lst false (da_cons (d_str []) da_nil)) (da_cons (d_lst false (da_cons (d_str []) da_nil)) da_nil)))
    (ds_cons (ds_for hp rfl (di_range1 (h.free 11) (da_cons (d_var 1) da_nil)) (dg_name 4 sc__law_words.nd)
    (ds_cons (ds_set 5 sc__law_words.nd (d_lst true da_nil))
    (ds_cons (ds_for hp rfl (di_any (d_var 3)) (dg_name 6 sc__law_words.nd)
    (ds_one (ds_expr (d_extend (d_var 5) (da_cons (d_lc true rfl sc__law_words.nd (di_any (d_sl false (d_str [97, 98]) do_none (do_some (d_var 0)))) (show BlkOk N__law_words (defScope (HD.top 39)) _ [("letter", 7)] from blkOk_by (by decide +kernel)) (fun _ _ _ _ _ => (dg_name 7 sc__law_words.nd)) (fun _ _ _ _ _ => dts_nil) (fun _ _ _ _ _ => (d_add (d_var 6) (d_var 7)))) da_nil)))))
    (ds_cons (ds_set 3 sc__law_words.nd (d_var 5))
    (ds_one (ds_set 2 sc__law_words.nd (d_add (d_var 2) (d_var 3))))))))
    (ds_one (ds_ret (d_var 2)))))
    exact D
  case hc => decide +kernel
theorem ok__law_words {P : Program} {w : World} {K : PySem.W.Frag} {mg : Str → Option Value} {base : Heap} (h : Hd fa fn K mg) : OkAt P w K mg base "_law_words" 1 0 2 (sp__law_words) := (fa__law_words h).ok (fun _ _ _ _ _ _ us hl => match us, hl with | [_, _], _ => rfl)
def sp__law_turned : DD.Spec := fun ds S P _ => ∃ (d : D) (zs : List (List Nat)), ds = [d] ∧ seqL S d = some (zs.map D.str) ∧ zs.length < sizeLine ∧ (∀ z ∈ zs, z.length ≤ sizeLine) ∧ P (.lst ((sortW (dedup (zs.map List.reverse))).map D.str)) S
def N__law_turned : List Str := ["words", "word"]
theorem sc__law_turned : FnScope N__law_turned ["words"] (defScope (HD.top 40)) := ⟨rfl, rfl, rfl, by decide +kernel, rfl, by decide +kernel, by decide +kernel⟩
def w__law_turned : WS :=
  (wRet (wCall 1 (sp__law_order) (wCons (wLc false (wSrc (wVar 0)) (gdName 1) wYes (wUn gRev (wVar 1)) (List.map (fun p : Str × Nat => p.2) [("word", 1)])) wNil)))
theorem sat__law_turned : Sat' 1 N__law_turned.length w__law_turned sp__law_turned := by
  rintro ds S P E - hS hd ⟨d, zs, rfl, hx, h1, h2, p⟩
  simp only [w__law_turned, N__law_turned, wRet, wRetN, wSeq, wSet, wIf, wPar, wPar3, wExpr, wAsg, wNext, wBreak, wCont, gdTup, gdCons, gdNil, gdName, wIte, wAnd, wOr, DD.wNot, wTest, wNotT, wAndT, wOrT, wBin, wUn, wB, wCons, wNil, wVar, wC, wTup, wLst, mkL, wYes, wCall, wChain, startD, List.map_cons, List.map_nil, List.length_cons, List.length_nil, List.replicate, List.cons_append, List.nil_append, List.append_nil, List.getElem?_cons_zero, List.getElem?_cons_succ, List.set_cons_zero, List.set_cons_succ, Option.some.injEq, exists_eq_left', exists_eq_left, true_and, and_true, if_true, if_false, Bool.false_eq_true, gI, D.int.injEq, D.bl.injEq, D.str.injEq, wLc, wSrc, srcD, wSl, wSmO, wNoO, gSl, bodyC, wipeD, beq_self_eq_true, Bool.not_true, exists_and_left, List.cons.injEq, gLen3, D.ty.injEq, D.ref.injEq, D.tup.injEq, D.lst.injEq, and_assoc, tm_bool, tm_int, tm_str, tm_tuple, tm_list, tm_dict, gIsi, wIsi2, wRaise, gLe, gGt, gGe, DD.gSub, Prod.mk.injEq, gAdd_int, gMul_int, gInt_int, gInt_bl, wPut, lenD3_lst, lenD3_tup, lenD3_str, lenD3_dct, gIn3_str, gIn3_lst, gIn3_tup, gInS, gIn, sp__law_order]
  obtain ⟨C, hsrc, hC⟩ := srcD_seqL hx
  refine ⟨_, C, hsrc, loopC_pure turnD hC _ _ (fun x hx Q hQ => ?_) ?_⟩
  · obtain ⟨z, hz, rfl⟩ := List.mem_map.mp hx
    simp only [wRet, wRetN, wSeq, wSet, wIf, wPar, wPar3, wExpr, wAsg, wNext, wBreak, wCont, gdTup, gdCons, gdNil, gdName, wIte, wAnd, wOr, DD.wNot, wTest, wNotT, wAndT, wOrT, wBin, wUn, wB, wCons, wNil, wVar, wC, wTup, wLst, mkL, wYes, wCall, wChain, startD, List.map_cons, List.map_nil, List.length_cons, List.length_nil, List.replicate, List.cons_append, List.nil_append, List.append_nil, List.getElem?_cons_zero, List.getElem?_cons_succ, List.set_cons_zero, List.set_cons_succ, Option.some.injEq, exists_eq_left', exists_eq_left, true_and, and_true, if_true, if_false, Bool.false_eq_true, gI, D.int.injEq, D.bl.injEq, D.str.injEq, wLc, wSrc, srcD, wSl, wSmO, wNoO, gSl, bodyC, wipeD, beq_self_eq_true, Bool.not_true, exists_and_left, List.cons.injEq, gLen3, D.ty.injEq, D.ref.injEq, D.tup.injEq, D.lst.injEq, and_assoc, tm_bool, tm_int, tm_str, tm_tuple, tm_list, tm_dict, gIsi, wIsi2, wRaise, gLe, gGt, gGe, DD.gSub, Prod.mk.injEq, gAdd_int, gMul_int, gInt_int, gInt_bl, wPut, lenD3_lst, lenD3_tup, lenD3_str, lenD3_dct, gIn3_str, gIn3_lst, gIn3_tup, gInS, gIn, gRev]
    exact ⟨h2 z hz, hQ⟩
  · rw [List.nil_append, turn_map]
    refine ⟨zs.map List.reverse, ?_, by simpa using h1, ?_, outD_id p⟩
    · simp [seqL]
    · intro z hz
      obtain ⟨y, hy, rfl⟩ := List.mem_map.mp hz
      simpa using h2 y hy
theorem fa__law_turned {P : Program} {w : World} {K : PySem.W.Frag} {mg : Str → Option Value} {base : Heap} (h : Hd fa fn K mg) : FnAt P w K mg base "_law_turned" (defArgs (HD.top 40)) (defBody (HD.top 40)) (defScope (HD.top 40)) ["words"] 5 0 1 (sp__law_turned) := by
  obtain ⟨fd, F⟩ := h.def_ 27
  have F : FunD K "_law_turned" "_law_turned" (defArgs (HD.top 40)) (defBody (HD.top 40)) (defScope (HD.top 40)) [] [] (ga K "_law_turned") fd := F
  refine' fn_at (c := (((0 + (2 ^ 24 * (0 + 0))) + 0) + 0)) F (h.glo 47) sc__law_turned rfl ?hc (b := w__law_turned) (fun cdv A outer s H E hr => ?hb) (sat__law_turned)
  case hb =>
    have hu : (cxOf (L2.CX P w) P w K mg base N__law_turned "_law_turned" (defScope (HD.top 40)) (ga K "_law_turned") cdv A outer s H E).A.units + 100 < cLine := by
      show (A.deeper (envOfC "_law_turned" (defScope (HD.top 40)) s.heap.objs.size (ga K "_law_turned") cdv)).units + 100 < cLine
      have := hr.un
      omega
    have tk := takes_of (X := cxOf (L2.CX P w) P w K mg base N__law_turned "_law_turned" (defScope (HD.top 40)) (ga K "_law_turned") cdv A outer s H E) rfl rfl rfl rfl
    have hp := passes_of (X := cxOf (L2.CX P w) P w K mg base N__law_turned "_law_turned" (defScope (HD.top 40)) (ga K "_law_turned") cdv A outer s H E) rfl
    have D : DSs (cxOf (L2.CX P w) P w K mg base N__law_turned "_law_turned" (defScope (HD.top 40)) (ga K "_law_turned") cdv A outer s H E) (fun cls d _ H' => E cls d H') (defBody (HD.top 40)) _ _ := (ds_one (ds_ret (d_call (ok__law_order h) hr (by decide) tk (da_cons (d_lc false rfl sc__law_turned.nd (di_any (d_var 0)) (show BlkOk N__law_turned (defScope (HD.top 40)) _ [("word", 1)] from blkOk_by (by decide +kernel)) (fun _ _ _ _ _ => (dg_name 1 sc__law_turned.nd)) (fun _ _ _ _ _ => dts_nil) (fun _ _ _ _ _ => (d_rev (d_var 1)))) da_nil))))
    exact D
  case hc => decide +kernel
theorem ok__law_turned {P : Program} {w : World} {K : PySem.W.Frag} {mg : Str → Option Value} {base : Heap} (h : Hd fa fn K mg) : OkAt P w K mg base "_law_turned" 5 0 1 (sp__law_turned) := (fa__law_turned h).ok (fun _ _ _ _ _ _ us hl => match us, hl with | [_], _ => rfl)
def sp__law_copy : DD.Spec := fun ds S P _ => ∃ (d : D) (n : String), ds = [d] ∧ tyN S d = some n ∧ if n = "list" then ∃ xs, seqL S d = some xs ∧ newL S xs P else P d S
def N__law_copy : List Str := ["value"]
theorem sc__law_copy : FnScope N__law_copy ["value"] (defScope (HD.top 41)) := ⟨rfl, rfl, rfl, by decide +kernel, rfl, by decide +kernel, by decide +kernel⟩
def w__law_copy : WS :=
  (wRet (wIte (wTest (wB gIsi (wCons (wVar 0) (wCons (wC (.ty "list")) wNil)))) (wB (gList4 true) (wCons (wVar 0) wNil)) (wVar 0)))
theorem sat__law_copy : Sat' 1 N__law_copy.length w__law_copy sp__law_copy := by
  rintro ds S P E - hS hd ⟨d, n, rfl, hn, p⟩
  have h7 := isTy_of (tyN_mem hn)
  simp only [w__law_copy, N__law_copy, wRet, wRetN, wSeq, wSet, wIf, wPar, wPar3, wExpr, wAsg, wNext, wBreak, wCont, gdTup, gdCons, gdNil, gdName, wIte, wAnd, wOr, DD.wNot, wTest, wNotT, wAndT, wOrT, wBin, wUn, wB, wCons, wNil, wVar, wC, wTup, wLst, mkL, wYes, wCall, wChain, startD, List.map_cons, List.map_nil, List.length_cons, List.length_nil, List.replicate, List.cons_append, List.nil_append, List.append_nil, List.getElem?_cons_zero, List.getElem?_cons_succ, List.set_cons_zero, List.set_cons_succ, Option.some.injEq, exists_eq_left', exists_eq_left, true_and, and_true, if_true, if_false, Bool.false_eq_true, gI, D.int.injEq, D.bl.injEq, D.str.injEq, wLc, wSrc, srcD, wSl, wSmO, wNoO, gSl, bodyC, wipeD, beq_self_eq_true, Bool.not_true, exists_and_left, List.cons.injEq, gLen3, D.ty.injEq, D.ref.injEq, D.tup.injEq, D.lst.injEq, and_assoc, tm_bool, tm_int, tm_str, tm_tuple, tm_list, tm_dict, gIsi, wIsi2, wRaise, gLe, gGt, gGe, DD.gSub, Prod.mk.injEq, gAdd_int, gMul_int, gInt_int, gInt_bl, wPut, lenD3_lst, lenD3_tup, lenD3_str, lenD3_dct, gIn3_str, gIn3_lst, gIn3_tup, gInS, gIn, hn, h7]
  by_cases h : n = "list"
  · rw [if_pos h] at p
    subst h
    obtain ⟨xs, hx, p⟩ := p
    exact list_seq hx (.inr (p _ _ (Nat.le_refl _) c0))
  · rw [if_neg h] at p
    rw [if_neg (by simpa using h)]
    exact outD_id p
theorem copy_cp {n B : Nat} {d : D} {S : Cells} {P : Q1} {E : EQ} (t : Th n d) (hB : B ≤ S.length) (p : ∀ (T : Cells) d', Cp B (S ++ T) d d' → P d' (S ++ T)) : sp__law_copy [d] S P E := by
  obtain ⟨m, hm⟩ := t.ty
  refine ⟨d, m, rfl, hm S, ?_⟩
  by_cases h : m = "list"
  · rw [if_pos h]
    subst h
    have hx : ∃ xs, d = .lst xs := by
      have e := hm []
      obtain ⟨n, rfl⟩ := t.pos
      cases d <;> first | exact ⟨_, rfl⟩ | (simp [tyN] at e; done)
    obtain ⟨xs, rfl⟩ := hx
    exact ⟨xs, rfl, fun T k h1 h2 => p T _ (.inr ⟨xs, k, rfl, rfl, Nat.le_trans hB h1, h2⟩)⟩
  · rw [if_neg h]
    have := p [] d (.inl ⟨rfl, fun xs e => h (by have e2 := hm []; rw [e] at e2; exact (Option.some.inj e2).symm)⟩)
    rwa [List.append_nil] at this
theorem fa__law_copy {P : Program} {w : World} {K : PySem.W.Frag} {mg : Str → Option Value} {base : Heap} (h : Hd fa fn K mg) : FnAt P w K mg base "_law_copy" (defArgs (HD.top 41)) (defBody (HD.top 41)) (defScope (HD.top 41)) ["value"] 1 0 1 (sp__law_copy) := by
  obtain ⟨fd, F⟩ := h.def_ 28
  have F : FunD K "_law_copy" "_law_copy" (defArgs (HD.top 41)) (defBody (HD.top 41)) (defScope (HD.top 41)) [] [] (ga K "_law_copy") fd := F
  refine' fn_at (c := ((0 + (0 + 0)) + ((0 + 0) + 0))) F (h.glo 48) sc__law_copy rfl ?hc (b := w__law_copy) (fun cdv A outer s H E hr => ?hb) (sat__law_copy)
  case hb =>
    have hu : (cxOf (L2.CX P w) P w K mg base N__law_copy "_law_copy" (defScope (HD.top 41)) (ga K "_law_copy") cdv A outer s H E).A.units + 100 < cLine := by
      show (A.deeper (envOfC "_law_copy" (defScope (HD.top 41)) s.heap.objs.size (ga K "_law_copy") cdv)).units + 100 < cLine
      have := hr.un
      omega
    have tk := takes_of (X := cxOf (L2.CX P w) P w K mg base N__law_copy "_law_copy" (defScope (HD.top 41)) (ga K "_law_copy") cdv A outer s H E) rfl rfl rfl rfl
    have hp := passes_of (X := cxOf (L2.CX P w) P w K mg base N__law_copy "_law_copy" (defScope (HD.top 41)) (ga K "_law_copy") cdv A outer s H E) rfl
    have D : DSs (cxOf (L2.CX P w) P w K mg base N__law_copy "_law_copy" (defScope (HD.top 41)) (ga K "_law_copy") cdv A outer s H E) (fun cls d _ H' => E cls d H') (defBody (HD.top 41)) _ _ := (ds_one (ds_ret (d_ite (dt_val (d_callB call_isi cd_isi (h.free 6) (da_cons (d_var 0) (da_cons (d_ty "list" (h.free 8)) da_nil)))) (d_list4 true rfl (h.free 8) (da_cons (d_var 0) da_nil)) (d_var 0))))
    exact D
  case hc => decide +kernel
theorem ok__law_copy {P : Program} {w : World} {K : PySem.W.Frag} {mg : Str → Option Value} {base : Heap} (h : Hd fa fn K mg) : OkAt P w K mg base "_law_copy" 1 0 1 (sp__law_copy) := (fa__law_copy h).ok (fun _ _ _ _ _ _ us hl => match us, hl with | [_], _ => rfl)
/-- given and value read alike (the same list, if it is a list that grows) -/
def sp__law_blamed : DD.Spec := fun ds S P _ => ∃ a b n x, ds = [a, b] ∧ tyN S b = some n ∧ full S 10 a = some x ∧ full S 10 b = some x ∧ if n = "list" then ∃ k xs, b = .ref k ∧ a = .ref k ∧ S[k]? = some (some (.lst xs)) ∧ xs.length < sizeLine ∧ ∃ z, full (S.set k (some (.lst (xs ++ [.str [103, 114, 111, 119, 110]])))) 10 b = some z ∧ P (.bl true) (S.set k (some (.lst (xs ++ [.str [103, 114, 111, 119, 110]])))) else P (.bl true) S
def N__law_blamed : List Str := ["given", "value"]
theorem sc__law_blamed : FnScope N__law_blamed ["given", "value"] (defScope (HD.top 42)) := ⟨rfl, rfl, rfl, by decide +kernel, rfl, by decide +kernel, by decide +kernel⟩
def w__law_blamed : WS :=
  (wSeq (wIf (wNotT (wTest (wCall 2 (sp__law_same 10) (wCons (wVar 0) (wCons (wVar 1) wNil)))))
  (wRet (wC (.bl false)))
  wNext)
  (wSeq (wIf (wTest (wB gIsi (wCons (wVar 1) (wCons (wC (.ty "list")) wNil))))
  (wExpr (wMeth "list" gAppend (wVar 1) (wCons (wC (.str [103, 114, 111, 119, 110])) wNil)))
  wNext)
  (wRet (wCall 2 (sp__law_same 10) (wCons (wVar 0) (wCons (wVar 1) wNil))))))
theorem sat__law_blamed : Sat' 2 N__law_blamed.length w__law_blamed sp__law_blamed := by
  rintro ds S P E - hS hd ⟨a, b, n, x, rfl, ht, ha, hb, p⟩
  have h7 := isTy_of (tyN_mem ht)
  simp only [w__law_blamed, N__law_blamed, wRet, wRetN, wSeq, wSet, wIf, wPar, wPar3, wExpr, wAsg, wNext, wBreak, wCont, gdTup, gdCons, gdNil, gdName, wIte, wAnd, wOr, DD.wNot, wTest, wNotT, wAndT, wOrT, wBin, wUn, wB, wCons, wNil, wVar, wC, wTup, wLst, mkL, wYes, wCall, wChain, startD, List.map_cons, List.map_nil, List.length_cons, List.length_nil, List.replicate, List.cons_append, List.nil_append, List.append_nil, List.getElem?_cons_zero, List.getElem?_cons_succ, List.set_cons_zero, List.set_cons_succ, Option.some.injEq, exists_eq_left', exists_eq_left, true_and, and_true, if_true, if_false, Bool.false_eq_true, gI, D.int.injEq, D.bl.injEq, D.str.injEq, wLc, wSrc, srcD, wSl, wSmO, wNoO, gSl, bodyC, wipeD, beq_self_eq_true, Bool.not_true, exists_and_left, List.cons.injEq, gLen3, D.ty.injEq, D.ref.injEq, D.tup.injEq, D.lst.injEq, and_assoc, tm_bool, tm_int, tm_str, tm_tuple, tm_list, tm_dict, gIsi, wIsi2, wRaise, gLe, gGt, gGe, DD.gSub, Prod.mk.injEq, gAdd_int, gMul_int, gInt_int, gInt_bl, wPut, lenD3_lst, lenD3_tup, lenD3_str, lenD3_dct, gIn3_str, gIn3_lst, gIn3_tup, gInS, gIn, sp__law_same, wMeth]
  refine ⟨x, ha, hb, _, ht, ?_⟩
  by_cases h : n = "list"
  · subst h
    rw [if_pos rfl] at p
    rw [if_pos (by decide)]
    obtain ⟨k, xs, rfl, rfl, hk, hl, z, hz, p⟩ := p
    exact ⟨tyM_ref hk, k, xs, _, rfl, rfl, hk, hl, z, hz, hz, .inr p⟩
  · rw [if_neg h] at p
    rw [isTy_of (tyN_mem ht) |>.2.2.1, if_neg (by simpa using h)]
    exact ⟨x, ha, hb, outD_id p⟩
theorem blamed_cp {d d' : D} {S T : Cells} {P : Q1} {E : EQ} (h : Cp S.length (S ++ T) d d') (t : Th 10 d) (hl : ∀ xs, d = .lst xs → xs.length < sizeLine) (p : ∀ T : Cells, P (.bl true) (S ++ T)) : sp__law_blamed [d', d'] (S ++ T) P E := by
  obtain ⟨m, hm⟩ := h.ty t
  refine ⟨d', d', m, d, rfl, hm, h.full t, h.full t, ?_⟩
  rcases h with ⟨rfl, h⟩ | ⟨xs, k, rfl, rfl, hb, h⟩
  · rw [if_neg]
    · exact p T
    · rintro rfl
      have t : Th (9 + 1) d' := t
      cases d' <;> first | exact absurd rfl (h _) | (simp [tyN] at hm; done) | (simp [Th, full] at t; done)
  · have e : m = "list" := by simpa [tyN, h] using hm.symm
    subst e
    rw [if_pos rfl]
    have hlx := hl xs rfl
    have t2 : Th 10 (.lst (xs ++ [.str [103, 114, 111, 119, 110]])) := th_lst (by rw [List.length_append, List.length_singleton]; exact hlx) fun x hx => by
      rcases List.mem_append.mp hx with hx | hx
      · exact t.lst.2 x hx
      · rw [List.mem_singleton.mp hx]; exact th_str (by decide)
    have hk := (List.getElem?_eq_some_iff.mp h).1
    refine ⟨k, xs, rfl, rfl, h, hlx, _, Cp.full (B := 0) (.inr ⟨_, k, rfl, rfl, Nat.zero_le _, List.getElem?_set_self hk⟩) t2, ?_⟩
    rw [set_app hb]
    exact p _
theorem fa__law_blamed {P : Program} {w : World} {K : PySem.W.Frag} {mg : Str → Option Value} {base : Heap} (h : Hd fa fn K mg) : FnAt P w K mg base "_law_blamed" (defArgs (HD.top 42)) (defBody (HD.top 42)) (defScope (HD.top 42)) ["given", "value"] 12 0 2 (sp__law_blamed) := by
  obtain ⟨fd, F⟩ := h.def_ 29
  have F : FunD K "_law_blamed" "_law_blamed" (defArgs (HD.top 42)) (defBody (HD.top 42)) (defScope (HD.top 42)) [] [] (ga K "_law_blamed") fd := F
  refine' fn_at (c := ((((0 + (0 + 0)) + 0) + (0 + 0)) + (((0 + (0 + 0)) + ((0 + (0 + 0)) + 0)) + ((0 + (0 + 0)) + 0)))) F (h.glo 49) sc__law_blamed rfl ?hc (b := w__law_blamed) (fun cdv A outer s H E hr => ?hb) (sat__law_blamed)
  case hb =>
    have hu : (cxOf (L2.CX P w) P w K mg base N__law_blamed "_law_blamed" (defScope (HD.top 42)) (ga K "_law_blamed") cdv A outer s H E).A.units + 100 < cLine := by
      show (A.deeper (envOfC "_law_blamed" (defScope (HD.top 42)) s.heap.objs.size (ga K "_law_blamed") cdv)).units + 100 < cLine
      have := hr.un
      omega
    have tk := takes_of (X := cxOf (L2.CX P w) P w K mg base N__law_blamed "_law_blamed" (defScope (HD.top 42)) (ga K "_law_blamed") cdv A outer s H E) rfl rfl rfl rfl
    have hp := passes_of (X := cxOf (L2.CX P w) P w K mg base N__law_blamed "_law_blamed" (defScope (HD.top 42)) (ga K "_law_blamed") cdv A outer s H E) rfl
    have D : DSs (cxOf (L2.CX P w) P w K mg base N__law_blamed "_law_blamed" (defScope (HD.top 42)) (ga K "_law_blamed") cdv A outer s H E) (fun cls d _ H' => E cls d H') (defBody (HD.top 42)) _ _ := (ds_cons (ds_if (dt_not (dt_val (d_call (ok__law_same 10 h) hr (by decide) tk (da_cons (d_var 0) (da_cons (d_var 1) da_nil)))))
    (ds_one (ds_ret d_bl))
    ds_nil)
    (ds_cons (ds_if (dt_val (d_callB call_isi cd_isi (h.free 6) (da_cons (d_var 1) (da_cons (d_ty "list" (h.free 8)) da_nil))))
    (ds_one (ds_expr (d_append (d_var 1) (da_cons (d_str [103, 114, 111, 119, 110]) da_nil))))
    ds_nil)
    (ds_one (ds_ret (d_call (ok__law_same 10 h) hr (by decide) tk (da_cons (d_var 0) (da_cons (d_var 1) da_nil)))))))
    exact D
  case hc => decide +kernel
theorem ok__law_blamed {P : Program} {w : World} {K : PySem.W.Frag} {mg : Str → Option Value} {base : Heap} (h : Hd fa fn K mg) : OkAt P w K mg base "_law_blamed" 12 0 2 (sp__law_blamed) := (fa__law_blamed h).ok (fun _ _ _ _ _ _ us hl => match us, hl with | [_, _], _ => rfl)
def noNum : List D := [.int (-1), .int 9, .non, .bl true, .str [48], .tup [.int 0], .lst [.int 0], .int (-100), .int 10000000000000000008, .bl false]
def sp__law_no_number : DD.Spec := fun ds S P _ => ∃ (b : Nat), ds = [.ref b, .int 0, .int 8] ∧ S[b]? = some (some .box) ∧ ∀ d ∈ noNum, P d S
def N__law_no_number : List Str := ["box", "low", "high"]
theorem sc__law_no_number : FnScope N__law_no_number ["box", "low", "high"] (defScope (HD.top 43)) := ⟨rfl, rfl, rfl, by decide +kernel, rfl, by decide +kernel, by decide +kernel⟩
def w__law_no_number : WS :=
  (wRet (wBin gIx3 (wLst false (wCons (wBin gSub (wVar 1) (wC (.int 1))) (wCons (wBin gAdd (wVar 2) (wC (.int 1))) (wCons (wC .non) (wCons (wC (.bl true)) (wCons (wB gStrI (wCons (wVar 1) wNil)) (wCons (wTup (wCons (wVar 1) wNil)) (wCons (wLst false (wCons (wVar 1) wNil)) (wCons (wUn gNeg (wC (.int 100))) (wCons (wBin gAdd (wBin gPow (wC (.int 10)) (wC (.int 19))) (wVar 2)) (wCons (wC (.bl false)) wNil))))))))))) (wCall 2 (spTake) (wCons (wVar 0) (wCons (wC (.int 10)) wNil)))))
theorem sat__law_no_number : Sat' 3 N__law_no_number.length w__law_no_number sp__law_no_number := by
  rintro ds S P E - hS hd ⟨b, rfl, hb, p⟩
  simp only [w__law_no_number, N__law_no_number, wRet, wRetN, wSeq, wSet, wIf, wPar, wPar3, wExpr, wAsg, wNext, wBreak, wCont, gdTup, gdCons, gdNil, gdName, wIte, wAnd, wOr, DD.wNot, wTest, wNotT, wAndT, wOrT, wBin, wUn, wB, wCons, wNil, wVar, wC, wTup, wLst, mkL, wYes, wCall, wChain, startD, List.map_cons, List.map_nil, List.length_cons, List.length_nil, List.replicate, List.cons_append, List.nil_append, List.append_nil, List.getElem?_cons_zero, List.getElem?_cons_succ, List.set_cons_zero, List.set_cons_succ, Option.some.injEq, exists_eq_left', exists_eq_left, true_and, and_true, if_true, if_false, Bool.false_eq_true, gI, D.int.injEq, D.bl.injEq, D.str.injEq, wLc, wSrc, srcD, wSl, wSmO, wNoO, gSl, bodyC, wipeD, beq_self_eq_true, Bool.not_true, exists_and_left, List.cons.injEq, gLen3, D.ty.injEq, D.ref.injEq, D.tup.injEq, D.lst.injEq, and_assoc, tm_bool, tm_int, tm_str, tm_tuple, tm_list, tm_dict, gIsi, wIsi2, wRaise, gLe, gGt, gGe, DD.gSub, Prod.mk.injEq, gAdd_int, gMul_int, gInt_int, gInt_bl, wPut, lenD3_lst, lenD3_tup, lenD3_str, lenD3_dct, gIn3_str, gIn3_lst, gIn3_tup, gInS, gIn]
  refine ⟨0, rfl, by decide, by decide, by decide, 100, rfl, ⟨by decide, by decide +kernel⟩, by decide, b, 10, rfl, hb, by decide, by decide, fun i i0 i1 => ?_⟩
  have e : ([D.int (0 - 1), D.int (8 + 1), D.non, D.bl true, D.str (Str.ofString (toString (0 : Int))).cps.toList, D.tup [D.int 0], D.lst [D.int 0], D.int (-100), D.int (10 ^ Int.toNat 19 + 8), D.bl false] : List D) = noNum := rfl
  rw [e]
  exact pick_lst i0 i1 fun d hd => outD_id (p d hd)
theorem fa__law_no_number {P : Program} {w : World} {K : PySem.W.Frag} {mg : Str → Option Value} {base : Heap} (h : Hd fa fn K mg) : FnAt P w K mg base "_law_no_number" (defArgs (HD.top 43)) (defBody (HD.top 43)) (defScope (HD.top 43)) ["box", "low", "high"] 2 1 3 (sp__law_no_number) := by
  obtain ⟨fd, F⟩ := h.def_ 30
  have F : FunD K "_law_no_number" "_law_no_number" (defArgs (HD.top 43)) (defBody (HD.top 43)) (defScope (HD.top 43)) [] [] (ga K "_law_no_number") fd := F
  refine' fn_at (c := (((0 + 0) + ((0 + 0) + (0 + (0 + ((0 + 0) + ((0 + 0) + ((0 + 0) + (0 + (((0 + 0) + 0) + (0 + 0)))))))))) + ((0 + (0 + 0)) + 1))) F (h.glo 50) sc__law_no_number rfl ?hc (b := w__law_no_number) (fun cdv A outer s H E hr => ?hb) (sat__law_no_number)
  case hb =>
    have hu : (cxOf (L2.CX P w) P w K mg base N__law_no_number "_law_no_number" (defScope (HD.top 43)) (ga K "_law_no_number") cdv A outer s H E).A.units + 100 < cLine := by
      show (A.deeper (envOfC "_law_no_number" (defScope (HD.top 43)) s.heap.objs.size (ga K "_law_no_number") cdv)).units + 100 < cLine
      have := hr.un
      omega
    have tk := takes_of (X := cxOf (L2.CX P w) P w K mg base N__law_no_number "_law_no_number" (defScope (HD.top 43)) (ga K "_law_no_number") cdv A outer s H E) rfl rfl rfl rfl
    have hp := passes_of (X := cxOf (L2.CX P w) P w K mg base N__law_no_number "_law_no_number" (defScope (HD.top 43)) (ga K "_law_no_number") cdv A outer s H E) rfl
    have D : DSs (cxOf (L2.CX P w) P w K mg base N__law_no_number "_law_no_number" (defScope (HD.top 43)) (ga K "_law_no_number") cdv A outer s H E) (fun cls d _ H' => E cls d H') (defBody (HD.top 43)) _ _ := (ds_one (ds_ret (d_ix3 hu (d_lst false (da_cons (d_sub (d_var 1) d_int) (da_cons (d_add (d_var 2) d_int) (da_cons d_non (da_cons d_bl (da_cons (d_callTy call_str_int cd_strI (h.free 13) (da_cons (d_var 1) da_nil)) (da_cons (d_tup (da_cons (d_var 1) da_nil)) (da_cons (d_lst false (da_cons (d_var 1) da_nil)) (da_cons (d_neg d_int) (da_cons (d_add (d_pow d_int d_int) (d_var 2)) (da_cons d_bl da_nil))))))))))) (d_call (ok__law_take h) hr (by decide) tk (da_cons (d_var 0) (da_cons d_int da_nil))))))
    exact D
  case hc => decide +kernel
theorem ok__law_no_number {P : Program} {w : World} {K : PySem.W.Frag} {mg : Str → Option Value} {base : Heap} (h : Hd fa fn K mg) : OkAt P w K mg base "_law_no_number" 2 1 3 (sp__law_no_number) := (fa__law_no_number h).ok (fun _ _ _ _ _ _ us hl => match us, hl with | [_, _, _], _ => rfl)
def sp__law_word : DD.Spec := fun ds S P _ => ∃ (b : Nat) (l m : Int), ds = [.ref b, .int l, .int m] ∧ S[b]? = some (some .box) ∧ 1 ≤ l ∧ l ≤ 2 ∧ 0 ≤ m ∧ m ≤ 200 ∧ ∀ s : List Nat, (s.length : Int) ≤ m → (∀ c ∈ s, c ∈ abL l) → P (.str s) S
def N__law_word : List Str := ["box", "letters", "most", "k"]
theorem sc__law_word : FnScope N__law_word ["box", "letters", "most"] (defScope (HD.top 44)) := ⟨rfl, rfl, rfl, by decide +kernel, rfl, by decide +kernel, by decide +kernel⟩
def w__law_word : WS :=
  (wRet (wMeth "str" gJoin (wC (.str [])) (wCons (wLc false (wRng1 (wCons (wCall 2 (spTake) (wCons (wVar 0) (wCons (wBin gAdd (wVar 2) (wC (.int 1))) wNil))) wNil)) (gdName 3) wYes (wBin gIx3 (wC (.str [97, 98])) (wCall 2 (spTake) (wCons (wVar 0) (wCons (wVar 1) wNil)))) (List.map (fun p : Str × Nat => p.2) [("k", 3)])) wNil)))
theorem sat__law_word : Sat' 3 N__law_word.length w__law_word sp__law_word := by
  rintro ds S P E - hS hd ⟨b, l, m, rfl, hb, l1, l2, m0, m1, p⟩
  have hz := sizeLine_eq
  simp only [w__law_word, N__law_word, wRet, wRetN, wSeq, wSet, wIf, wPar, wPar3, wExpr, wAsg, wNext, wBreak, wCont, gdTup, gdCons, gdNil, gdName, wIte, wAnd, wOr, DD.wNot, wTest, wNotT, wAndT, wOrT, wBin, wUn, wB, wCons, wNil, wVar, wC, wTup, wLst, mkL, wYes, wCall, wChain, startD, List.map_cons, List.map_nil, List.length_cons, List.length_nil, List.replicate, List.cons_append, List.nil_append, List.append_nil, List.getElem?_cons_zero, List.getElem?_cons_succ, List.set_cons_zero, List.set_cons_succ, Option.some.injEq, exists_eq_left', exists_eq_left, true_and, and_true, if_true, if_false, Bool.false_eq_true, gI, D.int.injEq, D.bl.injEq, D.str.injEq, wLc, wSrc, srcD, wSl, wSmO, wNoO, gSl, bodyC, wipeD, beq_self_eq_true, Bool.not_true, exists_and_left, List.cons.injEq, gLen3, D.ty.injEq, D.ref.injEq, D.tup.injEq, D.lst.injEq, and_assoc, tm_bool, tm_int, tm_str, tm_tuple, tm_list, tm_dict, gIsi, wIsi2, wRaise, gLe, gGt, gGe, DD.gSub, Prod.mk.injEq, gAdd_int, gMul_int, gInt_int, gInt_bl, wPut, lenD3_lst, lenD3_tup, lenD3_str, lenD3_dct, gIn3_str, gIn3_lst, gIn3_tup, gInS, gIn, wRng1, spTake, hb, wMeth]
  have hz2 : (0 : Int) ≤ m + 1 := by omega
  refine ⟨rfl, by omega, by omega, fun i i0 i1 => ⟨by omega, by omega, ?_⟩⟩
  refine loopC_inv (fun xs acc S1 => S1 = S ∧ ∃ zs : List Nat, acc = zs.map (fun c => D.str [c]) ∧ zs.length + xs.length = i.toNat ∧ ∀ c ∈ zs, c ∈ abL l) ?_ ?_ _ _ _ ⟨rfl, [], rfl, by simp [rangeD], by simp⟩
  · rintro x xs acc S1 K ⟨rfl, zs, rfl, hl, hm⟩ hK
    refine ⟨trivial, ?_⟩
    rw [List.length_cons] at hl
    simp only [wRet, wRetN, wSeq, wSet, wIf, wPar, wPar3, wExpr, wAsg, wNext, wBreak, wCont, gdTup, gdCons, gdNil, gdName, wIte, wAnd, wOr, DD.wNot, wTest, wNotT, wAndT, wOrT, wBin, wUn, wB, wCons, wNil, wVar, wC, wTup, wLst, mkL, wYes, wCall, wChain, startD, List.map_cons, List.map_nil, List.length_cons, List.length_nil, List.replicate, List.cons_append, List.nil_append, List.append_nil, List.getElem?_cons_zero, List.getElem?_cons_succ, List.set_cons_zero, List.set_cons_succ, Option.some.injEq, exists_eq_left', exists_eq_left, true_and, and_true, if_true, if_false, Bool.false_eq_true, gI, D.int.injEq, D.bl.injEq, D.str.injEq, wLc, wSrc, srcD, wSl, wSmO, wNoO, gSl, bodyC, wipeD, beq_self_eq_true, Bool.not_true, exists_and_left, List.cons.injEq, gLen3, D.ty.injEq, D.ref.injEq, D.tup.injEq, D.lst.injEq, and_assoc, tm_bool, tm_int, tm_str, tm_tuple, tm_list, tm_dict, gIsi, wIsi2, wRaise, gLe, gGt, gGe, DD.gSub, Prod.mk.injEq, gAdd_int, gMul_int, gInt_int, gInt_bl, wPut, lenD3_lst, lenD3_tup, lenD3_str, lenD3_dct, gIn3_str, gIn3_lst, gIn3_tup, gInS, gIn, spTake, hb]
    refine ⟨by omega, by omega, fun j j0 j1 => pick_ab l1 l2 j0 j1 fun c hc => hK _ _ ⟨rfl, zs ++ [c], by simp, ?_, ?_⟩⟩
    · rw [List.length_append, List.length_singleton]; omega
    · intro c' hc'
      rcases List.mem_append.mp hc' with h | h
      · exact hm c' h
      · rw [List.mem_singleton.mp h]; exact hc
  · rintro acc S1 ⟨rfl, zs, rfl, hl, hm⟩
    simp only [List.length_nil, Nat.add_zero] at hl
    refine ⟨trivial, [], _, _, zs.map fun c => [c], rfl, rfl, rfl, strsOf_signs zs, ?_, ?_⟩
    · rw [sum_ones]; simp; omega
    · rw [join_signs]
      exact outD_id (p zs (by omega) hm)
theorem fa__law_word {P : Program} {w : World} {K : PySem.W.Frag} {mg : Str → Option Value} {base : Heap} (h : Hd fa fn K mg) : FnAt P w K mg base "_law_word" (defArgs (HD.top 44)) (defBody (HD.top 44)) (defScope (HD.top 44)) ["box", "letters", "most"] 2 16777217 3 (sp__law_word) := by
  obtain ⟨fd, F⟩ := h.def_ 31
  have F : FunD K "_law_word" "_law_word" (defArgs (HD.top 44)) (defBody (HD.top 44)) (defScope (HD.top 44)) [] [] (ga K "_law_word") fd := F
  refine' fn_at (c := (0 + (((((0 + ((0 + 0) + 0)) + 1) + 0) + (2 ^ 24 * (0 + (0 + ((0 + (0 + 0)) + 1))))) + 0))) F (h.glo 51) sc__law_word rfl ?hc (b := w__law_word) (fun cdv A outer s H E hr => ?hb) (sat__law_word)
  case hb =>
    have hu : (cxOf (L2.CX P w) P w K mg base N__law_word "_law_word" (defScope (HD.top 44)) (ga K "_law_word") cdv A outer s H E).A.units + 100 < cLine := by
      show (A.deeper (envOfC "_law_word" (defScope (HD.top 44)) s.heap.objs.size (ga K "_law_word") cdv)).units + 100 < cLine
      have := hr.un
      omega
    have tk := takes_of (X := cxOf (L2.CX P w) P w K mg base N__law_word "_law_word" (defScope (HD.top 44)) (ga K "_law_word") cdv A outer s H E) rfl rfl rfl rfl
    have hp := passes_of (X := cxOf (L2.CX P w) P w K mg base N__law_word "_law_word" (defScope (HD.top 44)) (ga K "_law_word") cdv A outer s H E) rfl
    have D : DSs (cxOf (L2.CX P w) P w K mg base N__law_word "_law_word" (defScope (HD.top 44)) (ga K "_law_word") cdv A outer s H E) (fun cls d _ H' => E cls d H') (defBody (HD.top 44)) _ _ := (ds_one (ds_ret (d_join (d_str []) (da_cons (d_lc false rfl sc__law_word.nd (di_range1 (h.free 11) (da_cons (d_call (ok__law_take h) hr (by decide) tk (da_cons (d_var 0) (da_cons (d_add (d_var 2) d_int) da_nil))) da_nil)) (show BlkOk N__law_word (defScope (HD.top 44)) _ [("k", 3)] from blkOk_by (by decide +kernel)) (fun _ _ _ _ _ => (dg_name 3 sc__law_word.nd)) (fun _ _ _ _ _ => dts_nil) (fun _ _ _ _ _ => (d_ix3 hu (d_str [97, 98]) (d_call (ok__law_take h) hr (by decide) takesF (da_cons (d_var 0) (da_cons (d_var 1) da_nil)))))) da_nil))))
    exact D
  case hc => decide +kernel
theorem ok__law_word {P : Program} {w : World} {K : PySem.W.Frag} {mg : Str → Option Value} {base : Heap} (h : Hd fa fn K mg) : OkAt P w K mg base "_law_word" 2 16777217 3 (sp__law_word) := (fa__law_word h).ok (fun _ _ _ _ _ _ us hl => match us, hl with | [_, _, _], _ => rfl)
def sp__law_is_word : DD.Spec := fun ds S P _ => ∃ (l : Int) (d : D) (n : String), ds = [.int l, d] ∧ 1 ≤ l ∧ l ≤ 2 ∧ tyN S d = some n ∧ strOk d ∧ strPl d ∧ P (.bl (wordOk l d)) S
def N__law_is_word : List Str := ["letters", "value", "sign"]
theorem sc__law_is_word : FnScope N__law_is_word ["letters", "value"] (defScope (HD.top 45)) := ⟨rfl, rfl, rfl, by decide +kernel, rfl, by decide +kernel, by decide +kernel⟩
def w__law_is_word : WS :=
  (wRet (wAnd (wB gIsi (wCons (wVar 1) (wCons (wC (.ty "str")) wNil))) (wAnd (wBin gLe (wB gLen3 (wCons (wVar 1) wNil)) (wC (.int 130))) (wBin gEq (wLc false (wSrc (wVar 1)) (gdName 2) (wTest (wBin (gIn3 true) (wVar 2) (wSl false (wTup (wCons (wC (.str [97])) (wCons (wC (.str [98])) wNil))) wNoO (wSmO (wVar 0))))) (wVar 2) (List.map (fun p : Str × Nat => p.2) [("sign", 2)])) (wLst false wNil)))))
theorem sat__law_is_word : Sat' 2 N__law_is_word.length w__law_is_word sp__law_is_word := by
  rintro ds S P E - hS hd ⟨l, d, n, rfl, l1, l2, hn, hs, hpl, p⟩
  have h7 := isTy_of (tyN_mem hn)
  simp only [w__law_is_word, N__law_is_word, wRet, wRetN, wSeq, wSet, wIf, wPar, wPar3, wExpr, wAsg, wNext, wBreak, wCont, gdTup, gdCons, gdNil, gdName, wIte, wAnd, wOr, DD.wNot, wTest, wNotT, wAndT, wOrT, wBin, wUn, wB, wCons, wNil, wVar, wC, wTup, wLst, mkL, wYes, wCall, wChain, startD, List.map_cons, List.map_nil, List.length_cons, List.length_nil, List.replicate, List.cons_append, List.nil_append, List.append_nil, List.getElem?_cons_zero, List.getElem?_cons_succ, List.set_cons_zero, List.set_cons_succ, Option.some.injEq, exists_eq_left', exists_eq_left, true_and, and_true, if_true, if_false, Bool.false_eq_true, gI, D.int.injEq, D.bl.injEq, D.str.injEq, wLc, wSrc, srcD, wSl, wSmO, wNoO, gSl, bodyC, wipeD, beq_self_eq_true, Bool.not_true, exists_and_left, List.cons.injEq, gLen3, D.ty.injEq, D.ref.injEq, D.tup.injEq, D.lst.injEq, and_assoc, tm_bool, tm_int, tm_str, tm_tuple, tm_list, tm_dict, gIsi, wIsi2, wRaise, gLe, gGt, gGe, DD.gSub, Prod.mk.injEq, gAdd_int, gMul_int, gInt_int, gInt_bl, wPut, lenD3_lst, lenD3_tup, lenD3_str, lenD3_dct, gIn3_str, gIn3_lst, gIn3_tup, gInS, gIn, hn, h7]
  by_cases hstr : n = "str"
  · subst hstr
    obtain ⟨s, rfl⟩ := tyN_str.mp hn
    have hl := hs s rfl
    simp only [hl, wRet, wRetN, wSeq, wSet, wIf, wPar, wPar3, wExpr, wAsg, wNext, wBreak, wCont, gdTup, gdCons, gdNil, gdName, wIte, wAnd, wOr, DD.wNot, wTest, wNotT, wAndT, wOrT, wBin, wUn, wB, wCons, wNil, wVar, wC, wTup, wLst, mkL, wYes, wCall, wChain, startD, List.map_cons, List.map_nil, List.length_cons, List.length_nil, List.replicate, List.cons_append, List.nil_append, List.append_nil, List.getElem?_cons_zero, List.getElem?_cons_succ, List.set_cons_zero, List.set_cons_succ, Option.some.injEq, exists_eq_left', exists_eq_left, true_and, and_true, if_true, if_false, Bool.false_eq_true, gI, D.int.injEq, D.bl.injEq, D.str.injEq, wLc, wSrc, srcD, wSl, wSmO, wNoO, gSl, bodyC, wipeD, beq_self_eq_true, Bool.not_true, exists_and_left, List.cons.injEq, gLen3, D.ty.injEq, D.ref.injEq, D.tup.injEq, D.lst.injEq, and_assoc, tm_bool, tm_int, tm_str, tm_tuple, tm_list, tm_dict, gIsi, wIsi2, wRaise, gLe, gGt, gGe, DD.gSub, Prod.mk.injEq, gAdd_int, gMul_int, gInt_int, gInt_bl, wPut, lenD3_lst, lenD3_tup, lenD3_str, lenD3_dct, gIn3_str, gIn3_lst, gIn3_tup, gInS, gIn]
    by_cases h130 : s.length ≤ 130
    · rw [if_pos (by simp; omega)]
      refine loopC_pure (outSign (abL l)) trivial _ _ (fun x hx Q hQ => ?_) ?_
      · obtain ⟨c, hc, rfl⟩ := List.mem_map.mp hx
        simp only [wRet, wRetN, wSeq, wSet, wIf, wPar, wPar3, wExpr, wAsg, wNext, wBreak, wCont, gdTup, gdCons, gdNil, gdName, wIte, wAnd, wOr, DD.wNot, wTest, wNotT, wAndT, wOrT, wBin, wUn, wB, wCons, wNil, wVar, wC, wTup, wLst, mkL, wYes, wCall, wChain, startD, List.map_cons, List.map_nil, List.length_cons, List.length_nil, List.replicate, List.cons_append, List.nil_append, List.append_nil, List.getElem?_cons_zero, List.getElem?_cons_succ, List.set_cons_zero, List.set_cons_succ, Option.some.injEq, exists_eq_left', exists_eq_left, true_and, and_true, if_true, if_false, Bool.false_eq_true, gI, D.int.injEq, D.bl.injEq, D.str.injEq, wLc, wSrc, srcD, wSl, wSmO, wNoO, gSl, bodyC, wipeD, beq_self_eq_true, Bool.not_true, exists_and_left, List.cons.injEq, gLen3, D.ty.injEq, D.ref.injEq, D.tup.injEq, D.lst.injEq, and_assoc, tm_bool, tm_int, tm_str, tm_tuple, tm_list, tm_dict, gIsi, wIsi2, wRaise, gLe, gGt, gGe, DD.gSub, Prod.mk.injEq, gAdd_int, gMul_int, gInt_int, gInt_bl, wPut, lenD3_lst, lenD3_tup, lenD3_str, lenD3_dct, gIn3_str, gIn3_lst, gIn3_tup, gInS, gIn]
        refine ⟨by decide, (abL l).map fun c => D.str [c], congrArg some (cutD_map (fun c => D.str [c]) [97, 98] none (some l)), rfl, flat_signs _, ?_⟩
        rw [any_sign]
        by_cases hm : c ∈ abL l
        · rw [if_neg (by simp [hm])]
          have : outSign (abL l) (.str [c]) = none := if_pos hm
          rwa [this] at hQ
        · rw [if_pos (by simp [hm])]
          have : outSign (abL l) (.str [c]) = some (.str [c]) := if_neg hm
          rwa [this] at hQ
      · rw [List.nil_append, out_signs]
        refine ⟨by decide, eq_nil (plL_signs _ (hpl s rfl) _) (by rw [depL_signs]; decide) ?_⟩
        rw [out_empty]
        rw [wordOk, decide_eq_true h130, Bool.true_and] at p
        exact outD_id p
    · rw [if_neg (by simp; omega)]
      rw [wordOk, decide_eq_false h130, Bool.false_and] at p
      exact outD_id p
  · have hb : (n == "str") = false := by simpa using hstr
    simp only [hb, wRet, wRetN, wSeq, wSet, wIf, wPar, wPar3, wExpr, wAsg, wNext, wBreak, wCont, gdTup, gdCons, gdNil, gdName, wIte, wAnd, wOr, DD.wNot, wTest, wNotT, wAndT, wOrT, wBin, wUn, wB, wCons, wNil, wVar, wC, wTup, wLst, mkL, wYes, wCall, wChain, startD, List.map_cons, List.map_nil, List.length_cons, List.length_nil, List.replicate, List.cons_append, List.nil_append, List.append_nil, List.getElem?_cons_zero, List.getElem?_cons_succ, List.set_cons_zero, List.set_cons_succ, Option.some.injEq, exists_eq_left', exists_eq_left, true_and, and_true, if_true, if_false, Bool.false_eq_true, gI, D.int.injEq, D.bl.injEq, D.str.injEq, wLc, wSrc, srcD, wSl, wSmO, wNoO, gSl, bodyC, wipeD, beq_self_eq_true, Bool.not_true, exists_and_left, List.cons.injEq, gLen3, D.ty.injEq, D.ref.injEq, D.tup.injEq, D.lst.injEq, and_assoc, tm_bool, tm_int, tm_str, tm_tuple, tm_list, tm_dict, gIsi, wIsi2, wRaise, gLe, gGt, gGe, DD.gSub, Prod.mk.injEq, gAdd_int, gMul_int, gInt_int, gInt_bl, wPut, lenD3_lst, lenD3_tup, lenD3_str, lenD3_dct, gIn3_str, gIn3_lst, gIn3_tup, gInS, gIn]
    rw [wordOk_no hn hstr] at p
    exact outD_id p
theorem fa__law_is_word {P : Program} {w : World} {K : PySem.W.Frag} {mg : Str → Option Value} {base : Heap} (h : Hd fa fn K mg) : FnAt P w K mg base "_law_is_word" (defArgs (HD.top 45)) (defBody (HD.top 45)) (defScope (HD.top 45)) ["letters", "value"] 1 0 2 (sp__law_is_word) := by
  obtain ⟨fd, F⟩ := h.def_ 32
  have F : FunD K "_law_is_word" "_law_is_word" (defArgs (HD.top 45)) (defBody (HD.top 45)) (defScope (HD.top 45)) [] [] (ga K "_law_is_word") fd := F
  refine' fn_at (c := ((0 + (0 + 0)) + (((0 + 0) + 0) + ((0 + (2 ^ 24 * ((0 + (((0 + (0 + 0)) + 0) + 0)) + 0))) + 0)))) F (h.glo 52) sc__law_is_word rfl ?hc (b := w__law_is_word) (fun cdv A outer s H E hr => ?hb) (sat__law_is_word)
  case hb =>
    have hu : (cxOf (L2.CX P w) P w K mg base N__law_is_word "_law_is_word" (defScope (HD.top 45)) (ga K "_law_is_word") cdv A outer s H E).A.units + 100 < cLine := by
      show (A.deeper (envOfC "_law_is_word" (defScope (HD.top 45)) s.heap.objs.size (ga K "_law_is_word") cdv)).units + 100 < cLine
      have := hr.un
      omega
    have tk := takes_of (X := cxOf (L2.CX P w) P w K mg base N__law_is_word "_law_is_word" (defScope (HD.top 45)) (ga K "_law_is_word") cdv A outer s H E) rfl rfl rfl rfl
    have hp := passes_of (X := cxOf (L2.CX P w) P w K mg base N__law_is_word "_law_is_word" (defScope (HD.top 45)) (ga K "_law_is_word") cdv A outer s H E) rfl
    have D : DSs (cxOf (L2.CX P w) P w K mg base N__law_is_word "_law_is_word" (defScope (HD.top 45)) (ga K "_law_is_word") cdv A outer s H E) (fun cls d _ H' => E cls d H') (defBody (HD.top 45)) _ _ := (ds_one (ds_ret (d_and (d_callB call_isi cd_isi (h.free 6) (da_cons (d_var 1) (da_cons (d_ty "str" (h.free 13)) da_nil))) (d_and (d_le (d_len3 (h.free 7) (da_cons (d_var 1) da_nil)) d_int) (d_one (d_eq hu (d_lc false rfl sc__law_is_word.nd (di_any (d_var 1)) (show BlkOk N__law_is_word (defScope (HD.top 45)) _ [("sign", 2)] from blkOk_by (by decide +kernel)) (fun _ _ _ _ _ => (dg_name 2 sc__law_is_word.nd)) (fun _ _ _ _ _ => (dts_one (dt_nin3 hu (d_var 2) (d_sl false (d_tup (da_cons (d_str [97]) (da_cons (d_str [98]) da_nil))) do_none (do_some (d_var 0)))))) (fun _ _ _ _ _ => (d_var 2))) (d_lst false da_nil)))))))
    exact D
  case hc => decide +kernel
theorem ok__law_is_word {P : Program} {w : World} {K : PySem.W.Frag} {mg : Str → Option Value} {base : Heap} (h : Hd fa fn K mg) : OkAt P w K mg base "_law_is_word" 1 0 2 (sp__law_is_word) := (fa__law_is_word h).ok (fun _ _ _ _ _ _ us hl => match us, hl with | [_, _], _ => rfl)
def sp__law_near_word : DD.Spec := fun ds S P _ => ∃ (b : Nat) (l : Int), ds = [.ref b, .int l] ∧ S[b]? = some (some .box) ∧ 1 ≤ l ∧ l ≤ 2 ∧ ∀ d, Nice d → P d S
def N__law_near_word : List Str := ["box", "letters", "word", "pick", "at", "some"]
theorem sc__law_near_word : FnScope N__law_near_word ["box", "letters"] (defScope (HD.top 46)) := ⟨rfl, rfl, rfl, by decide +kernel, rfl, by decide +kernel, by decide +kernel⟩
def w__law_near_word : WS :=
  (wSeq (wPar 2 3 (wCons (wCall 3 (sp__law_word) (wCons (wVar 0) (wCons (wVar 1) (wCons (wC (.int 5)) wNil)))) (wCons (wCall 2 (spTake) (wCons (wVar 0) (wCons (wC (.int 14)) wNil))) wNil)))
  (wSeq (wSet 4 (wCall 2 (spTake) (wCons (wVar 0) (wCons (wBin gAdd (wB gLen3 (wCons (wVar 2) wNil)) (wC (.int 1))) wNil))))
  (wSeq (wSet 5 (wLst false (wCons (wVar 2) (wCons (wBin gAdd (wBin gAdd (wSl false (wVar 2) wNoO (wSmO (wVar 4))) (wC (.str [98]))) (wSl false (wVar 2) (wSmO (wVar 4)) wNoO)) (wCons (wBin gAdd (wBin gAdd (wSl false (wVar 2) wNoO (wSmO (wVar 4))) (wC (.str [99]))) (wSl false (wVar 2) (wSmO (wVar 4)) wNoO)) (wCons (wBin gAdd (wBin gAdd (wSl false (wVar 2) wNoO (wSmO (wVar 4))) (wC (.str [65]))) (wSl false (wVar 2) (wSmO (wVar 4)) wNoO)) (wCons (wBin gAdd (wBin gAdd (wSl false (wVar 2) wNoO (wSmO (wVar 4))) (wC (.str [32]))) (wSl false (wVar 2) (wSmO (wVar 4)) wNoO)) (wCons (wBin gMul (wC (.str [97])) (wC (.int 130))) (wCons (wBin gMul (wC (.str [97])) (wC (.int 131))) wNil)))))))))
  (wRet (wBin gIx3 (wBin gAdd (wVar 5) (wLst false (wCons (wTup (wCons (wVar 2) wNil)) (wCons (wLst false (wCons (wVar 2) wNil)) (wCons (wC .non) (wCons (wB gLen3 (wCons (wVar 2) wNil)) (wCons (wC (.bl true)) (wCons (wBin gAdd (wVar 2) (wC (.str [10]))) (wCons (wBin gAdd (wBin gMul (wC (.str [97, 98])) (wC (.int 65))) (wSl false (wC (.str [97])) wNoO (wSmO (wBin gMod (wB gInt (wCons (wVar 4) wNil)) (wC (.int 2)))))) wNil))))))))) (wVar 3))))))
theorem sat__law_near_word : Sat' 2 N__law_near_word.length w__law_near_word sp__law_near_word := by
  rintro ds S P E - hS hd ⟨b, l, rfl, hb, l1, l2, p⟩
  have hz := sizeLine_eq
  simp only [w__law_near_word, N__law_near_word, wRet, wRetN, wSeq, wSet, wIf, wPar, wPar3, wExpr, wAsg, wNext, wBreak, wCont, gdTup, gdCons, gdNil, gdName, wIte, wAnd, wOr, DD.wNot, wTest, wNotT, wAndT, wOrT, wBin, wUn, wB, wCons, wNil, wVar, wC, wTup, wLst, mkL, wYes, wCall, wChain, startD, List.map_cons, List.map_nil, List.length_cons, List.length_nil, List.replicate, List.cons_append, List.nil_append, List.append_nil, List.getElem?_cons_zero, List.getElem?_cons_succ, List.set_cons_zero, List.set_cons_succ, Option.some.injEq, exists_eq_left', exists_eq_left, true_and, and_true, if_true, if_false, Bool.false_eq_true, gI, D.int.injEq, D.bl.injEq, D.str.injEq, wLc, wSrc, srcD, wSl, wSmO, wNoO, gSl, bodyC, wipeD, beq_self_eq_true, Bool.not_true, exists_and_left, List.cons.injEq, gLen3, D.ty.injEq, D.ref.injEq, D.tup.injEq, D.lst.injEq, and_assoc, tm_bool, tm_int, tm_str, tm_tuple, tm_list, tm_dict, gIsi, wIsi2, wRaise, gLe, gGt, gGe, DD.gSub, Prod.mk.injEq, gAdd_int, gMul_int, gInt_int, gInt_bl, wPut, lenD3_lst, lenD3_tup, lenD3_str, lenD3_dct, gIn3_str, gIn3_lst, gIn3_tup, gInS, gIn, spTake, hb, sp__law_word]
  refine ⟨l1, l2, by decide, by decide, fun s hs hc => ⟨by decide, by decide, fun i i0 i1 => ?_⟩⟩
  have hs2 : s.length ≤ sizeLine := by omega
  simp only [hs2, wRet, wRetN, wSeq, wSet, wIf, wPar, wPar3, wExpr, wAsg, wNext, wBreak, wCont, gdTup, gdCons, gdNil, gdName, wIte, wAnd, wOr, DD.wNot, wTest, wNotT, wAndT, wOrT, wBin, wUn, wB, wCons, wNil, wVar, wC, wTup, wLst, mkL, wYes, wCall, wChain, startD, List.map_cons, List.map_nil, List.length_cons, List.length_nil, List.replicate, List.cons_append, List.nil_append, List.append_nil, List.getElem?_cons_zero, List.getElem?_cons_succ, List.set_cons_zero, List.set_cons_succ, Option.some.injEq, exists_eq_left', exists_eq_left, true_and, and_true, if_true, if_false, Bool.false_eq_true, gI, D.int.injEq, D.bl.injEq, D.str.injEq, wLc, wSrc, srcD, wSl, wSmO, wNoO, gSl, bodyC, wipeD, beq_self_eq_true, Bool.not_true, exists_and_left, List.cons.injEq, gLen3, D.ty.injEq, D.ref.injEq, D.tup.injEq, D.lst.injEq, and_assoc, tm_bool, tm_int, tm_str, tm_tuple, tm_list, tm_dict, gIsi, wIsi2, wRaise, gLe, gGt, gGe, DD.gSub, Prod.mk.injEq, gAdd_int, gMul_int, gInt_int, gInt_bl, wPut, lenD3_lst, lenD3_tup, lenD3_str, lenD3_dct, gIn3_str, gIn3_lst, gIn3_tup, gInS, gIn]
  have h5 : sOk 5 s := sOk.ab (by omega) hc
  refine ⟨by omega, by omega, fun a a0 a1 => ?_⟩
  have hp : ∀ a b, sOk 5 (DD.cutD s a b) := h5.cut
  refine (hp _ _).add (m := 1) (by exact ⟨by decide, rfl⟩) (by decide) fun z1 k1 => k1.add (hp _ _) (by decide) fun w1 h1 => ?_
  refine (hp _ _).add (m := 1) (by exact ⟨by decide, rfl⟩) (by decide) fun z2 k2 => k2.add (hp _ _) (by decide) fun w2 h2 => ?_
  refine (hp _ _).add (m := 1) (by exact ⟨by decide, rfl⟩) (by decide) fun z3 k3 => k3.add (hp _ _) (by decide) fun w3 h3 => ?_
  refine (hp _ _).add (m := 1) (by exact ⟨by decide, rfl⟩) (by decide) fun z4 k4 => k4.add (hp _ _) (by decide) fun w4 h4 => ?_
  refine ⟨by decide, by decide, by decide, by decide, by decide, by decide, by decide, by decide, by decide, ?_⟩
  refine h5.add (m := 1) (by exact ⟨by decide, rfl⟩) (by decide) fun z6 h6 => ⟨by decide, by decide, by decide, by decide, by decide, ?_⟩
  have e7 : sOk 130 (List.replicate (65 : Int).toNat [97, 98]).flatten := ⟨by decide, by decide⟩
  refine e7.add (sOk.cut (n := 1) ⟨by decide, rfl⟩ _ _) (by decide) fun z7 h7 => ⟨by decide, ?_⟩
  refine add_lst (by show 14 ≤ sizeLine; decide) (pick_lst i0 i1 fun d hd => outD_id (p d ?_))
  have q1 : Nice (.str (List.replicate (130 : Int).toNat [97]).flatten) := .str _ (by decide) (by decide)
  have q2 : Nice (.str (List.replicate (131 : Int).toNat [97]).flatten) := .str _ (by decide) (by decide)
  have nc : ∀ {n : Nat} {s : List Nat}, n ≤ 1000 → sOk n s → Nice (.str s) := fun hn h => .str _ (Nat.le_trans h.1 hn) h.2
  simp only [List.cons_append, List.nil_append, List.mem_cons, List.not_mem_nil, or_false] at hd
  rcases hd with rfl | rfl | rfl | rfl | rfl | rfl | rfl | rfl | rfl | rfl | rfl | rfl | rfl | rfl
  · exact nc (by decide) h5
  · exact nc (by decide) h1
  · exact nc (by decide) h2
  · exact nc (by decide) h3
  · exact nc (by decide) h4
  · exact q1
  · exact q2
  · exact .tup _ (Nat.le_trans h5.1 (by decide)) h5.2
  · exact .lst _ (Nat.le_trans h5.1 (by decide)) h5.2
  · exact .non
  · exact .int _
  · exact .bl _
  · exact nc (by decide) h6
  · exact nc (by decide) h7
theorem fa__law_near_word {P : Program} {w : World} {K : PySem.W.Frag} {mg : Str → Option Value} {base : Heap} (h : Hd fa fn K mg) : FnAt P w K mg base "_law_near_word" (defArgs (HD.top 46)) (defBody (HD.top 46)) (defScope (HD.top 46)) ["box", "letters"] 3 16777219 2 (sp__law_near_word) := by
  obtain ⟨fd, F⟩ := h.def_ 33
  have F : FunD K "_law_near_word" "_law_near_word" (defArgs (HD.top 46)) (defBody (HD.top 46)) (defScope (HD.top 46)) [] [] (ga K "_law_near_word") fd := F
  refine' fn_at (c := ((((0 + (0 + (0 + 0))) + 16777217) + (((0 + (0 + 0)) + 1) + 0)) + (((0 + (((0 + 0) + 0) + 0)) + 1) + ((0 + (((((0 + 0) + 0) + 0) + ((0 + 0) + 0)) + (((((0 + 0) + 0) + 0) + ((0 + 0) + 0)) + (((((0 + 0) + 0) + 0) + ((0 + 0) + 0)) + (((((0 + 0) + 0) + 0) + ((0 + 0) + 0)) + ((0 + 0) + ((0 + 0) + 0))))))) + ((0 + ((0 + 0) + ((0 + 0) + (0 + ((0 + 0) + (0 + ((0 + 0) + (((0 + 0) + ((0 + 0) + ((0 + 0) + 0))) + 0)))))))) + 0))))) F (h.glo 53) sc__law_near_word rfl ?hc (b := w__law_near_word) (fun cdv A outer s H E hr => ?hb) (sat__law_near_word)
  case hb =>
    have hu : (cxOf (L2.CX P w) P w K mg base N__law_near_word "_law_near_word" (defScope (HD.top 46)) (ga K "_law_near_word") cdv A outer s H E).A.units + 100 < cLine := by
      show (A.deeper (envOfC "_law_near_word" (defScope (HD.top 46)) s.heap.objs.size (ga K "_law_near_word") cdv)).units + 100 < cLine
      have := hr.un
      omega
    have tk := takes_of (X := cxOf (L2.CX P w) P w K mg base N__law_near_word "_law_near_word" (defScope (HD.top 46)) (ga K "_law_near_word") cdv A outer s H E) rfl rfl rfl rfl
    have hp := passes_of (X := cxOf (L2.CX P w) P w K mg base N__law_near_word "_law_near_word" (defScope (HD.top 46)) (ga K "_law_near_word") cdv A outer s H E) rfl
    have D : DSs (cxOf (L2.CX P w) P w K mg base N__law_near_word "_law_near_word" (defScope (HD.top 46)) (ga K "_law_near_word") cdv A outer s H E) (fun cls d _ H' => E cls d H') (defBody (HD.top 46)) _ _ := (ds_cons (ds_par 2 3 rfl sc__law_near_word.nd (da_cons (d_call (ok__law_word h) hr (by decide) tk (da_cons (d_var 0) (da_cons (d_var 1) (da_cons d_int da_nil)))) (da_cons (d_call (ok__law_take h) hr (by decide) tk (da_cons (d_var 0) (da_cons d_int da_nil))) da_nil)))
    (ds_cons (ds_set 4 sc__law_near_word.nd (d_call (ok__law_take h) hr (by decide) tk (da_cons (d_var 0) (da_cons (d_add (d_len3 (h.free 7) (da_cons (d_var 2) da_nil)) d_int) da_nil))))
    (ds_cons (ds_set 5 sc__law_near_word.nd (d_lst false (da_cons (d_var 2) (da_cons (d_add (d_add (d_sl false (d_var 2) do_none (do_some (d_var 4))) (d_str [98])) (d_sl false (d_var 2) (do_some (d_var 4)) do_none)) (da_cons (d_add (d_add (d_sl false (d_var 2) do_none (do_some (d_var 4))) (d_str [99])) (d_sl false (d_var 2) (do_some (d_var 4)) do_none)) (da_cons (d_add (d_add (d_sl false (d_var 2) do_none (do_some (d_var 4))) (d_str [65])) (d_sl false (d_var 2) (do_some (d_var 4)) do_none)) (da_cons (d_add (d_add (d_sl false (d_var 2) do_none (do_some (d_var 4))) (d_str [32])) (d_sl false (d_var 2) (do_some (d_var 4)) do_none)) (da_cons (d_mul (d_str [97]) d_int) (da_cons (d_mul (d_str [97]) d_int) da_nil)))))))))
    (ds_one (ds_ret (d_ix3 hu (d_add (d_var 5) (d_lst false (da_cons (d_tup (da_cons (d_var 2) da_nil)) (da_cons (d_lst false (da_cons (d_var 2) da_nil)) (da_cons d_non (da_cons (d_len3 (h.free 7) (da_cons (d_var 2) da_nil)) (da_cons d_bl (da_cons (d_add (d_var 2) (d_str [10])) (da_cons (d_add (d_mul (d_str [97, 98]) d_int) (d_sl false (d_str [97]) do_none (do_some (d_mod (d_callTy call_int1 cd_int (h.free 5) (da_cons (d_var 4) da_nil)) d_int)))) da_nil))))))))) (d_var 3)))))))
    exact D
  case hc => decide +kernel
theorem ok__law_near_word {P : Program} {w : World} {K : PySem.W.Frag} {mg : Str → Option Value} {base : Heap} (h : Hd fa fn K mg) : OkAt P w K mg base "_law_near_word" 3 16777219 2 (sp__law_near_word) := (fa__law_near_word h).ok (fun _ _ _ _ _ _ us hl => match us, hl with | [_, _], _ => rfl)
def noLet : List D := [.int 0, .int 3, .bl true, .non, .str [50], .tup [.int 1], .lst [.int 2], .int (-1), .str [97, 98], .bl false, .str [97], .int 10]
def sp__law_no_letters : DD.Spec := fun ds S P _ => ∃ (b : Nat), ds = [.ref b] ∧ S[b]? = some (some .box) ∧ ∀ d ∈ noLet, P d S
def N__law_no_letters : List Str := ["box"]
theorem sc__law_no_letters : FnScope N__law_no_letters ["box"] (defScope (HD.top 47)) := ⟨rfl, rfl, rfl, by decide +kernel, rfl, by decide +kernel, by decide +kernel⟩
def w__law_no_letters : WS :=
  (wRet (wBin gIx3 (wLst false (wCons (wC (.int 0)) (wCons (wC (.int 3)) (wCons (wC (.bl true)) (wCons (wC .non) (wCons (wC (.str [50])) (wCons (wTup (wCons (wC (.int 1)) wNil)) (wCons (wLst false (wCons (wC (.int 2)) wNil)) (wCons (wUn gNeg (wC (.int 1))) (wCons (wC (.str [97, 98])) (wCons (wC (.bl false)) (wCons (wC (.str [97])) (wCons (wC (.int 10)) wNil))))))))))))) (wCall 2 (spTake) (wCons (wVar 0) (wCons (wC (.int 12)) wNil)))))
theorem sat__law_no_letters : Sat' 1 N__law_no_letters.length w__law_no_letters sp__law_no_letters := by
  rintro ds S P E - hS hd ⟨b, rfl, hb, p⟩
  simp only [w__law_no_letters, N__law_no_letters, wRet, wRetN, wSeq, wSet, wIf, wPar, wPar3, wExpr, wAsg, wNext, wBreak, wCont, gdTup, gdCons, gdNil, gdName, wIte, wAnd, wOr, DD.wNot, wTest, wNotT, wAndT, wOrT, wBin, wUn, wB, wCons, wNil, wVar, wC, wTup, wLst, mkL, wYes, wCall, wChain, startD, List.map_cons, List.map_nil, List.length_cons, List.length_nil, List.replicate, List.cons_append, List.nil_append, List.append_nil, List.getElem?_cons_zero, List.getElem?_cons_succ, List.set_cons_zero, List.set_cons_succ, Option.some.injEq, exists_eq_left', exists_eq_left, true_and, and_true, if_true, if_false, Bool.false_eq_true, gI, D.int.injEq, D.bl.injEq, D.str.injEq, wLc, wSrc, srcD, wSl, wSmO, wNoO, gSl, bodyC, wipeD, beq_self_eq_true, Bool.not_true, exists_and_left, List.cons.injEq, gLen3, D.ty.injEq, D.ref.injEq, D.tup.injEq, D.lst.injEq, and_assoc, tm_bool, tm_int, tm_str, tm_tuple, tm_list, tm_dict, gIsi, wIsi2, wRaise, gLe, gGt, gGe, DD.gSub, Prod.mk.injEq, gAdd_int, gMul_int, gInt_int, gInt_bl, wPut, lenD3_lst, lenD3_tup, lenD3_str, lenD3_dct, gIn3_str, gIn3_lst, gIn3_tup, gInS, gIn]
  refine ⟨by decide, by decide, 1, rfl, by decide, b, 12, rfl, hb, by decide, by decide, fun i i0 i1 => ?_⟩
  exact pick_lst i0 i1 fun d hd => outD_id (p d hd)
theorem fa__law_no_letters {P : Program} {w : World} {K : PySem.W.Frag} {mg : Str → Option Value} {base : Heap} (h : Hd fa fn K mg) : FnAt P w K mg base "_law_no_letters" (defArgs (HD.top 47)) (defBody (HD.top 47)) (defScope (HD.top 47)) ["box"] 2 1 1 (sp__law_no_letters) := by
  obtain ⟨fd, F⟩ := h.def_ 34
  have F : FunD K "_law_no_letters" "_law_no_letters" (defArgs (HD.top 47)) (defBody (HD.top 47)) (defScope (HD.top 47)) [] [] (ga K "_law_no_letters") fd := F
  refine' fn_at (c := ((0 + (0 + (0 + (0 + (0 + ((0 + 0) + ((0 + 0) + (0 + (0 + (0 + (0 + (0 + 0)))))))))))) + ((0 + (0 + 0)) + 1))) F (h.glo 54) sc__law_no_letters rfl ?hc (b := w__law_no_letters) (fun cdv A outer s H E hr => ?hb) (sat__law_no_letters)
  case hb =>
    have hu : (cxOf (L2.CX P w) P w K mg base N__law_no_letters "_law_no_letters" (defScope (HD.top 47)) (ga K "_law_no_letters") cdv A outer s H E).A.units + 100 < cLine := by
      show (A.deeper (envOfC "_law_no_letters" (defScope (HD.top 47)) s.heap.objs.size (ga K "_law_no_letters") cdv)).units + 100 < cLine
      have := hr.un
      omega
    have tk := takes_of (X := cxOf (L2.CX P w) P w K mg base N__law_no_letters "_law_no_letters" (defScope (HD.top 47)) (ga K "_law_no_letters") cdv A outer s H E) rfl rfl rfl rfl
    have hp := passes_of (X := cxOf (L2.CX P w) P w K mg base N__law_no_letters "_law_no_letters" (defScope (HD.top 47)) (ga K "_law_no_letters") cdv A outer s H E) rfl
    have D : DSs (cxOf (L2.CX P w) P w K mg base N__law_no_letters "_law_no_letters" (defScope (HD.top 47)) (ga K "_law_no_letters") cdv A outer s H E) (fun cls d _ H' => E cls d H') (defBody (HD.top 47)) _ _ := (ds_one (ds_ret (d_ix3 hu (d_lst false (da_cons d_int (da_cons d_int (da_cons d_bl (da_cons d_non (da_cons (d_str [50]) (da_cons (d_tup (da_cons d_int da_nil)) (da_cons (d_lst false (da_cons d_int da_nil)) (da_cons (d_neg d_int) (da_cons (d_str [97, 98]) (da_cons d_bl (da_cons (d_str [97]) (da_cons d_int da_nil))))))))))))) (d_call (ok__law_take h) hr (by decide) tk (da_cons (d_var 0) (da_cons d_int da_nil))))))
    exact D
  case hc => decide +kernel
theorem ok__law_no_letters {P : Program} {w : World} {K : PySem.W.Frag} {mg : Str → Option Value} {base : Heap} (h : Hd fa fn K mg) : OkAt P w K mg base "_law_no_letters" 2 1 1 (sp__law_no_letters) := (fa__law_no_letters h).ok (fun _ _ _ _ _ _ us hl => match us, hl with | [_], _ => rfl)
def sp__law_no_words : DD.Spec := fun ds S P _ => ∃ (b : Nat) (l : Int) (zs : List (List Nat)), ds = [.ref b, .int l, .lst (zs.map D.str), .int 400] ∧ S[b]? = some (some .box) ∧ 1 ≤ l ∧ l ≤ 2 ∧ zs.length ≤ 5 ∧ (∀ z ∈ zs, z.length ≤ 100 ∧ ∀ c ∈ z, c ∈ abL l) ∧ ∀ d, BadWs l d → P d S
theorem noWs_bad {l : Int} {w : D} {zs : List (List Nat)} {a : Int} (hw : Nice w) (hw2 : wordOk l w = false) (hzl : zs.length ≤ 5) (hzs : ∀ z ∈ zs, z.length ≤ 100 ∧ ∀ c ∈ z, c ∈ abL l) (x : D)
    (hx : x ∈ [D.lst (DD.cutD (List.map D.str zs) none (some a) ++ [w] ++ DD.cutD (List.map D.str zs) (some a) none), D.tup (DD.cutD (List.map D.str zs) none (some a) ++ [w] ++ DD.cutD (List.map D.str zs) (some a) none), D.lst (List.replicate (400 + 1 : Int).toNat [D.str [97]]).flatten, D.str [97, 98], D.non, D.dct (mergeD [] [(.inr (S' [97]), D.str [98])]), D.lst [w], D.lst [D.lst (List.map D.str zs ++ [D.str [97]])]]) : BadWs l x := by
  have e1 : ∀ x ∈ DD.cutD (List.map D.str zs) none (some a) ++ [w] ++ DD.cutD (List.map D.str zs) (some a) none, Nice2 x := by
    intro y hy
    rcases List.mem_append.mp hy with hy | hy
    · rcases List.mem_append.mp hy with hy | hy
      · obtain ⟨z, hz, rfl⟩ := List.mem_map.mp (cutD_mem hy)
        exact .inl (str_nice (hzs z hz))
      · rw [List.mem_singleton.mp hy]; exact .inl hw
    · obtain ⟨z, hz, rfl⟩ := List.mem_map.mp (cutD_mem hy)
      exact .inl (str_nice (hzs z hz))
  have e2 : (decide ((DD.cutD (List.map D.str zs) none (some a) ++ [w] ++ DD.cutD (List.map D.str zs) (some a) none).length ≤ 400) && (DD.cutD (List.map D.str zs) none (some a) ++ [w] ++ DD.cutD (List.map D.str zs) (some a) none).all (wordOk l)) = false := by
    simp [hw2]
  have e3 : (DD.cutD (List.map D.str zs) none (some a) ++ [w] ++ DD.cutD (List.map D.str zs) (some a) none).length ≤ 401 := by
    have c1 := cutD_len (zs.map D.str) none (some a)
    have c2 := cutD_len (zs.map D.str) (some a) none
    rw [List.length_map] at c1 c2
    simp only [List.length_append, List.length_cons, List.length_nil]
    omega
  simp only [List.mem_cons, List.not_mem_nil, or_false] at hx
  rcases hx with rfl | rfl | rfl | rfl | rfl | rfl | rfl | rfl
  · exact .inl ⟨_, .inl rfl, e3, e1, e2⟩
  · exact .inl ⟨_, .inr rfl, e3, e1, e2⟩
  · refine .inl ⟨_, .inl rfl, by decide, ?_, by simp⟩
    intro y hy
    have : y = .str [97] := by simpa using hy
    rw [this]
    exact .inl (.str _ (by decide) (by decide))
  · exact .inr (.inl rfl)
  · exact .inr (.inr (.inl rfl))
  · exact .inr (.inr (.inr rfl))
  · refine .inl ⟨_, .inl rfl, by simp, ?_, by simp [hw2]⟩
    intro y hy
    rw [List.mem_singleton.mp hy]
    exact .inl hw
  · refine .inl ⟨_, .inl rfl, by simp, ?_, by simp [wordOk]⟩
    intro y hy
    rw [List.mem_singleton.mp hy]
    refine .inr ⟨zs ++ [[97]], by simp, by simp; omega, ?_⟩
    intro z hz
    rcases List.mem_append.mp hz with hz | hz
    · have := (hzs z hz).1; omega
    · rw [List.mem_singleton.mp hz]; decide
def N__law_no_words : List Str := ["box", "letters", "good", "most", "word", "pick", "at", "lists"]
theorem sc__law_no_words : FnScope N__law_no_words ["box", "letters", "good", "most"] (defScope (HD.top 48)) := ⟨rfl, rfl, rfl, by decide +kernel, rfl, by decide +kernel, by decide +kernel⟩
def w__law_no_words : WS :=
  (wSeq (wPar 4 5 (wCons (wCall 2 (sp__law_near_word) (wCons (wVar 0) (wCons (wVar 1) wNil))) (wCons (wCall 2 (spTake) (wCons (wVar 0) (wCons (wC (.int 8)) wNil))) wNil)))
  (wSeq (wSet 4 (wIte (wNotT (wTest (wCall 2 (sp__law_is_word) (wCons (wVar 1) (wCons (wVar 4) wNil))))) (wVar 4) (wC (.str [99]))))
  (wSeq (wSet 6 (wCall 2 (spTake) (wCons (wVar 0) (wCons (wBin gAdd (wB gLen3 (wCons (wVar 2) wNil)) (wC (.int 1))) wNil))))
  (wSeq (wSet 7 (wLst false (wCons (wBin gAdd (wBin gAdd (wSl false (wVar 2) wNoO (wSmO (wVar 6))) (wLst false (wCons (wVar 4) wNil))) (wSl false (wVar 2) (wSmO (wVar 6)) wNoO)) (wCons (wB gTupOf (wCons (wBin gAdd (wBin gAdd (wSl false (wVar 2) wNoO (wSmO (wVar 6))) (wLst false (wCons (wVar 4) wNil))) (wSl false (wVar 2) (wSmO (wVar 6)) wNoO)) wNil)) (wCons (wBin gMul (wLst false (wCons (wC (.str [97])) wNil)) (wBin gAdd (wVar 3) (wC (.int 1)))) (wCons (wC (.str [97, 98])) (wCons (wC .non) (wCons (wFz (wDisp (((0, (wC (.str [97]))), (0, (wC (.str [98])))) :: []))) (wCons (wLst false (wCons (wVar 4) wNil)) (wCons (wLst false (wCons (wBin gAdd (wVar 2) (wLst false (wCons (wC (.str [97])) wNil))) wNil)) wNil))))))))))
  (wRet (wBin gIx3 (wVar 7) (wVar 5)))))))
theorem sat__law_no_words : Sat' 4 N__law_no_words.length w__law_no_words sp__law_no_words := by
  rintro ds S P E - hS hd ⟨b, l, zs, rfl, hb, l1, l2, hzl, hzs, p⟩
  have hz := sizeLine_eq
  simp only [w__law_no_words, N__law_no_words, wRet, wRetN, wSeq, wSet, wIf, wPar, wPar3, wExpr, wAsg, wNext, wBreak, wCont, gdTup, gdCons, gdNil, gdName, wIte, wAnd, wOr, DD.wNot, wTest, wNotT, wAndT, wOrT, wBin, wUn, wB, wCons, wNil, wVar, wC, wTup, wLst, mkL, wYes, wCall, wChain, startD, List.map_cons, List.map_nil, List.length_cons, List.length_nil, List.replicate, List.cons_append, List.nil_append, List.append_nil, List.getElem?_cons_zero, List.getElem?_cons_succ, List.set_cons_zero, List.set_cons_succ, Option.some.injEq, exists_eq_left', exists_eq_left, true_and, and_true, if_true, if_false, Bool.false_eq_true, gI, D.int.injEq, D.bl.injEq, D.str.injEq, wLc, wSrc, srcD, wSl, wSmO, wNoO, gSl, bodyC, wipeD, beq_self_eq_true, Bool.not_true, exists_and_left, List.cons.injEq, gLen3, D.ty.injEq, D.ref.injEq, D.tup.injEq, D.lst.injEq, and_assoc, tm_bool, tm_int, tm_str, tm_tuple, tm_list, tm_dict, gIsi, wIsi2, wRaise, gLe, gGt, gGe, DD.gSub, Prod.mk.injEq, gAdd_int, gMul_int, gInt_int, gInt_bl, wPut, lenD3_lst, lenD3_tup, lenD3_str, lenD3_dct, gIn3_str, gIn3_lst, gIn3_tup, gInS, gIn, spTake, hb, sp__law_near_word, sp__law_is_word]
  refine ⟨l1, l2, fun d hd => ⟨by decide, by decide, fun i i0 i1 => ⟨l1, l2, ?_⟩⟩⟩
  obtain ⟨n, hn⟩ := hd.ty (S := S)
  refine ⟨n, hn, hd.ok, hd.spl, ?_⟩
  have key : ∃ w, Nice w ∧ wordOk l w = false ∧ (if (!wordOk l d) = true then d else .str [99]) = w := by
    cases e : wordOk l d with
    | false => exact ⟨d, hd, e, rfl⟩
    | true =>
      refine ⟨_, .str [99] (by decide) (by decide), ?_, rfl⟩
      show (decide (1 ≤ 130) && ([99].all fun c => decide (c ∈ abL l))) = false
      have : 99 ∉ abL l := fun h => by rcases abL_sign h with h | h <;> cases h
      simp [this]
  obtain ⟨w, hw, hw2, hw3⟩ := key
  split at hw3
  all_goals
    rename_i he
    subst hw3
    first | rw [if_pos he] | rw [if_neg he]
    rw [List.length_map]
    refine ⟨by omega, by omega, fun a a0 a1 => ⟨_, rfl, by decide, ?_⟩⟩
    have c1 := cutD_len (zs.map D.str) none (some a)
    have c2 := cutD_len (zs.map D.str) (some a) none
    rw [List.length_map] at c1 c2
    refine add_lst (by simp only [List.length_cons, List.length_nil]; omega) ⟨_, rfl, add_lst (by simp only [List.length_append, List.length_cons, List.length_nil]; omega) ⟨_, rfl, by decide, add_lst (by simp only [List.length_cons, List.length_nil]; omega) ⟨_, rfl, add_lst (by simp only [List.length_append, List.length_cons, List.length_nil]; omega) ⟨_, _, rfl, rfl, by decide, _, rfl, by decide, by decide, by decide, ?_⟩⟩⟩⟩
    simp only [wFz, wDisp, wPrs, keysOf, wRet, wRetN, wSeq, wSet, wIf, wPar, wPar3, wExpr, wAsg, wNext, wBreak, wCont, gdTup, gdCons, gdNil, gdName, wIte, wAnd, wOr, DD.wNot, wTest, wNotT, wAndT, wOrT, wBin, wUn, wB, wCons, wNil, wVar, wC, wTup, wLst, mkL, wYes, wCall, wChain, startD, List.map_cons, List.map_nil, List.length_cons, List.length_nil, List.replicate, List.cons_append, List.nil_append, List.append_nil, List.getElem?_cons_zero, List.getElem?_cons_succ, List.set_cons_zero, List.set_cons_succ, Option.some.injEq, exists_eq_left', exists_eq_left, true_and, and_true, if_true, if_false, Bool.false_eq_true, gI, D.int.injEq, D.bl.injEq, D.str.injEq, wLc, wSrc, srcD, wSl, wSmO, wNoO, gSl, bodyC, wipeD, beq_self_eq_true, Bool.not_true, exists_and_left, List.cons.injEq, gLen3, D.ty.injEq, D.ref.injEq, D.tup.injEq, D.lst.injEq, and_assoc, tm_bool, tm_int, tm_str, tm_tuple, tm_list, tm_dict, gIsi, wIsi2, wRaise, gLe, gGt, gGe, DD.gSub, Prod.mk.injEq, gAdd_int, gMul_int, gInt_int, gInt_bl, wPut, lenD3_lst, lenD3_tup, lenD3_str, lenD3_dct, gIn3_str, gIn3_lst, gIn3_tup, gInS, gIn]
    refine ⟨_, rfl, by decide, c0, .inr ⟨_, by rw [s0]; exact c0, by decide, by decide, add_lst (by simp only [List.length_map, List.length_cons, List.length_nil]; omega) ⟨by decide, by decide, pick_lst i0 i1 fun x hx => ?_⟩⟩⟩
    rw [s0, s0]
    refine outD_app hS ?_ (p _ ?_)
    · exact (noWs_bad hw hw2 hzl hzs x hx).rb _
    · exact noWs_bad hw hw2 hzl hzs x hx
theorem fa__law_no_words {P : Program} {w : World} {K : PySem.W.Frag} {mg : Str → Option Value} {base : Heap} (h : Hd fa fn K mg) : FnAt P w K mg base "_law_no_words" (defArgs (HD.top 48)) (defBody (HD.top 48)) (defScope (HD.top 48)) ["box", "letters", "good", "most"] 4 16777221 4 (sp__law_no_words) := by
  obtain ⟨fd, F⟩ := h.def_ 35
  have F : FunD K "_law_no_words" "_law_no_words" (defArgs (HD.top 48)) (defBody (HD.top 48)) (defScope (HD.top 48)) [] [] (ga K "_law_no_words") fd := F
  refine' fn_at (c := ((((0 + (0 + 0)) + 16777219) + (((0 + (0 + 0)) + 1) + 0)) + ((((0 + (0 + 0)) + 0) + (0 + 0)) + (((0 + (((0 + 0) + 0) + 0)) + 1) + ((((((0 + 0) + 0) + (0 + 0)) + ((0 + 0) + 0)) + ((((((0 + 0) + 0) + (0 + 0)) + ((0 + 0) + 0)) + 0) + (((0 + 0) + (0 + 0)) + (0 + (0 + ((prC (((0, (wC (.str [97]))), (0, (wC (.str [98])))) :: [])) + ((0 + 0) + (((0 + (0 + 0)) + 0) + 0)))))))) + (0 + 0)))))) F (h.glo 55) sc__law_no_words rfl ?hc (b := w__law_no_words) (fun cdv A outer s H E hr => ?hb) (sat__law_no_words)
  case hb =>
    have hu : (cxOf (L2.CX P w) P w K mg base N__law_no_words "_law_no_words" (defScope (HD.top 48)) (ga K "_law_no_words") cdv A outer s H E).A.units + 100 < cLine := by
      show (A.deeper (envOfC "_law_no_words" (defScope (HD.top 48)) s.heap.objs.size (ga K "_law_no_words") cdv)).units + 100 < cLine
      have := hr.un
      omega
    have tk := takes_of (X := cxOf (L2.CX P w) P w K mg base N__law_no_words "_law_no_words" (defScope (HD.top 48)) (ga K "_law_no_words") cdv A outer s H E) rfl rfl rfl rfl
    have hp := passes_of (X := cxOf (L2.CX P w) P w K mg base N__law_no_words "_law_no_words" (defScope (HD.top 48)) (ga K "_law_no_words") cdv A outer s H E) rfl
    have D : DSs (cxOf (L2.CX P w) P w K mg base N__law_no_words "_law_no_words" (defScope (HD.top 48)) (ga K "_law_no_words") cdv A outer s H E) (fun cls d _ H' => E cls d H') (defBody (HD.top 48)) _ _ := (ds_cons (ds_par 4 5 rfl sc__law_no_words.nd (da_cons (d_call (ok__law_near_word h) hr (by decide) tk (da_cons (d_var 0) (da_cons (d_var 1) da_nil))) (da_cons (d_call (ok__law_take h) hr (by decide) tk (da_cons (d_var 0) (da_cons d_int da_nil))) da_nil)))
    (ds_cons (ds_set 4 sc__law_no_words.nd (d_ite (dt_not (dt_val (d_call (ok__law_is_word h) hr (by decide) tk (da_cons (d_var 1) (da_cons (d_var 4) da_nil))))) (d_var 4) (d_str [99])))
    (ds_cons (ds_set 6 sc__law_no_words.nd (d_call (ok__law_take h) hr (by decide) tk (da_cons (d_var 0) (da_cons (d_add (d_len3 (h.free 7) (da_cons (d_var 2) da_nil)) d_int) da_nil))))
    (ds_cons (ds_set 7 sc__law_no_words.nd (d_lst false (da_cons (d_add (d_add (d_sl false (d_var 2) do_none (do_some (d_var 6))) (d_lst false (da_cons (d_var 4) da_nil))) (d_sl false (d_var 2) (do_some (d_var 6)) do_none)) (da_cons (d_callTy call_tuple_of cd_tup (h.free 15) (da_cons (d_add (d_add (d_sl false (d_var 2) do_none (do_some (d_var 6))) (d_lst false (da_cons (d_var 4) da_nil))) (d_sl false (d_var 2) (do_some (d_var 6)) do_none)) da_nil)) (da_cons (d_mul (d_lst false (da_cons (d_str [97]) da_nil)) (d_add (d_var 3) d_int)) (da_cons (d_str [97, 98]) (da_cons d_non (da_cons (d_fz (d_disp (dps_cons (d_str [97]) (d_str [98]) dps_nil))) (da_cons (d_lst false (da_cons (d_var 4) da_nil)) (da_cons (d_lst false (da_cons (d_add (d_var 2) (d_lst false (da_cons (d_str [97]) da_nil))) da_nil)) da_nil))))))))))
    (ds_one (ds_ret (d_ix3 hu (d_var 7) (d_var 5))))))))
    exact D
  case hc => decide +kernel
theorem ok__law_no_words {P : Program} {w : World} {K : PySem.W.Frag} {mg : Str → Option Value} {base : Heap} (h : Hd fa fn K mg) : OkAt P w K mg base "_law_no_words" 4 16777221 4 (sp__law_no_words) := (fa__law_no_words h).ok (fun _ _ _ _ _ _ us hl => match us, hl with | [_, _, _, _], _ => rfl)
def told (x : D) : D := .lst [.str [116, 111, 108, 100], x]
def askS (w : Int) (i : Int) (d o : D) (S : Cells) (P : Q1) : Prop :=
  if w = 0 then P (told (.bl (wordOk i d))) S
  else if w = 1 then (if DD.inR d 0 8 = true then ∀ j, d = .int j → newL S ((wordsTo i j.toNat).map D.str) (fun x => P (told x)) else P (.lst [.str [110, 117, 109, 98, 101, 114], d]) S)
  else if w = 2 then (if wordOk i d = true then (if wordOk i o = true then ∀ s t, d = .str s → o = .str t → P (told (.bl (dLt (keyD s) (keyD t)))) S else P (.lst [.str [119, 111, 114, 100], o]) S) else P (.lst [.str [119, 111, 114, 100], d]) S)
  else if w = 3 then (if wordOk i d = true then ∀ s, d = .str s → newL S (begD s) (fun x => P (told x)) else P (.lst [.str [119, 111, 114, 100], d]) S)
  else if w = 4 then (if wordOk i d = true then ∀ s, d = .str s → newL S (endD s) (fun x => P (told x)) else P (.lst [.str [119, 111, 114, 100], d]) S)
  else ∃ n, tyN S d = some n ∧ (if (n == "list" || n == "tuple") = true then ∃ xs, seqA S d = some xs ∧ xs.length ≤ sizeLine ∧ (xs.length ≤ 400 → ∀ x ∈ xs, (∃ k, tyN S x = some k) ∧ strOk x) ∧
      (if (decide (xs.length ≤ 400) && xs.all (wordOk i)) = true then ∀ zs : List (List Nat), xs = zs.map D.str → newL S ((sortW (dedup (zs.map List.reverse))).map D.str) (fun x => P (told x)) else P (.lst [.str [119, 111, 114, 100, 115], d]) S)
    else P (.lst [.str [119, 111, 114, 100, 115], d]) S)
def sp__law_asked : DD.Spec := fun ds S P _ => ∃ (w : Int) (l d o : D) (nm : Bool) (m n : String), ds = [.int w, l, d, o, .bl nm] ∧ 0 ≤ w ∧ w ≤ 5 ∧ tyN S l = some m ∧ tyN S d = some n ∧ (w = 0 ∨ w = 3 ∨ w = 4 → strOk d) ∧ (w = 2 → strOk d ∧ strOk o ∧ ∃ k, tyN S o = some k) ∧
  if DD.inR l 1 2 = true then ∀ i, l = .int i → askS w i d o S P else P (.lst [.str [108, 101, 116, 116, 101, 114, 115], l]) S
def N__law_asked : List Str := ["way", "letters", "one", "other", "named", "e", "kinds"]
theorem sc__law_asked : FnScope N__law_asked ["way", "letters", "one", "other", "named"] (defScope (HD.top 49)) := ⟨rfl, rfl, rfl, by decide +kernel, rfl, by decide +kernel, by decide +kernel⟩
def w__law_asked : WS :=
  (wTry 5 (isBox excL)
  (wSeq (wIf (wTest (wBin gEq (wVar 0) (wC (.int 0))))
  (wRet (wLst false (wCons (wC (.str [116, 111, 108, 100])) (wCons (wIte (wTest (wVar 4)) (wCallK 2 2 (sp_is_word) [1, 0] (wCons (wVar 2) (wCons (wVar 1) wNil))) (wCall 2 (sp_is_word) (wCons (wVar 1) (wCons (wVar 2) wNil)))) wNil))))
  wNext)
  (wSeq (wIf (wTest (wBin gEq (wVar 0) (wC (.int 1))))
  (wRet (wLst false (wCons (wC (.str [116, 111, 108, 100])) (wCons (wIte (wTest (wVar 4)) (wCallK 2 2 (sp_words_up_to) [1, 0] (wCons (wVar 2) (wCons (wVar 1) wNil))) (wCall 2 (sp_words_up_to) (wCons (wVar 1) (wCons (wVar 2) wNil)))) wNil))))
  wNext)
  (wSeq (wIf (wTest (wBin gEq (wVar 0) (wC (.int 2))))
  (wRet (wLst false (wCons (wC (.str [116, 111, 108, 100])) (wCons (wIte (wTest (wVar 4)) (wCallK 3 3 (sp_is_ahead) [1, 2, 0] (wCons (wVar 3) (wCons (wVar 1) (wCons (wVar 2) wNil)))) (wCall 3 (sp_is_ahead) (wCons (wVar 1) (wCons (wVar 2) (wCons (wVar 3) wNil))))) wNil))))
  wNext)
  (wSeq (wIf (wTest (wBin gEq (wVar 0) (wC (.int 3))))
  (wRet (wLst false (wCons (wC (.str [116, 111, 108, 100])) (wCons (wIte (wTest (wVar 4)) (wCallK 2 2 (sp_beginnings) [1, 0] (wCons (wVar 2) (wCons (wVar 1) wNil))) (wCall 2 (sp_beginnings) (wCons (wVar 1) (wCons (wVar 2) wNil)))) wNil))))
  wNext)
  (wSeq (wIf (wTest (wBin gEq (wVar 0) (wC (.int 4))))
  (wRet (wLst false (wCons (wC (.str [116, 111, 108, 100])) (wCons (wIte (wTest (wVar 4)) (wCallK 2 2 (sp_ends) [1, 0] (wCons (wVar 2) (wCons (wVar 1) wNil))) (wCall 2 (sp_ends) (wCons (wVar 1) (wCons (wVar 2) wNil)))) wNil))))
  wNext)
  (wRet (wLst false (wCons (wC (.str [116, 111, 108, 100])) (wCons (wIte (wTest (wVar 4)) (wCallK 2 2 (sp_turned_words) [1, 0] (wCons (wVar 2) (wCons (wVar 1) wNil))) (wCall 2 (sp_turned_words) (wCons (wVar 1) (wCons (wVar 2) wNil)))) wNil)))))))))
  (fun a cls d => (wSeq (wSet 6 (wLst false (wCons (wIsE 5 a cls d "InvalidLetters" (tabX excL)) (wCons (wIsE 5 a cls d "InvalidNumber" (tabX excL)) (wCons (wIsE 5 a cls d "InvalidWord" (tabX excL)) (wCons (wIsE 5 a cls d "InvalidWords" (tabX excL)) wNil))))))
  (wRet (wIte (wTest (wBin (gIn3 false) (wC (.bl true)) (wVar 6))) (wLst false (wCons (wBin gIx3 (wLst false (wCons (wC (.str [108, 101, 116, 116, 101, 114, 115])) (wCons (wC (.str [110, 117, 109, 98, 101, 114])) (wCons (wC (.str [119, 111, 114, 100])) (wCons (wC (.str [119, 111, 114, 100, 115])) wNil))))) (wMeth "list" gIndex (wVar 6) (wCons (wC (.bl true)) wNil))) (wCons (wFld 5 a cls d "given" ((excL.filter fun p => p.2 == ("given" : Str)).map (·.1))) wNil))) (wLst false (wCons (wC (.str [111, 116, 104, 101, 114])) (wCons (wC .non) wNil))))))))
theorem sat__law_asked : Sat' 5 N__law_asked.length w__law_asked sp__law_asked := by
  rintro ds S P E - hS hd ⟨w, l, d, o, nm, m, n, rfl, w0, w5, hm, hn, h1, h2, p⟩
  have hz := sizeLine_eq
  simp only [w__law_asked, N__law_asked, startD, List.map_cons, List.map_nil, List.length_cons, List.length_nil, List.replicate, List.cons_append, List.nil_append, wTry]
  generalize hX : catchX _ _ _ _ = X
  have hXe : ∀ (c : Str) (k : List Nat) (g : D), (c, k) ∈ [(("InvalidLetters" : Str), [108, 101, 116, 116, 101, 114, 115]), ("InvalidNumber", [110, 117, 109, 98, 101, 114]), ("InvalidWord", [119, 111, 114, 100]), ("InvalidWords", [119, 111, 114, 100, 115])] → P (.lst [.str k, g]) S → X ⟨c, [("given", g)]⟩ [some (.int w), some l, some d, some o, some (.bl nm), none, none] S := by
    intro c k g hk q
    subst hX
    have hc : c ∈ excL.map (·.1) := by
      simp only [List.mem_cons, List.not_mem_nil, or_false, Prod.mk.injEq] at hk
      rcases hk with ⟨rfl, _⟩ | ⟨rfl, _⟩ | ⟨rfl, _⟩ | ⟨rfl, _⟩ <;> decide
    refine ⟨true, if_pos hc, fun _ => ⟨_, _, rfl, fun a C dd => ?_⟩, fun h => by cases h⟩
    have ht : ∀ y, y ∈ excL.map (·.1) → tabX excL c y = some (decide (c = y)) := fun y hy => if_pos ⟨hc, hy⟩
    simp only [wRet, wRetN, wSeq, wSet, wIf, wPar, wPar3, wExpr, wAsg, wNext, wBreak, wCont, gdTup, gdCons, gdNil, gdName, wIte, wAnd, wOr, DD.wNot, wTest, wNotT, wAndT, wOrT, wBin, wUn, wB, wCons, wNil, wVar, wC, wTup, wLst, mkL, wYes, wCall, wChain, startD, List.map_cons, List.map_nil, List.length_cons, List.length_nil, List.replicate, List.cons_append, List.nil_append, List.append_nil, List.getElem?_cons_zero, List.getElem?_cons_succ, List.set_cons_zero, List.set_cons_succ, Option.some.injEq, exists_eq_left', exists_eq_left, true_and, and_true, if_true, if_false, Bool.false_eq_true, gI, D.int.injEq, D.bl.injEq, D.str.injEq, wLc, wSrc, srcD, wSl, wSmO, wNoO, gSl, bodyC, wipeD, beq_self_eq_true, Bool.not_true, exists_and_left, List.cons.injEq, gLen3, D.ty.injEq, D.ref.injEq, D.tup.injEq, D.lst.injEq, and_assoc, tm_bool, tm_int, tm_str, tm_tuple, tm_list, tm_dict, gIsi, wIsi2, wRaise, gLe, gGt, gGe, DD.gSub, Prod.mk.injEq, gAdd_int, gMul_int, gInt_int, gInt_bl, wPut, lenD3_lst, lenD3_tup, lenD3_str, lenD3_dct, gIn3_str, gIn3_lst, gIn3_tup, gInS, gIn, wIsE]
    refine ⟨C, rfl, _, _, _, rfl, _, ht _ (by decide), C, rfl, _, _, _, rfl, _, ht _ (by decide), C, rfl, _, _, _, rfl, _, ht _ (by decide), C, rfl, _, _, _, rfl, _, ht _ (by decide), by decide, ?_⟩
    simp only [List.mem_cons, List.not_mem_nil, or_false, Prod.mk.injEq] at hk
    rcases hk with ⟨rfl, rfl⟩ | ⟨rfl, rfl⟩ | ⟨rfl, rfl⟩ | ⟨rfl, rfl⟩
    all_goals
      refine ⟨_, rfl, rfl, rfl, ?_⟩
      rw [if_pos (by decide)]
      refine ⟨by decide, ?_⟩
      simp only [wMeth, wFld, wRet, wRetN, wSeq, wSet, wIf, wPar, wPar3, wExpr, wAsg, wNext, wBreak, wCont, gdTup, gdCons, gdNil, gdName, wIte, wAnd, wOr, DD.wNot, wTest, wNotT, wAndT, wOrT, wBin, wUn, wB, wCons, wNil, wVar, wC, wTup, wLst, mkL, wYes, wCall, wChain, startD, List.map_cons, List.map_nil, List.length_cons, List.length_nil, List.replicate, List.cons_append, List.nil_append, List.append_nil, List.getElem?_cons_zero, List.getElem?_cons_succ, List.set_cons_zero, List.set_cons_succ, Option.some.injEq, exists_eq_left', exists_eq_left, true_and, and_true, if_true, if_false, Bool.false_eq_true, gI, D.int.injEq, D.bl.injEq, D.str.injEq, wLc, wSrc, srcD, wSl, wSmO, wNoO, gSl, bodyC, wipeD, beq_self_eq_true, Bool.not_true, exists_and_left, List.cons.injEq, gLen3, D.ty.injEq, D.ref.injEq, D.tup.injEq, D.lst.injEq, and_assoc, tm_bool, tm_int, tm_str, tm_tuple, tm_list, tm_dict, gIsi, wIsi2, wRaise, gLe, gGt, gGe, DD.gSub, Prod.mk.injEq, gAdd_int, gMul_int, gInt_int, gInt_bl, wPut, lenD3_lst, lenD3_tup, lenD3_str, lenD3_dct, gIn3_str, gIn3_lst, gIn3_tup, gInS, gIn]
    · refine ⟨rfl, _, _, 0, rfl, rfl, rfl, rfl, by decide, by decide, rfl, ix_lst rfl ⟨C, rfl, _, _, rfl, by decide, by decide, outD_id q⟩⟩
    · refine ⟨rfl, _, _, 1, rfl, rfl, rfl, rfl, by decide, by decide, rfl, ix_lst rfl ⟨C, rfl, _, _, rfl, by decide, by decide, outD_id q⟩⟩
    · refine ⟨rfl, _, _, 2, rfl, rfl, rfl, rfl, by decide, by decide, rfl, ix_lst rfl ⟨C, rfl, _, _, rfl, by decide, by decide, outD_id q⟩⟩
    · refine ⟨rfl, _, _, 3, rfl, rfl, rfl, rfl, by decide, by decide, rfl, ix_lst rfl ⟨C, rfl, _, _, rfl, by decide, by decide, outD_id q⟩⟩
  clear hX
  have hw : w = 0 ∨ w = 1 ∨ w = 2 ∨ w = 3 ∨ w = 4 ∨ w = 5 := by omega
  have p1 : DD.inR l 1 2 = false → P (.lst [.str [108, 101, 116, 116, 101, 114, 115], l]) S := fun h => by rw [h] at p; exact p
  have p2 : ∀ i, l = .int i → DD.inR l 1 2 = true → askS w i d o S P := fun i e h => by rw [h] at p; exact p i e
  clear p
  rcases hw with rfl | rfl | rfl | rfl | rfl | rfl
  · have g : sp_is_word [l, d] S (fun x S1 => 0 + 1 + 1 ≤ sizeLine ∧ outD S P (D.lst [D.str [116, 111, 108, 100], x]) S1) (fun x S1 => X x [some (.int 0), some l, some d, some o, some (.bl nm), none, none] S1) := by
      refine ⟨l, d, m, n, rfl, hm, hn, h1 (.inl rfl), ?_⟩
      cases h : DD.inR l 1 2 with
      | false => exact hXe _ _ _ (by simp) (p1 h)
      | true =>
        intro i hi
        exact ⟨by decide, outD_id (p2 i hi h)⟩
    simp only [wRet, wRetN, wSeq, wSet, wIf, wPar, wPar3, wExpr, wAsg, wNext, wBreak, wCont, gdTup, gdCons, gdNil, gdName, wIte, wAnd, wOr, DD.wNot, wTest, wNotT, wAndT, wOrT, wBin, wUn, wB, wCons, wNil, wVar, wC, wTup, wLst, mkL, wYes, wCall, wChain, startD, List.map_cons, List.map_nil, List.length_cons, List.length_nil, List.replicate, List.cons_append, List.nil_append, List.append_nil, List.getElem?_cons_zero, List.getElem?_cons_succ, List.set_cons_zero, List.set_cons_succ, Option.some.injEq, exists_eq_left', exists_eq_left, true_and, and_true, if_true, if_false, Bool.false_eq_true, gI, D.int.injEq, D.bl.injEq, D.str.injEq, wLc, wSrc, srcD, wSl, wSmO, wNoO, gSl, bodyC, wipeD, beq_self_eq_true, Bool.not_true, exists_and_left, List.cons.injEq, gLen3, D.ty.injEq, D.ref.injEq, D.tup.injEq, D.lst.injEq, and_assoc, tm_bool, tm_int, tm_str, tm_tuple, tm_list, tm_dict, gIsi, wIsi2, wRaise, gLe, gGt, gGe, DD.gSub, Prod.mk.injEq, gAdd_int, gMul_int, gInt_int, gInt_bl, wPut, lenD3_lst, lenD3_tup, lenD3_str, lenD3_dct, gIn3_str, gIn3_lst, gIn3_tup, gInS, gIn, EndsD.withX, gEq, eqR]
    rw [if_pos (by decide)]
    cases nm with
    | true => rw [if_pos rfl]; simp only [wCallK, wCons, wNil, wVar]; exact ⟨_, rfl, _, rfl, rfl, rfl, g⟩
    | false => exact g
  · have g : sp_words_up_to [l, d] S (fun x S1 => 0 + 1 + 1 ≤ sizeLine ∧ outD S P (D.lst [D.str [116, 111, 108, 100], x]) S1) (fun x S1 => X x [some (.int 1), some l, some d, some o, some (.bl nm), none, none] S1) := by
      refine ⟨l, d, m, n, rfl, hm, hn, ?_⟩
      cases h : DD.inR l 1 2 with
      | false => exact hXe _ _ _ (by simp) (p1 h)
      | true =>
        obtain ⟨i, hi, _⟩ := inR_int h
        have q := p2 i hi h
        unfold askS at q
        rw [if_neg (by decide), if_pos rfl] at q
        cases h' : DD.inR d 0 8 with
        | false => rw [h'] at q; exact hXe _ _ _ (by simp) q
        | true =>
          rw [h'] at q
          intro i' j hi' hj
          rw [hi] at hi'
          cases hi'
          exact fun T k k1 k2 => ⟨by decide, .inr (q j hj T k k1 k2)⟩
    simp only [wRet, wRetN, wSeq, wSet, wIf, wPar, wPar3, wExpr, wAsg, wNext, wBreak, wCont, gdTup, gdCons, gdNil, gdName, wIte, wAnd, wOr, DD.wNot, wTest, wNotT, wAndT, wOrT, wBin, wUn, wB, wCons, wNil, wVar, wC, wTup, wLst, mkL, wYes, wCall, wChain, startD, List.map_cons, List.map_nil, List.length_cons, List.length_nil, List.replicate, List.cons_append, List.nil_append, List.append_nil, List.getElem?_cons_zero, List.getElem?_cons_succ, List.set_cons_zero, List.set_cons_succ, Option.some.injEq, exists_eq_left', exists_eq_left, true_and, and_true, if_true, if_false, Bool.false_eq_true, gI, D.int.injEq, D.bl.injEq, D.str.injEq, wLc, wSrc, srcD, wSl, wSmO, wNoO, gSl, bodyC, wipeD, beq_self_eq_true, Bool.not_true, exists_and_left, List.cons.injEq, gLen3, D.ty.injEq, D.ref.injEq, D.tup.injEq, D.lst.injEq, and_assoc, tm_bool, tm_int, tm_str, tm_tuple, tm_list, tm_dict, gIsi, wIsi2, wRaise, gLe, gGt, gGe, DD.gSub, Prod.mk.injEq, gAdd_int, gMul_int, gInt_int, gInt_bl, wPut, lenD3_lst, lenD3_tup, lenD3_str, lenD3_dct, gIn3_str, gIn3_lst, gIn3_tup, gInS, gIn, EndsD.withX, gEq, eqR]
    rw [if_neg (by decide), if_pos (by decide)]
    cases nm with
    | true => rw [if_pos rfl]; simp only [wCallK, wCons, wNil, wVar]; exact ⟨_, rfl, _, rfl, rfl, rfl, g⟩
    | false => exact g
  · have g : sp_is_ahead [l, d, o] S (fun x S1 => 0 + 1 + 1 ≤ sizeLine ∧ outD S P (D.lst [D.str [116, 111, 108, 100], x]) S1) (fun x S1 => X x [some (.int 2), some l, some d, some o, some (.bl nm), none, none] S1) := by
      obtain ⟨k1, k2, k, k3⟩ := h2 rfl
      refine ⟨l, d, o, m, n, k, rfl, hm, hn, k3, k1, k2, ?_⟩
      cases h : DD.inR l 1 2 with
      | false => exact hXe _ _ _ (by simp) (p1 h)
      | true =>
        intro i hi
        have q := p2 i hi h
        unfold askS at q
        rw [if_neg (by decide), if_neg (by decide), if_pos rfl] at q
        cases h' : wordOk i d with
        | false => rw [h'] at q; exact hXe _ _ _ (by simp) q
        | true =>
          rw [h'] at q
          cases h'' : wordOk i o with
          | false => rw [h''] at q; exact hXe _ _ _ (by simp) q
          | true =>
            rw [h''] at q
            exact fun s t hs ht => ⟨by decide, .inr (q s t hs ht)⟩
    simp only [wRet, wRetN, wSeq, wSet, wIf, wPar, wPar3, wExpr, wAsg, wNext, wBreak, wCont, gdTup, gdCons, gdNil, gdName, wIte, wAnd, wOr, DD.wNot, wTest, wNotT, wAndT, wOrT, wBin, wUn, wB, wCons, wNil, wVar, wC, wTup, wLst, mkL, wYes, wCall, wChain, startD, List.map_cons, List.map_nil, List.length_cons, List.length_nil, List.replicate, List.cons_append, List.nil_append, List.append_nil, List.getElem?_cons_zero, List.getElem?_cons_succ, List.set_cons_zero, List.set_cons_succ, Option.some.injEq, exists_eq_left', exists_eq_left, true_and, and_true, if_true, if_false, Bool.false_eq_true, gI, D.int.injEq, D.bl.injEq, D.str.injEq, wLc, wSrc, srcD, wSl, wSmO, wNoO, gSl, bodyC, wipeD, beq_self_eq_true, Bool.not_true, exists_and_left, List.cons.injEq, gLen3, D.ty.injEq, D.ref.injEq, D.tup.injEq, D.lst.injEq, and_assoc, tm_bool, tm_int, tm_str, tm_tuple, tm_list, tm_dict, gIsi, wIsi2, wRaise, gLe, gGt, gGe, DD.gSub, Prod.mk.injEq, gAdd_int, gMul_int, gInt_int, gInt_bl, wPut, lenD3_lst, lenD3_tup, lenD3_str, lenD3_dct, gIn3_str, gIn3_lst, gIn3_tup, gInS, gIn, EndsD.withX, gEq, eqR]
    rw [if_neg (by decide), if_neg (by decide), if_pos (by decide)]
    cases nm with
    | true => rw [if_pos rfl]; simp only [wCallK, wCons, wNil, wVar]; exact ⟨_, rfl, _, rfl, _, rfl, rfl, rfl, g⟩
    | false => exact g
  · have g : sp_beginnings [l, d] S (fun x S1 => 0 + 1 + 1 ≤ sizeLine ∧ outD S P (D.lst [D.str [116, 111, 108, 100], x]) S1) (fun x S1 => X x [some (.int 3), some l, some d, some o, some (.bl nm), none, none] S1) := by
      refine ⟨l, d, m, n, rfl, hm, hn, h1 (by decide), ?_⟩
      cases h : DD.inR l 1 2 with
      | false => exact hXe _ _ _ (by simp) (p1 h)
      | true =>
        intro i hi
        have q := p2 i hi h
        unfold askS at q
        rw [if_neg (by decide), if_neg (by decide), if_neg (by decide), if_pos rfl] at q
        cases h' : wordOk i d with
        | false => rw [h'] at q; exact hXe _ _ _ (by simp) q
        | true =>
          rw [h'] at q
          exact fun s hs T k k1 k2 => ⟨by decide, .inr (q s hs T k k1 k2)⟩
    simp only [wRet, wRetN, wSeq, wSet, wIf, wPar, wPar3, wExpr, wAsg, wNext, wBreak, wCont, gdTup, gdCons, gdNil, gdName, wIte, wAnd, wOr, DD.wNot, wTest, wNotT, wAndT, wOrT, wBin, wUn, wB, wCons, wNil, wVar, wC, wTup, wLst, mkL, wYes, wCall, wChain, startD, List.map_cons, List.map_nil, List.length_cons, List.length_nil, List.replicate, List.cons_append, List.nil_append, List.append_nil, List.getElem?_cons_zero, List.getElem?_cons_succ, List.set_cons_zero, List.set_cons_succ, Option.some.injEq, exists_eq_left', exists_eq_left, true_and, and_true, if_true, if_false, Bool.false_eq_true, gI, D.int.injEq, D.bl.injEq, D.str.injEq, wLc, wSrc, srcD, wSl, wSmO, wNoO, gSl, bodyC, wipeD, beq_self_eq_true, Bool.not_true, exists_and_left, List.cons.injEq, gLen3, D.ty.injEq, D.ref.injEq, D.tup.injEq, D.lst.injEq, and_assoc, tm_bool, tm_int, tm_str, tm_tuple, tm_list, tm_dict, gIsi, wIsi2, wRaise, gLe, gGt, gGe, DD.gSub, Prod.mk.injEq, gAdd_int, gMul_int, gInt_int, gInt_bl, wPut, lenD3_lst, lenD3_tup, lenD3_str, lenD3_dct, gIn3_str, gIn3_lst, gIn3_tup, gInS, gIn, EndsD.withX, gEq, eqR]
    rw [if_neg (by decide), if_neg (by decide), if_neg (by decide), if_pos (by decide)]
    cases nm with
    | true => rw [if_pos rfl]; simp only [wCallK, wCons, wNil, wVar]; exact ⟨_, rfl, _, rfl, rfl, rfl, g⟩
    | false => exact g
  · have g : sp_ends [l, d] S (fun x S1 => 0 + 1 + 1 ≤ sizeLine ∧ outD S P (D.lst [D.str [116, 111, 108, 100], x]) S1) (fun x S1 => X x [some (.int 4), some l, some d, some o, some (.bl nm), none, none] S1) := by
      refine ⟨l, d, m, n, rfl, hm, hn, h1 (by decide), ?_⟩
      cases h : DD.inR l 1 2 with
      | false => exact hXe _ _ _ (by simp) (p1 h)
      | true =>
        intro i hi
        have q := p2 i hi h
        unfold askS at q
        rw [if_neg (by decide), if_neg (by decide), if_neg (by decide), if_neg (by decide), if_pos rfl] at q
        cases h' : wordOk i d with
        | false => rw [h'] at q; exact hXe _ _ _ (by simp) q
        | true =>
          rw [h'] at q
          exact fun s hs T k k1 k2 => ⟨by decide, .inr (q s hs T k k1 k2)⟩
    simp only [wRet, wRetN, wSeq, wSet, wIf, wPar, wPar3, wExpr, wAsg, wNext, wBreak, wCont, gdTup, gdCons, gdNil, gdName, wIte, wAnd, wOr, DD.wNot, wTest, wNotT, wAndT, wOrT, wBin, wUn, wB, wCons, wNil, wVar, wC, wTup, wLst, mkL, wYes, wCall, wChain, startD, List.map_cons, List.map_nil, List.length_cons, List.length_nil, List.replicate, List.cons_append, List.nil_append, List.append_nil, List.getElem?_cons_zero, List.getElem?_cons_succ, List.set_cons_zero, List.set_cons_succ, Option.some.injEq, exists_eq_left', exists_eq_left, true_and, and_true, if_true, if_false, Bool.false_eq_true, gI, D.int.injEq, D.bl.injEq, D.str.injEq, wLc, wSrc, srcD, wSl, wSmO, wNoO, gSl, bodyC, wipeD, beq_self_eq_true, Bool.not_true, exists_and_left, List.cons.injEq, gLen3, D.ty.injEq, D.ref.injEq, D.tup.injEq, D.lst.injEq, and_assoc, tm_bool, tm_int, tm_str, tm_tuple, tm_list, tm_dict, gIsi, wIsi2, wRaise, gLe, gGt, gGe, DD.gSub, Prod.mk.injEq, gAdd_int, gMul_int, gInt_int, gInt_bl, wPut, lenD3_lst, lenD3_tup, lenD3_str, lenD3_dct, gIn3_str, gIn3_lst, gIn3_tup, gInS, gIn, EndsD.withX, gEq, eqR]
    rw [if_neg (by decide), if_neg (by decide), if_neg (by decide), if_neg (by decide), if_pos (by decide)]
    cases nm with
    | true => rw [if_pos rfl]; simp only [wCallK, wCons, wNil, wVar]; exact ⟨_, rfl, _, rfl, rfl, rfl, g⟩
    | false => exact g
  · have g : sp_turned_words [l, d] S (fun x S1 => 0 + 1 + 1 ≤ sizeLine ∧ outD S P (D.lst [D.str [116, 111, 108, 100], x]) S1) (fun x S1 => X x [some (.int 5), some l, some d, some o, some (.bl nm), none, none] S1) := by
      refine ⟨l, d, m, n, rfl, hm, hn, ?_⟩
      cases h : DD.inR l 1 2 with
      | false => exact hXe _ _ _ (by simp) (p1 h)
      | true =>
        intro i hi
        have q := p2 i hi h
        unfold askS at q
        rw [if_neg (by decide), if_neg (by decide), if_neg (by decide), if_neg (by decide), if_neg (by decide)] at q
        obtain ⟨n', hn', q⟩ := q
        rw [hn] at hn'
        cases hn'
        cases h' : (n == "list" || n == "tuple") with
        | false => rw [h'] at q; exact hXe _ _ _ (by simp) q
        | true =>
          rw [h'] at q
          obtain ⟨xs, q1, q2, q3, q⟩ := q
          refine ⟨xs, q1, q2, q3, ?_⟩
          cases h'' : (decide (xs.length ≤ 400) && xs.all (wordOk i)) with
          | false => rw [h''] at q; exact hXe _ _ _ (by simp) q
          | true =>
            rw [h''] at q
            exact fun zs hz T k k1 k2 => ⟨by decide, .inr (q zs hz T k k1 k2)⟩
    simp only [wRet, wRetN, wSeq, wSet, wIf, wPar, wPar3, wExpr, wAsg, wNext, wBreak, wCont, gdTup, gdCons, gdNil, gdName, wIte, wAnd, wOr, DD.wNot, wTest, wNotT, wAndT, wOrT, wBin, wUn, wB, wCons, wNil, wVar, wC, wTup, wLst, mkL, wYes, wCall, wChain, startD, List.map_cons, List.map_nil, List.length_cons, List.length_nil, List.replicate, List.cons_append, List.nil_append, List.append_nil, List.getElem?_cons_zero, List.getElem?_cons_succ, List.set_cons_zero, List.set_cons_succ, Option.some.injEq, exists_eq_left', exists_eq_left, true_and, and_true, if_true, if_false, Bool.false_eq_true, gI, D.int.injEq, D.bl.injEq, D.str.injEq, wLc, wSrc, srcD, wSl, wSmO, wNoO, gSl, bodyC, wipeD, beq_self_eq_true, Bool.not_true, exists_and_left, List.cons.injEq, gLen3, D.ty.injEq, D.ref.injEq, D.tup.injEq, D.lst.injEq, and_assoc, tm_bool, tm_int, tm_str, tm_tuple, tm_list, tm_dict, gIsi, wIsi2, wRaise, gLe, gGt, gGe, DD.gSub, Prod.mk.injEq, gAdd_int, gMul_int, gInt_int, gInt_bl, wPut, lenD3_lst, lenD3_tup, lenD3_str, lenD3_dct, gIn3_str, gIn3_lst, gIn3_tup, gInS, gIn, EndsD.withX, gEq, eqR]
    rw [if_neg (by decide), if_neg (by decide), if_neg (by decide), if_neg (by decide), if_neg (by decide)]
    cases nm with
    | true => rw [if_pos rfl]; simp only [wCallK, wCons, wNil, wVar]; exact ⟨_, rfl, _, rfl, rfl, rfl, g⟩
    | false => exact g
theorem fa__law_asked {P : Program} {w : World} {K : PySem.W.Frag} {mg : Str → Option Value} {base : Heap} (h : Hd fa fn K mg) : FnAt P w K mg base "_law_asked" (defArgs (HD.top 49)) (defBody (HD.top 49)) (defScope (HD.top 49)) ["way", "letters", "one", "other", "named"] 6 0 5 (sp__law_asked) := by
  obtain ⟨fd, F⟩ := h.def_ 36
  have F : FunD K "_law_asked" "_law_asked" (defArgs (HD.top 49)) (defBody (HD.top 49)) (defScope (HD.top 49)) [] [] (ga K "_law_asked") fd := F
  refine' fn_at (c := ((((0 + 0) + ((0 + ((0 + (((0 + (0 + 0)) + 0) + ((0 + (0 + 0)) + 0))) + 0)) + 0)) + (((0 + 0) + ((0 + ((0 + (((0 + (0 + 0)) + 0) + ((0 + (0 + 0)) + 0))) + 0)) + 0)) + (((0 + 0) + ((0 + ((0 + (((0 + (0 + (0 + 0))) + 0) + ((0 + (0 + (0 + 0))) + 0))) + 0)) + 0)) + (((0 + 0) + ((0 + ((0 + (((0 + (0 + 0)) + 0) + ((0 + (0 + 0)) + 0))) + 0)) + 0)) + (((0 + 0) + ((0 + ((0 + (((0 + (0 + 0)) + 0) + ((0 + (0 + 0)) + 0))) + 0)) + 0)) + (0 + ((0 + (((0 + (0 + 0)) + 0) + ((0 + (0 + 0)) + 0))) + 0))))))) + ((0 + (0 + (0 + (0 + 0)))) + ((0 + 0) + ((((0 + (0 + (0 + (0 + 0)))) + (0 + (0 + 0))) + (0 + 0)) + (0 + (0 + 0))))))) F (h.glo 56) sc__law_asked rfl ?hc (b := w__law_asked) (fun cdv A outer s H E hr => ?hb) (sat__law_asked)
  case hb =>
    have hu : (cxOf (L2.CX P w) P w K mg base N__law_asked "_law_asked" (defScope (HD.top 49)) (ga K "_law_asked") cdv A outer s H E).A.units + 100 < cLine := by
      show (A.deeper (envOfC "_law_asked" (defScope (HD.top 49)) s.heap.objs.size (ga K "_law_asked") cdv)).units + 100 < cLine
      have := hr.un
      omega
    have tk := takes_of (X := cxOf (L2.CX P w) P w K mg base N__law_asked "_law_asked" (defScope (HD.top 49)) (ga K "_law_asked") cdv A outer s H E) rfl rfl rfl rfl
    have hp := passes_of (X := cxOf (L2.CX P w) P w K mg base N__law_asked "_law_asked" (defScope (HD.top 49)) (ga K "_law_asked") cdv A outer s H E) rfl
    have D : DSs (cxOf (L2.CX P w) P w K mg base N__law_asked "_law_asked" (defScope (HD.top 49)) (ga K "_law_asked") cdv A outer s H E) (fun cls d _ H' => E cls d H') (defBody (HD.top 49)) _ _ := (ds_one (ds_try (i := 5) (isX := isBox excL) (sw := fun a cls d => (wSeq (wSet 6 (wLst false (wCons (wIsE 5 a cls d "InvalidLetters" (tabX excL)) (wCons (wIsE 5 a cls d "InvalidNumber" (tabX excL)) (wCons (wIsE 5 a cls d "InvalidWord" (tabX excL)) (wCons (wIsE 5 a cls d "InvalidWords" (tabX excL)) wNil))))))
    (wRet (wIte (wTest (wBin (gIn3 false) (wC (.bl true)) (wVar 6))) (wLst false (wCons (wBin gIx3 (wLst false (wCons (wC (.str [108, 101, 116, 116, 101, 114, 115])) (wCons (wC (.str [110, 117, 109, 98, 101, 114])) (wCons (wC (.str [119, 111, 114, 100])) (wCons (wC (.str [119, 111, 114, 100, 115])) wNil))))) (wMeth "list" gIndex (wVar 6) (wCons (wC (.bl true)) wNil))) (wCons (wFld 5 a cls d "given" ((excL.filter fun p => p.2 == ("given" : Str)).map (·.1))) wNil))) (wLst false (wCons (wC (.str [111, 116, 104, 101, 114])) (wCons (wC .non) wNil))))))) rfl rfl sc__law_asked.nd rfl rfl ⟨rfl, by decide, .inl (box_mg h excC)⟩ tk (isBox_ok h excC) (fun W1 pn xe tk1 hp => (ds_cons (ds_if (dt_eq hu (d_var 0) d_int)
    (ds_one (ds_ret (d_lst false (da_cons (d_str [116, 111, 108, 100]) (da_cons (d_ite (dt_val (d_var 4)) (d_callK (okk_is_word0 h) hr (by decide) tk1 (dk_cons (d_var 2) (dk_cons (d_var 1) dk_nil))) (d_call (ok_is_word h) hr (by decide) tk1 (da_cons (d_var 1) (da_cons (d_var 2) da_nil)))) da_nil)))))
    ds_nil)
    (ds_cons (ds_if (dt_eq hu (d_var 0) d_int)
    (ds_one (ds_ret (d_lst false (da_cons (d_str [116, 111, 108, 100]) (da_cons (d_ite (dt_val (d_var 4)) (d_callK (okk_words_up_to0 h) hr (by decide) tk1 (dk_cons (d_var 2) (dk_cons (d_var 1) dk_nil))) (d_call (ok_words_up_to h) hr (by decide) tk1 (da_cons (d_var 1) (da_cons (d_var 2) da_nil)))) da_nil)))))
    ds_nil)
    (ds_cons (ds_if (dt_eq hu (d_var 0) d_int)
    (ds_one (ds_ret (d_lst false (da_cons (d_str [116, 111, 108, 100]) (da_cons (d_ite (dt_val (d_var 4)) (d_callK (okk_is_ahead0 h) hr (by decide) tk1 (dk_cons (d_var 3) (dk_cons (d_var 1) (dk_cons (d_var 2) dk_nil)))) (d_call (ok_is_ahead h) hr (by decide) tk1 (da_cons (d_var 1) (da_cons (d_var 2) (da_cons (d_var 3) da_nil))))) da_nil)))))
    ds_nil)
    (ds_cons (ds_if (dt_eq hu (d_var 0) d_int)
    (ds_one (ds_ret (d_lst false (da_cons (d_str [116, 111, 108, 100]) (da_cons (d_ite (dt_val (d_var 4)) (d_callK (okk_beginnings0 h) hr (by decide) tk1 (dk_cons (d_var 2) (dk_cons (d_var 1) dk_nil))) (d_call (ok_beginnings h) hr (by decide) tk1 (da_cons (d_var 1) (da_cons (d_var 2) da_nil)))) da_nil)))))
    ds_nil)
    (ds_cons (ds_if (dt_eq hu (d_var 0) d_int)
    (ds_one (ds_ret (d_lst false (da_cons (d_str [116, 111, 108, 100]) (da_cons (d_ite (dt_val (d_var 4)) (d_callK (okk_ends0 h) hr (by decide) tk1 (dk_cons (d_var 2) (dk_cons (d_var 1) dk_nil))) (d_call (ok_ends h) hr (by decide) tk1 (da_cons (d_var 1) (da_cons (d_var 2) da_nil)))) da_nil)))))
    ds_nil)
    (ds_one (ds_ret (d_lst false (da_cons (d_str [116, 111, 108, 100]) (da_cons (d_ite (dt_val (d_var 4)) (d_callK (okk_turned_words0 h) hr (by decide) tk1 (dk_cons (d_var 2) (dk_cons (d_var 1) dk_nil))) (d_call (ok_turned_words h) hr (by decide) tk1 (da_cons (d_var 1) (da_cons (d_var 2) da_nil)))) da_nil)))))))))))
    (fun a oe cls d pn hz hf2 => (ds_cons (ds_set 6 sc__law_asked.nd (d_lst false (da_cons (d_isE (i := 5) hz hf2 (h.free 6) (tabX_ok h excC "InvalidLetters")) (da_cons (d_isE (i := 5) hz hf2 (h.free 6) (tabX_ok h excC "InvalidNumber")) (da_cons (d_isE (i := 5) hz hf2 (h.free 6) (tabX_ok h excC "InvalidWord")) (da_cons (d_isE (i := 5) hz hf2 (h.free 6) (tabX_ok h excC "InvalidWords")) da_nil))))))
    (ds_one (ds_ret (d_ite (dt_in3 hu d_bl (d_var 6)) (d_lst false (da_cons (d_ix3 hu (d_lst false (da_cons (d_str [108, 101, 116, 116, 101, 114, 115]) (da_cons (d_str [110, 117, 109, 98, 101, 114]) (da_cons (d_str [119, 111, 114, 100]) (da_cons (d_str [119, 111, 114, 100, 115]) da_nil))))) (d_index hu (d_var 6) (da_cons d_bl da_nil))) (da_cons (d_fld (X := _) (i := 5) (xs := ((excL.filter fun p => p.2 == ("given" : Str)).map (·.1))) hz hf2 (fun nm m C hm => fld_ok h excC nm m C hm)) da_nil))) (d_lst false (da_cons (d_str [111, 116, 104, 101, 114]) (da_cons d_non da_nil))))))))))
    exact D
  case hc => decide +kernel
theorem ok__law_asked {P : Program} {w : World} {K : PySem.W.Frag} {mg : Str → Option Value} {base : Heap} (h : Hd fa fn K mg) : OkAt P w K mg base "_law_asked" 6 0 5 (sp__law_asked) := (fa__law_asked h).ok (fun _ _ _ _ _ _ us hl => match us, hl with | [_, _, _, _, _], _ => rfl)
def sp__law_told_right : DD.Spec := fun ds S P _ => ∃ (w : Int) (l d o : D) (nm : Bool) (due : D), ds = [.int w, l, d, o, .bl nm, due] ∧
  ((∃ b, due = .bl b ∧ ∀ (T : Cells) (Q : Q1) (E : EQ), Q (told (.bl b)) (S ++ T) → sp__law_asked [.int w, l, d, o, .bl nm] (S ++ T) Q E) ∨
   (∃ zs : List (List Nat), due = .lst (zs.map D.str) ∧ zs.length < sizeLine ∧ (∀ z ∈ zs, z.length ≤ sizeLine) ∧ ∀ (T : Cells) (Q : Q1) (E : EQ), newL (S ++ T) (zs.map D.str) (fun x => Q (told x)) → sp__law_asked [.int w, l, d, o, .bl nm] (S ++ T) Q E)) ∧ P (.bl true) S
def N__law_told_right : List Str := ["way", "letters", "one", "other", "named", "due", "turn", "told"]
theorem sc__law_told_right : FnScope N__law_told_right ["way", "letters", "one", "other", "named", "due"] (defScope (HD.top 50)) := ⟨rfl, rfl, rfl, by decide +kernel, rfl, by decide +kernel, by decide +kernel⟩
def w__law_told_right : WS :=
  (wSeq (wFor (wRng1 (wCons (wC (.int 2)) wNil)) (gdName 6)
  (wSeq (wSet 7 (wCall 5 (sp__law_asked) (wCons (wVar 0) (wCons (wVar 1) (wCons (wVar 2) (wCons (wVar 3) (wCons (wVar 4) wNil)))))))
  (wSeq (wIf (wNotT (wTest (wCall 2 (sp__law_same 10) (wCons (wVar 7) (wCons (wLst false (wCons (wC (.str [116, 111, 108, 100])) (wCons (wVar 5) wNil))) wNil)))))
  (wRet (wC (.bl false)))
  wNext)
  (wExpr (wCall 1 (sp__law_grow 10) (wCons (wBin gIx3 (wVar 7) (wC (.int 1))) wNil))))))
  (wRet (wC (.bl true))))
theorem sat__law_told_right : Sat' 6 N__law_told_right.length w__law_told_right sp__law_told_right := by
  rintro ds S P E - hS hd ⟨w, l, d, o, nm, due, rfl, hh, p⟩
  have hz := sizeLine_eq
  simp only [w__law_told_right, N__law_told_right, wRet, wRetN, wSeq, wSet, wIf, wPar, wPar3, wExpr, wAsg, wNext, wBreak, wCont, gdTup, gdCons, gdNil, gdName, wIte, wAnd, wOr, DD.wNot, wTest, wNotT, wAndT, wOrT, wBin, wUn, wB, wCons, wNil, wVar, wC, wTup, wLst, mkL, wYes, wCall, wChain, startD, List.map_cons, List.map_nil, List.length_cons, List.length_nil, List.replicate, List.cons_append, List.nil_append, List.append_nil, List.getElem?_cons_zero, List.getElem?_cons_succ, List.set_cons_zero, List.set_cons_succ, Option.some.injEq, exists_eq_left', exists_eq_left, true_and, and_true, if_true, if_false, Bool.false_eq_true, gI, D.int.injEq, D.bl.injEq, D.str.injEq, wLc, wSrc, srcD, wSl, wSmO, wNoO, gSl, bodyC, wipeD, beq_self_eq_true, Bool.not_true, exists_and_left, List.cons.injEq, gLen3, D.ty.injEq, D.ref.injEq, D.tup.injEq, D.lst.injEq, and_assoc, tm_bool, tm_int, tm_str, tm_tuple, tm_list, tm_dict, gIsi, wIsi2, wRaise, gLe, gGt, gGe, DD.gSub, Prod.mk.injEq, gAdd_int, gMul_int, gInt_int, gInt_bl, wPut, lenD3_lst, lenD3_tup, lenD3_str, lenD3_dct, gIn3_str, gIn3_lst, gIn3_tup, gInS, gIn, wFor, wRng1]
  refine ⟨by omega, by omega, loopF_inv (fun ys ρ S1 => ∃ (T : Cells) (x6 x7 : Option D), S1 = S ++ T ∧ ρ = [some (.int w), some l, some d, some o, some (.bl nm), some due, x6, x7]) ?_ ?_ _ _ _ ⟨[], none, none, (List.append_nil S).symm, rfl⟩⟩
  · rintro y ys ρ S1 K ⟨T, x6, x7, rfl, rfl⟩ hK
    refine ⟨trivial, ?_⟩
    simp only [bodyF, wRet, wRetN, wSeq, wSet, wIf, wPar, wPar3, wExpr, wAsg, wNext, wBreak, wCont, gdTup, gdCons, gdNil, gdName, wIte, wAnd, wOr, DD.wNot, wTest, wNotT, wAndT, wOrT, wBin, wUn, wB, wCons, wNil, wVar, wC, wTup, wLst, mkL, wYes, wCall, wChain, startD, List.map_cons, List.map_nil, List.length_cons, List.length_nil, List.replicate, List.cons_append, List.nil_append, List.append_nil, List.getElem?_cons_zero, List.getElem?_cons_succ, List.set_cons_zero, List.set_cons_succ, Option.some.injEq, exists_eq_left', exists_eq_left, true_and, and_true, if_true, if_false, Bool.false_eq_true, gI, D.int.injEq, D.bl.injEq, D.str.injEq, wLc, wSrc, srcD, wSl, wSmO, wNoO, gSl, bodyC, wipeD, beq_self_eq_true, Bool.not_true, exists_and_left, List.cons.injEq, gLen3, D.ty.injEq, D.ref.injEq, D.tup.injEq, D.lst.injEq, and_assoc, tm_bool, tm_int, tm_str, tm_tuple, tm_list, tm_dict, gIsi, wIsi2, wRaise, gLe, gGt, gGe, DD.gSub, Prod.mk.injEq, gAdd_int, gMul_int, gInt_int, gInt_bl, wPut, lenD3_lst, lenD3_tup, lenD3_str, lenD3_dct, gIn3_str, gIn3_lst, gIn3_tup, gInS, gIn]
    rcases hh with ⟨b, rfl, hq⟩ | ⟨zs, rfl, hl, hzs, hq⟩
    · refine hq T _ _ ⟨by decide, ?_⟩
      simp only [sp__law_same, wRet, wRetN, wSeq, wSet, wIf, wPar, wPar3, wExpr, wAsg, wNext, wBreak, wCont, gdTup, gdCons, gdNil, gdName, wIte, wAnd, wOr, DD.wNot, wTest, wNotT, wAndT, wOrT, wBin, wUn, wB, wCons, wNil, wVar, wC, wTup, wLst, mkL, wYes, wCall, wChain, startD, List.map_cons, List.map_nil, List.length_cons, List.length_nil, List.replicate, List.cons_append, List.nil_append, List.append_nil, List.getElem?_cons_zero, List.getElem?_cons_succ, List.set_cons_zero, List.set_cons_succ, Option.some.injEq, exists_eq_left', exists_eq_left, true_and, and_true, if_true, if_false, Bool.false_eq_true, gI, D.int.injEq, D.bl.injEq, D.str.injEq, wLc, wSrc, srcD, wSl, wSmO, wNoO, gSl, bodyC, wipeD, beq_self_eq_true, Bool.not_true, exists_and_left, List.cons.injEq, gLen3, D.ty.injEq, D.ref.injEq, D.tup.injEq, D.lst.injEq, and_assoc, tm_bool, tm_int, tm_str, tm_tuple, tm_list, tm_dict, gIsi, wIsi2, wRaise, gLe, gGt, gGe, DD.gSub, Prod.mk.injEq, gAdd_int, gMul_int, gInt_int, gInt_bl, wPut, lenD3_lst, lenD3_tup, lenD3_str, lenD3_dct, gIn3_str, gIn3_lst, gIn3_tup, gInS, gIn]
      refine ⟨_, full_pair (n := 8) (by decide) (x := .bl b) rfl, full_pair (n := 8) (by decide) (x := .bl b) rfl, ix_lst (d := .bl b) rfl ?_⟩
      exact ⟨_, _, rfl, rfl, by decide, by decide, hK _ _ ⟨T, _, _, rfl, rfl⟩⟩
    · refine hq T _ _ fun T2 k hk1 hk2 => ⟨by decide, ?_⟩
      simp only [sp__law_same, wRet, wRetN, wSeq, wSet, wIf, wPar, wPar3, wExpr, wAsg, wNext, wBreak, wCont, gdTup, gdCons, gdNil, gdName, wIte, wAnd, wOr, DD.wNot, wTest, wNotT, wAndT, wOrT, wBin, wUn, wB, wCons, wNil, wVar, wC, wTup, wLst, mkL, wYes, wCall, wChain, startD, List.map_cons, List.map_nil, List.length_cons, List.length_nil, List.replicate, List.cons_append, List.nil_append, List.append_nil, List.getElem?_cons_zero, List.getElem?_cons_succ, List.set_cons_zero, List.set_cons_succ, Option.some.injEq, exists_eq_left', exists_eq_left, true_and, and_true, if_true, if_false, Bool.false_eq_true, gI, D.int.injEq, D.bl.injEq, D.str.injEq, wLc, wSrc, srcD, wSl, wSmO, wNoO, gSl, bodyC, wipeD, beq_self_eq_true, Bool.not_true, exists_and_left, List.cons.injEq, gLen3, D.ty.injEq, D.ref.injEq, D.tup.injEq, D.lst.injEq, and_assoc, tm_bool, tm_int, tm_str, tm_tuple, tm_list, tm_dict, gIsi, wIsi2, wRaise, gLe, gGt, gGe, DD.gSub, Prod.mk.injEq, gAdd_int, gMul_int, gInt_int, gInt_bl, wPut, lenD3_lst, lenD3_tup, lenD3_str, lenD3_dct, gIn3_str, gIn3_lst, gIn3_tup, gInS, gIn]
      have f1 := full_ref (n := 7) hk2 (Nat.le_of_lt hl) hzs
      have f2 := full_strs (S := S ++ T ++ T2) (n := 7) (Nat.le_of_lt hl) hzs
      refine ⟨_, full_pair (n := 8) (by decide) f1, full_pair (n := 8) (by decide) f2, ix_lst (d := .ref k) rfl ?_⟩
      refine ⟨_, "list", rfl, by simp only [tyN, hk2], by decide, by decide, ?_⟩
      rw [if_pos rfl]
      refine ⟨k, _, rfl, hk2, by simpa using hl, ?_⟩
      rw [List.append_assoc, set_app (by rw [List.length_append] at hk1; omega)]
      exact hK _ _ ⟨_, _, _, rfl, rfl⟩
  · rintro ρ S1 ⟨T, x6, x7, rfl, rfl⟩
    exact ⟨trivial, outD_app hS rfl p⟩
theorem fa__law_told_right {P : Program} {w : World} {K : PySem.W.Frag} {mg : Str → Option Value} {base : Heap} (h : Hd fa fn K mg) : FnAt P w K mg base "_law_told_right" (defArgs (HD.top 50)) (defBody (HD.top 50)) (defScope (HD.top 50)) ["way", "letters", "one", "other", "named", "due"] 12 0 6 (sp__law_told_right) := by
  obtain ⟨fd, F⟩ := h.def_ 37
  have F : FunD K "_law_told_right" "_law_told_right" (defArgs (HD.top 50)) (defBody (HD.top 50)) (defScope (HD.top 50)) [] [] (ga K "_law_told_right") fd := F
  refine' fn_at (c := (((0 + 0) + (2 ^ 24 * (((0 + (0 + (0 + (0 + (0 + 0))))) + 0) + ((((0 + ((0 + (0 + 0)) + 0)) + 0) + (0 + 0)) + (((0 + 0) + 0) + 0))))) + 0)) F (h.glo 57) sc__law_told_right rfl ?hc (b := w__law_told_right) (fun cdv A outer s H E hr => ?hb) (sat__law_told_right)
  case hb =>
    have hu : (cxOf (L2.CX P w) P w K mg base N__law_told_right "_law_told_right" (defScope (HD.top 50)) (ga K "_law_told_right") cdv A outer s H E).A.units + 100 < cLine := by
      show (A.deeper (envOfC "_law_told_right" (defScope (HD.top 50)) s.heap.objs.size (ga K "_law_told_right") cdv)).units + 100 < cLine
      have := hr.un
      omega
    have tk := takes_of (X := cxOf (L2.CX P w) P w K mg base N__law_told_right "_law_told_right" (defScope (HD.top 50)) (ga K "_law_told_right") cdv A outer s H E) rfl rfl rfl rfl
    have hp := passes_of (X := cxOf (L2.CX P w) P w K mg base N__law_told_right "_law_told_right" (defScope (HD.top 50)) (ga K "_law_told_right") cdv A outer s H E) rfl
    have D : DSs (cxOf (L2.CX P w) P w K mg base N__law_told_right "_law_told_right" (defScope (HD.top 50)) (ga K "_law_told_right") cdv A outer s H E) (fun cls d _ H' => E cls d H') (defBody (HD.top 50)) _ _ := (ds_cons (ds_for hp rfl (di_range1 (h.free 11) (da_cons d_int da_nil)) (dg_name 6 sc__law_told_right.nd)
    (ds_cons (ds_set 7 sc__law_told_right.nd (d_call (ok__law_asked h) hr (by decide) tk (da_cons (d_var 0) (da_cons (d_var 1) (da_cons (d_var 2) (da_cons (d_var 3) (da_cons (d_var 4) da_nil)))))))
    (ds_cons (ds_if (dt_not (dt_val (d_call (ok__law_same 10 h) hr (by decide) tk (da_cons (d_var 7) (da_cons (d_lst false (da_cons (d_str [116, 111, 108, 100]) (da_cons (d_var 5) da_nil))) da_nil)))))
    (ds_one (ds_ret d_bl))
    ds_nil)
    (ds_one (ds_expr (d_call (ok__law_grow 10 h) hr (by decide) tk (da_cons (d_ix3 hu (d_var 7) d_int) da_nil)))))))
    (ds_one (ds_ret d_bl)))
    exact D
  case hc => decide +kernel
theorem ok__law_told_right {P : Program} {w : World} {K : PySem.W.Frag} {mg : Str → Option Value} {base : Heap} (h : Hd fa fn K mg) : OkAt P w K mg base "_law_told_right" 12 0 6 (sp__law_told_right) := (fa__law_told_right h).ok (fun _ _ _ _ _ _ us hl => match us, hl with | [_, _, _, _, _, _], _ => rfl)
def sp__law_words_right : DD.Spec := fun ds S P _ => ∃ (b : Nat), ds = [.ref b] ∧ S[b]? = some (some .box) ∧ P (.bl true) S
theorem nif {A B : Prop} (b : B) : (if (!true) = true then A else B) := by rw [if_neg (by decide)]; exact b
theorem inR_l {l : Int} (l1 : 1 ≤ l) (l2 : l ≤ 2) : DD.inR (.int l) 1 2 = true := by simp [DD.inR, l1, l2]
theorem wordOk_of {l : Int} {w : List Nat} (w1 : w.length ≤ 130) (w2 : ∀ c ∈ w, c ∈ abL l) : wordOk l (.str w) = true := by
  rw [wordOk, decide_eq_true w1, Bool.true_and, List.all_eq_true]
  exact fun c hc => decide_eq_true (w2 c hc)
theorem strOk_of {w : List Nat} (w1 : w.length ≤ 130) : strOk (.str w) := by
  have hz := sizeLine_eq
  rintro s h
  cases h
  omega
theorem tr_beg {l : Int} {w : List Nat} {nm : Bool} {S : Cells} {P : Q1} {E : EQ} (l1 : 1 ≤ l) (l2 : l ≤ 2) (w1 : w.length ≤ 130) (w2 : ∀ c ∈ w, c ∈ abL l) (p : P (.bl true) S) : sp__law_told_right [.int 3, .int l, .str w, .non, .bl nm, .lst (begD w)] S P E := by
  have hz := sizeLine_eq
  refine ⟨3, .int l, .str w, .non, nm, _, rfl, .inr ⟨(List.range (w.length + 1)).map fun k => w.take k, by rw [List.map_map]; rfl, by simp; omega, ?_, fun T Q E h => ?_⟩, p⟩
  · intro z hz
    obtain ⟨k, _, rfl⟩ := List.mem_map.mp hz
    rw [List.length_take]; omega
  · refine ⟨3, .int l, .str w, .non, nm, _, _, rfl, by decide, by decide, rfl, rfl, fun _ => strOk_of w1, fun h => absurd h (by decide), ?_⟩
    rw [inR_l l1 l2]
    intro i hi
    cases hi
    unfold askS
    rw [if_neg (by decide), if_neg (by decide), if_neg (by decide), if_pos rfl, if_pos (wordOk_of w1 w2)]
    intro s hs
    cases hs
    have e : begD w = ((List.range (w.length + 1)).map fun k => w.take k).map D.str := by rw [List.map_map]; rfl
    rw [e]
    exact h
theorem tr_end {l : Int} {w : List Nat} {nm : Bool} {S : Cells} {P : Q1} {E : EQ} (l1 : 1 ≤ l) (l2 : l ≤ 2) (w1 : w.length ≤ 130) (w2 : ∀ c ∈ w, c ∈ abL l) (p : P (.bl true) S) : sp__law_told_right [.int 4, .int l, .str w, .non, .bl nm, .lst (endD w)] S P E := by
  have hz := sizeLine_eq
  refine ⟨4, .int l, .str w, .non, nm, _, rfl, .inr ⟨(List.range (w.length + 1)).map fun k => w.drop (w.length - k), by rw [List.map_map]; rfl, by simp; omega, ?_, fun T Q E h => ?_⟩, p⟩
  · intro z hz
    obtain ⟨k, _, rfl⟩ := List.mem_map.mp hz
    rw [List.length_drop]; omega
  · refine ⟨4, .int l, .str w, .non, nm, _, _, rfl, by decide, by decide, rfl, rfl, fun _ => strOk_of w1, fun h => absurd h (by decide), ?_⟩
    rw [inR_l l1 l2]
    intro i hi
    cases hi
    unfold askS
    rw [if_neg (by decide), if_neg (by decide), if_neg (by decide), if_neg (by decide), if_pos rfl, if_pos (wordOk_of w1 w2)]
    intro s hs
    cases hs
    have e : endD w = ((List.range (w.length + 1)).map fun k => w.drop (w.length - k)).map D.str := by rw [List.map_map]; rfl
    rw [e]
    exact h
theorem tr_ahead {l : Int} {s t : List Nat} {nm : Bool} {S : Cells} {P : Q1} {E : EQ} (l1 : 1 ≤ l) (l2 : l ≤ 2) (s1 : s.length ≤ 130) (s2 : ∀ c ∈ s, c ∈ abL l) (t1 : t.length ≤ 130) (t2 : ∀ c ∈ t, c ∈ abL l) (p : P (.bl true) S) : sp__law_told_right [.int 2, .int l, .str s, .str t, .bl nm, .bl (dLt (keyD s) (keyD t))] S P E := by
  refine ⟨2, .int l, .str s, .str t, nm, _, rfl, .inl ⟨_, rfl, fun T Q E h => ?_⟩, p⟩
  refine ⟨2, .int l, .str s, .str t, nm, _, _, rfl, by decide, by decide, rfl, rfl, fun h => absurd h (by decide), fun _ => ⟨strOk_of s1, strOk_of t1, _, rfl⟩, ?_⟩
  rw [inR_l l1 l2]
  intro i hi
  cases hi
  unfold askS
  rw [if_neg (by decide), if_neg (by decide), if_pos rfl, if_pos (wordOk_of s1 s2), if_pos (wordOk_of t1 t2)]
  intro a b ha hb
  cases ha
  cases hb
  exact h
theorem words_each {l : Int} {n : Nat} {z : List Nat} (h : z ∈ wordsTo l n) : z.length ≤ n := by
  unfold wordsTo at h
  obtain ⟨k, hk, hz⟩ := List.mem_flatMap.mp h
  have := List.mem_range.mp hk
  rw [ofLen_each l k z hz]
  omega
theorem tr_words {l n : Int} {nm : Bool} {S : Cells} {P : Q1} {E : EQ} (l1 : 1 ≤ l) (l2 : l ≤ 2) (n0 : 0 ≤ n) (n8 : n ≤ 8) (p : P (.bl true) S) : sp__law_told_right [.int 1, .int l, .int n, .non, .bl nm, .lst ((wordsTo l n.toNat).map D.str)] S P E := by
  have hz := sizeLine_eq
  have h1 := upTo_len l n.toNat
  have h9 : 2 ^ (n.toNat + 1) ≤ 2 ^ 9 := Nat.pow_le_pow_right (by decide) (by omega)
  refine ⟨1, .int l, .int n, .non, nm, _, rfl, .inr ⟨_, rfl, by omega, fun z hz' => by have := words_each hz'; omega, fun T Q E h => ?_⟩, p⟩
  refine ⟨1, .int l, .int n, .non, nm, _, _, rfl, by decide, by decide, rfl, rfl, fun h => absurd h (by decide), fun h => absurd h (by decide), ?_⟩
  rw [inR_l l1 l2]
  intro i hi
  cases hi
  unfold askS
  have hn : DD.inR (.int n) 0 8 = true := by simp [DD.inR, n0, n8]
  rw [if_neg (by decide), if_pos rfl, if_pos hn]
  intro j hj
  cases hj
  exact h
def N__law_words_right : List Str := ["box", "named", "first", "turn", "other", "word", "length", "value", "letters", "long", "starts", "behind", "one", "two", "k"]
theorem sc__law_words_right : FnScope N__law_words_right ["box"] (defScope (HD.top 51)) := ⟨rfl, rfl, rfl, by decide +kernel, rfl, by decide +kernel, by decide +kernel⟩
def w__law_words_right : WS :=
  (wSeq (wPar 1 2 (wCons (wBin gEq (wCall 2 (spTake) (wCons (wVar 0) (wCons (wC (.int 2)) wNil))) (wC (.int 0))) (wCons (wCall 2 (spTake) (wCons (wVar 0) (wCons (wC (.int 2)) wNil))) wNil)))
  (wSeq (wFor (wRng1 (wCons (wC (.int 4)) wNil)) (gdName 3)
  (wSeq (wAsg (wTup (wCons (wBin gAdd (wC (.int 1)) (wBin gMod (wB gInt (wCons (wBin gAdd (wVar 2) (wVar 3)) wNil)) (wC (.int 2)))) (wCons (wBin gEq (wCall 2 (spTake) (wCons (wVar 0) (wCons (wC (.int 12)) wNil))) (wC (.int 0))) wNil))) (gdTup 2 (gdCons (gdName 8) (gdCons (gdName 9) gdNil))))
  (wSeq (wAsg (wTup (wCons (wCall 3 (sp__law_word) (wCons (wVar 0) (wCons (wVar 8) (wCons (wC (.int 6)) wNil)))) (wCons (wCall 3 (sp__law_word) (wCons (wVar 0) (wCons (wVar 8) (wCons (wC (.int 6)) wNil)))) wNil))) (gdTup 2 (gdCons (gdName 5) (gdCons (gdName 4) gdNil))))
  (wSeq (wSet 4 (wIte (wTest (wBin gEq (wCall 2 (spTake) (wCons (wVar 0) (wCons (wC (.int 5)) wNil))) (wC (.int 0)))) (wVar 5) (wVar 4)))
  (wSeq (wSet 5 (wIte (wTest (wVar 9)) (wBin gAdd (wVar 5) (wBin gMul (wC (.str [97])) (wBin gSub (wC (.int 130)) (wB gLen3 (wCons (wVar 5) wNil))))) (wVar 5)))
  (wSeq (wPar 10 11 (wCons (wLc false (wRng1 (wCons (wBin gAdd (wB gLen3 (wCons (wVar 5) wNil)) (wC (.int 1))) wNil)) (gdName 14) wYes (wSl false (wVar 5) wNoO (wSmO (wVar 14))) (List.map (fun p : Str × Nat => p.2) [("k", 14)])) (wCons (wLc false (wRng1 (wCons (wBin gAdd (wB gLen3 (wCons (wVar 5) wNil)) (wC (.int 1))) wNil)) (gdName 14) wYes (wSl false (wVar 5) (wSmO (wBin gSub (wB gLen3 (wCons (wVar 5) wNil)) (wVar 14))) wNoO) (List.map (fun p : Str × Nat => p.2) [("k", 14)])) wNil)))
  (wSeq (wIf (wOrT (wNotT (wTest (wCall 6 (sp__law_told_right) (wCons (wC (.int 3)) (wCons (wVar 8) (wCons (wVar 5) (wCons (wC .non) (wCons (wVar 1) (wCons (wVar 10) wNil))))))))) (wNotT (wTest (wCall 6 (sp__law_told_right) (wCons (wC (.int 4)) (wCons (wVar 8) (wCons (wVar 5) (wCons (wC .non) (wCons (wVar 1) (wCons (wVar 11) wNil))))))))))
  (wRet (wC (.bl false)))
  wNext)
  (wSeq (wFor (wSrc (wLst false (wCons (wTup (wCons (wVar 5) (wCons (wVar 4) wNil))) (wCons (wTup (wCons (wVar 4) (wCons (wVar 5) wNil))) (wCons (wTup (wCons (wVar 5) (wCons (wVar 5) wNil))) wNil))))) (gdTup 2 (gdCons (gdName 12) (gdCons (gdName 13) gdNil)))
  (wIf (wNotT (wTest (wCall 6 (sp__law_told_right) (wCons (wC (.int 2)) (wCons (wVar 8) (wCons (wVar 12) (wCons (wVar 13) (wCons (wVar 1) (wCons (wBin gLt (wCall 1 (sp__law_key) (wCons (wVar 12) wNil)) (wCall 1 (sp__law_key) (wCons (wVar 13) wNil))) wNil)))))))))
  (wRet (wC (.bl false)))
  wNext))
  (wSeq (wSet 6 (wIte (wTest (wBin gEq (wCall 2 (spTake) (wCons (wVar 0) (wCons (wC (.int 4)) wNil))) (wC (.int 0)))) (wCall 2 (spTake) (wCons (wVar 0) (wCons (wC (.int 9)) wNil))) (wCall 2 (spTake) (wCons (wVar 0) (wCons (wC (.int 4)) wNil)))))
  (wSeq (wIf (wNotT (wTest (wCall 6 (sp__law_told_right) (wCons (wC (.int 1)) (wCons (wVar 8) (wCons (wVar 6) (wCons (wC .non) (wCons (wVar 1) (wCons (wCall 2 (sp__law_words) (wCons (wVar 8) (wCons (wVar 6) wNil))) wNil)))))))))
  (wRet (wC (.bl false)))
  wNext)
  (wSeq (wFor (wSrc (wBin gAdd (wLc false (wRng1 (wCons (wC (.int 3)) wNil)) (gdName 14) wYes (wCall 2 (sp__law_near_word) (wCons (wVar 0) (wCons (wVar 8) wNil))) (List.map (fun p : Str × Nat => p.2) [("k", 14)])) (wLst false (wCons (wVar 5) wNil)))) (gdName 7)
  (wIf (wNotT (wTest (wCall 2 (sp__law_same 10) (wCons (wCall 5 (sp__law_asked) (wCons (wC (.int 0)) (wCons (wVar 8) (wCons (wVar 7) (wCons (wC .non) (wCons (wVar 1) wNil)))))) (wCons (wLst false (wCons (wC (.str [116, 111, 108, 100])) (wCons (wCall 2 (sp__law_is_word) (wCons (wVar 8) (wCons (wVar 7) wNil))) wNil))) wNil)))))
  (wRet (wC (.bl false)))
  wNext))
  (wSet 1 (wNot (wVar 1))))))))))))))
  (wRet (wC (.bl true)))))
theorem sat__law_words_right : Sat' 1 N__law_words_right.length w__law_words_right sp__law_words_right := by
  rintro ds S P E - hS hd ⟨b, rfl, hb, p⟩
  have hz := sizeLine_eq
  simp only [w__law_words_right, N__law_words_right, wRet, wRetN, wSeq, wSet, wIf, wPar, wPar3, wExpr, wAsg, wNext, wBreak, wCont, gdTup, gdCons, gdNil, gdName, wIte, wAnd, wOr, DD.wNot, wTest, wNotT, wAndT, wOrT, wBin, wUn, wB, wCons, wNil, wVar, wC, wTup, wLst, mkL, wYes, wCall, wChain, startD, List.map_cons, List.map_nil, List.length_cons, List.length_nil, List.replicate, List.cons_append, List.nil_append, List.append_nil, List.getElem?_cons_zero, List.getElem?_cons_succ, List.set_cons_zero, List.set_cons_succ, Option.some.injEq, exists_eq_left', exists_eq_left, true_and, and_true, if_true, if_false, Bool.false_eq_true, gI, D.int.injEq, D.bl.injEq, D.str.injEq, wLc, wSrc, srcD, wSl, wSmO, wNoO, gSl, bodyC, wipeD, beq_self_eq_true, Bool.not_true, exists_and_left, List.cons.injEq, gLen3, D.ty.injEq, D.ref.injEq, D.tup.injEq, D.lst.injEq, and_assoc, tm_bool, tm_int, tm_str, tm_tuple, tm_list, tm_dict, gIsi, wIsi2, wRaise, gLe, gGt, gGe, DD.gSub, Prod.mk.injEq, gAdd_int, gMul_int, gInt_int, gInt_bl, wPut, lenD3_lst, lenD3_tup, lenD3_str, lenD3_dct, gIn3_str, gIn3_lst, gIn3_tup, gInS, gIn, wFor, wRng1, spTake, gEq, eqR, hb]
  refine ⟨by decide, by decide, fun i i0 i1 => ⟨by decide, by decide, fun f f0 f1 => ⟨by omega, by omega, ?_⟩⟩⟩
  refine loopF_inv (fun ys ρ S1 => S1 = S ∧ ∃ (nm : Bool) (x3 x4 x5 x6 x7 x8 x9 x10 x11 x12 x13 x14 : Option D), (∀ y ∈ ys, ∃ t : Int, y = .int t ∧ 0 ≤ t ∧ t ≤ 4) ∧ ρ = [some (.ref b), some (.bl nm), some (.int f), x3, x4, x5, x6, x7, x8, x9, x10, x11, x12, x13, x14]) ?_ ?_ _ _ _ ⟨rfl, _, _, _, _, _, _, _, _, _, _, _, _, _, ?_, rfl⟩
  · rintro y ys ρ S1 K ⟨rfl, nm, x3, x4, x5, x6, x7, x8, x9, x10, x11, x12, x13, x14, hy, rfl⟩ hK
    refine ⟨trivial, ?_⟩
    obtain ⟨t, rfl, t0, t4⟩ := hy y List.mem_cons_self
    simp only [bodyF, gdName, List.set_cons_succ, List.set_cons_zero]
    refine stage (fun ρ1 S2 => S2 = S1 ∧ ∃ (l : Int) (lg : Bool) (x4 x5 x6 x7 x10 x11 x12 x13 x14 : Option D), 1 ≤ l ∧ l ≤ 2 ∧ ρ1 = [some (.ref b), some (.bl nm), some (.int f), some (.int t), x4, x5, x6, x7, some (.int l), some (.bl lg), x10, x11, x12, x13, x14]) (fun K hK => ?_) ?_
    · simp only [wRet, wRetN, wSeq, wSet, wIf, wPar, wPar3, wExpr, wAsg, wNext, wBreak, wCont, gdTup, gdCons, gdNil, gdName, wIte, wAnd, wOr, DD.wNot, wTest, wNotT, wAndT, wOrT, wBin, wUn, wB, wCons, wNil, wVar, wC, wTup, wLst, mkL, wYes, wCall, wChain, startD, List.map_cons, List.map_nil, List.length_cons, List.length_nil, List.replicate, List.cons_append, List.nil_append, List.append_nil, List.getElem?_cons_zero, List.getElem?_cons_succ, List.set_cons_zero, List.set_cons_succ, Option.some.injEq, exists_eq_left', exists_eq_left, true_and, and_true, if_true, if_false, Bool.false_eq_true, gI, D.int.injEq, D.bl.injEq, D.str.injEq, wLc, wSrc, srcD, wSl, wSmO, wNoO, gSl, bodyC, wipeD, beq_self_eq_true, Bool.not_true, exists_and_left, List.cons.injEq, gLen3, D.ty.injEq, D.ref.injEq, D.tup.injEq, D.lst.injEq, and_assoc, tm_bool, tm_int, tm_str, tm_tuple, tm_list, tm_dict, gIsi, wIsi2, wRaise, gLe, gGt, gGe, DD.gSub, Prod.mk.injEq, gAdd_int, gMul_int, gInt_int, gInt_bl, wPut, lenD3_lst, lenD3_tup, lenD3_str, lenD3_dct, gIn3_str, gIn3_lst, gIn3_tup, gInS, gIn, spTake, gEq, eqR, hb]
      exact ⟨by decide, by decide, by decide, fun j j0 j1 => ⟨by decide, hK _ _ ⟨rfl, _, _, _, _, _, _, _, _, _, _, _, by omega, by omega, rfl⟩⟩⟩
    rintro ρ1 S2 ⟨rfl, l, lg, x4, x5, x6, x7, x10, x11, x12, x13, x14, l1, l2, rfl⟩
    refine stage (fun ρ1 S1 => S1 = S2 ∧ ∃ (w o : List Nat) (x6 x7 x10 x11 x12 x13 x14 : Option D), w.length ≤ 6 ∧ o.length ≤ 6 ∧ (∀ c ∈ w, c ∈ abL l) ∧ (∀ c ∈ o, c ∈ abL l) ∧ ρ1 = [some (.ref b), some (.bl nm), some (.int f), some (.int t), some (.str o), some (.str w), x6, x7, some (.int l), some (.bl lg), x10, x11, x12, x13, x14]) (fun K hK => ?_) ?_
    · simp only [wRet, wRetN, wSeq, wSet, wIf, wPar, wPar3, wExpr, wAsg, wNext, wBreak, wCont, gdTup, gdCons, gdNil, gdName, wIte, wAnd, wOr, DD.wNot, wTest, wNotT, wAndT, wOrT, wBin, wUn, wB, wCons, wNil, wVar, wC, wTup, wLst, mkL, wYes, wCall, wChain, startD, List.map_cons, List.map_nil, List.length_cons, List.length_nil, List.replicate, List.cons_append, List.nil_append, List.append_nil, List.getElem?_cons_zero, List.getElem?_cons_succ, List.set_cons_zero, List.set_cons_succ, Option.some.injEq, exists_eq_left', exists_eq_left, true_and, and_true, if_true, if_false, Bool.false_eq_true, gI, D.int.injEq, D.bl.injEq, D.str.injEq, wLc, wSrc, srcD, wSl, wSmO, wNoO, gSl, bodyC, wipeD, beq_self_eq_true, Bool.not_true, exists_and_left, List.cons.injEq, gLen3, D.ty.injEq, D.ref.injEq, D.tup.injEq, D.lst.injEq, and_assoc, tm_bool, tm_int, tm_str, tm_tuple, tm_list, tm_dict, gIsi, wIsi2, wRaise, gLe, gGt, gGe, DD.gSub, Prod.mk.injEq, gAdd_int, gMul_int, gInt_int, gInt_bl, wPut, lenD3_lst, lenD3_tup, lenD3_str, lenD3_dct, gIn3_str, gIn3_lst, gIn3_tup, gInS, gIn, sp__law_word, hb]
      exact ⟨l1, l2, by decide, by decide, fun w w1 w2 => ⟨l1, l2, by decide, by decide, fun o o1 o2 => ⟨by decide, hK _ _ ⟨rfl, w, o, _, _, _, _, _, _, _, by omega, by omega, w2, o2, rfl⟩⟩⟩⟩
    rintro ρ1 S1 ⟨rfl, w, o, x6, x7, x10, x11, x12, x13, x14, w1, o1, w2, o2, rfl⟩
    refine stage (fun ρ1 S2 => S2 = S1 ∧ ∃ (o : List Nat), o.length ≤ 6 ∧ (∀ c ∈ o, c ∈ abL l) ∧ ρ1 = [some (.ref b), some (.bl nm), some (.int f), some (.int t), some (.str o), some (.str w), x6, x7, some (.int l), some (.bl lg), x10, x11, x12, x13, x14]) (fun K hK => ?_) ?_
    · simp only [wRet, wRetN, wSeq, wSet, wIf, wPar, wPar3, wExpr, wAsg, wNext, wBreak, wCont, gdTup, gdCons, gdNil, gdName, wIte, wAnd, wOr, DD.wNot, wTest, wNotT, wAndT, wOrT, wBin, wUn, wB, wCons, wNil, wVar, wC, wTup, wLst, mkL, wYes, wCall, wChain, startD, List.map_cons, List.map_nil, List.length_cons, List.length_nil, List.replicate, List.cons_append, List.nil_append, List.append_nil, List.getElem?_cons_zero, List.getElem?_cons_succ, List.set_cons_zero, List.set_cons_succ, Option.some.injEq, exists_eq_left', exists_eq_left, true_and, and_true, if_true, if_false, Bool.false_eq_true, gI, D.int.injEq, D.bl.injEq, D.str.injEq, wLc, wSrc, srcD, wSl, wSmO, wNoO, gSl, bodyC, wipeD, beq_self_eq_true, Bool.not_true, exists_and_left, List.cons.injEq, gLen3, D.ty.injEq, D.ref.injEq, D.tup.injEq, D.lst.injEq, and_assoc, tm_bool, tm_int, tm_str, tm_tuple, tm_list, tm_dict, gIsi, wIsi2, wRaise, gLe, gGt, gGe, DD.gSub, Prod.mk.injEq, gAdd_int, gMul_int, gInt_int, gInt_bl, wPut, lenD3_lst, lenD3_tup, lenD3_str, lenD3_dct, gIn3_str, gIn3_lst, gIn3_tup, gInS, gIn, spTake, gEq, eqR, hb]
      refine ⟨by decide, by decide, fun j j0 j1 => ?_⟩
      split
      · exact hK _ _ ⟨rfl, w, w1, w2, rfl⟩
      · exact hK _ _ ⟨rfl, o, o1, o2, rfl⟩
    rintro ρ1 S2 ⟨rfl, o, o1, o2, rfl⟩
    refine stage (fun ρ1 S1 => S1 = S2 ∧ ∃ (w : List Nat), w.length ≤ 130 ∧ (∀ c ∈ w, c ∈ abL l) ∧ ρ1 = [some (.ref b), some (.bl nm), some (.int f), some (.int t), some (.str o), some (.str w), x6, x7, some (.int l), some (.bl lg), x10, x11, x12, x13, x14]) (fun K hK => ?_) ?_
    · have hw0 : w.length ≤ sizeLine := by omega
      simp only [wRet, wRetN, wSeq, wSet, wIf, wPar, wPar3, wExpr, wAsg, wNext, wBreak, wCont, gdTup, gdCons, gdNil, gdName, wIte, wAnd, wOr, DD.wNot, wTest, wNotT, wAndT, wOrT, wBin, wUn, wB, wCons, wNil, wVar, wC, wTup, wLst, mkL, wYes, wCall, wChain, startD, List.map_cons, List.map_nil, List.length_cons, List.length_nil, List.replicate, List.cons_append, List.nil_append, List.append_nil, List.getElem?_cons_zero, List.getElem?_cons_succ, List.set_cons_zero, List.set_cons_succ, Option.some.injEq, exists_eq_left', exists_eq_left, true_and, and_true, if_true, if_false, Bool.false_eq_true, gI, D.int.injEq, D.bl.injEq, D.str.injEq, wLc, wSrc, srcD, wSl, wSmO, wNoO, gSl, bodyC, wipeD, beq_self_eq_true, Bool.not_true, exists_and_left, List.cons.injEq, gLen3, D.ty.injEq, D.ref.injEq, D.tup.injEq, D.lst.injEq, and_assoc, tm_bool, tm_int, tm_str, tm_tuple, tm_list, tm_dict, gIsi, wIsi2, wRaise, gLe, gGt, gGe, DD.gSub, Prod.mk.injEq, gAdd_int, gMul_int, gInt_int, gInt_bl, wPut, lenD3_lst, lenD3_tup, lenD3_str, lenD3_dct, gIn3_str, gIn3_lst, gIn3_tup, gInS, gIn, hw0]
      split
      · have hrep : (List.replicate (130 - (w.length : Int)).toNat [97]).flatten = List.replicate (130 - (w.length : Int)).toNat 97 := List.flatten_replicate_singleton
        refine ⟨by omega, by omega, by simp; omega, by rw [hrep, List.length_replicate]; omega, hK _ _ ⟨rfl, _, ?_, ?_, rfl⟩⟩
        · rw [hrep, List.length_append, List.length_replicate]; omega
        · intro c hc
          rw [hrep] at hc
          rcases List.mem_append.mp hc with h | h
          · exact w2 c h
          · rw [List.eq_of_mem_replicate h]
            have hl : l = 1 ∨ l = 2 := by omega
            rcases hl with rfl | rfl <;> decide
      · exact hK _ _ ⟨rfl, w, by omega, w2, rfl⟩
    clear w1 w2
    rintro ρ1 S1 ⟨rfl, w, w1, w2, rfl⟩
    have hws : w.length ≤ sizeLine := by omega
    refine stage (fun ρ1 S2 => S2 = S1 ∧ ρ1 = [some (.ref b), some (.bl nm), some (.int f), some (.int t), some (.str o), some (.str w), x6, x7, some (.int l), some (.bl lg), some (.lst (begD w)), some (.lst (endD w)), x12, x13, x14]) (fun K hK => ?_) ?_
    · simp only [wRet, wRetN, wSeq, wSet, wIf, wPar, wPar3, wExpr, wAsg, wNext, wBreak, wCont, gdTup, gdCons, gdNil, gdName, wIte, wAnd, wOr, DD.wNot, wTest, wNotT, wAndT, wOrT, wBin, wUn, wB, wCons, wNil, wVar, wC, wTup, wLst, mkL, wYes, wCall, wChain, startD, List.map_cons, List.map_nil, List.length_cons, List.length_nil, List.replicate, List.cons_append, List.nil_append, List.append_nil, List.getElem?_cons_zero, List.getElem?_cons_succ, List.set_cons_zero, List.set_cons_succ, Option.some.injEq, exists_eq_left', exists_eq_left, true_and, and_true, if_true, if_false, Bool.false_eq_true, gI, D.int.injEq, D.bl.injEq, D.str.injEq, wLc, wSrc, srcD, wSl, wSmO, wNoO, gSl, bodyC, wipeD, beq_self_eq_true, Bool.not_true, exists_and_left, List.cons.injEq, gLen3, D.ty.injEq, D.ref.injEq, D.tup.injEq, D.lst.injEq, and_assoc, tm_bool, tm_int, tm_str, tm_tuple, tm_list, tm_dict, gIsi, wIsi2, wRaise, gLe, gGt, gGe, DD.gSub, Prod.mk.injEq, gAdd_int, gMul_int, gInt_int, gInt_bl, wPut, lenD3_lst, lenD3_tup, lenD3_str, lenD3_dct, gIn3_str, gIn3_lst, gIn3_tup, gInS, gIn, hws, wRng1]
      refine ⟨by omega, by omega, loopC_pure (begF w) trivial _ _ (fun x hx Q hQ => ?_) ?_⟩
      · obtain ⟨k, hk, rfl⟩ := List.mem_map.mp hx
        have hk := List.mem_range.mp hk
        simp only [wRet, wRetN, wSeq, wSet, wIf, wPar, wPar3, wExpr, wAsg, wNext, wBreak, wCont, gdTup, gdCons, gdNil, gdName, wIte, wAnd, wOr, DD.wNot, wTest, wNotT, wAndT, wOrT, wBin, wUn, wB, wCons, wNil, wVar, wC, wTup, wLst, mkL, wYes, wCall, wChain, startD, List.map_cons, List.map_nil, List.length_cons, List.length_nil, List.replicate, List.cons_append, List.nil_append, List.append_nil, List.getElem?_cons_zero, List.getElem?_cons_succ, List.set_cons_zero, List.set_cons_succ, Option.some.injEq, exists_eq_left', exists_eq_left, true_and, and_true, if_true, if_false, Bool.false_eq_true, gI, D.int.injEq, D.bl.injEq, D.str.injEq, wLc, wSrc, srcD, wSl, wSmO, wNoO, gSl, bodyC, wipeD, beq_self_eq_true, Bool.not_true, exists_and_left, List.cons.injEq, gLen3, D.ty.injEq, D.ref.injEq, D.tup.injEq, D.lst.injEq, and_assoc, tm_bool, tm_int, tm_str, tm_tuple, tm_list, tm_dict, gIsi, wIsi2, wRaise, gLe, gGt, gGe, DD.gSub, Prod.mk.injEq, gAdd_int, gMul_int, gInt_int, gInt_bl, wPut, lenD3_lst, lenD3_tup, lenD3_str, lenD3_dct, gIn3_str, gIn3_lst, gIn3_tup, gInS, gIn, hws]
        rw [cut_take _ _ (by omega)]
        exact hQ
      · rw [List.nil_append, beg_rng w ((w.length : Int) + 1).toNat (by omega)]
        refine ⟨by omega, by omega, loopC_pure (endF w) trivial _ _ (fun x hx Q hQ => ?_) ?_⟩
        · obtain ⟨k, hk, rfl⟩ := List.mem_map.mp hx
          have hk := List.mem_range.mp hk
          simp only [wRet, wRetN, wSeq, wSet, wIf, wPar, wPar3, wExpr, wAsg, wNext, wBreak, wCont, gdTup, gdCons, gdNil, gdName, wIte, wAnd, wOr, DD.wNot, wTest, wNotT, wAndT, wOrT, wBin, wUn, wB, wCons, wNil, wVar, wC, wTup, wLst, mkL, wYes, wCall, wChain, startD, List.map_cons, List.map_nil, List.length_cons, List.length_nil, List.replicate, List.cons_append, List.nil_append, List.append_nil, List.getElem?_cons_zero, List.getElem?_cons_succ, List.set_cons_zero, List.set_cons_succ, Option.some.injEq, exists_eq_left', exists_eq_left, true_and, and_true, if_true, if_false, Bool.false_eq_true, gI, D.int.injEq, D.bl.injEq, D.str.injEq, wLc, wSrc, srcD, wSl, wSmO, wNoO, gSl, bodyC, wipeD, beq_self_eq_true, Bool.not_true, exists_and_left, List.cons.injEq, gLen3, D.ty.injEq, D.ref.injEq, D.tup.injEq, D.lst.injEq, and_assoc, tm_bool, tm_int, tm_str, tm_tuple, tm_list, tm_dict, gIsi, wIsi2, wRaise, gLe, gGt, gGe, DD.gSub, Prod.mk.injEq, gAdd_int, gMul_int, gInt_int, gInt_bl, wPut, lenD3_lst, lenD3_tup, lenD3_str, lenD3_dct, gIn3_str, gIn3_lst, gIn3_tup, gInS, gIn, hws, DD.gSub]
          rw [cut_drop w (0 + (k : Nat)) _ rfl (by omega), show ((w.length : Int) - (0 + (k : Nat))).toNat = w.length - (0 + (k : Int)).toNat by omega]
          exact hQ
        · rw [List.nil_append, end_rng w ((w.length : Int) + 1).toNat (by omega)]
          exact hK _ _ ⟨rfl, rfl⟩
    rintro ρ1 S2 ⟨rfl, rfl⟩
    refine stage (fun ρ1 S1 => S1 = S2 ∧ ρ1 = [some (.ref b), some (.bl nm), some (.int f), some (.int t), some (.str o), some (.str w), x6, x7, some (.int l), some (.bl lg), some (.lst (begD w)), some (.lst (endD w)), x12, x13, x14]) (fun K hK => ?_) ?_
    · simp only [wRet, wRetN, wSeq, wSet, wIf, wPar, wPar3, wExpr, wAsg, wNext, wBreak, wCont, gdTup, gdCons, gdNil, gdName, wIte, wAnd, wOr, DD.wNot, wTest, wNotT, wAndT, wOrT, wBin, wUn, wB, wCons, wNil, wVar, wC, wTup, wLst, mkL, wYes, wCall, wChain, startD, List.map_cons, List.map_nil, List.length_cons, List.length_nil, List.replicate, List.cons_append, List.nil_append, List.append_nil, List.getElem?_cons_zero, List.getElem?_cons_succ, List.set_cons_zero, List.set_cons_succ, Option.some.injEq, exists_eq_left', exists_eq_left, true_and, and_true, if_true, if_false, Bool.false_eq_true, gI, D.int.injEq, D.bl.injEq, D.str.injEq, wLc, wSrc, srcD, wSl, wSmO, wNoO, gSl, bodyC, wipeD, beq_self_eq_true, Bool.not_true, exists_and_left, List.cons.injEq, gLen3, D.ty.injEq, D.ref.injEq, D.tup.injEq, D.lst.injEq, and_assoc, tm_bool, tm_int, tm_str, tm_tuple, tm_list, tm_dict, gIsi, wIsi2, wRaise, gLe, gGt, gGe, DD.gSub, Prod.mk.injEq, gAdd_int, gMul_int, gInt_int, gInt_bl, wPut, lenD3_lst, lenD3_tup, lenD3_str, lenD3_dct, gIn3_str, gIn3_lst, gIn3_tup, gInS, gIn]
      exact tr_beg l1 l2 w1 w2 ⟨_, rfl, nif (tr_end l1 l2 w1 w2 ⟨_, rfl, nif (hK _ _ ⟨rfl, rfl⟩)⟩)⟩
    rintro ρ1 S1 ⟨rfl, rfl⟩
    refine stage (fun ρ1 S2 => S2 = S1 ∧ ∃ (x12 x13 : Option D), ρ1 = [some (.ref b), some (.bl nm), some (.int f), some (.int t), some (.str o), some (.str w), x6, x7, some (.int l), some (.bl lg), some (.lst (begD w)), some (.lst (endD w)), x12, x13, x14]) (fun K hK => ?_) ?_
    · simp only [wFor, wRet, wRetN, wSeq, wSet, wIf, wPar, wPar3, wExpr, wAsg, wNext, wBreak, wCont, gdTup, gdCons, gdNil, gdName, wIte, wAnd, wOr, DD.wNot, wTest, wNotT, wAndT, wOrT, wBin, wUn, wB, wCons, wNil, wVar, wC, wTup, wLst, mkL, wYes, wCall, wChain, startD, List.map_cons, List.map_nil, List.length_cons, List.length_nil, List.replicate, List.cons_append, List.nil_append, List.append_nil, List.getElem?_cons_zero, List.getElem?_cons_succ, List.set_cons_zero, List.set_cons_succ, Option.some.injEq, exists_eq_left', exists_eq_left, true_and, and_true, if_true, if_false, Bool.false_eq_true, gI, D.int.injEq, D.bl.injEq, D.str.injEq, wLc, wSrc, srcD, wSl, wSmO, wNoO, gSl, bodyC, wipeD, beq_self_eq_true, Bool.not_true, exists_and_left, List.cons.injEq, gLen3, D.ty.injEq, D.ref.injEq, D.tup.injEq, D.lst.injEq, and_assoc, tm_bool, tm_int, tm_str, tm_tuple, tm_list, tm_dict, gIsi, wIsi2, wRaise, gLe, gGt, gGe, DD.gSub, Prod.mk.injEq, gAdd_int, gMul_int, gInt_int, gInt_bl, wPut, lenD3_lst, lenD3_tup, lenD3_str, lenD3_dct, gIn3_str, gIn3_lst, gIn3_tup, gInS, gIn]
      have o3 : o.length ≤ 130 := by omega
      refine ⟨by decide, by decide, by decide, by decide, loopF_inv (fun ys ρ S2 => S2 = S1 ∧ (∀ y ∈ ys, ∃ s t : List Nat, y = .tup [.str s, .str t] ∧ s.length ≤ 130 ∧ t.length ≤ 130 ∧ (∀ c ∈ s, c ∈ abL l) ∧ (∀ c ∈ t, c ∈ abL l)) ∧ ∃ (x12 x13 : Option D), ρ = [some (.ref b), some (.bl nm), some (.int f), some (.int t), some (.str o), some (.str w), x6, x7, some (.int l), some (.bl lg), some (.lst (begD w)), some (.lst (endD w)), x12, x13, x14]) ?_ ?_ _ _ _ ⟨rfl, ?_, _, _, rfl⟩⟩
      · rintro y ys ρ S2 K ⟨rfl, hall, x12, x13, rfl⟩ hK
        obtain ⟨s, t, rfl, s1, t1, s2, t2⟩ := hall y List.mem_cons_self
        refine ⟨trivial, ?_⟩
        simp only [bodyF, wRet, wRetN, wSeq, wSet, wIf, wPar, wPar3, wExpr, wAsg, wNext, wBreak, wCont, gdTup, gdCons, gdNil, gdName, wIte, wAnd, wOr, DD.wNot, wTest, wNotT, wAndT, wOrT, wBin, wUn, wB, wCons, wNil, wVar, wC, wTup, wLst, mkL, wYes, wCall, wChain, startD, List.map_cons, List.map_nil, List.length_cons, List.length_nil, List.replicate, List.cons_append, List.nil_append, List.append_nil, List.getElem?_cons_zero, List.getElem?_cons_succ, List.set_cons_zero, List.set_cons_succ, Option.some.injEq, exists_eq_left', exists_eq_left, true_and, and_true, if_true, if_false, Bool.false_eq_true, gI, D.int.injEq, D.bl.injEq, D.str.injEq, wLc, wSrc, srcD, wSl, wSmO, wNoO, gSl, bodyC, wipeD, beq_self_eq_true, Bool.not_true, exists_and_left, List.cons.injEq, gLen3, D.ty.injEq, D.ref.injEq, D.tup.injEq, D.lst.injEq, and_assoc, tm_bool, tm_int, tm_str, tm_tuple, tm_list, tm_dict, gIsi, wIsi2, wRaise, gLe, gGt, gGe, DD.gSub, Prod.mk.injEq, gAdd_int, gMul_int, gInt_int, gInt_bl, wPut, lenD3_lst, lenD3_tup, lenD3_str, lenD3_dct, gIn3_str, gIn3_lst, gIn3_tup, gInS, gIn, sp__law_key]
        exact ⟨by omega, by omega, _, key_lt s2 t2, tr_ahead l1 l2 s1 s2 t1 t2 ⟨_, rfl, nif (hK _ _ ⟨rfl, fun z hz => hall z (List.mem_cons_of_mem _ hz), _, _, rfl⟩)⟩⟩
      · rintro ρ S2 ⟨rfl, _, x12, x13, rfl⟩
        exact ⟨trivial, hK _ _ ⟨rfl, _, _, rfl⟩⟩
      · intro y hy
        simp only [List.mem_cons, List.not_mem_nil, or_false] at hy
        rcases hy with rfl | rfl | rfl
        · exact ⟨_, _, rfl, w1, o3, w2, o2⟩
        · exact ⟨_, _, rfl, o3, w1, o2, w2⟩
        · exact ⟨_, _, rfl, w1, w1, w2, w2⟩
    rintro ρ1 S2 ⟨rfl, x12, x13, rfl⟩
    refine stage (fun ρ1 S1 => S1 = S2 ∧ ∃ (n : Int), 0 ≤ n ∧ n ≤ 8 ∧ ρ1 = [some (.ref b), some (.bl nm), some (.int f), some (.int t), some (.str o), some (.str w), some (.int n), x7, some (.int l), some (.bl lg), some (.lst (begD w)), some (.lst (endD w)), x12, x13, x14]) (fun K hK => ?_) ?_
    · simp only [wRet, wRetN, wSeq, wSet, wIf, wPar, wPar3, wExpr, wAsg, wNext, wBreak, wCont, gdTup, gdCons, gdNil, gdName, wIte, wAnd, wOr, DD.wNot, wTest, wNotT, wAndT, wOrT, wBin, wUn, wB, wCons, wNil, wVar, wC, wTup, wLst, mkL, wYes, wCall, wChain, startD, List.map_cons, List.map_nil, List.length_cons, List.length_nil, List.replicate, List.cons_append, List.nil_append, List.append_nil, List.getElem?_cons_zero, List.getElem?_cons_succ, List.set_cons_zero, List.set_cons_succ, Option.some.injEq, exists_eq_left', exists_eq_left, true_and, and_true, if_true, if_false, Bool.false_eq_true, gI, D.int.injEq, D.bl.injEq, D.str.injEq, wLc, wSrc, srcD, wSl, wSmO, wNoO, gSl, bodyC, wipeD, beq_self_eq_true, Bool.not_true, exists_and_left, List.cons.injEq, gLen3, D.ty.injEq, D.ref.injEq, D.tup.injEq, D.lst.injEq, and_assoc, tm_bool, tm_int, tm_str, tm_tuple, tm_list, tm_dict, gIsi, wIsi2, wRaise, gLe, gGt, gGe, DD.gSub, Prod.mk.injEq, gAdd_int, gMul_int, gInt_int, gInt_bl, wPut, lenD3_lst, lenD3_tup, lenD3_str, lenD3_dct, gIn3_str, gIn3_lst, gIn3_tup, gInS, gIn, spTake, hb, gEq, eqR]
      refine ⟨by decide, by decide, fun j j0 j1 => ?_⟩
      split
      · exact ⟨by decide, by decide, fun n n0 n1 => hK _ _ ⟨rfl, n, n0, by omega, rfl⟩⟩
      · exact ⟨by decide, by decide, fun n n0 n1 => hK _ _ ⟨rfl, n, n0, by omega, rfl⟩⟩
    rintro ρ1 S1 ⟨rfl, n, n0, n8, rfl⟩
    refine stage (fun ρ1 S2 => S2 = S1 ∧ ρ1 = [some (.ref b), some (.bl nm), some (.int f), some (.int t), some (.str o), some (.str w), some (.int n), x7, some (.int l), some (.bl lg), some (.lst (begD w)), some (.lst (endD w)), x12, x13, x14]) (fun K hK => ?_) ?_
    · simp only [wRet, wRetN, wSeq, wSet, wIf, wPar, wPar3, wExpr, wAsg, wNext, wBreak, wCont, gdTup, gdCons, gdNil, gdName, wIte, wAnd, wOr, DD.wNot, wTest, wNotT, wAndT, wOrT, wBin, wUn, wB, wCons, wNil, wVar, wC, wTup, wLst, mkL, wYes, wCall, wChain, startD, List.map_cons, List.map_nil, List.length_cons, List.length_nil, List.replicate, List.cons_append, List.nil_append, List.append_nil, List.getElem?_cons_zero, List.getElem?_cons_succ, List.set_cons_zero, List.set_cons_succ, Option.some.injEq, exists_eq_left', exists_eq_left, true_and, and_true, if_true, if_false, Bool.false_eq_true, gI, D.int.injEq, D.bl.injEq, D.str.injEq, wLc, wSrc, srcD, wSl, wSmO, wNoO, gSl, bodyC, wipeD, beq_self_eq_true, Bool.not_true, exists_and_left, List.cons.injEq, gLen3, D.ty.injEq, D.ref.injEq, D.tup.injEq, D.lst.injEq, and_assoc, tm_bool, tm_int, tm_str, tm_tuple, tm_list, tm_dict, gIsi, wIsi2, wRaise, gLe, gGt, gGe, DD.gSub, Prod.mk.injEq, gAdd_int, gMul_int, gInt_int, gInt_bl, wPut, lenD3_lst, lenD3_tup, lenD3_str, lenD3_dct, gIn3_str, gIn3_lst, gIn3_tup, gInS, gIn, sp__law_words]
      exact ⟨n0, by omega, tr_words l1 l2 n0 n8 ⟨_, rfl, nif (hK _ _ ⟨rfl, rfl⟩)⟩⟩
    rintro ρ1 S2 ⟨rfl, rfl⟩
    refine stage (fun ρ1 S1 => S1 = S2 ∧ ∃ (x7 x14 : Option D), ρ1 = [some (.ref b), some (.bl nm), some (.int f), some (.int t), some (.str o), some (.str w), some (.int n), x7, some (.int l), some (.bl lg), some (.lst (begD w)), some (.lst (endD w)), x12, x13, x14]) (fun K hK => ?_) ?_
    · simp only [wFor, wRng1, wRet, wRetN, wSeq, wSet, wIf, wPar, wPar3, wExpr, wAsg, wNext, wBreak, wCont, gdTup, gdCons, gdNil, gdName, wIte, wAnd, wOr, DD.wNot, wTest, wNotT, wAndT, wOrT, wBin, wUn, wB, wCons, wNil, wVar, wC, wTup, wLst, mkL, wYes, wCall, wChain, startD, List.map_cons, List.map_nil, List.length_cons, List.length_nil, List.replicate, List.cons_append, List.nil_append, List.append_nil, List.getElem?_cons_zero, List.getElem?_cons_succ, List.set_cons_zero, List.set_cons_succ, Option.some.injEq, exists_eq_left', exists_eq_left, true_and, and_true, if_true, if_false, Bool.false_eq_true, gI, D.int.injEq, D.bl.injEq, D.str.injEq, wLc, wSrc, srcD, wSl, wSmO, wNoO, gSl, bodyC, wipeD, beq_self_eq_true, Bool.not_true, exists_and_left, List.cons.injEq, gLen3, D.ty.injEq, D.ref.injEq, D.tup.injEq, D.lst.injEq, and_assoc, tm_bool, tm_int, tm_str, tm_tuple, tm_list, tm_dict, gIsi, wIsi2, wRaise, gLe, gGt, gGe, DD.gSub, Prod.mk.injEq, gAdd_int, gMul_int, gInt_int, gInt_bl, wPut, lenD3_lst, lenD3_tup, lenD3_str, lenD3_dct, gIn3_str, gIn3_lst, gIn3_tup, gInS, gIn, sp__law_near_word]
      refine ⟨by decide, by decide, loopC_inv (fun ys acc S1 => S1 = S2 ∧ acc.length + ys.length ≤ 3 ∧ ∀ d ∈ acc, Nice d) ?_ ?_ _ _ _ ⟨rfl, by simp [rangeD], by simp⟩⟩
      · rintro y ys acc S1 K ⟨rfl, hl, hn⟩ hK
        refine ⟨trivial, ?_⟩
        simp only [wRet, wRetN, wSeq, wSet, wIf, wPar, wPar3, wExpr, wAsg, wNext, wBreak, wCont, gdTup, gdCons, gdNil, gdName, wIte, wAnd, wOr, DD.wNot, wTest, wNotT, wAndT, wOrT, wBin, wUn, wB, wCons, wNil, wVar, wC, wTup, wLst, mkL, wYes, wCall, wChain, startD, List.map_cons, List.map_nil, List.length_cons, List.length_nil, List.replicate, List.cons_append, List.nil_append, List.append_nil, List.getElem?_cons_zero, List.getElem?_cons_succ, List.set_cons_zero, List.set_cons_succ, Option.some.injEq, exists_eq_left', exists_eq_left, true_and, and_true, if_true, if_false, Bool.false_eq_true, gI, D.int.injEq, D.bl.injEq, D.str.injEq, wLc, wSrc, srcD, wSl, wSmO, wNoO, gSl, bodyC, wipeD, beq_self_eq_true, Bool.not_true, exists_and_left, List.cons.injEq, gLen3, D.ty.injEq, D.ref.injEq, D.tup.injEq, D.lst.injEq, and_assoc, tm_bool, tm_int, tm_str, tm_tuple, tm_list, tm_dict, gIsi, wIsi2, wRaise, gLe, gGt, gGe, DD.gSub, Prod.mk.injEq, gAdd_int, gMul_int, gInt_int, gInt_bl, wPut, lenD3_lst, lenD3_tup, lenD3_str, lenD3_dct, gIn3_str, gIn3_lst, gIn3_tup, gInS, gIn, sp__law_near_word, hb]
        refine ⟨l1, l2, fun d hd => hK _ _ ⟨rfl, ?_, ?_⟩⟩
        · simp only [Option.toList, List.length_append, List.length_cons, List.length_nil] at hl ⊢; omega
        · intro z hz'
          rcases List.mem_append.mp hz' with h | h
          · exact hn z h
          · simp only [Option.toList, List.mem_singleton] at h; rw [h]; exact hd
      · rintro acc S1 ⟨rfl, hl, hn⟩
        refine ⟨trivial, by decide, add_lst (by simp only [List.length_cons, List.length_nil] at hl ⊢; omega) ?_⟩
        refine ⟨_, fun _ => True, rfl, loopF_inv (fun ys ρ S2 => S2 = S1 ∧ (∀ d ∈ ys, Nice d) ∧ ∃ (x7 : Option D), ρ = [some (.ref b), some (.bl nm), some (.int f), some (.int t), some (.str o), some (.str w), some (.int n), x7, some (.int l), some (.bl lg), some (.lst (begD w)), some (.lst (endD w)), x12, x13, x14]) ?_ ?_ _ _ _ ⟨rfl, ?_, _, rfl⟩⟩
        · rintro y ys ρ S2 K ⟨rfl, hall, x7, rfl⟩ hK
          have hy := hall y List.mem_cons_self
          obtain ⟨m, hm⟩ := hy.ty (S := S2)
          refine ⟨trivial, ?_⟩
          simp only [bodyF, wRet, wRetN, wSeq, wSet, wIf, wPar, wPar3, wExpr, wAsg, wNext, wBreak, wCont, gdTup, gdCons, gdNil, gdName, wIte, wAnd, wOr, DD.wNot, wTest, wNotT, wAndT, wOrT, wBin, wUn, wB, wCons, wNil, wVar, wC, wTup, wLst, mkL, wYes, wCall, wChain, startD, List.map_cons, List.map_nil, List.length_cons, List.length_nil, List.replicate, List.cons_append, List.nil_append, List.append_nil, List.getElem?_cons_zero, List.getElem?_cons_succ, List.set_cons_zero, List.set_cons_succ, Option.some.injEq, exists_eq_left', exists_eq_left, true_and, and_true, if_true, if_false, Bool.false_eq_true, gI, D.int.injEq, D.bl.injEq, D.str.injEq, wLc, wSrc, srcD, wSl, wSmO, wNoO, gSl, bodyC, wipeD, beq_self_eq_true, Bool.not_true, exists_and_left, List.cons.injEq, gLen3, D.ty.injEq, D.ref.injEq, D.tup.injEq, D.lst.injEq, and_assoc, tm_bool, tm_int, tm_str, tm_tuple, tm_list, tm_dict, gIsi, wIsi2, wRaise, gLe, gGt, gGe, DD.gSub, Prod.mk.injEq, gAdd_int, gMul_int, gInt_int, gInt_bl, wPut, lenD3_lst, lenD3_tup, lenD3_str, lenD3_dct, gIn3_str, gIn3_lst, gIn3_tup, gInS, gIn]
          refine ⟨0, .int l, y, .non, nm, _, m, rfl, by decide, by decide, rfl, hm, fun _ => hy.ok, fun h => absurd h (by decide), ?_⟩
          rw [inR_l l1 l2]
          intro i hi
          cases hi
          unfold askS
          rw [if_pos rfl]
          simp only [sp__law_is_word, sp__law_same, wRet, wRetN, wSeq, wSet, wIf, wPar, wPar3, wExpr, wAsg, wNext, wBreak, wCont, gdTup, gdCons, gdNil, gdName, wIte, wAnd, wOr, DD.wNot, wTest, wNotT, wAndT, wOrT, wBin, wUn, wB, wCons, wNil, wVar, wC, wTup, wLst, mkL, wYes, wCall, wChain, startD, List.map_cons, List.map_nil, List.length_cons, List.length_nil, List.replicate, List.cons_append, List.nil_append, List.append_nil, List.getElem?_cons_zero, List.getElem?_cons_succ, List.set_cons_zero, List.set_cons_succ, Option.some.injEq, exists_eq_left', exists_eq_left, true_and, and_true, if_true, if_false, Bool.false_eq_true, gI, D.int.injEq, D.bl.injEq, D.str.injEq, wLc, wSrc, srcD, wSl, wSmO, wNoO, gSl, bodyC, wipeD, beq_self_eq_true, Bool.not_true, exists_and_left, List.cons.injEq, gLen3, D.ty.injEq, D.ref.injEq, D.tup.injEq, D.lst.injEq, and_assoc, tm_bool, tm_int, tm_str, tm_tuple, tm_list, tm_dict, gIsi, wIsi2, wRaise, gLe, gGt, gGe, DD.gSub, Prod.mk.injEq, gAdd_int, gMul_int, gInt_int, gInt_bl, wPut, lenD3_lst, lenD3_tup, lenD3_str, lenD3_dct, gIn3_str, gIn3_lst, gIn3_tup, gInS, gIn]
          refine ⟨l1, l2, m, hm, hy.ok, hy.spl, by decide, _, full_pair (n := 8) (by decide) (x := .bl _) rfl, full_pair (n := 8) (by decide) (x := .bl _) rfl, hK _ _ ⟨rfl, fun z hz => hall z (List.mem_cons_of_mem _ hz), _, rfl⟩⟩
        · rintro ρ S2 ⟨rfl, _, x7, rfl⟩
          exact ⟨trivial, hK _ _ ⟨rfl, _, _, rfl⟩⟩
        · intro z hz'
          rcases List.mem_append.mp hz' with h | h
          · exact hn z h
          · rw [List.mem_singleton.mp h]; exact .str _ (by omega) (sOk.ab (Nat.le_refl _) w2).2
    rintro ρ1 S1 ⟨rfl, x7, x14, rfl⟩
    simp only [wRet, wRetN, wSeq, wSet, wIf, wPar, wPar3, wExpr, wAsg, wNext, wBreak, wCont, gdTup, gdCons, gdNil, gdName, wIte, wAnd, wOr, DD.wNot, wTest, wNotT, wAndT, wOrT, wBin, wUn, wB, wCons, wNil, wVar, wC, wTup, wLst, mkL, wYes, wCall, wChain, startD, List.map_cons, List.map_nil, List.length_cons, List.length_nil, List.replicate, List.cons_append, List.nil_append, List.append_nil, List.getElem?_cons_zero, List.getElem?_cons_succ, List.set_cons_zero, List.set_cons_succ, Option.some.injEq, exists_eq_left', exists_eq_left, true_and, and_true, if_true, if_false, Bool.false_eq_true, gI, D.int.injEq, D.bl.injEq, D.str.injEq, wLc, wSrc, srcD, wSl, wSmO, wNoO, gSl, bodyC, wipeD, beq_self_eq_true, Bool.not_true, exists_and_left, List.cons.injEq, gLen3, D.ty.injEq, D.ref.injEq, D.tup.injEq, D.lst.injEq, and_assoc, tm_bool, tm_int, tm_str, tm_tuple, tm_list, tm_dict, gIsi, wIsi2, wRaise, gLe, gGt, gGe, DD.gSub, Prod.mk.injEq, gAdd_int, gMul_int, gInt_int, gInt_bl, wPut, lenD3_lst, lenD3_tup, lenD3_str, lenD3_dct, gIn3_str, gIn3_lst, gIn3_tup, gInS, gIn]
    exact hK _ _ ⟨rfl, _, _, _, _, _, _, _, _, _, _, _, _, _, fun z hz' => hy z (List.mem_cons_of_mem _ hz'), rfl⟩
  · rintro ρ S1 ⟨rfl, nm, x3, x4, x5, x6, x7, x8, x9, x10, x11, x12, x13, x14, hy, rfl⟩
    exact ⟨trivial, outD_id p⟩
  · intro y hy
    obtain ⟨k, hk, rfl⟩ := List.mem_map.mp hy
    have := List.mem_range.mp hk
    exact ⟨_, rfl, by omega, by omega⟩
theorem fa__law_words_right {P : Program} {w : World} {K : PySem.W.Frag} {mg : Str → Option Value} {base : Heap} (h : Hd fa fn K mg) : FnAt P w K mg base "_law_words_right" (defArgs (HD.top 51)) (defBody (HD.top 51)) (defScope (HD.top 51)) ["box"] 13 4722367890244646207490 1 (sp__law_words_right) := by
  obtain ⟨fd, F⟩ := h.def_ 38
  have F : FunD K "_law_words_right" "_law_words_right" (defArgs (HD.top 51)) (defBody (HD.top 51)) (defScope (HD.top 51)) [] [] (ga K "_law_words_right") fd := F
  refine' fn_at (c := (((((0 + (0 + 0)) + 1) + 0) + (((0 + (0 + 0)) + 1) + 0)) + (((0 + 0) + (2 ^ 24 * (((0 + (((0 + 0) + 0) + 0)) + ((((0 + (0 + 0)) + 1) + 0) + 0)) + ((((0 + (0 + (0 + 0))) + 16777217) + (((0 + (0 + (0 + 0))) + 16777217) + 0)) + (((((0 + (0 + 0)) + 1) + 0) + (0 + 0)) + ((0 + ((0 + (0 + (0 + (0 + 0)))) + 0)) + ((((((0 + 0) + 0) + 0) + (2 ^ 24 * (0 + ((0 + 0) + 0)))) + (((((0 + 0) + 0) + 0) + (2 ^ 24 * (0 + ((0 + ((0 + 0) + 0)) + 0)))) + 0)) + (((((0 + (0 + (0 + (0 + (0 + (0 + 0)))))) + 0) + ((0 + (0 + (0 + (0 + (0 + (0 + 0)))))) + 0)) + (0 + 0)) + ((((0 + (0 + 0)) + ((0 + (0 + 0)) + ((0 + (0 + 0)) + 0))) + (2 ^ 24 * (((0 + (0 + (0 + (0 + (0 + ((((0 + 0) + 0) + ((0 + 0) + 0)) + 0)))))) + 0) + (0 + 0)))) + (((((0 + (0 + 0)) + 1) + 0) + (((0 + (0 + 0)) + 1) + ((0 + (0 + 0)) + 1))) + ((((0 + (0 + (0 + (0 + (0 + (((0 + (0 + 0)) + 0) + 0)))))) + 0) + (0 + 0)) + (((((0 + 0) + (2 ^ 24 * (0 + ((0 + (0 + 0)) + 16777219)))) + (0 + 0)) + (2 ^ 24 * (((((0 + (0 + (0 + (0 + (0 + 0))))) + 0) + ((0 + (((0 + (0 + 0)) + 0) + 0)) + 0)) + 0) + (0 + 0)))) + 0)))))))))))) + 0))) F (h.glo 58) sc__law_words_right rfl ?hc (b := w__law_words_right) (fun cdv A outer s H E hr => ?hb) (sat__law_words_right)
  case hb =>
    have hu : (cxOf (L2.CX P w) P w K mg base N__law_words_right "_law_words_right" (defScope (HD.top 51)) (ga K "_law_words_right") cdv A outer s H E).A.units + 100 < cLine := by
      show (A.deeper (envOfC "_law_words_right" (defScope (HD.top 51)) s.heap.objs.size (ga K "_law_words_right") cdv)).units + 100 < cLine
      have := hr.un
      omega
    have tk := takes_of (X := cxOf (L2.CX P w) P w K mg base N__law_words_right "_law_words_right" (defScope (HD.top 51)) (ga K "_law_words_right") cdv A outer s H E) rfl rfl rfl rfl
    have hp := passes_of (X := cxOf (L2.CX P w) P w K mg base N__law_words_right "_law_words_right" (defScope (HD.top 51)) (ga K "_law_words_right") cdv A outer s H E) rfl
    have D : DSs (cxOf (L2.CX P w) P w K mg base N__law_words_right "_law_words_right" (defScope (HD.top 51)) (ga K "_law_words_right") cdv A outer s H E) (fun cls d _ H' => E cls d H') (defBody (HD.top 51)) _ _ := (ds_cons (ds_par 1 2 rfl sc__law_words_right.nd (da_cons (d_eq hu (d_call (ok__law_take h) hr (by decide) tk (da_cons (d_var 0) (da_cons d_int da_nil))) d_int) (da_cons (d_call (ok__law_take h) hr (by decide) tk (da_cons (d_var 0) (da_cons d_int da_nil))) da_nil)))
    (ds_cons (ds_for hp rfl (di_range1 (h.free 11) (da_cons d_int da_nil)) (dg_name 3 sc__law_words_right.nd)
    (ds_cons (ds_asg (d_tup (da_cons (d_add d_int (d_mod (d_callTy call_int1 cd_int (h.free 5) (da_cons (d_add (d_var 2) (d_var 3)) da_nil)) d_int)) (da_cons (d_eq hu (d_call (ok__law_take h) hr (by decide) tk (da_cons (d_var 0) (da_cons d_int da_nil))) d_int) da_nil))) (dg_tup rfl (dgs_cons (dg_name 8 sc__law_words_right.nd) (dgs_cons (dg_name 9 sc__law_words_right.nd) dgs_nil))))
    (ds_cons (ds_asg (d_tup (da_cons (d_call (ok__law_word h) hr (by decide) tk (da_cons (d_var 0) (da_cons (d_var 8) (da_cons d_int da_nil)))) (da_cons (d_call (ok__law_word h) hr (by decide) tk (da_cons (d_var 0) (da_cons (d_var 8) (da_cons d_int da_nil)))) da_nil))) (dg_tup rfl (dgs_cons (dg_name 5 sc__law_words_right.nd) (dgs_cons (dg_name 4 sc__law_words_right.nd) dgs_nil))))
    (ds_cons (ds_set 4 sc__law_words_right.nd (d_ite (dt_eq hu (d_call (ok__law_take h) hr (by decide) tk (da_cons (d_var 0) (da_cons d_int da_nil))) d_int) (d_var 5) (d_var 4)))
    (ds_cons (ds_set 5 sc__law_words_right.nd (d_ite (dt_val (d_var 9)) (d_add (d_var 5) (d_mul (d_str [97]) (d_sub d_int (d_len3 (h.free 7) (da_cons (d_var 5) da_nil))))) (d_var 5)))
    (ds_cons (ds_par 10 11 rfl sc__law_words_right.nd (da_cons (d_lc false rfl sc__law_words_right.nd (di_range1 (h.free 11) (da_cons (d_add (d_len3 (h.free 7) (da_cons (d_var 5) da_nil)) d_int) da_nil)) (show BlkOk N__law_words_right (defScope (HD.top 51)) _ [("k", 14)] from blkOk_by (by decide +kernel)) (fun _ _ _ _ _ => (dg_name 14 sc__law_words_right.nd)) (fun _ _ _ _ _ => dts_nil) (fun _ _ _ _ _ => (d_sl false (d_var 5) do_none (do_some (d_var 14))))) (da_cons (d_lc false rfl sc__law_words_right.nd (di_range1 (h.free 11) (da_cons (d_add (d_len3 (h.free 7) (da_cons (d_var 5) da_nil)) d_int) da_nil)) (show BlkOk N__law_words_right (defScope (HD.top 51)) _ [("k", 14)] from blkOk_by (by decide +kernel)) (fun _ _ _ _ _ => (dg_name 14 sc__law_words_right.nd)) (fun _ _ _ _ _ => dts_nil) (fun _ _ _ _ _ => (d_sl false (d_var 5) (do_some (d_sub (d_len3 (h.free 7) (da_cons (d_var 5) da_nil)) (d_var 14))) do_none))) da_nil)))
    (ds_cons (ds_if (dt_w (dw_or (dt_not (dt_val (d_call (ok__law_told_right h) hr (by decide) tk (da_cons d_int (da_cons (d_var 8) (da_cons (d_var 5) (da_cons d_non (da_cons (d_var 1) (da_cons (d_var 10) da_nil))))))))) (dw_or1 (dt_not (dt_val (d_call (ok__law_told_right h) hr (by decide) tk (da_cons d_int (da_cons (d_var 8) (da_cons (d_var 5) (da_cons d_non (da_cons (d_var 1) (da_cons (d_var 11) da_nil))))))))))))
    (ds_one (ds_ret d_bl))
    ds_nil)
    (ds_cons (ds_for hp rfl (di_any (d_lst false (da_cons (d_tup (da_cons (d_var 5) (da_cons (d_var 4) da_nil))) (da_cons (d_tup (da_cons (d_var 4) (da_cons (d_var 5) da_nil))) (da_cons (d_tup (da_cons (d_var 5) (da_cons (d_var 5) da_nil))) da_nil))))) (dg_tup rfl (dgs_cons (dg_name 12 sc__law_words_right.nd) (dgs_cons (dg_name 13 sc__law_words_right.nd) dgs_nil)))
    (ds_one (ds_if (dt_not (dt_val (d_call (ok__law_told_right h) hr (by decide) tk (da_cons d_int (da_cons (d_var 8) (da_cons (d_var 12) (da_cons (d_var 13) (da_cons (d_var 1) (da_cons (d_lt hu (d_call (ok__law_key h) hr (by decide) tk (da_cons (d_var 12) da_nil)) (d_call (ok__law_key h) hr (by decide) tk (da_cons (d_var 13) da_nil))) da_nil)))))))))
    (ds_one (ds_ret d_bl))
    ds_nil)))
    (ds_cons (ds_set 6 sc__law_words_right.nd (d_ite (dt_eq hu (d_call (ok__law_take h) hr (by decide) tk (da_cons (d_var 0) (da_cons d_int da_nil))) d_int) (d_call (ok__law_take h) hr (by decide) tk (da_cons (d_var 0) (da_cons d_int da_nil))) (d_call (ok__law_take h) hr (by decide) tk (da_cons (d_var 0) (da_cons d_int da_nil)))))
    (ds_cons (ds_if (dt_not (dt_val (d_call (ok__law_told_right h) hr (by decide) tk (da_cons d_int (da_cons (d_var 8) (da_cons (d_var 6) (da_cons d_non (da_cons (d_var 1) (da_cons (d_call (ok__law_words h) hr (by decide) tk (da_cons (d_var 8) (da_cons (d_var 6) da_nil))) da_nil)))))))))
    (ds_one (ds_ret d_bl))
    ds_nil)
    (ds_cons (ds_for hp rfl (di_any (d_add (d_lc false rfl sc__law_words_right.nd (di_range1 (h.free 11) (da_cons d_int da_nil)) (show BlkOk N__law_words_right (defScope (HD.top 51)) _ [("k", 14)] from blkOk_by (by decide +kernel)) (fun _ _ _ _ _ => (dg_name 14 sc__law_words_right.nd)) (fun _ _ _ _ _ => dts_nil) (fun _ _ _ _ _ => (d_call (ok__law_near_word h) hr (by decide) takesF (da_cons (d_var 0) (da_cons (d_var 8) da_nil))))) (d_lst false (da_cons (d_var 5) da_nil)))) (dg_name 7 sc__law_words_right.nd)
    (ds_one (ds_if (dt_not (dt_val (d_call (ok__law_same 10 h) hr (by decide) tk (da_cons (d_call (ok__law_asked h) hr (by decide) tk (da_cons d_int (da_cons (d_var 8) (da_cons (d_var 7) (da_cons d_non (da_cons (d_var 1) da_nil)))))) (da_cons (d_lst false (da_cons (d_str [116, 111, 108, 100]) (da_cons (d_call (ok__law_is_word h) hr (by decide) tk (da_cons (d_var 8) (da_cons (d_var 7) da_nil))) da_nil))) da_nil)))))
    (ds_one (ds_ret d_bl))
    ds_nil)))
    (ds_one (ds_set 1 sc__law_words_right.nd (d_not (d_var 1)))))))))))))))
    (ds_one (ds_ret d_bl))))
    exact D
  case hc => decide +kernel
theorem ok__law_words_right {P : Program} {w : World} {K : PySem.W.Frag} {mg : Str → Option Value} {base : Heap} (h : Hd fa fn K mg) : OkAt P w K mg base "_law_words_right" 13 4722367890244646207490 1 (sp__law_words_right) := (fa__law_words_right h).ok (fun _ _ _ _ _ _ us hl => match us, hl with | [_], _ => rfl)
def sp__law_turned_right : DD.Spec := fun ds S P _ => ∃ (b : Nat), ds = [.ref b] ∧ S[b]? = some (some .box) ∧ P (.bl true) S
def unS : D → List Nat
  | .str s => s
  | _ => []
theorem perm_strs {ys : List D} {zs : List (List Nat)} (h : ys.Perm (zs.map D.str)) : ∃ ws : List (List Nat), ys = ws.map D.str ∧ ws.Perm zs := by
  refine ⟨ys.map unS, ?_, ?_⟩
  · have hy : ∀ y ∈ ys, ∃ s, y = D.str s := fun y hy => by
      obtain ⟨z, _, rfl⟩ := List.mem_map.mp (h.mem_iff.mp hy)
      exact ⟨z, rfl⟩
    rw [List.map_map]
    conv => lhs; rw [← List.map_id ys]
    apply List.map_congr_left
    intro y hyy
    obtain ⟨s, rfl⟩ := hy y hyy
    rfl
  · have := h.map unS
    rw [List.map_map] at this
    have e : (unS ∘ D.str) = id := rfl
    rw [e, List.map_id] at this
    exact this
/-- words over so many letters, at most n long -/
def gw (l : Int) (n : Nat) (zs : List (List Nat)) : Prop := ∀ z ∈ zs, z.length ≤ n ∧ ∀ c ∈ z, c ∈ abL l
theorem tr_turned {l : Int} {d : D} {zs ws : List (List Nat)} {nm : Bool} {S : Cells} {P : Q1} {E : EQ} (l1 : 1 ≤ l) (l2 : l ≤ 2) (hd : d = .lst (zs.map D.str) ∨ d = .tup (zs.map D.str)) (hl : zs.length ≤ 400) (hz : gw l 130 zs) (hw : sortW (dedup (zs.map List.reverse)) = ws) (p : P (.bl true) S) :
    sp__law_told_right [.int 5, .int l, d, .non, .bl nm, .lst (ws.map D.str)] S P E := by
  have h7 := sizeLine_eq
  subst hw
  have hl2 := sort_len (zs.map List.reverse)
  rw [List.length_map] at hl2
  have hty : ∃ n, (∀ T : Cells, tyN (S ++ T) d = some n) ∧ (n == "list" || n == "tuple") = true := by
    rcases hd with rfl | rfl
    · exact ⟨"list", fun _ => rfl, rfl⟩
    · exact ⟨"tuple", fun _ => rfl, rfl⟩
  have hsq : ∀ T : Cells, seqA (S ++ T) d = some (zs.map D.str) := by
    rcases hd with rfl | rfl <;> exact fun _ => rfl
  obtain ⟨n, hn, hn2⟩ := hty
  refine ⟨5, .int l, d, .non, nm, _, rfl, .inr ⟨_, rfl, by omega, ?_, fun T Q E h => ?_⟩, p⟩
  · intro z hz'
    rw [sort_mem] at hz'
    obtain ⟨y, hy, rfl⟩ := List.mem_map.mp hz'
    have := (hz y hy).1
    rw [List.length_reverse]; omega
  · refine ⟨5, .int l, d, .non, nm, _, n, rfl, by decide, by decide, rfl, hn T, fun h => absurd h (by decide), fun h => absurd h (by decide), ?_⟩
    rw [inR_l l1 l2]
    intro i hi
    cases hi
    unfold askS
    rw [if_neg (by decide), if_neg (by decide), if_neg (by decide), if_neg (by decide), if_neg (by decide)]
    refine ⟨n, hn T, ?_⟩
    rw [if_pos hn2]
    refine ⟨_, hsq T, by rw [List.length_map]; omega, fun _ x hx => ?_, ?_⟩
    · obtain ⟨y, hy, rfl⟩ := List.mem_map.mp hx
      exact ⟨⟨_, rfl⟩, strOk_of (hz y hy).1⟩
    · have hall : (decide ((zs.map D.str).length ≤ 400) && (zs.map D.str).all (wordOk l)) = true := by
        rw [List.length_map, decide_eq_true hl, Bool.true_and, List.all_eq_true]
        intro x hx
        obtain ⟨y, hy, rfl⟩ := List.mem_map.mp hx
        exact wordOk_of (hz y hy).1 (hz y hy).2
      rw [if_pos hall]
      intro zs' e
      have e2 : zs = zs' := by
        have := congrArg (List.map unS) e
        rw [List.map_map, List.map_map] at this
        have e : (unS ∘ D.str) = id := rfl
        rwa [e, List.map_id, List.map_id] at this
      subst e2
      exact h
theorem gw.mono {l : Int} {n m : Nat} {zs : List (List Nat)} (h : gw l n zs) (e : n ≤ m) : gw l m zs := fun z hz => ⟨Nat.le_trans (h z hz).1 e, (h z hz).2⟩
theorem gw.mem {l : Int} {n : Nat} {zs ws : List (List Nat)} (h : gw l n zs) (e : ∀ z ∈ ws, z ∈ zs) : gw l n ws := fun z hz => h z (e z hz)
theorem gw.app {l : Int} {n : Nat} {zs ws : List (List Nat)} (h : gw l n zs) (k : gw l n ws) : gw l n (zs ++ ws) := fun z hz => (List.mem_append.mp hz).elim (h z) (k z)
theorem gw.rev {l : Int} {n : Nat} {zs : List (List Nat)} (h : gw l n zs) : gw l n (zs.map List.reverse) := fun z hz => by
  obtain ⟨y, hy, rfl⟩ := List.mem_map.mp hz
  exact ⟨by rw [List.length_reverse]; exact (h y hy).1, fun c hc => (h y hy).2 c (List.mem_reverse.mp hc)⟩
theorem ofLen_abL (l : Int) : ∀ n, ∀ w ∈ ofLen l n, ∀ c ∈ w, c ∈ abL l
  | 0, w, h, c, hc => by simp [ofLen] at h; subst h; simp at hc
  | n + 1, w, h, c, hc => by
    unfold ofLen at h
    obtain ⟨v, hv, hw⟩ := List.mem_flatMap.mp h
    obtain ⟨x, hx, rfl⟩ := List.mem_map.mp hw
    rcases List.mem_append.mp hc with h | h
    · exact ofLen_abL l n v hv c h
    · rw [List.mem_singleton.mp h]; exact hx
theorem gw.words (l : Int) (n : Nat) : gw l n (wordsTo l n) := fun z hz => ⟨words_each hz, by
  unfold wordsTo at hz
  obtain ⟨k, _, hk⟩ := List.mem_flatMap.mp hz
  exact ofLen_abL l k z hk⟩
theorem cutD_hi {α : Type} (xs : List α) (n : Nat) : (DD.cutD xs none (some (n : Int))).length ≤ n := by
  unfold DD.cutD
  rw [List.length_take, sIx_hi _ _ (by omega)]
  have e : HT.sIx xs.length 0 none = 0 := rfl
  omega
def N__law_turned_right : List Str := ["box", "named", "letters", "large", "some", "k", "word", "before", "given", "due"]
theorem sc__law_turned_right : FnScope N__law_turned_right ["box"] (defScope (HD.top 52)) := ⟨rfl, rfl, rfl, by decide +kernel, rfl, by decide +kernel, by decide +kernel⟩
def w__law_turned_right : WS :=
  (wSeq (wAsg (wTup (wCons (wBin gEq (wCall 2 (spTake) (wCons (wVar 0) (wCons (wC (.int 2)) wNil))) (wC (.int 0))) (wCons (wBin gAdd (wC (.int 1)) (wCall 2 (spTake) (wCons (wVar 0) (wCons (wC (.int 2)) wNil)))) (wCons (wCall 2 (spTake) (wCons (wVar 0) (wCons (wC (.int 8)) wNil))) wNil)))) (gdTup 3 (gdCons (gdName 1) (gdCons (gdName 2) (gdCons (gdName 3) gdNil)))))
  (wSeq (wSet 4 (wLc false (wRng1 (wCons (wCall 2 (spTake) (wCons (wVar 0) (wCons (wC (.int 7)) wNil))) wNil)) (gdName 5) wYes (wCall 3 (sp__law_word) (wCons (wVar 0) (wCons (wVar 2) (wCons (wC (.int 6)) wNil)))) (List.map (fun p : Str × Nat => p.2) [("k", 5)])))
  (wSeq (wSet 4 (wBin gAdd (wBin gAdd (wVar 4) (wSl false (wVar 4) wNoO (wSmO (wCall 2 (spTake) (wCons (wVar 0) (wCons (wC (.int 2)) wNil)))))) (wLc false (wSrc (wSl false (wVar 4) wNoO (wSmO (wC (.int 1))))) (gdName 6) wYes (wUn gRev (wVar 6)) (List.map (fun p : Str × Nat => p.2) [("word", 6)]))))
  (wSeq (wIf (wTest (wBin gEq (wVar 3) (wC (.int 0))))
  (wSet 4 (wSl false (wBin gMul (wCall 2 (sp__law_words) (wCons (wVar 2) (wCons (wC (.int 8)) wNil))) (wC (.int 45))) wNoO (wSmO (wC (.int 400)))))
  wNext)
  (wSeq (wSet 7 (wIte (wTest (wBin gGt (wVar 3) (wC (.int 0)))) (wCall 2 (sp__law_mixed) (wCons (wVar 0) (wCons (wVar 4) wNil))) (wVar 4)))
  (wSeq (wPar 8 9 (wCons (wB (gList4 false) (wCons (wVar 7) wNil)) (wCons (wCall 1 (sp__law_turned) (wCons (wVar 4) wNil)) wNil)))
  (wSeq (wIf (wOrT (wNotT (wTest (wCall 6 (sp__law_told_right) (wCons (wC (.int 5)) (wCons (wVar 2) (wCons (wIte (wTest (wBin gGt (wVar 3) (wC (.int 4)))) (wB gTupOf (wCons (wVar 8) wNil)) (wVar 8)) (wCons (wC .non) (wCons (wVar 1) (wCons (wVar 9) wNil))))))))) (wNotT (wTest (wCall 2 (sp__law_same 10) (wCons (wVar 8) (wCons (wVar 7) wNil))))))
  (wRet (wC (.bl false)))
  wNext)
  (wRet (wCall 6 (sp__law_told_right) (wCons (wC (.int 5)) (wCons (wVar 2) (wCons (wVar 9) (wCons (wC .non) (wCons (wNot (wVar 1)) (wCons (wCall 1 (sp__law_order) (wCons (wVar 4) wNil)) wNil)))))))))))))))
theorem sat__law_turned_right : Sat' 1 N__law_turned_right.length w__law_turned_right sp__law_turned_right := by
  rintro ds S P E - hS hd ⟨b, rfl, hb, p⟩
  have hz := sizeLine_eq
  simp only [w__law_turned_right, N__law_turned_right, startD, List.map_cons, List.map_nil, List.length_cons, List.length_nil, List.replicate, List.cons_append, List.nil_append]
  refine stage (fun ρ1 S1 => S1 = S ∧ ∃ (nm : Bool) (l g : Int), 1 ≤ l ∧ l ≤ 2 ∧ ρ1 = [some (.ref b), some (.bl nm), some (.int l), some (.int g), none, none, none, none, none, none]) (fun K hK => ?_) ?_
  · simp only [wRet, wRetN, wSeq, wSet, wIf, wPar, wPar3, wExpr, wAsg, wNext, wBreak, wCont, gdTup, gdCons, gdNil, gdName, wIte, wAnd, wOr, DD.wNot, wTest, wNotT, wAndT, wOrT, wBin, wUn, wB, wCons, wNil, wVar, wC, wTup, wLst, mkL, wYes, wCall, wChain, startD, List.map_cons, List.map_nil, List.length_cons, List.length_nil, List.replicate, List.cons_append, List.nil_append, List.append_nil, List.getElem?_cons_zero, List.getElem?_cons_succ, List.set_cons_zero, List.set_cons_succ, Option.some.injEq, exists_eq_left', exists_eq_left, true_and, and_true, if_true, if_false, Bool.false_eq_true, gI, D.int.injEq, D.bl.injEq, D.str.injEq, wLc, wSrc, srcD, wSl, wSmO, wNoO, gSl, bodyC, wipeD, beq_self_eq_true, Bool.not_true, exists_and_left, List.cons.injEq, gLen3, D.ty.injEq, D.ref.injEq, D.tup.injEq, D.lst.injEq, and_assoc, tm_bool, tm_int, tm_str, tm_tuple, tm_list, tm_dict, gIsi, wIsi2, wRaise, gLe, gGt, gGe, DD.gSub, Prod.mk.injEq, gAdd_int, gMul_int, gInt_int, gInt_bl, wPut, lenD3_lst, lenD3_tup, lenD3_str, lenD3_dct, gIn3_str, gIn3_lst, gIn3_tup, gInS, gIn, spTake, gEq, eqR, hb]
    exact ⟨by decide, by decide, fun i i0 i1 => ⟨by decide, by decide, fun j j0 j1 => ⟨by decide, by decide, fun g g0 g1 => ⟨by decide, hK _ _ ⟨rfl, _, _, _, by omega, by omega, rfl⟩⟩⟩⟩⟩
  rintro ρ1 S1 ⟨rfl, nm, l, g, l1, l2, rfl⟩
  refine stage (fun ρ1 S2 => S2 = S1 ∧ ∃ (zs : List (List Nat)) (x5 : Option D), zs.length ≤ 6 ∧ gw l 6 zs ∧ ρ1 = [some (.ref b), some (.bl nm), some (.int l), some (.int g), some (.lst (zs.map D.str)), x5, none, none, none, none]) (fun K hK => ?_) ?_
  · simp only [wRet, wRetN, wSeq, wSet, wIf, wPar, wPar3, wExpr, wAsg, wNext, wBreak, wCont, gdTup, gdCons, gdNil, gdName, wIte, wAnd, wOr, DD.wNot, wTest, wNotT, wAndT, wOrT, wBin, wUn, wB, wCons, wNil, wVar, wC, wTup, wLst, mkL, wYes, wCall, wChain, startD, List.map_cons, List.map_nil, List.length_cons, List.length_nil, List.replicate, List.cons_append, List.nil_append, List.append_nil, List.getElem?_cons_zero, List.getElem?_cons_succ, List.set_cons_zero, List.set_cons_succ, Option.some.injEq, exists_eq_left', exists_eq_left, true_and, and_true, if_true, if_false, Bool.false_eq_true, gI, D.int.injEq, D.bl.injEq, D.str.injEq, wLc, wSrc, srcD, wSl, wSmO, wNoO, gSl, bodyC, wipeD, beq_self_eq_true, Bool.not_true, exists_and_left, List.cons.injEq, gLen3, D.ty.injEq, D.ref.injEq, D.tup.injEq, D.lst.injEq, and_assoc, tm_bool, tm_int, tm_str, tm_tuple, tm_list, tm_dict, gIsi, wIsi2, wRaise, gLe, gGt, gGe, DD.gSub, Prod.mk.injEq, gAdd_int, gMul_int, gInt_int, gInt_bl, wPut, lenD3_lst, lenD3_tup, lenD3_str, lenD3_dct, gIn3_str, gIn3_lst, gIn3_tup, gInS, gIn, spTake, wRng1, hb]
    refine ⟨by decide, by decide, fun i i0 i1 => ⟨by omega, by omega, loopC_inv (fun ys acc S2 => S2 = S1 ∧ ∃ zs, acc = zs.map D.str ∧ zs.length + ys.length = i.toNat ∧ gw l 6 zs) ?_ ?_ _ _ _ ⟨rfl, [], rfl, by simp [rangeD], by simp [gw]⟩⟩⟩
    · rintro y ys acc S2 K ⟨rfl, zs, rfl, hl, hg⟩ hK
      refine ⟨trivial, ?_⟩
      rw [List.length_cons] at hl
      simp only [wRet, wRetN, wSeq, wSet, wIf, wPar, wPar3, wExpr, wAsg, wNext, wBreak, wCont, gdTup, gdCons, gdNil, gdName, wIte, wAnd, wOr, DD.wNot, wTest, wNotT, wAndT, wOrT, wBin, wUn, wB, wCons, wNil, wVar, wC, wTup, wLst, mkL, wYes, wCall, wChain, startD, List.map_cons, List.map_nil, List.length_cons, List.length_nil, List.replicate, List.cons_append, List.nil_append, List.append_nil, List.getElem?_cons_zero, List.getElem?_cons_succ, List.set_cons_zero, List.set_cons_succ, Option.some.injEq, exists_eq_left', exists_eq_left, true_and, and_true, if_true, if_false, Bool.false_eq_true, gI, D.int.injEq, D.bl.injEq, D.str.injEq, wLc, wSrc, srcD, wSl, wSmO, wNoO, gSl, bodyC, wipeD, beq_self_eq_true, Bool.not_true, exists_and_left, List.cons.injEq, gLen3, D.ty.injEq, D.ref.injEq, D.tup.injEq, D.lst.injEq, and_assoc, tm_bool, tm_int, tm_str, tm_tuple, tm_list, tm_dict, gIsi, wIsi2, wRaise, gLe, gGt, gGe, DD.gSub, Prod.mk.injEq, gAdd_int, gMul_int, gInt_int, gInt_bl, wPut, lenD3_lst, lenD3_tup, lenD3_str, lenD3_dct, gIn3_str, gIn3_lst, gIn3_tup, gInS, gIn, sp__law_word, hb]
      refine ⟨l1, l2, by decide, by decide, fun s s1 s2 => hK _ _ ⟨rfl, zs ++ [s], by simp, ?_, hg.app ?_⟩⟩
      · rw [List.length_append, List.length_singleton]; omega
      · intro z hz'
        rw [List.mem_singleton.mp hz']
        exact ⟨by omega, s2⟩
    · rintro acc S2 ⟨rfl, zs, rfl, hl, hg⟩
      simp only [List.length_nil, Nat.add_zero] at hl
      exact ⟨trivial, hK _ _ ⟨rfl, zs, _, by omega, hg, rfl⟩⟩
  rintro ρ1 S2 ⟨rfl, zs, x5, hl, hg, rfl⟩
  refine stage (fun ρ1 S1 => S1 = S2 ∧ ∃ (zs : List (List Nat)) (x5 x6 : Option D), zs.length ≤ 20 ∧ gw l 6 zs ∧ ρ1 = [some (.ref b), some (.bl nm), some (.int l), some (.int g), some (.lst (zs.map D.str)), x5, x6, none, none, none]) (fun K hK => ?_) ?_
  · simp only [wRet, wRetN, wSeq, wSet, wIf, wPar, wPar3, wExpr, wAsg, wNext, wBreak, wCont, gdTup, gdCons, gdNil, gdName, wIte, wAnd, wOr, DD.wNot, wTest, wNotT, wAndT, wOrT, wBin, wUn, wB, wCons, wNil, wVar, wC, wTup, wLst, mkL, wYes, wCall, wChain, startD, List.map_cons, List.map_nil, List.length_cons, List.length_nil, List.replicate, List.cons_append, List.nil_append, List.append_nil, List.getElem?_cons_zero, List.getElem?_cons_succ, List.set_cons_zero, List.set_cons_succ, Option.some.injEq, exists_eq_left', exists_eq_left, true_and, and_true, if_true, if_false, Bool.false_eq_true, gI, D.int.injEq, D.bl.injEq, D.str.injEq, wLc, wSrc, srcD, wSl, wSmO, wNoO, gSl, bodyC, wipeD, beq_self_eq_true, Bool.not_true, exists_and_left, List.cons.injEq, gLen3, D.ty.injEq, D.ref.injEq, D.tup.injEq, D.lst.injEq, and_assoc, tm_bool, tm_int, tm_str, tm_tuple, tm_list, tm_dict, gIsi, wIsi2, wRaise, gLe, gGt, gGe, DD.gSub, Prod.mk.injEq, gAdd_int, gMul_int, gInt_int, gInt_bl, wPut, lenD3_lst, lenD3_tup, lenD3_str, lenD3_dct, gIn3_str, gIn3_lst, gIn3_tup, gInS, gIn, spTake, hb]
    refine ⟨by decide, by decide, fun i i0 i1 => ?_⟩
    have c1 := cutD_len (zs.map D.str) none (some i)
    rw [List.length_map] at c1
    have e1 : DD.cutD (zs.map D.str) none (some i) = (DD.cutD zs none (some i)).map D.str := cutD_map _ _ _ _
    have e2 : DD.cutD (zs.map D.str) none (some 1) = (DD.cutD zs none (some 1)).map D.str := cutD_map _ _ _ _
    have g1 : gw l 6 (DD.cutD zs none (some i)) := hg.mem fun z hz => cutD_mem hz
    have g2 : gw l 6 (DD.cutD zs none (some 1)) := hg.mem fun z hz => cutD_mem hz
    have c3 := cutD_len zs none (some 1)
    have c4 := cutD_len zs none (some i)
    refine ⟨_, rfl, add_lst (by rw [List.length_map]; omega) ⟨_, rfl, ?_⟩⟩
    rw [e2]
    refine loopC_pure turnD trivial _ _ (fun x hx Q hQ => ?_) ?_
    · obtain ⟨z, hz', rfl⟩ := List.mem_map.mp hx
      have := (g2 z hz').1
      simp only [wRet, wRetN, wSeq, wSet, wIf, wPar, wPar3, wExpr, wAsg, wNext, wBreak, wCont, gdTup, gdCons, gdNil, gdName, wIte, wAnd, wOr, DD.wNot, wTest, wNotT, wAndT, wOrT, wBin, wUn, wB, wCons, wNil, wVar, wC, wTup, wLst, mkL, wYes, wCall, wChain, startD, List.map_cons, List.map_nil, List.length_cons, List.length_nil, List.replicate, List.cons_append, List.nil_append, List.append_nil, List.getElem?_cons_zero, List.getElem?_cons_succ, List.set_cons_zero, List.set_cons_succ, Option.some.injEq, exists_eq_left', exists_eq_left, true_and, and_true, if_true, if_false, Bool.false_eq_true, gI, D.int.injEq, D.bl.injEq, D.str.injEq, wLc, wSrc, srcD, wSl, wSmO, wNoO, gSl, bodyC, wipeD, beq_self_eq_true, Bool.not_true, exists_and_left, List.cons.injEq, gLen3, D.ty.injEq, D.ref.injEq, D.tup.injEq, D.lst.injEq, and_assoc, tm_bool, tm_int, tm_str, tm_tuple, tm_list, tm_dict, gIsi, wIsi2, wRaise, gLe, gGt, gGe, DD.gSub, Prod.mk.injEq, gAdd_int, gMul_int, gInt_int, gInt_bl, wPut, lenD3_lst, lenD3_tup, lenD3_str, lenD3_dct, gIn3_str, gIn3_lst, gIn3_tup, gInS, gIn, gRev]
      exact ⟨by omega, hQ⟩
    · rw [List.nil_append, turn_map, e1, ← List.map_append]
      refine add_lst (by simp only [List.length_map, List.length_append]; omega) ?_
      rw [← List.map_append]
      exact hK _ _ ⟨rfl, _, _, _, by simp only [List.length_map, List.length_append]; omega, (hg.app g1).app g2.rev, rfl⟩
  clear hl hg zs
  rintro ρ1 S1 ⟨rfl, zs, x5, x6, hl, hg, rfl⟩
  refine stage (fun ρ1 S2 => S2 = S1 ∧ ∃ (zs : List (List Nat)) (x5 x6 : Option D), zs.length ≤ 400 ∧ gw l 130 zs ∧ ρ1 = [some (.ref b), some (.bl nm), some (.int l), some (.int g), some (.lst (zs.map D.str)), x5, x6, none, none, none]) (fun K hK => ?_) ?_
  · simp only [wRet, wRetN, wSeq, wSet, wIf, wPar, wPar3, wExpr, wAsg, wNext, wBreak, wCont, gdTup, gdCons, gdNil, gdName, wIte, wAnd, wOr, DD.wNot, wTest, wNotT, wAndT, wOrT, wBin, wUn, wB, wCons, wNil, wVar, wC, wTup, wLst, mkL, wYes, wCall, wChain, startD, List.map_cons, List.map_nil, List.length_cons, List.length_nil, List.replicate, List.cons_append, List.nil_append, List.append_nil, List.getElem?_cons_zero, List.getElem?_cons_succ, List.set_cons_zero, List.set_cons_succ, Option.some.injEq, exists_eq_left', exists_eq_left, true_and, and_true, if_true, if_false, Bool.false_eq_true, gI, D.int.injEq, D.bl.injEq, D.str.injEq, wLc, wSrc, srcD, wSl, wSmO, wNoO, gSl, bodyC, wipeD, beq_self_eq_true, Bool.not_true, exists_and_left, List.cons.injEq, gLen3, D.ty.injEq, D.ref.injEq, D.tup.injEq, D.lst.injEq, and_assoc, tm_bool, tm_int, tm_str, tm_tuple, tm_list, tm_dict, gIsi, wIsi2, wRaise, gLe, gGt, gGe, DD.gSub, Prod.mk.injEq, gAdd_int, gMul_int, gInt_int, gInt_bl, wPut, lenD3_lst, lenD3_tup, lenD3_str, lenD3_dct, gIn3_str, gIn3_lst, gIn3_tup, gInS, gIn, gEq, eqR]
    split
    · simp only [sp__law_words, wRet, wRetN, wSeq, wSet, wIf, wPar, wPar3, wExpr, wAsg, wNext, wBreak, wCont, gdTup, gdCons, gdNil, gdName, wIte, wAnd, wOr, DD.wNot, wTest, wNotT, wAndT, wOrT, wBin, wUn, wB, wCons, wNil, wVar, wC, wTup, wLst, mkL, wYes, wCall, wChain, startD, List.map_cons, List.map_nil, List.length_cons, List.length_nil, List.replicate, List.cons_append, List.nil_append, List.append_nil, List.getElem?_cons_zero, List.getElem?_cons_succ, List.set_cons_zero, List.set_cons_succ, Option.some.injEq, exists_eq_left', exists_eq_left, true_and, and_true, if_true, if_false, Bool.false_eq_true, gI, D.int.injEq, D.bl.injEq, D.str.injEq, wLc, wSrc, srcD, wSl, wSmO, wNoO, gSl, bodyC, wipeD, beq_self_eq_true, Bool.not_true, exists_and_left, List.cons.injEq, gLen3, D.ty.injEq, D.ref.injEq, D.tup.injEq, D.lst.injEq, and_assoc, tm_bool, tm_int, tm_str, tm_tuple, tm_list, tm_dict, gIsi, wIsi2, wRaise, gLe, gGt, gGe, DD.gSub, Prod.mk.injEq, gAdd_int, gMul_int, gInt_int, gInt_bl, wPut, lenD3_lst, lenD3_tup, lenD3_str, lenD3_dct, gIn3_str, gIn3_lst, gIn3_tup, gInS, gIn]
      have h1 := upTo_len l 8
      have e3 : ((wordsTo l 8).map D.str).length = (wordsTo l 8).length := List.length_map _
      refine ⟨by decide, by decide, _, rfl, by decide, by decide, ?_, ?_⟩
      · rw [List.length_map]
        have : (wordsTo l (Int.toNat 8)).length ≤ 2 ^ 9 := upTo_len l 8
        have e45 : (Int.toNat 45) = 45 := rfl
        rw [e45]
        omega
      · have e4 : (List.replicate (Int.toNat 45) ((wordsTo l (Int.toNat 8)).map D.str)).flatten = (List.replicate 45 (wordsTo l 8)).flatten.map D.str := by
          rw [List.map_flatten, List.map_replicate]
          rfl
        rw [e4]
        refine ⟨_, rfl, ?_⟩
        rw [cutD_map]
        refine hK _ _ ⟨rfl, _, _, _, ?_, gw.mem ((gw.words l 8).mono (by decide)) fun z hz => ?_, rfl⟩
        · exact cutD_hi _ 400
        · have := cutD_mem hz
          obtain ⟨ys, hy, hz'⟩ := List.mem_flatten.mp this
          rw [List.eq_of_mem_replicate hy] at hz'
          exact hz'
    · exact hK _ _ ⟨rfl, zs, _, _, by omega, hg.mono (by decide), rfl⟩
  clear hl hg zs
  rintro ρ1 S2 ⟨rfl, zs, x5, x6, hl, hg, rfl⟩
  refine stage (fun ρ1 S1 => S1 = S2 ∧ ∃ (ws : List (List Nat)), ws.Perm zs ∧ ρ1 = [some (.ref b), some (.bl nm), some (.int l), some (.int g), some (.lst (zs.map D.str)), x5, x6, some (.lst (ws.map D.str)), none, none]) (fun K hK => ?_) ?_
  · simp only [wRet, wRetN, wSeq, wSet, wIf, wPar, wPar3, wExpr, wAsg, wNext, wBreak, wCont, gdTup, gdCons, gdNil, gdName, wIte, wAnd, wOr, DD.wNot, wTest, wNotT, wAndT, wOrT, wBin, wUn, wB, wCons, wNil, wVar, wC, wTup, wLst, mkL, wYes, wCall, wChain, startD, List.map_cons, List.map_nil, List.length_cons, List.length_nil, List.replicate, List.cons_append, List.nil_append, List.append_nil, List.getElem?_cons_zero, List.getElem?_cons_succ, List.set_cons_zero, List.set_cons_succ, Option.some.injEq, exists_eq_left', exists_eq_left, true_and, and_true, if_true, if_false, Bool.false_eq_true, gI, D.int.injEq, D.bl.injEq, D.str.injEq, wLc, wSrc, srcD, wSl, wSmO, wNoO, gSl, bodyC, wipeD, beq_self_eq_true, Bool.not_true, exists_and_left, List.cons.injEq, gLen3, D.ty.injEq, D.ref.injEq, D.tup.injEq, D.lst.injEq, and_assoc, tm_bool, tm_int, tm_str, tm_tuple, tm_list, tm_dict, gIsi, wIsi2, wRaise, gLe, gGt, gGe, DD.gSub, Prod.mk.injEq, gAdd_int, gMul_int, gInt_int, gInt_bl, wPut, lenD3_lst, lenD3_tup, lenD3_str, lenD3_dct, gIn3_str, gIn3_lst, gIn3_tup, gInS, gIn, sp__law_mixed, hb]
    split
    · refine ⟨_, rfl, by rw [List.length_map]; omega, by have := rb_strs S2.length zs; simpa [D.rb] using this, fun ys hys => ?_⟩
      obtain ⟨ws, rfl, hw⟩ := perm_strs hys
      exact hK _ _ ⟨rfl, ws, hw, rfl⟩
    · exact hK _ _ ⟨rfl, zs, .refl _, rfl⟩
  rintro ρ1 S1 ⟨rfl, ws, hw, rfl⟩
  have hwl := hw.length_eq
  have hwg : gw l 130 ws := hg.mem fun z hz => hw.mem_iff.mp hz
  refine stage (fun ρ1 S2 => S2 = S1 ∧ ρ1 = [some (.ref b), some (.bl nm), some (.int l), some (.int g), some (.lst (zs.map D.str)), x5, x6, some (.lst (ws.map D.str)), some (.lst (ws.map D.str)), some (.lst ((sortW (dedup (zs.map List.reverse))).map D.str))]) (fun K hK => ?_) ?_
  · simp only [wRet, wRetN, wSeq, wSet, wIf, wPar, wPar3, wExpr, wAsg, wNext, wBreak, wCont, gdTup, gdCons, gdNil, gdName, wIte, wAnd, wOr, DD.wNot, wTest, wNotT, wAndT, wOrT, wBin, wUn, wB, wCons, wNil, wVar, wC, wTup, wLst, mkL, wYes, wCall, wChain, startD, List.map_cons, List.map_nil, List.length_cons, List.length_nil, List.replicate, List.cons_append, List.nil_append, List.append_nil, List.getElem?_cons_zero, List.getElem?_cons_succ, List.set_cons_zero, List.set_cons_succ, Option.some.injEq, exists_eq_left', exists_eq_left, true_and, and_true, if_true, if_false, Bool.false_eq_true, gI, D.int.injEq, D.bl.injEq, D.str.injEq, wLc, wSrc, srcD, wSl, wSmO, wNoO, gSl, bodyC, wipeD, beq_self_eq_true, Bool.not_true, exists_and_left, List.cons.injEq, gLen3, D.ty.injEq, D.ref.injEq, D.tup.injEq, D.lst.injEq, and_assoc, tm_bool, tm_int, tm_str, tm_tuple, tm_list, tm_dict, gIsi, wIsi2, wRaise, gLe, gGt, gGe, DD.gSub, Prod.mk.injEq, gAdd_int, gMul_int, gInt_int, gInt_bl, wPut, lenD3_lst, lenD3_tup, lenD3_str, lenD3_dct, gIn3_str, gIn3_lst, gIn3_tup, gInS, gIn, sp__law_turned]
    refine list_seq rfl ⟨zs, rfl, by omega, fun z hz => by have := (hg z hz).1; omega, hK _ _ ⟨rfl, rfl⟩⟩
  rintro ρ1 S2 ⟨rfl, rfl⟩
  have hdue : gw l 130 (sortW (dedup (zs.map List.reverse))) := hg.rev.mem fun z hz => sort_mem.mp hz
  have hdl := sort_len (zs.map List.reverse)
  rw [List.length_map] at hdl
  have t1 : ∀ (d : D) (P : Q1) (E : EQ), (d = .lst (ws.map D.str) ∨ d = .tup (ws.map D.str)) → P (.bl true) S2 → sp__law_told_right [.int 5, .int l, d, .non, .bl nm, .lst ((sortW (dedup (zs.map List.reverse))).map D.str)] S2 P E := fun d P E hd p =>
    tr_turned l1 l2 hd (by omega) hwg (sort_same fun z => by simp only [List.mem_map, hw.mem_iff]) p
  have t2 : ∀ (P : Q1) (E : EQ), P (.bl true) S2 → sp__law_told_right [.int 5, .int l, .lst ((sortW (dedup (zs.map List.reverse))).map D.str), .non, .bl (!nm), .lst ((sortW (dedup zs)).map D.str)] S2 P E := fun P E p =>
    tr_turned l1 l2 (.inl rfl) (by omega) hdue (sort_same fun z => by
      simp only [List.mem_map, sort_mem]
      constructor
      · rintro ⟨y, ⟨x, hx, rfl⟩, rfl⟩; rw [List.reverse_reverse]; exact hx
      · intro hz; exact ⟨z.reverse, ⟨z, hz, rfl⟩, List.reverse_reverse z⟩) p
  have fs : full S2 10 (.lst (ws.map D.str)) = some (.lst (ws.map D.str)) := full_strs (n := 8) (by omega) fun z hz => by have := (hwg z hz).1; omega
  have hz9 : ∀ z ∈ zs, z.length ≤ sizeLine := fun z hz => by have := (hg z hz).1; omega
  simp only [wRet, wRetN, wSeq, wSet, wIf, wPar, wPar3, wExpr, wAsg, wNext, wBreak, wCont, gdTup, gdCons, gdNil, gdName, wIte, wAnd, wOr, DD.wNot, wTest, wNotT, wAndT, wOrT, wBin, wUn, wB, wCons, wNil, wVar, wC, wTup, wLst, mkL, wYes, wCall, wChain, startD, List.map_cons, List.map_nil, List.length_cons, List.length_nil, List.replicate, List.cons_append, List.nil_append, List.append_nil, List.getElem?_cons_zero, List.getElem?_cons_succ, List.set_cons_zero, List.set_cons_succ, Option.some.injEq, exists_eq_left', exists_eq_left, true_and, and_true, if_true, if_false, Bool.false_eq_true, gI, D.int.injEq, D.bl.injEq, D.str.injEq, wLc, wSrc, srcD, wSl, wSmO, wNoO, gSl, bodyC, wipeD, beq_self_eq_true, Bool.not_true, exists_and_left, List.cons.injEq, gLen3, D.ty.injEq, D.ref.injEq, D.tup.injEq, D.lst.injEq, and_assoc, tm_bool, tm_int, tm_str, tm_tuple, tm_list, tm_dict, gIsi, wIsi2, wRaise, gLe, gGt, gGe, DD.gSub, Prod.mk.injEq, gAdd_int, gMul_int, gInt_int, gInt_bl, wPut, lenD3_lst, lenD3_tup, lenD3_str, lenD3_dct, gIn3_str, gIn3_lst, gIn3_tup, gInS, gIn, sp__law_order, gTupOf]
  split
  · exact ⟨_, rfl, t1 _ _ _ (.inr rfl) ⟨_, rfl, nif ⟨_, _, _, rfl, fs, fs, _, rfl, nif ⟨zs, rfl, by omega, hz9, t2 _ _ (outD_id p)⟩⟩⟩⟩
  · exact t1 _ _ _ (.inl rfl) ⟨_, rfl, nif ⟨_, _, _, rfl, fs, fs, _, rfl, nif ⟨zs, rfl, by omega, hz9, t2 _ _ (outD_id p)⟩⟩⟩
theorem fa__law_turned_right {P : Program} {w : World} {K : PySem.W.Frag} {mg : Str → Option Value} {base : Heap} (h : Hd fa fn K mg) : FnAt P w K mg base "_law_turned_right" (defArgs (HD.top 52)) (defBody (HD.top 52)) (defScope (HD.top 52)) ["box"] 13 281475010265093 1 (sp__law_turned_right) := by
  obtain ⟨fd, F⟩ := h.def_ 39
  have F : FunD K "_law_turned_right" "_law_turned_right" (defArgs (HD.top 52)) (defBody (HD.top 52)) (defScope (HD.top 52)) [] [] (ga K "_law_turned_right") fd := F
  refine' fn_at (c := (((((0 + (0 + 0)) + 1) + 0) + ((0 + ((0 + (0 + 0)) + 1)) + (((0 + (0 + 0)) + 1) + 0))) + (((((0 + (0 + 0)) + 1) + 0) + (2 ^ 24 * (0 + ((0 + (0 + (0 + 0))) + 16777217)))) + (((0 + ((0 + 0) + ((0 + (0 + 0)) + 1))) + (((0 + 0) + 0) + (2 ^ 24 * (0 + 0)))) + (((0 + 0) + ((((((0 + (0 + 0)) + 0) + 0) + 0) + 0) + 0)) + (((0 + 0) + (((0 + (0 + 0)) + 16777216) + 0)) + (((0 + 0) + (((0 + 0) + 0) + 0)) + (((((0 + (0 + (((0 + 0) + ((0 + 0) + 0)) + (0 + (0 + (0 + 0)))))) + 0) + ((0 + (0 + 0)) + 0)) + (0 + 0)) + ((0 + (0 + (0 + (0 + (0 + (((0 + 0) + 0) + 0)))))) + 0))))))))) F (h.glo 59) sc__law_turned_right rfl ?hc (b := w__law_turned_right) (fun cdv A outer s H E hr => ?hb) (sat__law_turned_right)
  case hb =>
    have hu : (cxOf (L2.CX P w) P w K mg base N__law_turned_right "_law_turned_right" (defScope (HD.top 52)) (ga K "_law_turned_right") cdv A outer s H E).A.units + 100 < cLine := by
      show (A.deeper (envOfC "_law_turned_right" (defScope (HD.top 52)) s.heap.objs.size (ga K "_law_turned_right") cdv)).units + 100 < cLine
      have := hr.un
      omega
    have tk := takes_of (X := cxOf (L2.CX P w) P w K mg base N__law_turned_right "_law_turned_right" (defScope (HD.top 52)) (ga K "_law_turned_right") cdv A outer s H E) rfl rfl rfl rfl
    have hp := passes_of (X := cxOf (L2.CX P w) P w K mg base N__law_turned_right "_law_turned_right" (defScope (HD.top 52)) (ga K "_law_turned_right") cdv A outer s H E) rfl
    have D : DSs (cxOf (L2.CX P w) P w K mg base N__law_turned_right "_law_turned_right" (defScope (HD.top 52)) (ga K "_law_turned_right") cdv A outer s H E) (fun cls d _ H' => E cls d H') (defBody (HD.top 52)) _ _ := (ds_cons (ds_asg (d_tup (da_cons (d_eq hu (d_call (ok__law_take h) hr (by decide) tk (da_cons (d_var 0) (da_cons d_int da_nil))) d_int) (da_cons (d_add d_int (d_call (ok__law_take h) hr (by decide) tk (da_cons (d_var 0) (da_cons d_int da_nil)))) (da_cons (d_call (ok__law_take h) hr (by decide) tk (da_cons (d_var 0) (da_cons d_int da_nil))) da_nil)))) (dg_tup rfl (dgs_cons (dg_name 1 sc__law_turned_right.nd) (dgs_cons (dg_name 2 sc__law_turned_right.nd) (dgs_cons (dg_name 3 sc__law_turned_right.nd) dgs_nil)))))
    (ds_cons (ds_setLc 4 false rfl sc__law_turned_right.nd (di_range1 (h.free 11) (da_cons (d_call (ok__law_take h) hr (by decide) tk (da_cons (d_var 0) (da_cons d_int da_nil))) da_nil)) (show BlkOk N__law_turned_right (defScope (HD.top 52)) _ [("k", 5)] from blkOk_by (by decide +kernel)) (fun _ _ _ _ _ => (dg_name 5 sc__law_turned_right.nd)) (fun _ _ _ _ _ => dts_nil) (fun _ _ _ _ _ => (d_call (ok__law_word h) hr (by decide) takesF (da_cons (d_var 0) (da_cons (d_var 2) (da_cons d_int da_nil))))) (by rfl))
    (ds_cons (ds_set 4 sc__law_turned_right.nd (d_add (d_add (d_var 4) (d_sl false (d_var 4) do_none (do_some (d_call (ok__law_take h) hr (by decide) tk (da_cons (d_var 0) (da_cons d_int da_nil)))))) (d_lc false rfl sc__law_turned_right.nd (di_any (d_sl false (d_var 4) do_none (do_some d_int))) (show BlkOk N__law_turned_right (defScope (HD.top 52)) _ [("word", 6)] from blkOk_by (by decide +kernel)) (fun _ _ _ _ _ => (dg_name 6 sc__law_turned_right.nd)) (fun _ _ _ _ _ => dts_nil) (fun _ _ _ _ _ => (d_rev (d_var 6))))))
    (ds_cons (ds_if (dt_eq hu (d_var 3) d_int)
    (ds_one (ds_set 4 sc__law_turned_right.nd (d_sl false (d_mul (d_call (ok__law_words h) hr (by decide) tk (da_cons (d_var 2) (da_cons d_int da_nil))) d_int) do_none (do_some d_int))))
    ds_nil)
    (ds_cons (ds_set 7 sc__law_turned_right.nd (d_ite (dt_gt (d_var 3) d_int) (d_call (ok__law_mixed h) hr (by decide) tk (da_cons (d_var 0) (da_cons (d_var 4) da_nil))) (d_var 4)))
    (ds_cons (ds_par 8 9 rfl sc__law_turned_right.nd (da_cons (d_list4 false rfl (h.free 8) (da_cons (d_var 7) da_nil)) (da_cons (d_call (ok__law_turned h) hr (by decide) tk (da_cons (d_var 4) da_nil)) da_nil)))
    (ds_cons (ds_if (dt_w (dw_or (dt_not (dt_val (d_call (ok__law_told_right h) hr (by decide) tk (da_cons d_int (da_cons (d_var 2) (da_cons (d_ite (dt_gt (d_var 3) d_int) (d_callTy call_tuple_of cd_tup (h.free 15) (da_cons (d_var 8) da_nil)) (d_var 8)) (da_cons d_non (da_cons (d_var 1) (da_cons (d_var 9) da_nil))))))))) (dw_or1 (dt_not (dt_val (d_call (ok__law_same 10 h) hr (by decide) tk (da_cons (d_var 8) (da_cons (d_var 7) da_nil))))))))
    (ds_one (ds_ret d_bl))
    ds_nil)
    (ds_one (ds_ret (d_call (ok__law_told_right h) hr (by decide) tk (da_cons d_int (da_cons (d_var 2) (da_cons (d_var 9) (da_cons d_non (da_cons (d_not (d_var 1)) (da_cons (d_call (ok__law_order h) hr (by decide) tk (da_cons (d_var 4) da_nil)) da_nil))))))))))))))))
    exact D
  case hc => decide +kernel
theorem ok__law_turned_right {P : Program} {w : World} {K : PySem.W.Frag} {mg : Str → Option Value} {base : Heap} (h : Hd fa fn K mg) : OkAt P w K mg base "_law_turned_right" 13 281475010265093 1 (sp__law_turned_right) := (fa__law_turned_right h).ok (fun _ _ _ _ _ _ us hl => match us, hl with | [_], _ => rfl)
def sp__law_refused_right : DD.Spec := fun ds S P _ => ∃ (b : Nat), ds = [.ref b] ∧ S[b]? = some (some .box) ∧ P (.bl true) S
/-- an ask that is refused: what is blamed is told -/
def AskOk (y : D) : Prop := ∃ (w : Int) (a b c : D) (due : List Nat) (k : Nat), y = .tup [.int w, a, b, c, .str due, .int k] ∧ Th 9 a ∧ Th 9 b ∧ Th 9 c ∧ due.length ≤ 100 ∧ k < 3 ∧ (∀ xs, a = .lst xs → xs.length < sizeLine) ∧ (∀ xs, b = .lst xs → xs.length < sizeLine) ∧ (∀ xs, c = .lst xs → xs.length < sizeLine) ∧
  ∀ (B : Nat) (S : Cells) (a' b' c' x : D) (nm : Bool) (P : Q1) (E : EQ), Cp B S a a' → Cp B S b b' → Cp B S c c' → [a', b', c'][k]? = some x → P (.lst [.str due, x]) S → sp__law_asked [.int w, a', b', c', .bl nm] S P E
theorem noLet_ok {a : D} (h : a ∈ noLet) : Th 9 a ∧ (∀ xs, a = .lst xs → xs.length < sizeLine) ∧ DD.inR a 1 2 = false := by
  have h : noLet.all (fun d => (full [] 9 d).isSome && !DD.inR d 1 2 && (match d with | .lst xs => decide (xs.length < sizeLine) | _ => true)) = true := by decide +kernel
  have h2 := List.all_eq_true.mp h a ‹_›
  simp only [Bool.and_eq_true, Bool.not_eq_true'] at h2
  refine ⟨th_of h2.1.1, ?_, h2.1.2⟩
  rintro xs rfl
  simpa using h2.2
theorem ask_letters {w : Int} {a b c : D} (w0 : 0 ≤ w) (w5 : w ≤ 5) (ha : a ∈ noLet) (tb : Th 9 b) (tc : Th 9 c) (lb : ∀ xs, b = .lst xs → xs.length < sizeLine) (lc : ∀ xs, c = .lst xs → xs.length < sizeLine) : AskOk (.tup [.int w, a, b, c, .str [108, 101, 116, 116, 101, 114, 115], .int (0 : Nat)]) := by
  obtain ⟨ta, la, ra⟩ := noLet_ok ha
  refine ⟨w, a, b, c, _, 0, rfl, ta, tb, tc, by decide, by decide, la, lb, lc, fun B S a' b' c' x nm P E ca cb cc hx p => ?_⟩
  obtain ⟨m, hm⟩ := ca.ty ta
  obtain ⟨n, hn⟩ := cb.ty tb
  obtain ⟨k, hk⟩ := cc.ty tc
  have e : x = a' := by simpa using hx.symm
  subst e
  refine ⟨w, x, b', c', nm, m, n, rfl, w0, w5, hm, hn, fun _ => cb.strOk tb, fun _ => ⟨cb.strOk tb, cc.strOk tc, k, hk⟩, ?_⟩
  rw [ca.inR ra, if_neg (by decide)]
  exact p
theorem noNum_ok {a : D} (h : a ∈ noNum ∨ a = .int 9) : Th 9 a ∧ (∀ xs, a = .lst xs → xs.length < sizeLine) ∧ DD.inR a 0 8 = false := by
  have h : (noNum ++ [D.int 9]).all (fun d => (full [] 9 d).isSome && !DD.inR d 0 8 && (match d with | .lst xs => decide (xs.length < sizeLine) | _ => true)) = true := by decide +kernel
  have h2 := List.all_eq_true.mp h a (List.mem_append.mpr (‹_ ∨ _›.imp id fun e => by rw [e]; exact List.mem_singleton.mpr rfl))
  simp only [Bool.and_eq_true, Bool.not_eq_true'] at h2
  refine ⟨th_of h2.1.1, ?_, h2.1.2⟩
  rintro xs rfl
  simpa using h2.2
theorem ask_number {l : Int} {b : D} (l1 : 1 ≤ l) (l2 : l ≤ 2) (hb : b ∈ noNum ∨ b = .int 9) : AskOk (.tup [.int 1, .int l, b, .non, .str [110, 117, 109, 98, 101, 114], .int (1 : Nat)]) := by
  obtain ⟨tb, lb, rb⟩ := noNum_ok hb
  refine ⟨1, .int l, b, .non, _, 1, rfl, th_int, tb, th_non, by decide, by decide, (by rintro xs h; cases h), lb, (by rintro xs h; cases h), fun B S a' b' c' x nm P E ca cb cc hx p => ?_⟩
  obtain ⟨n, hn⟩ := cb.ty tb
  have ea := ca.same (by rintro xs h; cases h)
  have ec := cc.same (by rintro xs h; cases h)
  subst ea ec
  have e : x = b' := by simpa using hx.symm
  subst e
  refine ⟨1, .int l, x, .non, nm, _, n, rfl, by decide, by decide, rfl, hn, fun h => absurd h (by decide), fun h => absurd h (by decide), ?_⟩
  rw [inR_l l1 l2]
  intro i hi
  cases hi
  unfold askS
  rw [if_neg (by decide), if_pos rfl, cb.inR rb, if_neg (by decide)]
  exact p
theorem ask_ahead {l : Int} {b c : D} (l1 : 1 ≤ l) (l2 : l ≤ 2) (tb : Th 9 b) (tc : Th 9 c) (lb : ∀ xs, b = .lst xs → xs.length < sizeLine) (lc : ∀ xs, c = .lst xs → xs.length < sizeLine) (h : wordOk l b = false) : AskOk (.tup [.int 2, .int l, b, c, .str [119, 111, 114, 100], .int (1 : Nat)]) := by
  refine ⟨2, .int l, b, c, _, 1, rfl, th_int, tb, tc, by decide, by decide, (by rintro xs h; cases h), lb, lc, fun B S a' b' c' x nm P E ca cb cc hx p => ?_⟩
  obtain ⟨n, hn⟩ := cb.ty tb
  obtain ⟨k, hk⟩ := cc.ty tc
  have ea := ca.same (by rintro xs h; cases h)
  subst ea
  have e : x = b' := by simpa using hx.symm
  subst e
  refine ⟨2, .int l, x, c', nm, _, n, rfl, by decide, by decide, rfl, hn, fun h => absurd h (by decide), fun _ => ⟨cb.strOk tb, cc.strOk tc, k, hk⟩, ?_⟩
  rw [inR_l l1 l2]
  intro i hi
  cases hi
  unfold askS
  rw [if_neg (by decide), if_neg (by decide), if_pos rfl, cb.wordNo h, if_neg (by decide)]
  exact p
theorem ask_ahead2 {l : Int} {b c : D} (l1 : 1 ≤ l) (l2 : l ≤ 2) (hb : wordOk l b = true) (tc : Th 9 c) (lc : ∀ xs, c = .lst xs → xs.length < sizeLine) (h : wordOk l c = false) : AskOk (.tup [.int 2, .int l, b, c, .str [119, 111, 114, 100], .int (2 : Nat)]) := by
  obtain ⟨s, rfl, s1, s2⟩ := wordOk_str hb
  have tb : Th 9 (.str s) := th_str (strOk_of s1 s rfl)
  refine ⟨2, .int l, .str s, c, _, 2, rfl, th_int, tb, tc, by decide, by decide, (by rintro xs h; cases h), (by rintro xs h; cases h), lc, fun B S a' b' c' x nm P E ca cb cc hx p => ?_⟩
  obtain ⟨n, hn⟩ := cb.ty tb
  obtain ⟨k, hk⟩ := cc.ty tc
  have ea := ca.same (by rintro xs h; cases h)
  have eb := cb.same (by rintro xs h; cases h)
  subst ea eb
  have e : x = c' := by simpa using hx.symm
  subst e
  refine ⟨2, .int l, .str s, x, nm, _, n, rfl, by decide, by decide, rfl, hn, fun h => absurd h (by decide), fun _ => ⟨cb.strOk tb, cc.strOk tc, k, hk⟩, ?_⟩
  rw [inR_l l1 l2]
  intro i hi
  cases hi
  unfold askS
  rw [if_neg (by decide), if_neg (by decide), if_pos rfl, hb, if_pos rfl, cc.wordNo h, if_neg (by decide)]
  exact p
theorem ask_word {w l : Int} {b : D} (hw : w = 3 ∨ w = 4) (l1 : 1 ≤ l) (l2 : l ≤ 2) (tb : Th 9 b) (lb : ∀ xs, b = .lst xs → xs.length < sizeLine) (h : wordOk l b = false) : AskOk (.tup [.int w, .int l, b, .non, .str [119, 111, 114, 100], .int (1 : Nat)]) := by
  refine ⟨w, .int l, b, .non, _, 1, rfl, th_int, tb, th_non, by decide, by decide, (by rintro xs h; cases h), lb, (by rintro xs h; cases h), fun B S a' b' c' x nm P E ca cb cc hx p => ?_⟩
  obtain ⟨n, hn⟩ := cb.ty tb
  have ea := ca.same (by rintro xs h; cases h)
  have ec := cc.same (by rintro xs h; cases h)
  subst ea ec
  have e : x = b' := by simpa using hx.symm
  subst e
  refine ⟨w, .int l, x, .non, nm, _, n, rfl, by omega, by omega, rfl, hn, fun _ => cb.strOk tb, fun h => by omega, ?_⟩
  rw [inR_l l1 l2]
  intro i hi
  cases hi
  unfold askS
  rcases hw with rfl | rfl
  · rw [if_neg (by decide), if_neg (by decide), if_neg (by decide), if_pos rfl, cb.wordNo h, if_neg (by decide)]
    exact p
  · rw [if_neg (by decide), if_neg (by decide), if_neg (by decide), if_neg (by decide), if_pos rfl, cb.wordNo h, if_neg (by decide)]
    exact p
theorem nice2_th {n : Nat} {d : D} (h : Nice2 d) : Th (n + 2) d := by
  have hz := sizeLine_eq
  rcases h with h | ⟨zs, rfl, h1, h2⟩
  · exact h.th
  · exact th_lst (by rw [List.length_map]; omega) fun x hx => by
      obtain ⟨z, hz', rfl⟩ := List.mem_map.mp hx
      have := h2 z hz'
      exact th_str (by omega)
theorem badWs_th {l : Int} {d : D} (h : BadWs l d) : Th 9 d ∧ ∀ xs, d = .lst xs → xs.length < sizeLine := by
  have hz := sizeLine_eq
  rcases h with ⟨xs, h, h1, h2, _⟩ | rfl | rfl | rfl
  · rcases h with rfl | rfl
    · exact ⟨th_lst (by omega) fun x hx => nice2_th (h2 x hx), by rintro ys e; cases e; omega⟩
    · exact ⟨th_tup (by omega) fun x hx => nice2_th (h2 x hx), by rintro ys e; cases e⟩
  · exact ⟨th_of (by decide +kernel), by rintro ys e; cases e⟩
  · exact ⟨th_non, by rintro ys e; cases e⟩
  · exact ⟨th_of (by decide +kernel), by rintro ys e; cases e⟩
theorem ask_words {l : Int} {b : D} (l1 : 1 ≤ l) (l2 : l ≤ 2) (h : BadWs l b) : AskOk (.tup [.int 5, .int l, b, .non, .str [119, 111, 114, 100, 115], .int (1 : Nat)]) := by
  have hz := sizeLine_eq
  obtain ⟨tb, lb⟩ := badWs_th h
  refine ⟨5, .int l, b, .non, _, 1, rfl, th_int, tb, th_non, by decide, by decide, (by rintro xs h; cases h), lb, (by rintro xs h; cases h), fun B S a' b' c' x nm P E ca cb cc hx p => ?_⟩
  have ea := ca.same (by rintro xs h; cases h)
  have ec := cc.same (by rintro xs h; cases h)
  subst ea ec
  have e : x = b' := by simpa using hx.symm
  subst e
  obtain ⟨n, hn⟩ := cb.ty tb
  refine ⟨5, .int l, x, .non, nm, _, n, rfl, by decide, by decide, rfl, hn, fun h => absurd h (by decide), fun h => absurd h (by decide), ?_⟩
  rw [inR_l l1 l2]
  intro i hi
  cases hi
  unfold askS
  rw [if_neg (by decide), if_neg (by decide), if_neg (by decide), if_neg (by decide), if_neg (by decide)]
  refine ⟨n, hn, ?_⟩
  have nx : ∀ xs : List D, (∀ y ∈ xs, Nice2 y) → ∀ y ∈ xs, (∃ k, tyN S y = some k) ∧ DD.strOk y := fun xs h y hy => by
    have t : Th 2 y := nice2_th (h y hy)
    obtain ⟨k, hk⟩ := t.ty
    exact ⟨⟨k, hk S⟩, t.strOk⟩
  rcases h with ⟨xs, h, h1, h2, h3⟩ | rfl | rfl | rfl
  · have hn' : (n == "list" || n == "tuple") = true ∧ seqA S x = some xs := by
      rcases h with rfl | rfl
      · have := cb.tyOf rfl tb
        rw [this] at hn
        cases hn
        exact ⟨rfl, cb.seqA rfl tb⟩
      · have := cb.tyOf rfl tb
        rw [this] at hn
        cases hn
        exact ⟨rfl, cb.seqA rfl tb⟩
    rw [if_pos hn'.1]
    refine ⟨xs, hn'.2, by omega, fun _ => nx xs h2, ?_⟩
    rw [h3, if_neg (by decide)]
    exact p
  · have := cb.tyOf rfl tb
    rw [this] at hn
    cases hn
    rw [if_neg (by decide)]
    exact p
  · have := cb.tyOf rfl tb
    rw [this] at hn
    cases hn
    rw [if_neg (by decide)]
    exact p
  · have := cb.tyOf rfl tb
    rw [this] at hn
    cases hn
    rw [if_neg (by decide)]
    exact p
theorem two_first {P : D → Prop} {x y : D} (hx : P x) (hy : P y) : ∀ xs : List D, (∀ d ∈ xs, P d) → ∃ u v vs, xs ++ [x, y] = u :: v :: vs ∧ P u ∧ P v
  | [], _ => ⟨x, y, [], rfl, hx, hy⟩
  | [a], h => ⟨a, x, [y], rfl, h a (by simp), hx⟩
  | a :: b :: r, h => ⟨a, b, r ++ [x, y], rfl, h a (by simp), h b (by simp)⟩
def N__law_refused_right : List Str := ["box", "named", "place", "letters", "good", "bad", "last", "k", "wrong", "word", "lists", "asks", "way", "first", "second", "third", "due", "blamed", "items", "told"]
theorem sc__law_refused_right : FnScope N__law_refused_right ["box"] (defScope (HD.top 53)) := ⟨rfl, rfl, rfl, by decide +kernel, rfl, by decide +kernel, by decide +kernel⟩
def w__law_refused_right : WS :=
  (wSeq (wAsg (wTup (wCons (wBin gEq (wCall 2 (spTake) (wCons (wVar 0) (wCons (wC (.int 2)) wNil))) (wC (.int 0))) (wCons (wCall 2 (spTake) (wCons (wVar 0) (wCons (wC (.int 6)) wNil))) (wCons (wBin gAdd (wC (.int 1)) (wCall 2 (spTake) (wCons (wVar 0) (wCons (wC (.int 2)) wNil)))) wNil)))) (gdTup 3 (gdCons (gdName 1) (gdCons (gdName 2) (gdCons (gdName 3) gdNil)))))
  (wSeq (wPar3 4 5 6 (wCons (wLc false (wRng1 (wCons (wC (.int 2)) wNil)) (gdName 7) wYes (wCall 3 (sp__law_word) (wCons (wVar 0) (wCons (wVar 3) (wCons (wC (.int 4)) wNil)))) (List.map (fun p : Str × Nat => p.2) [("k", 7)])) (wCons (wCall 1 (sp__law_no_letters) (wCons (wVar 0) wNil)) (wCons (wCall 3 (sp__law_no_number) (wCons (wVar 0) (wCons (wC (.int 0)) (wCons (wC (.int 8)) wNil)))) wNil))))
  (wSeq (wSet 8 (wBin gAdd (wLc false (wSrc (wLc false (wRng1 (wCons (wC (.int 3)) wNil)) (gdName 7) wYes (wCall 2 (sp__law_near_word) (wCons (wVar 0) (wCons (wVar 3) wNil))) (List.map (fun p : Str × Nat => p.2) [("k", 7)]))) (gdName 9) (wNotT (wTest (wCall 2 (sp__law_is_word) (wCons (wVar 3) (wCons (wVar 9) wNil))))) (wVar 9) (List.map (fun p : Str × Nat => p.2) [("word", 9)])) (wLst false (wCons (wC (.str [99])) (wCons (wIte (wTest (wBin gEq (wVar 3) (wC (.int 1)))) (wC (.str [97, 98])) (wC (.str [97, 98, 99]))) wNil)))))
  (wSeq (wSet 10 (wCall 4 (sp__law_no_words) (wCons (wVar 0) (wCons (wVar 3) (wCons (wVar 4) (wCons (wC (.int 400)) wNil))))))
  (wSeq (wSet 11 (wLst false (wCons (wTup (wCons (wC (.int 0)) (wCons (wVar 5) (wCons (wC (.str [97])) (wCons (wC .non) (wCons (wC (.str [108, 101, 116, 116, 101, 114, 115])) (wCons (wC (.int 0)) wNil))))))) (wCons (wTup (wCons (wC (.int 1)) (wCons (wVar 5) (wCons (wVar 6) (wCons (wC .non) (wCons (wC (.str [108, 101, 116, 116, 101, 114, 115])) (wCons (wC (.int 0)) wNil))))))) (wCons (wTup (wCons (wC (.int 1)) (wCons (wVar 3) (wCons (wVar 6) (wCons (wC .non) (wCons (wC (.str [110, 117, 109, 98, 101, 114])) (wCons (wC (.int 1)) wNil))))))) (wCons (wTup (wCons (wC (.int 2)) (wCons (wVar 5) (wCons (wBin gIx3 (wVar 8) (wC (.int 0))) (wCons (wBin gIx3 (wVar 8) (wC (.int 1))) (wCons (wC (.str [108, 101, 116, 116, 101, 114, 115])) (wCons (wC (.int 0)) wNil))))))) wNil))))))
  (wSeq (wSet 11 (wBin gAdd (wVar 11) (wLst false (wCons (wTup (wCons (wC (.int 2)) (wCons (wVar 3) (wCons (wBin gIx3 (wVar 8) (wC (.int 0))) (wCons (wBin gIx3 (wVar 8) (wC (.int 1))) (wCons (wC (.str [119, 111, 114, 100])) (wCons (wC (.int 1)) wNil))))))) (wCons (wTup (wCons (wC (.int 2)) (wCons (wVar 3) (wCons (wBin gIx3 (wVar 4) (wC (.int 0))) (wCons (wBin gIx3 (wVar 8) (wC (.int 0))) (wCons (wC (.str [119, 111, 114, 100])) (wCons (wC (.int 2)) wNil))))))) (wCons (wTup (wCons (wC (.int 2)) (wCons (wVar 3) (wCons (wBin gIx3 (wVar 8) (wC (.int 1))) (wCons (wBin gIx3 (wVar 4) (wC (.int 1))) (wCons (wC (.str [119, 111, 114, 100])) (wCons (wC (.int 1)) wNil))))))) wNil))))))
  (wSeq (wSet 11 (wBin gAdd (wVar 11) (wLst false (wCons (wTup (wCons (wC (.int 3)) (wCons (wVar 5) (wCons (wBin gIx3 (wVar 8) (wC (.int 0))) (wCons (wC .non) (wCons (wC (.str [108, 101, 116, 116, 101, 114, 115])) (wCons (wC (.int 0)) wNil))))))) (wCons (wTup (wCons (wC (.int 3)) (wCons (wVar 3) (wCons (wBin gIx3 (wVar 8) (wC (.int 0))) (wCons (wC .non) (wCons (wC (.str [119, 111, 114, 100])) (wCons (wC (.int 1)) wNil))))))) (wCons (wTup (wCons (wC (.int 4)) (wCons (wVar 5) (wCons (wBin gIx3 (wVar 4) (wC (.int 0))) (wCons (wC .non) (wCons (wC (.str [108, 101, 116, 116, 101, 114, 115])) (wCons (wC (.int 0)) wNil))))))) wNil))))))
  (wSeq (wSet 11 (wBin gAdd (wVar 11) (wLst false (wCons (wTup (wCons (wC (.int 4)) (wCons (wVar 3) (wCons (wBin gIx3 (wVar 8) (wC (.int 0))) (wCons (wC .non) (wCons (wC (.str [119, 111, 114, 100])) (wCons (wC (.int 1)) wNil))))))) (wCons (wTup (wCons (wC (.int 5)) (wCons (wVar 5) (wCons (wVar 10) (wCons (wC .non) (wCons (wC (.str [108, 101, 116, 116, 101, 114, 115])) (wCons (wC (.int 0)) wNil))))))) (wCons (wTup (wCons (wC (.int 5)) (wCons (wVar 3) (wCons (wVar 10) (wCons (wC .non) (wCons (wC (.str [119, 111, 114, 100, 115])) (wCons (wC (.int 1)) wNil))))))) (wCons (wTup (wCons (wC (.int 1)) (wCons (wVar 3) (wCons (wC (.int 9)) (wCons (wC .non) (wCons (wC (.str [110, 117, 109, 98, 101, 114])) (wCons (wC (.int 1)) wNil))))))) wNil)))))))
  (wSeq (wFor (wSrc (wBin gAdd (wSl false (wVar 11) (wSmO (wVar 2)) wNoO) (wLst false (wCons (wTup (wCons (wC (.int 5)) (wCons (wVar 3) (wCons (wBin gMul (wLst false (wCons (wC (.str [97])) wNil)) (wC (.int 401))) (wCons (wC .non) (wCons (wC (.str [119, 111, 114, 100, 115])) (wCons (wC (.int 1)) wNil))))))) wNil)))) (gdTup 6 (gdCons (gdName 12) (gdCons (gdName 13) (gdCons (gdName 14) (gdCons (gdName 15) (gdCons (gdName 16) (gdCons (gdName 17) gdNil)))))))
  (wSeq (wSet 18 (wLst false (wCons (wCall 1 (sp__law_copy) (wCons (wVar 13) wNil)) (wCons (wCall 1 (sp__law_copy) (wCons (wVar 14) wNil)) (wCons (wCall 1 (sp__law_copy) (wCons (wVar 15) wNil)) wNil)))))
  (wSeq (wSet 19 (wCall 5 (sp__law_asked) (wCons (wVar 12) (wCons (wBin gIx3 (wVar 18) (wC (.int 0))) (wCons (wBin gIx3 (wVar 18) (wC (.int 1))) (wCons (wBin gIx3 (wVar 18) (wC (.int 2))) (wCons (wVar 1) wNil)))))))
  (wIf (wOrT (wTest (wBin gNe (wBin gIx3 (wVar 19) (wC (.int 0))) (wVar 16))) (wNotT (wTest (wCall 2 (sp__law_blamed) (wCons (wBin gIx3 (wVar 19) (wC (.int 1))) (wCons (wBin gIx3 (wVar 18) (wVar 17)) wNil))))))
  (wRet (wC (.bl false)))
  wNext))))
  (wRet (wC (.bl true))))))))))))
theorem sat__law_refused_right : Sat' 1 N__law_refused_right.length w__law_refused_right sp__law_refused_right := by
  rintro ds S P E - hS hd ⟨b, rfl, hb, p⟩
  have hz := sizeLine_eq
  simp only [w__law_refused_right, N__law_refused_right, startD, List.map_cons, List.map_nil, List.length_cons, List.length_nil, List.replicate, List.cons_append, List.nil_append]
  refine stage (fun ρ1 S1 => S1 = S ∧ ∃ (nm : Bool) (pl l : Int), 1 ≤ l ∧ l ≤ 2 ∧ 0 ≤ pl ∧ pl ≤ 5 ∧ ρ1 = [some (.ref b), some (.bl nm), some (.int pl), some (.int l), none, none, none, none, none, none, none, none, none, none, none, none, none, none, none, none]) (fun K hK => ?_) ?_
  · simp only [wRet, wRetN, wSeq, wSet, wIf, wPar, wPar3, wExpr, wAsg, wNext, wBreak, wCont, gdTup, gdCons, gdNil, gdName, wIte, wAnd, wOr, DD.wNot, wTest, wNotT, wAndT, wOrT, wBin, wUn, wB, wCons, wNil, wVar, wC, wTup, wLst, mkL, wYes, wCall, wChain, startD, List.map_cons, List.map_nil, List.length_cons, List.length_nil, List.replicate, List.cons_append, List.nil_append, List.append_nil, List.getElem?_cons_zero, List.getElem?_cons_succ, List.set_cons_zero, List.set_cons_succ, Option.some.injEq, exists_eq_left', exists_eq_left, true_and, and_true, if_true, if_false, Bool.false_eq_true, gI, D.int.injEq, D.bl.injEq, D.str.injEq, wLc, wSrc, srcD, wSl, wSmO, wNoO, gSl, bodyC, wipeD, beq_self_eq_true, Bool.not_true, exists_and_left, List.cons.injEq, gLen3, D.ty.injEq, D.ref.injEq, D.tup.injEq, D.lst.injEq, and_assoc, tm_bool, tm_int, tm_str, tm_tuple, tm_list, tm_dict, gIsi, wIsi2, wRaise, gLe, gGt, gGe, DD.gSub, Prod.mk.injEq, gAdd_int, gMul_int, gInt_int, gInt_bl, wPut, lenD3_lst, lenD3_tup, lenD3_str, lenD3_dct, gIn3_str, gIn3_lst, gIn3_tup, gInS, gIn, spTake, gEq, eqR, hb]
    exact ⟨by decide, by decide, fun i i0 i1 => ⟨by decide, by decide, fun j j0 j1 => ⟨by decide, by decide, fun g g0 g1 => ⟨by decide, hK _ _ ⟨rfl, _, _, _, by omega, by omega, j0, by omega, rfl⟩⟩⟩⟩⟩
  rintro ρ1 S1 ⟨rfl, nm, pl, l, l1, l2, pl0, pl5, rfl⟩
  refine stage (fun ρ1 S2 => S2 = S1 ∧ ∃ (s t : List Nat) (bad last : D) (x7 : Option D), wordOk l (.str s) = true ∧ wordOk l (.str t) = true ∧ s.length ≤ 100 ∧ t.length ≤ 100 ∧ bad ∈ noLet ∧ last ∈ noNum ∧ ρ1 = [some (.ref b), some (.bl nm), some (.int pl), some (.int l), some (.lst [.str s, .str t]), some bad, some last, x7, none, none, none, none, none, none, none, none, none, none, none, none]) (fun K hK => ?_) ?_
  · simp only [wRet, wRetN, wSeq, wSet, wIf, wPar, wPar3, wExpr, wAsg, wNext, wBreak, wCont, gdTup, gdCons, gdNil, gdName, wIte, wAnd, wOr, DD.wNot, wTest, wNotT, wAndT, wOrT, wBin, wUn, wB, wCons, wNil, wVar, wC, wTup, wLst, mkL, wYes, wCall, wChain, startD, List.map_cons, List.map_nil, List.length_cons, List.length_nil, List.replicate, List.cons_append, List.nil_append, List.append_nil, List.getElem?_cons_zero, List.getElem?_cons_succ, List.set_cons_zero, List.set_cons_succ, Option.some.injEq, exists_eq_left', exists_eq_left, true_and, and_true, if_true, if_false, Bool.false_eq_true, gI, D.int.injEq, D.bl.injEq, D.str.injEq, wLc, wSrc, srcD, wSl, wSmO, wNoO, gSl, bodyC, wipeD, beq_self_eq_true, Bool.not_true, exists_and_left, List.cons.injEq, gLen3, D.ty.injEq, D.ref.injEq, D.tup.injEq, D.lst.injEq, and_assoc, tm_bool, tm_int, tm_str, tm_tuple, tm_list, tm_dict, gIsi, wIsi2, wRaise, gLe, gGt, gGe, DD.gSub, Prod.mk.injEq, gAdd_int, gMul_int, gInt_int, gInt_bl, wPut, lenD3_lst, lenD3_tup, lenD3_str, lenD3_dct, gIn3_str, gIn3_lst, gIn3_tup, gInS, gIn, wRng1, hb]
    refine ⟨by decide, by decide, loopC_inv (fun ys acc S2 => S2 = S1 ∧ ∃ zs, acc = zs.map D.str ∧ zs.length + ys.length = 2 ∧ gw l 100 zs) ?_ ?_ _ _ _ ⟨rfl, [], rfl, by simp [rangeD], by simp [gw]⟩⟩
    · rintro y ys acc S2 K ⟨rfl, zs, rfl, hl, hg⟩ hK
      refine ⟨trivial, ?_⟩
      rw [List.length_cons] at hl
      simp only [wRet, wRetN, wSeq, wSet, wIf, wPar, wPar3, wExpr, wAsg, wNext, wBreak, wCont, gdTup, gdCons, gdNil, gdName, wIte, wAnd, wOr, DD.wNot, wTest, wNotT, wAndT, wOrT, wBin, wUn, wB, wCons, wNil, wVar, wC, wTup, wLst, mkL, wYes, wCall, wChain, startD, List.map_cons, List.map_nil, List.length_cons, List.length_nil, List.replicate, List.cons_append, List.nil_append, List.append_nil, List.getElem?_cons_zero, List.getElem?_cons_succ, List.set_cons_zero, List.set_cons_succ, Option.some.injEq, exists_eq_left', exists_eq_left, true_and, and_true, if_true, if_false, Bool.false_eq_true, gI, D.int.injEq, D.bl.injEq, D.str.injEq, wLc, wSrc, srcD, wSl, wSmO, wNoO, gSl, bodyC, wipeD, beq_self_eq_true, Bool.not_true, exists_and_left, List.cons.injEq, gLen3, D.ty.injEq, D.ref.injEq, D.tup.injEq, D.lst.injEq, and_assoc, tm_bool, tm_int, tm_str, tm_tuple, tm_list, tm_dict, gIsi, wIsi2, wRaise, gLe, gGt, gGe, DD.gSub, Prod.mk.injEq, gAdd_int, gMul_int, gInt_int, gInt_bl, wPut, lenD3_lst, lenD3_tup, lenD3_str, lenD3_dct, gIn3_str, gIn3_lst, gIn3_tup, gInS, gIn, sp__law_word, hb]
      refine ⟨l1, l2, by decide, by decide, fun s s1 s2 => hK _ _ ⟨rfl, zs ++ [s], by simp, ?_, hg.app ?_⟩⟩
      · rw [List.length_append, List.length_singleton]; omega
      · intro z hz'
        rw [List.mem_singleton.mp hz']
        exact ⟨by omega, s2⟩
    · rintro acc S2 ⟨rfl, zs, rfl, hl, hg⟩
      simp only [List.length_nil, Nat.add_zero] at hl
      refine ⟨trivial, ?_⟩
      match zs, hl, hg with
      | [s, t], _, hg =>
        have gs := hg s (by simp)
        have gt := hg t (by simp)
        simp only [wRet, wRetN, wSeq, wSet, wIf, wPar, wPar3, wExpr, wAsg, wNext, wBreak, wCont, gdTup, gdCons, gdNil, gdName, wIte, wAnd, wOr, DD.wNot, wTest, wNotT, wAndT, wOrT, wBin, wUn, wB, wCons, wNil, wVar, wC, wTup, wLst, mkL, wYes, wCall, wChain, startD, List.map_cons, List.map_nil, List.length_cons, List.length_nil, List.replicate, List.cons_append, List.nil_append, List.append_nil, List.getElem?_cons_zero, List.getElem?_cons_succ, List.set_cons_zero, List.set_cons_succ, Option.some.injEq, exists_eq_left', exists_eq_left, true_and, and_true, if_true, if_false, Bool.false_eq_true, gI, D.int.injEq, D.bl.injEq, D.str.injEq, wLc, wSrc, srcD, wSl, wSmO, wNoO, gSl, bodyC, wipeD, beq_self_eq_true, Bool.not_true, exists_and_left, List.cons.injEq, gLen3, D.ty.injEq, D.ref.injEq, D.tup.injEq, D.lst.injEq, and_assoc, tm_bool, tm_int, tm_str, tm_tuple, tm_list, tm_dict, gIsi, wIsi2, wRaise, gLe, gGt, gGe, DD.gSub, Prod.mk.injEq, gAdd_int, gMul_int, gInt_int, gInt_bl, wPut, lenD3_lst, lenD3_tup, lenD3_str, lenD3_dct, gIn3_str, gIn3_lst, gIn3_tup, gInS, gIn, sp__law_no_letters, sp__law_no_number, hb]
        exact fun bad hbad last hlast => hK _ _ ⟨rfl, s, t, bad, last, _, wordOk_of (by omega) gs.2, wordOk_of (by omega) gt.2, gs.1, gt.1, hbad, hlast, rfl⟩
  rintro ρ1 S2 ⟨rfl, s, t, bad, last, x7, ws, wt, s1, t1, hbad, hlast, rfl⟩
  refine stage (fun ρ1 S1 => S1 = S2 ∧ ∃ (u v : D) (vs : List D) (x7 x9 : Option D), wordOk l u = false ∧ wordOk l v = false ∧ Nice u ∧ Nice v ∧ ρ1 = [some (.ref b), some (.bl nm), some (.int pl), some (.int l), some (.lst [.str s, .str t]), some bad, some last, x7, some (.lst (u :: v :: vs)), x9, none, none, none, none, none, none, none, none, none, none]) (fun K hK => ?_) ?_
  · simp only [wRet, wRetN, wSeq, wSet, wIf, wPar, wPar3, wExpr, wAsg, wNext, wBreak, wCont, gdTup, gdCons, gdNil, gdName, wIte, wAnd, wOr, DD.wNot, wTest, wNotT, wAndT, wOrT, wBin, wUn, wB, wCons, wNil, wVar, wC, wTup, wLst, mkL, wYes, wCall, wChain, startD, List.map_cons, List.map_nil, List.length_cons, List.length_nil, List.replicate, List.cons_append, List.nil_append, List.append_nil, List.getElem?_cons_zero, List.getElem?_cons_succ, List.set_cons_zero, List.set_cons_succ, Option.some.injEq, exists_eq_left', exists_eq_left, true_and, and_true, if_true, if_false, Bool.false_eq_true, gI, D.int.injEq, D.bl.injEq, D.str.injEq, wLc, wSrc, srcD, wSl, wSmO, wNoO, gSl, bodyC, wipeD, beq_self_eq_true, Bool.not_true, exists_and_left, List.cons.injEq, gLen3, D.ty.injEq, D.ref.injEq, D.tup.injEq, D.lst.injEq, and_assoc, tm_bool, tm_int, tm_str, tm_tuple, tm_list, tm_dict, gIsi, wIsi2, wRaise, gLe, gGt, gGe, DD.gSub, Prod.mk.injEq, gAdd_int, gMul_int, gInt_int, gInt_bl, wPut, lenD3_lst, lenD3_tup, lenD3_str, lenD3_dct, gIn3_str, gIn3_lst, gIn3_tup, gInS, gIn, wRng1, hb]
    refine ⟨by decide, by decide, loopC_inv (fun ys acc S1 => S1 = S2 ∧ acc.length + ys.length ≤ 3 ∧ ∀ d ∈ acc, Nice d) ?_ ?_ _ _ _ ⟨rfl, by simp [rangeD], by simp⟩⟩
    · rintro y ys acc S1 K ⟨rfl, hl, hn⟩ hK
      refine ⟨trivial, ?_⟩
      simp only [wRet, wRetN, wSeq, wSet, wIf, wPar, wPar3, wExpr, wAsg, wNext, wBreak, wCont, gdTup, gdCons, gdNil, gdName, wIte, wAnd, wOr, DD.wNot, wTest, wNotT, wAndT, wOrT, wBin, wUn, wB, wCons, wNil, wVar, wC, wTup, wLst, mkL, wYes, wCall, wChain, startD, List.map_cons, List.map_nil, List.length_cons, List.length_nil, List.replicate, List.cons_append, List.nil_append, List.append_nil, List.getElem?_cons_zero, List.getElem?_cons_succ, List.set_cons_zero, List.set_cons_succ, Option.some.injEq, exists_eq_left', exists_eq_left, true_and, and_true, if_true, if_false, Bool.false_eq_true, gI, D.int.injEq, D.bl.injEq, D.str.injEq, wLc, wSrc, srcD, wSl, wSmO, wNoO, gSl, bodyC, wipeD, beq_self_eq_true, Bool.not_true, exists_and_left, List.cons.injEq, gLen3, D.ty.injEq, D.ref.injEq, D.tup.injEq, D.lst.injEq, and_assoc, tm_bool, tm_int, tm_str, tm_tuple, tm_list, tm_dict, gIsi, wIsi2, wRaise, gLe, gGt, gGe, DD.gSub, Prod.mk.injEq, gAdd_int, gMul_int, gInt_int, gInt_bl, wPut, lenD3_lst, lenD3_tup, lenD3_str, lenD3_dct, gIn3_str, gIn3_lst, gIn3_tup, gInS, gIn, sp__law_near_word, hb]
      refine ⟨l1, l2, fun d hd => hK _ _ ⟨rfl, ?_, ?_⟩⟩
      · simp only [Option.toList, List.length_append, List.length_cons, List.length_nil] at hl ⊢; omega
      · intro z hz'
        rcases List.mem_append.mp hz' with h | h
        · exact hn z h
        · simp only [Option.toList, List.mem_singleton] at h; rw [h]; exact hd
    · rintro acc S1 ⟨rfl, hl, hn⟩
      refine ⟨trivial, loopC_pure (fun d => if wordOk l d = true then none else some d) trivial _ _ (fun x hx Q hQ => ?_) ?_⟩
      · have hx := hn x hx
        obtain ⟨m, hm⟩ := hx.ty (S := S1)
        simp only [wRet, wRetN, wSeq, wSet, wIf, wPar, wPar3, wExpr, wAsg, wNext, wBreak, wCont, gdTup, gdCons, gdNil, gdName, wIte, wAnd, wOr, DD.wNot, wTest, wNotT, wAndT, wOrT, wBin, wUn, wB, wCons, wNil, wVar, wC, wTup, wLst, mkL, wYes, wCall, wChain, startD, List.map_cons, List.map_nil, List.length_cons, List.length_nil, List.replicate, List.cons_append, List.nil_append, List.append_nil, List.getElem?_cons_zero, List.getElem?_cons_succ, List.set_cons_zero, List.set_cons_succ, Option.some.injEq, exists_eq_left', exists_eq_left, true_and, and_true, if_true, if_false, Bool.false_eq_true, gI, D.int.injEq, D.bl.injEq, D.str.injEq, wLc, wSrc, srcD, wSl, wSmO, wNoO, gSl, bodyC, wipeD, beq_self_eq_true, Bool.not_true, exists_and_left, List.cons.injEq, gLen3, D.ty.injEq, D.ref.injEq, D.tup.injEq, D.lst.injEq, and_assoc, tm_bool, tm_int, tm_str, tm_tuple, tm_list, tm_dict, gIsi, wIsi2, wRaise, gLe, gGt, gGe, DD.gSub, Prod.mk.injEq, gAdd_int, gMul_int, gInt_int, gInt_bl, wPut, lenD3_lst, lenD3_tup, lenD3_str, lenD3_dct, gIn3_str, gIn3_lst, gIn3_tup, gInS, gIn, sp__law_is_word]
        refine ⟨l1, l2, m, hm, hx.ok, hx.spl, ?_⟩
        cases h : wordOk l x with
        | true => simpa [h] using hQ
        | false => simpa [h] using hQ
      · rw [List.nil_append]
        have hP : ∀ d ∈ acc.filterMap (fun d => if wordOk l d = true then none else some d), Nice d ∧ wordOk l d = false := by
          intro d hd
          obtain ⟨x, hx, e⟩ := List.mem_filterMap.mp hd
          split at e
          · cases e
          · cases e
            rename_i h
            exact ⟨hn d hx, by simpa using h⟩
        have hlen := List.length_filterMap_le (fun d => if wordOk l d = true then none else some d) acc
        simp only [List.length_nil, Nat.add_zero] at hl
        have hc : Nice (.str [99]) ∧ wordOk l (.str [99]) = false := ⟨.str _ (by decide) (by decide), by
          rcases (by omega : l = 1 ∨ l = 2) with rfl | rfl <;> rfl⟩
        simp only [gEq, eqR, wRet, wRetN, wSeq, wSet, wIf, wPar, wPar3, wExpr, wAsg, wNext, wBreak, wCont, gdTup, gdCons, gdNil, gdName, wIte, wAnd, wOr, DD.wNot, wTest, wNotT, wAndT, wOrT, wBin, wUn, wB, wCons, wNil, wVar, wC, wTup, wLst, mkL, wYes, wCall, wChain, startD, List.map_cons, List.map_nil, List.length_cons, List.length_nil, List.replicate, List.cons_append, List.nil_append, List.append_nil, List.getElem?_cons_zero, List.getElem?_cons_succ, List.set_cons_zero, List.set_cons_succ, Option.some.injEq, exists_eq_left', exists_eq_left, true_and, and_true, if_true, if_false, Bool.false_eq_true, gI, D.int.injEq, D.bl.injEq, D.str.injEq, wLc, wSrc, srcD, wSl, wSmO, wNoO, gSl, bodyC, wipeD, beq_self_eq_true, Bool.not_true, exists_and_left, List.cons.injEq, gLen3, D.ty.injEq, D.ref.injEq, D.tup.injEq, D.lst.injEq, and_assoc, tm_bool, tm_int, tm_str, tm_tuple, tm_list, tm_dict, gIsi, wIsi2, wRaise, gLe, gGt, gGe, DD.gSub, Prod.mk.injEq, gAdd_int, gMul_int, gInt_int, gInt_bl, wPut, lenD3_lst, lenD3_tup, lenD3_str, lenD3_dct, gIn3_str, gIn3_lst, gIn3_tup, gInS, gIn]
        split
        · rename_i h1
          have e1 : l = 1 := by simpa using h1
          subst e1
          obtain ⟨u, v, vs, e, hu, hv⟩ := two_first hc (y := .str [97, 98]) ⟨.str _ (by decide) (by decide), rfl⟩ _ hP
          refine ⟨by decide, add_lst (by simp only [List.length_cons, List.length_nil]; omega) ?_⟩
          rw [e]
          exact hK _ _ ⟨rfl, u, v, vs, _, _, hu.2, hv.2, hu.1, hv.1, rfl⟩
        · rename_i h1
          have e1 : l = 2 := by
            have : ¬ l = 1 := by simpa using h1
            omega
          subst e1
          obtain ⟨u, v, vs, e, hu, hv⟩ := two_first hc (y := .str [97, 98, 99]) ⟨.str _ (by decide) (by decide), rfl⟩ _ hP
          refine ⟨by decide, add_lst (by simp only [List.length_cons, List.length_nil]; omega) ?_⟩
          rw [e]
          exact hK _ _ ⟨rfl, u, v, vs, _, _, hu.2, hv.2, hu.1, hv.1, rfl⟩
  clear x7
  rintro ρ1 S1 ⟨rfl, u, v, vs, x7, x9, hu, hv, nu, nv, rfl⟩
  refine stage (fun ρ1 S2 => S2 = S1 ∧ ∃ lists, BadWs l lists ∧ ρ1 = [some (.ref b), some (.bl nm), some (.int pl), some (.int l), some (.lst [.str s, .str t]), some bad, some last, x7, some (.lst (u :: v :: vs)), x9, some lists, none, none, none, none, none, none, none, none, none]) (fun K hK => ?_) ?_
  · simp only [wRet, wRetN, wSeq, wSet, wIf, wPar, wPar3, wExpr, wAsg, wNext, wBreak, wCont, gdTup, gdCons, gdNil, gdName, wIte, wAnd, wOr, DD.wNot, wTest, wNotT, wAndT, wOrT, wBin, wUn, wB, wCons, wNil, wVar, wC, wTup, wLst, mkL, wYes, wCall, wChain, startD, List.map_cons, List.map_nil, List.length_cons, List.length_nil, List.replicate, List.cons_append, List.nil_append, List.append_nil, List.getElem?_cons_zero, List.getElem?_cons_succ, List.set_cons_zero, List.set_cons_succ, Option.some.injEq, exists_eq_left', exists_eq_left, true_and, and_true, if_true, if_false, Bool.false_eq_true, gI, D.int.injEq, D.bl.injEq, D.str.injEq, wLc, wSrc, srcD, wSl, wSmO, wNoO, gSl, bodyC, wipeD, beq_self_eq_true, Bool.not_true, exists_and_left, List.cons.injEq, gLen3, D.ty.injEq, D.ref.injEq, D.tup.injEq, D.lst.injEq, and_assoc, tm_bool, tm_int, tm_str, tm_tuple, tm_list, tm_dict, gIsi, wIsi2, wRaise, gLe, gGt, gGe, DD.gSub, Prod.mk.injEq, gAdd_int, gMul_int, gInt_int, gInt_bl, wPut, lenD3_lst, lenD3_tup, lenD3_str, lenD3_dct, gIn3_str, gIn3_lst, gIn3_tup, gInS, gIn, sp__law_no_words, hb]
    refine ⟨[s, t], rfl, l1, l2, by show 2 ≤ 5; decide, fun z hz' => ?_, fun d hd => hK _ _ ⟨rfl, d, hd, rfl⟩⟩
    obtain ⟨s', e, _, hs⟩ := wordOk_str ws
    cases e
    obtain ⟨t', e, _, ht⟩ := wordOk_str wt
    cases e
    simp only [List.mem_cons, List.not_mem_nil, or_false] at hz'
    rcases hz' with rfl | rfl
    · exact ⟨s1, hs⟩
    · exact ⟨t1, ht⟩
  rintro ρ1 S2 ⟨rfl, lists, hli, rfl⟩
  have iu : ∀ P : Q1, P u S2 → gIx3 (.lst (u :: v :: vs)) (.int 0) S2 P := fun P p => ix_lst (by simpa using atI_nat (xs := u :: v :: vs) (k := 0) rfl) p
  have iv : ∀ P : Q1, P v S2 → gIx3 (.lst (u :: v :: vs)) (.int 1) S2 P := fun P p => ix_lst (by simpa using atI_nat (xs := u :: v :: vs) (k := 1) rfl) p
  have is : ∀ P : Q1, P (.str s) S2 → gIx3 (.lst [.str s, .str t]) (.int 0) S2 P := fun P p => ix_lst rfl p
  have it : ∀ P : Q1, P (.str t) S2 → gIx3 (.lst [.str s, .str t]) (.int 1) S2 P := fun P p => ix_lst rfl p
  have tu : Th 9 u := nu.th
  have tv : Th 9 v := nv.th
  have lu : ∀ xs, u = .lst xs → xs.length < sizeLine := by rintro xs rfl; cases nu; show 1 < sizeLine; omega
  have lv : ∀ xs, v = .lst xs → xs.length < sizeLine := by rintro xs rfl; cases nv; show 1 < sizeLine; omega
  have ts : Th 9 (.str s) := th_str (by omega)
  have tt : Th 9 (.str t) := th_str (by omega)
  obtain ⟨tli, lli⟩ := badWs_th hli
  obtain ⟨tla, lla, _⟩ := noNum_ok (.inl hlast)
  have nl : ∀ {d : D}, (∀ xs, d ≠ .lst xs) → ∀ xs, d = .lst xs → xs.length < sizeLine := fun h xs e => absurd e (h xs)
  let Good : Nat → Rho → Cells → Prop := fun n ρ1 S1 => S1 = S2 ∧ ∃ ys, ys.length ≤ n ∧ (∀ y ∈ ys, AskOk y) ∧ ρ1 = [some (.ref b), some (.bl nm), some (.int pl), some (.int l), some (.lst [.str s, .str t]), some bad, some last, x7, some (.lst (u :: v :: vs)), x9, some lists, some (.lst ys), none, none, none, none, none, none, none, none]
  refine stage (Good 4) (fun K hK => ?_) ?_
  · simp only [wRet, wRetN, wSeq, wSet, wIf, wPar, wPar3, wExpr, wAsg, wNext, wBreak, wCont, gdTup, gdCons, gdNil, gdName, wIte, wAnd, wOr, DD.wNot, wTest, wNotT, wAndT, wOrT, wBin, wUn, wB, wCons, wNil, wVar, wC, wTup, wLst, mkL, wYes, wCall, wChain, startD, List.map_cons, List.map_nil, List.length_cons, List.length_nil, List.replicate, List.cons_append, List.nil_append, List.append_nil, List.getElem?_cons_zero, List.getElem?_cons_succ, List.set_cons_zero, List.set_cons_succ, Option.some.injEq, exists_eq_left', exists_eq_left, true_and, and_true, if_true, if_false, Bool.false_eq_true, gI, D.int.injEq, D.bl.injEq, D.str.injEq, wLc, wSrc, srcD, wSl, wSmO, wNoO, gSl, bodyC, wipeD, beq_self_eq_true, Bool.not_true, exists_and_left, List.cons.injEq, gLen3, D.ty.injEq, D.ref.injEq, D.tup.injEq, D.lst.injEq, and_assoc, tm_bool, tm_int, tm_str, tm_tuple, tm_list, tm_dict, gIsi, wIsi2, wRaise, gLe, gGt, gGe, DD.gSub, Prod.mk.injEq, gAdd_int, gMul_int, gInt_int, gInt_bl, wPut, lenD3_lst, lenD3_tup, lenD3_str, lenD3_dct, gIn3_str, gIn3_lst, gIn3_tup, gInS, gIn]
    refine ⟨by decide, by decide, by decide, iu _ (iv _ ⟨by decide, by decide, hK _ _ ⟨rfl, _, ?_, ?_, rfl⟩⟩)⟩
    · exact Nat.le_refl 4
    intro y hy
    simp only [List.mem_cons, List.not_mem_nil, or_false] at hy
    rcases hy with rfl | rfl | rfl | rfl
    · exact ask_letters (by decide) (by decide) hbad (th_str (by decide)) th_non (nl (by rintro xs h; cases h)) (nl (by rintro xs h; cases h))
    · exact ask_letters (by decide) (by decide) hbad tla th_non lla (nl (by rintro xs h; cases h))
    · exact ask_number l1 l2 (.inl hlast)
    · exact ask_letters (by decide) (by decide) hbad tu tv lu lv
  rintro ρ1 S1 ⟨rfl, ys, hyl, hys, rfl⟩
  refine stage (Good 7) (fun K hK => ?_) ?_
  · simp only [wRet, wRetN, wSeq, wSet, wIf, wPar, wPar3, wExpr, wAsg, wNext, wBreak, wCont, gdTup, gdCons, gdNil, gdName, wIte, wAnd, wOr, DD.wNot, wTest, wNotT, wAndT, wOrT, wBin, wUn, wB, wCons, wNil, wVar, wC, wTup, wLst, mkL, wYes, wCall, wChain, startD, List.map_cons, List.map_nil, List.length_cons, List.length_nil, List.replicate, List.cons_append, List.nil_append, List.append_nil, List.getElem?_cons_zero, List.getElem?_cons_succ, List.set_cons_zero, List.set_cons_succ, Option.some.injEq, exists_eq_left', exists_eq_left, true_and, and_true, if_true, if_false, Bool.false_eq_true, gI, D.int.injEq, D.bl.injEq, D.str.injEq, wLc, wSrc, srcD, wSl, wSmO, wNoO, gSl, bodyC, wipeD, beq_self_eq_true, Bool.not_true, exists_and_left, List.cons.injEq, gLen3, D.ty.injEq, D.ref.injEq, D.tup.injEq, D.lst.injEq, and_assoc, tm_bool, tm_int, tm_str, tm_tuple, tm_list, tm_dict, gIsi, wIsi2, wRaise, gLe, gGt, gGe, DD.gSub, Prod.mk.injEq, gAdd_int, gMul_int, gInt_int, gInt_bl, wPut, lenD3_lst, lenD3_tup, lenD3_str, lenD3_dct, gIn3_str, gIn3_lst, gIn3_tup, gInS, gIn]
    refine iu _ (iv _ ⟨by decide, is _ (iu _ ⟨by decide, iv _ (it _ ⟨by decide, by decide, add_lst (by show ys.length + 3 ≤ sizeLine; omega) (hK _ _ ⟨rfl, _, ?_, ?_, rfl⟩)⟩)⟩)⟩)
    · rw [List.length_append]; exact Nat.add_le_add_right hyl 3
    intro y hy
    rcases List.mem_append.mp hy with hy | hy
    · exact hys y hy
    simp only [List.mem_cons, List.not_mem_nil, or_false] at hy
    rcases hy with rfl | rfl | rfl
    · exact ask_ahead l1 l2 tu tv lu lv hu
    · exact ask_ahead2 l1 l2 ws tu lu hu
    · exact ask_ahead l1 l2 tv tt lv (nl (by rintro xs h; cases h)) hv
  clear hys hyl ys
  rintro ρ1 S2 ⟨rfl, ys, hyl, hys, rfl⟩
  refine stage (Good 10) (fun K hK => ?_) ?_
  · simp only [wRet, wRetN, wSeq, wSet, wIf, wPar, wPar3, wExpr, wAsg, wNext, wBreak, wCont, gdTup, gdCons, gdNil, gdName, wIte, wAnd, wOr, DD.wNot, wTest, wNotT, wAndT, wOrT, wBin, wUn, wB, wCons, wNil, wVar, wC, wTup, wLst, mkL, wYes, wCall, wChain, startD, List.map_cons, List.map_nil, List.length_cons, List.length_nil, List.replicate, List.cons_append, List.nil_append, List.append_nil, List.getElem?_cons_zero, List.getElem?_cons_succ, List.set_cons_zero, List.set_cons_succ, Option.some.injEq, exists_eq_left', exists_eq_left, true_and, and_true, if_true, if_false, Bool.false_eq_true, gI, D.int.injEq, D.bl.injEq, D.str.injEq, wLc, wSrc, srcD, wSl, wSmO, wNoO, gSl, bodyC, wipeD, beq_self_eq_true, Bool.not_true, exists_and_left, List.cons.injEq, gLen3, D.ty.injEq, D.ref.injEq, D.tup.injEq, D.lst.injEq, and_assoc, tm_bool, tm_int, tm_str, tm_tuple, tm_list, tm_dict, gIsi, wIsi2, wRaise, gLe, gGt, gGe, DD.gSub, Prod.mk.injEq, gAdd_int, gMul_int, gInt_int, gInt_bl, wPut, lenD3_lst, lenD3_tup, lenD3_str, lenD3_dct, gIn3_str, gIn3_lst, gIn3_tup, gInS, gIn]
    refine iu _ ⟨by decide, iu _ ⟨by decide, is _ ⟨by decide, by decide, add_lst (by show ys.length + 3 ≤ sizeLine; omega) (hK _ _ ⟨rfl, _, ?_, ?_, rfl⟩)⟩⟩⟩
    · rw [List.length_append]; exact Nat.add_le_add_right hyl 3
    intro y hy
    rcases List.mem_append.mp hy with hy | hy
    · exact hys y hy
    simp only [List.mem_cons, List.not_mem_nil, or_false] at hy
    rcases hy with rfl | rfl | rfl
    · exact ask_letters (by decide) (by decide) hbad tu th_non lu (nl (by rintro xs h; cases h))
    · exact ask_word (.inl rfl) l1 l2 tu lu hu
    · exact ask_letters (by decide) (by decide) hbad ts th_non (nl (by rintro xs h; cases h)) (nl (by rintro xs h; cases h))
  clear hys hyl ys
  rintro ρ1 S1 ⟨rfl, ys, hyl, hys, rfl⟩
  refine stage (Good 14) (fun K hK => ?_) ?_
  · simp only [wRet, wRetN, wSeq, wSet, wIf, wPar, wPar3, wExpr, wAsg, wNext, wBreak, wCont, gdTup, gdCons, gdNil, gdName, wIte, wAnd, wOr, DD.wNot, wTest, wNotT, wAndT, wOrT, wBin, wUn, wB, wCons, wNil, wVar, wC, wTup, wLst, mkL, wYes, wCall, wChain, startD, List.map_cons, List.map_nil, List.length_cons, List.length_nil, List.replicate, List.cons_append, List.nil_append, List.append_nil, List.getElem?_cons_zero, List.getElem?_cons_succ, List.set_cons_zero, List.set_cons_succ, Option.some.injEq, exists_eq_left', exists_eq_left, true_and, and_true, if_true, if_false, Bool.false_eq_true, gI, D.int.injEq, D.bl.injEq, D.str.injEq, wLc, wSrc, srcD, wSl, wSmO, wNoO, gSl, bodyC, wipeD, beq_self_eq_true, Bool.not_true, exists_and_left, List.cons.injEq, gLen3, D.ty.injEq, D.ref.injEq, D.tup.injEq, D.lst.injEq, and_assoc, tm_bool, tm_int, tm_str, tm_tuple, tm_list, tm_dict, gIsi, wIsi2, wRaise, gLe, gGt, gGe, DD.gSub, Prod.mk.injEq, gAdd_int, gMul_int, gInt_int, gInt_bl, wPut, lenD3_lst, lenD3_tup, lenD3_str, lenD3_dct, gIn3_str, gIn3_lst, gIn3_tup, gInS, gIn]
    refine iu _ ⟨by decide, by decide, by decide, by decide, by decide, add_lst (by show ys.length + 4 ≤ sizeLine; omega) (hK _ _ ⟨rfl, _, ?_, ?_, rfl⟩)⟩
    · rw [List.length_append]; exact Nat.add_le_add_right hyl 4
    intro y hy
    rcases List.mem_append.mp hy with hy | hy
    · exact hys y hy
    simp only [List.mem_cons, List.not_mem_nil, or_false] at hy
    rcases hy with rfl | rfl | rfl | rfl
    · exact ask_word (.inr rfl) l1 l2 tu lu hu
    · exact ask_letters (by decide) (by decide) hbad tli th_non lli (nl (by rintro xs h; cases h))
    · exact ask_words l1 l2 hli
    · exact ask_number l1 l2 (.inr rfl)
  clear hys hyl ys
  rintro ρ1 S2 ⟨rfl, ys, hyl, hys, rfl⟩
  have h401 : BadWs l (.lst (List.replicate (401 : Int).toNat [D.str [97]]).flatten) := by
    refine .inl ⟨_, .inl rfl, by decide, ?_, by simp⟩
    intro y hy
    have : y = .str [97] := by simpa using hy
    rw [this]
    exact .inl (.str _ (by decide) (by decide))
  simp only [wRet, wRetN, wSeq, wSet, wIf, wPar, wPar3, wExpr, wAsg, wNext, wBreak, wCont, gdTup, gdCons, gdNil, gdName, wIte, wAnd, wOr, DD.wNot, wTest, wNotT, wAndT, wOrT, wBin, wUn, wB, wCons, wNil, wVar, wC, wTup, wLst, mkL, wYes, wCall, wChain, startD, List.map_cons, List.map_nil, List.length_cons, List.length_nil, List.replicate, List.cons_append, List.nil_append, List.append_nil, List.getElem?_cons_zero, List.getElem?_cons_succ, List.set_cons_zero, List.set_cons_succ, Option.some.injEq, exists_eq_left', exists_eq_left, true_and, and_true, if_true, if_false, Bool.false_eq_true, gI, D.int.injEq, D.bl.injEq, D.str.injEq, wLc, wSrc, srcD, wSl, wSmO, wNoO, gSl, bodyC, wipeD, beq_self_eq_true, Bool.not_true, exists_and_left, List.cons.injEq, gLen3, D.ty.injEq, D.ref.injEq, D.tup.injEq, D.lst.injEq, and_assoc, tm_bool, tm_int, tm_str, tm_tuple, tm_list, tm_dict, gIsi, wIsi2, wRaise, gLe, gGt, gGe, DD.gSub, Prod.mk.injEq, gAdd_int, gMul_int, gInt_int, gInt_bl, wPut, lenD3_lst, lenD3_tup, lenD3_str, lenD3_dct, gIn3_str, gIn3_lst, gIn3_tup, gInS, gIn, wFor]
  refine ⟨_, rfl, by decide, ⟨_, rfl, by decide, by decide, by decide, by decide, by decide, add_lst ?_ ?_⟩⟩
  · have := cutD_len ys (some pl) none
    show _ + 1 ≤ sizeLine
    omega
  refine ⟨_, fun _ => True, rfl, loopF_inv (fun ys ρ S1 => (∀ y ∈ ys, AskOk y) ∧ ∃ (T : Cells) (zs : D) (x12 x13 x14 x15 x16 x17 x18 x19 : Option D), S1 = S2 ++ T ∧ ρ = [some (.ref b), some (.bl nm), some (.int pl), some (.int l), some (.lst [.str s, .str t]), some bad, some last, x7, some (.lst (u :: v :: vs)), x9, some lists, some zs, x12, x13, x14, x15, x16, x17, x18, x19]) ?_ ?_ _ _ _ ⟨?_, [], _, _, _, _, _, _, _, _, _, (List.append_nil S2).symm, rfl⟩⟩
  · rintro y ys ρ S1 K ⟨hall, T, zs, x12, x13, x14, x15, x16, x17, x18, x19, rfl, rfl⟩ hK
    obtain ⟨w, a, bb, c, due, k, rfl, ta, tb, tc, hdl, hk, la, lb, lc, ask⟩ := hall y List.mem_cons_self
    refine ⟨trivial, ?_⟩
    simp only [bodyF, wRet, wRetN, wSeq, wSet, wIf, wPar, wPar3, wExpr, wAsg, wNext, wBreak, wCont, gdTup, gdCons, gdNil, gdName, wIte, wAnd, wOr, DD.wNot, wTest, wNotT, wAndT, wOrT, wBin, wUn, wB, wCons, wNil, wVar, wC, wTup, wLst, mkL, wYes, wCall, wChain, startD, List.map_cons, List.map_nil, List.length_cons, List.length_nil, List.replicate, List.cons_append, List.nil_append, List.append_nil, List.getElem?_cons_zero, List.getElem?_cons_succ, List.set_cons_zero, List.set_cons_succ, Option.some.injEq, exists_eq_left', exists_eq_left, true_and, and_true, if_true, if_false, Bool.false_eq_true, gI, D.int.injEq, D.bl.injEq, D.str.injEq, wLc, wSrc, srcD, wSl, wSmO, wNoO, gSl, bodyC, wipeD, beq_self_eq_true, Bool.not_true, exists_and_left, List.cons.injEq, gLen3, D.ty.injEq, D.ref.injEq, D.tup.injEq, D.lst.injEq, and_assoc, tm_bool, tm_int, tm_str, tm_tuple, tm_list, tm_dict, gIsi, wIsi2, wRaise, gLe, gGt, gGe, DD.gSub, Prod.mk.injEq, gAdd_int, gMul_int, gInt_int, gInt_bl, wPut, lenD3_lst, lenD3_tup, lenD3_str, lenD3_dct, gIn3_str, gIn3_lst, gIn3_tup, gInS, gIn]
    refine copy_cp ta (B := S2.length) (by simp) fun T1 a' ca => copy_cp tb (B := S2.length) (by simp) fun T2 b' cb => copy_cp tc (B := S2.length) (by simp) fun T3 c' cc => ⟨by decide, ?_⟩
    have ca := (ca.app T2).app T3
    have cb := cb.app T3
    obtain ⟨U, hU⟩ : ∃ U, S2 ++ T ++ T1 ++ T2 ++ T3 = S2 ++ U := ⟨T ++ T1 ++ T2 ++ T3, by simp⟩
    rw [hU] at ca cb cc ⊢
    have hx : ∃ x d, [a', b', c'][k]? = some x ∧ Cp S2.length (S2 ++ U) d x ∧ Th 9 d ∧ ∀ xs, d = .lst xs → xs.length < sizeLine := by
      match k, hk with
      | 0, _ => exact ⟨a', a, rfl, ca, ta, la⟩
      | 1, _ => exact ⟨b', bb, rfl, cb, tb, lb⟩
      | 2, _ => exact ⟨c', c, rfl, cc, tc, lc⟩
    obtain ⟨x, d, hx, cx, td, ld⟩ := hx
    have hxI : atI [a', b', c'] (k : Int) = some x := by have := DD.atI_nat hx; rwa [Int.zero_add] at this
    refine ix_lst rfl (ix_lst rfl (ix_lst rfl (ask S2.length _ a' b' c' x nm _ _ ca cb cc hx (ix_lst rfl (ne_str rfl ⟨_, rfl, ?_⟩)))))
    rw [if_neg (by decide)]
    refine ix_lst rfl (ix_lst hxI (blamed_cp cx (td.mono (by decide)) ld fun T' => ⟨_, rfl, nif (hK _ _ ⟨fun y hy => hall y (List.mem_cons_of_mem _ hy), T', _, _, _, _, _, _, _, _, _, rfl, rfl⟩)⟩))
  · rintro ρ S1 ⟨_, T, zs, x12, x13, x14, x15, x16, x17, x18, x19, rfl, rfl⟩
    exact ⟨trivial, outD_app hS rfl p⟩
  · intro y hy
    rcases List.mem_append.mp hy with hy | hy
    · exact hys y (cutD_mem hy)
    · rw [List.mem_singleton.mp hy]
      exact ask_words l1 l2 h401
theorem fa__law_refused_right {P : Program} {w : World} {K : PySem.W.Frag} {mg : Str → Option Value} {base : Heap} (h : Hd fa fn K mg) : FnAt P w K mg base "_law_refused_right" (defArgs (HD.top 53)) (defBody (HD.top 53)) (defScope (HD.top 53)) ["box"] 13 562950037307402 1 (sp__law_refused_right) := by
  obtain ⟨fd, F⟩ := h.def_ 40
  have F : FunD K "_law_refused_right" "_law_refused_right" (defArgs (HD.top 53)) (defBody (HD.top 53)) (defScope (HD.top 53)) [] [] (ga K "_law_refused_right") fd := F
  refine' fn_at (c := (((((0 + (0 + 0)) + 1) + 0) + (((0 + (0 + 0)) + 1) + ((0 + ((0 + (0 + 0)) + 1)) + 0))) + ((((0 + 0) + (2 ^ 24 * (0 + ((0 + (0 + (0 + 0))) + 16777217)))) + (((0 + 0) + 1) + (((0 + (0 + (0 + 0))) + 1) + 0))) + (((((0 + 0) + (2 ^ 24 * (0 + ((0 + (0 + 0)) + 16777219)))) + (2 ^ 24 * (((0 + (0 + 0)) + 0) + 0))) + (0 + (((0 + 0) + (0 + 0)) + 0))) + (((0 + (0 + (0 + (0 + 0)))) + 16777221) + (((0 + (0 + (0 + (0 + (0 + (0 + 0)))))) + ((0 + (0 + (0 + (0 + (0 + (0 + 0)))))) + ((0 + (0 + (0 + (0 + (0 + (0 + 0)))))) + ((0 + (0 + ((0 + 0) + ((0 + 0) + (0 + (0 + 0)))))) + 0)))) + ((0 + ((0 + (0 + ((0 + 0) + ((0 + 0) + (0 + (0 + 0)))))) + ((0 + (0 + ((0 + 0) + ((0 + 0) + (0 + (0 + 0)))))) + ((0 + (0 + ((0 + 0) + ((0 + 0) + (0 + (0 + 0)))))) + 0)))) + ((0 + ((0 + (0 + ((0 + 0) + (0 + (0 + (0 + 0)))))) + ((0 + (0 + ((0 + 0) + (0 + (0 + (0 + 0)))))) + ((0 + (0 + ((0 + 0) + (0 + (0 + (0 + 0)))))) + 0)))) + ((0 + ((0 + (0 + ((0 + 0) + (0 + (0 + (0 + 0)))))) + ((0 + (0 + (0 + (0 + (0 + (0 + 0)))))) + ((0 + (0 + (0 + (0 + (0 + (0 + 0)))))) + ((0 + (0 + (0 + (0 + (0 + (0 + 0)))))) + 0))))) + (((((0 + 0) + 0) + ((0 + (0 + (((0 + 0) + 0) + (0 + (0 + (0 + 0)))))) + 0)) + (2 ^ 24 * ((((0 + 0) + 0) + (((0 + 0) + 0) + (((0 + 0) + 0) + 0))) + (((0 + ((0 + 0) + ((0 + 0) + ((0 + 0) + (0 + 0))))) + 0) + ((((0 + 0) + 0) + (((0 + 0) + ((0 + 0) + 0)) + 0)) + (0 + 0)))))) + 0)))))))))) F (h.glo 60) sc__law_refused_right rfl ?hc (b := w__law_refused_right) (fun cdv A outer s H E hr => ?hb) (sat__law_refused_right)
  case hb =>
    have hu : (cxOf (L2.CX P w) P w K mg base N__law_refused_right "_law_refused_right" (defScope (HD.top 53)) (ga K "_law_refused_right") cdv A outer s H E).A.units + 100 < cLine := by
      show (A.deeper (envOfC "_law_refused_right" (defScope (HD.top 53)) s.heap.objs.size (ga K "_law_refused_right") cdv)).units + 100 < cLine
      have := hr.un
      omega
    have tk := takes_of (X := cxOf (L2.CX P w) P w K mg base N__law_refused_right "_law_refused_right" (defScope (HD.top 53)) (ga K "_law_refused_right") cdv A outer s H E) rfl rfl rfl rfl
    have hp := passes_of (X := cxOf (L2.CX P w) P w K mg base N__law_refused_right "_law_refused_right" (defScope (HD.top 53)) (ga K "_law_refused_right") cdv A outer s H E) rfl
    have D : DSs (cxOf (L2.CX P w) P w K mg base N__law_refused_right "_law_refused_right" (defScope (HD.top 53)) (ga K "_law_refused_right") cdv A outer s H E) (fun cls d _ H' => E cls d H') (defBody (HD.top 53)) _ _ := (ds_cons (ds_asg (d_tup (da_cons (d_eq hu (d_call (ok__law_take h) hr (by decide) tk (da_cons (d_var 0) (da_cons d_int da_nil))) d_int) (da_cons (d_call (ok__law_take h) hr (by decide) tk (da_cons (d_var 0) (da_cons d_int da_nil))) (da_cons (d_add d_int (d_call (ok__law_take h) hr (by decide) tk (da_cons (d_var 0) (da_cons d_int da_nil)))) da_nil)))) (dg_tup rfl (dgs_cons (dg_name 1 sc__law_refused_right.nd) (dgs_cons (dg_name 2 sc__law_refused_right.nd) (dgs_cons (dg_name 3 sc__law_refused_right.nd) dgs_nil)))))
    (ds_cons (ds_par3 4 5 6 rfl sc__law_refused_right.nd (da_cons (d_lc false rfl sc__law_refused_right.nd (di_range1 (h.free 11) (da_cons d_int da_nil)) (show BlkOk N__law_refused_right (defScope (HD.top 53)) _ [("k", 7)] from blkOk_by (by decide +kernel)) (fun _ _ _ _ _ => (dg_name 7 sc__law_refused_right.nd)) (fun _ _ _ _ _ => dts_nil) (fun _ _ _ _ _ => (d_call (ok__law_word h) hr (by decide) takesF (da_cons (d_var 0) (da_cons (d_var 3) (da_cons d_int da_nil)))))) (da_cons (d_call (ok__law_no_letters h) hr (by decide) tk (da_cons (d_var 0) da_nil)) (da_cons (d_call (ok__law_no_number h) hr (by decide) tk (da_cons (d_var 0) (da_cons d_int (da_cons d_int da_nil)))) da_nil))))
    (ds_cons (ds_set 8 sc__law_refused_right.nd (d_add (d_lc false rfl sc__law_refused_right.nd (di_any (d_lc false rfl sc__law_refused_right.nd (di_range1 (h.free 11) (da_cons d_int da_nil)) (show BlkOk N__law_refused_right (defScope (HD.top 53)) _ [("k", 7)] from blkOk_by (by decide +kernel)) (fun _ _ _ _ _ => (dg_name 7 sc__law_refused_right.nd)) (fun _ _ _ _ _ => dts_nil) (fun _ _ _ _ _ => (d_call (ok__law_near_word h) hr (by decide) takesF (da_cons (d_var 0) (da_cons (d_var 3) da_nil)))))) (show BlkOk N__law_refused_right (defScope (HD.top 53)) _ [("word", 9)] from blkOk_by (by decide +kernel)) (fun _ _ _ _ _ => (dg_name 9 sc__law_refused_right.nd)) (fun _ _ _ _ _ => (dts_one (dt_not (dt_val (d_call (ok__law_is_word h) hr (by decide) takesF (da_cons (d_var 3) (da_cons (d_var 9) da_nil))))))) (fun _ _ _ _ _ => (d_var 9))) (d_lst false (da_cons (d_str [99]) (da_cons (d_ite (dt_eq hu (d_var 3) d_int) (d_str [97, 98]) (d_str [97, 98, 99])) da_nil)))))
    (ds_cons (ds_set 10 sc__law_refused_right.nd (d_call (ok__law_no_words h) hr (by decide) tk (da_cons (d_var 0) (da_cons (d_var 3) (da_cons (d_var 4) (da_cons d_int da_nil))))))
    (ds_cons (ds_set 11 sc__law_refused_right.nd (d_lst false (da_cons (d_tup (da_cons d_int (da_cons (d_var 5) (da_cons (d_str [97]) (da_cons d_non (da_cons (d_str [108, 101, 116, 116, 101, 114, 115]) (da_cons d_int da_nil))))))) (da_cons (d_tup (da_cons d_int (da_cons (d_var 5) (da_cons (d_var 6) (da_cons d_non (da_cons (d_str [108, 101, 116, 116, 101, 114, 115]) (da_cons d_int da_nil))))))) (da_cons (d_tup (da_cons d_int (da_cons (d_var 3) (da_cons (d_var 6) (da_cons d_non (da_cons (d_str [110, 117, 109, 98, 101, 114]) (da_cons d_int da_nil))))))) (da_cons (d_tup (da_cons d_int (da_cons (d_var 5) (da_cons (d_ix3 hu (d_var 8) d_int) (da_cons (d_ix3 hu (d_var 8) d_int) (da_cons (d_str [108, 101, 116, 116, 101, 114, 115]) (da_cons d_int da_nil))))))) da_nil))))))
    (ds_cons (ds_set 11 sc__law_refused_right.nd (d_add (d_var 11) (d_lst false (da_cons (d_tup (da_cons d_int (da_cons (d_var 3) (da_cons (d_ix3 hu (d_var 8) d_int) (da_cons (d_ix3 hu (d_var 8) d_int) (da_cons (d_str [119, 111, 114, 100]) (da_cons d_int da_nil))))))) (da_cons (d_tup (da_cons d_int (da_cons (d_var 3) (da_cons (d_ix3 hu (d_var 4) d_int) (da_cons (d_ix3 hu (d_var 8) d_int) (da_cons (d_str [119, 111, 114, 100]) (da_cons d_int da_nil))))))) (da_cons (d_tup (da_cons d_int (da_cons (d_var 3) (da_cons (d_ix3 hu (d_var 8) d_int) (da_cons (d_ix3 hu (d_var 4) d_int) (da_cons (d_str [119, 111, 114, 100]) (da_cons d_int da_nil))))))) da_nil))))))
    (ds_cons (ds_set 11 sc__law_refused_right.nd (d_add (d_var 11) (d_lst false (da_cons (d_tup (da_cons d_int (da_cons (d_var 5) (da_cons (d_ix3 hu (d_var 8) d_int) (da_cons d_non (da_cons (d_str [108, 101, 116, 116, 101, 114, 115]) (da_cons d_int da_nil))))))) (da_cons (d_tup (da_cons d_int (da_cons (d_var 3) (da_cons (d_ix3 hu (d_var 8) d_int) (da_cons d_non (da_cons (d_str [119, 111, 114, 100]) (da_cons d_int da_nil))))))) (da_cons (d_tup (da_cons d_int (da_cons (d_var 5) (da_cons (d_ix3 hu (d_var 4) d_int) (da_cons d_non (da_cons (d_str [108, 101, 116, 116, 101, 114, 115]) (da_cons d_int da_nil))))))) da_nil))))))
    (ds_cons (ds_set 11 sc__law_refused_right.nd (d_add (d_var 11) (d_lst false (da_cons (d_tup (da_cons d_int (da_cons (d_var 3) (da_cons (d_ix3 hu (d_var 8) d_int) (da_cons d_non (da_cons (d_str [119, 111, 114, 100]) (da_cons d_int da_nil))))))) (da_cons (d_tup (da_cons d_int (da_cons (d_var 5) (da_cons (d_var 10) (da_cons d_non (da_cons (d_str [108, 101, 116, 116, 101, 114, 115]) (da_cons d_int da_nil))))))) (da_cons (d_tup (da_cons d_int (da_cons (d_var 3) (da_cons (d_var 10) (da_cons d_non (da_cons (d_str [119, 111, 114, 100, 115]) (da_cons d_int da_nil))))))) (da_cons (d_tup (da_cons d_int (da_cons (d_var 3) (da_cons d_int (da_cons d_non (da_cons (d_str [110, 117, 109, 98, 101, 114]) (da_cons d_int da_nil))))))) da_nil)))))))
    (ds_cons (ds_for hp rfl (di_any (d_add (d_sl false (d_var 11) (do_some (d_var 2)) do_none) (d_lst false (da_cons (d_tup (da_cons d_int (da_cons (d_var 3) (da_cons (d_mul (d_lst false (da_cons (d_str [97]) da_nil)) d_int) (da_cons d_non (da_cons (d_str [119, 111, 114, 100, 115]) (da_cons d_int da_nil))))))) da_nil)))) (dg_tup rfl (dgs_cons (dg_name 12 sc__law_refused_right.nd) (dgs_cons (dg_name 13 sc__law_refused_right.nd) (dgs_cons (dg_name 14 sc__law_refused_right.nd) (dgs_cons (dg_name 15 sc__law_refused_right.nd) (dgs_cons (dg_name 16 sc__law_refused_right.nd) (dgs_cons (dg_name 17 sc__law_refused_right.nd) dgs_nil)))))))
    (ds_cons (ds_set 18 sc__law_refused_right.nd (d_lst false (da_cons (d_call (ok__law_copy h) hr (by decide) tk (da_cons (d_var 13) da_nil)) (da_cons (d_call (ok__law_copy h) hr (by decide) tk (da_cons (d_var 14) da_nil)) (da_cons (d_call (ok__law_copy h) hr (by decide) tk (da_cons (d_var 15) da_nil)) da_nil)))))
    (ds_cons (ds_set 19 sc__law_refused_right.nd (d_call (ok__law_asked h) hr (by decide) tk (da_cons (d_var 12) (da_cons (d_ix3 hu (d_var 18) d_int) (da_cons (d_ix3 hu (d_var 18) d_int) (da_cons (d_ix3 hu (d_var 18) d_int) (da_cons (d_var 1) da_nil)))))))
    (ds_one (ds_if (dt_w (dw_or (dt_ne hu (d_ix3 hu (d_var 19) d_int) (d_var 16)) (dw_or1 (dt_not (dt_val (d_call (ok__law_blamed h) hr (by decide) tk (da_cons (d_ix3 hu (d_var 19) d_int) (da_cons (d_ix3 hu (d_var 18) (d_var 17)) da_nil))))))))
    (ds_one (ds_ret d_bl))
    ds_nil)))))
    (ds_one (ds_ret d_bl)))))))))))
    exact D
  case hc => decide +kernel
theorem ok__law_refused_right {P : Program} {w : World} {K : PySem.W.Frag} {mg : Str → Option Value} {base : Heap} (h : Hd fa fn K mg) : OkAt P w K mg base "_law_refused_right" 13 562950037307402 1 (sp__law_refused_right) := (fa__law_refused_right h).ok (fun _ _ _ _ _ _ us hl => match us, hl with | [_], _ => rfl)
def N_law : List Str := ["script", "k", "box"]
theorem sc_law : FnScope N_law ["script"] (defScope (HD.top 54)) := ⟨rfl, rfl, rfl, by decide +kernel, rfl, by decide +kernel, by decide +kernel⟩
def w_law : WS :=
  (wSeq (wFor (wRng1 (wCons (wB gMax2 (wCons (wC (.int 2)) (wCons (wB gMin2 (wCons (wB gLen3 (wCons (wVar 0) wNil)) (wCons (wC (.int 5)) wNil))) wNil))) wNil)) (gdName 1)
  (wSeq (wSet 2 (wCall 1 (sp__law_box) (wCons (wCall 2 (sp__law_cell) (wCons (wVar 0) (wCons (wVar 1) wNil))) wNil)))
  (wIf (wOrT (wNotT (wTest (wCall 1 (sp__law_words_right) (wCons (wVar 2) wNil)))) (wOrT (wNotT (wTest (wCall 1 (sp__law_turned_right) (wCons (wVar 2) wNil)))) (wNotT (wTest (wCall 1 (sp__law_refused_right) (wCons (wVar 2) wNil))))))
  (wRet (wC (.bl false)))
  wNext)))
  (wRet (wC (.bl true))))
theorem sat_law : Sat' 1 N_law.length w_law (spLaw 63) := by
  rintro ds S P E - hS hd ⟨ns, rfl, hl, rfl, p⟩
  have hz := sizeLine_eq
  simp only [w_law, N_law, wRet, wRetN, wSeq, wSet, wIf, wPar, wPar3, wExpr, wAsg, wNext, wBreak, wCont, gdTup, gdCons, gdNil, gdName, wIte, wAnd, wOr, DD.wNot, wTest, wNotT, wAndT, wOrT, wBin, wUn, wB, wCons, wNil, wVar, wC, wTup, wLst, mkL, wYes, wCall, wChain, startD, List.map_cons, List.map_nil, List.length_cons, List.length_nil, List.replicate, List.cons_append, List.nil_append, List.append_nil, List.getElem?_cons_zero, List.getElem?_cons_succ, List.set_cons_zero, List.set_cons_succ, Option.some.injEq, exists_eq_left', exists_eq_left, true_and, and_true, if_true, if_false, Bool.false_eq_true, gI, D.int.injEq, D.bl.injEq, D.str.injEq, wLc, wSrc, srcD, wSl, wSmO, wNoO, gSl, bodyC, wipeD, beq_self_eq_true, Bool.not_true, exists_and_left, List.cons.injEq, gLen3, D.ty.injEq, D.ref.injEq, D.tup.injEq, D.lst.injEq, and_assoc, tm_bool, tm_int, tm_str, tm_tuple, tm_list, tm_dict, gIsi, wIsi2, wRaise, gLe, gGt, gGe, DD.gSub, Prod.mk.injEq, gAdd_int, gMul_int, gInt_int, gInt_bl, wPut, lenD3_lst, lenD3_tup, lenD3_str, lenD3_dct, gIn3_str, gIn3_lst, gIn3_tup, gInS, gIn, wFor, wRng1, sp__law_cell, sp__law_box, sp__law_words_right, sp__law_turned_right, sp__law_refused_right]
  have hj : ∃ j : Int, (if (if (5 : Int) < ((ns.map D.int).length : Int) then 5 else ((ns.map D.int).length : Int)) > (2 : Int) then (if (5 : Int) < ((ns.map D.int).length : Int) then 5 else ((ns.map D.int).length : Int)) else 2) = j ∧ 0 ≤ j ∧ j ≤ 5 := ⟨_, rfl, by split <;> split <;> omega, by split <;> split <;> omega⟩
  obtain ⟨j, ej, j0, j5⟩ := hj
  refine ⟨_, _, rfl, _, _, rfl, j, ?_, by omega, by omega, ?_⟩
  · exact congrArg D.int ej
  refine loopF_inv (fun ys ρ S1 => (∀ y ∈ ys, ∃ k : Int, y = .int k ∧ 0 ≤ k ∧ k ≤ 5) ∧ ∃ x1 x2 : Option D, ρ = [some (.lst (ns.map D.int)), x1, x2]) ?_ ?_ _ _ _ ⟨?_, _, _, rfl⟩
  · rintro y ys ρ S1 K ⟨hall, x1, x2, rfl⟩ hK
    obtain ⟨k, rfl, k0, k5⟩ := hall y List.mem_cons_self
    refine ⟨trivial, ?_⟩
    simp only [bodyF, wRet, wRetN, wSeq, wSet, wIf, wPar, wPar3, wExpr, wAsg, wNext, wBreak, wCont, gdTup, gdCons, gdNil, gdName, wIte, wAnd, wOr, DD.wNot, wTest, wNotT, wAndT, wOrT, wBin, wUn, wB, wCons, wNil, wVar, wC, wTup, wLst, mkL, wYes, wCall, wChain, startD, List.map_cons, List.map_nil, List.length_cons, List.length_nil, List.replicate, List.cons_append, List.nil_append, List.append_nil, List.getElem?_cons_zero, List.getElem?_cons_succ, List.set_cons_zero, List.set_cons_succ, Option.some.injEq, exists_eq_left', exists_eq_left, true_and, and_true, if_true, if_false, Bool.false_eq_true, gI, D.int.injEq, D.bl.injEq, D.str.injEq, wLc, wSrc, srcD, wSl, wSmO, wNoO, gSl, bodyC, wipeD, beq_self_eq_true, Bool.not_true, exists_and_left, List.cons.injEq, gLen3, D.ty.injEq, D.ref.injEq, D.tup.injEq, D.lst.injEq, and_assoc, tm_bool, tm_int, tm_str, tm_tuple, tm_list, tm_dict, gIsi, wIsi2, wRaise, gLe, gGt, gGe, DD.gSub, Prod.mk.injEq, gAdd_int, gMul_int, gInt_int, gInt_bl, wPut, lenD3_lst, lenD3_tup, lenD3_str, lenD3_dct, gIn3_str, gIn3_lst, gIn3_tup, gInS, gIn, sp__law_cell, sp__law_box, sp__law_words_right, sp__law_turned_right, sp__law_refused_right]
    refine ⟨ns, rfl, k0, by omega, by omega, fun i T n hn hb => ?_⟩
    exact ⟨n, rfl, hb, n, rfl, hb, n, rfl, hb, hK _ _ ⟨fun y hy => hall y (List.mem_cons_of_mem _ hy), _, _, rfl⟩⟩
  · rintro ρ S1 ⟨_, x1, x2, rfl⟩
    exact ⟨trivial, .inr (p _)⟩
  · intro y hy
    obtain ⟨k, hk, rfl⟩ := List.mem_map.mp hy
    have := List.mem_range.mp hk
    exact ⟨_, rfl, by omega, by omega⟩
theorem fa_law {P : Program} {w : World} {K : PySem.W.Frag} {mg : Str → Option Value} {base : Heap} (h : Hd fa fn K mg) : FnAt P w K mg base "law" (defArgs (HD.top 54)) (defBody (HD.top 54)) (defScope (HD.top 54)) ["script"] 14 79228200293200141200664821760 1 (spLaw 63) := by
  obtain ⟨fd, F⟩ := h.def_ 41
  have F : FunD K "law" "law" (defArgs (HD.top 54)) (defBody (HD.top 54)) (defScope (HD.top 54)) [] [] (ga K "law") fd := F
  refine' fn_at (c := ((((0 + (((0 + 0) + (0 + 0)) + 0)) + 0) + (2 ^ 24 * (((((0 + (0 + 0)) + 0) + 0) + 0) + ((((0 + 0) + 4722367890244646207490) + (((0 + 0) + 281475010265093) + ((0 + 0) + 562950037307402))) + (0 + 0))))) + 0)) F (h.glo 61) sc_law rfl ?hc (b := w_law) (fun cdv A outer s H E hr => ?hb) (sat_law)
  case hb =>
    have hu : (cxOf (L2.CX P w) P w K mg base N_law "law" (defScope (HD.top 54)) (ga K "law") cdv A outer s H E).A.units + 100 < cLine := by
      show (A.deeper (envOfC "law" (defScope (HD.top 54)) s.heap.objs.size (ga K "law") cdv)).units + 100 < cLine
      have := hr.un
      omega
    have tk := takes_of (X := cxOf (L2.CX P w) P w K mg base N_law "law" (defScope (HD.top 54)) (ga K "law") cdv A outer s H E) rfl rfl rfl rfl
    have hp := passes_of (X := cxOf (L2.CX P w) P w K mg base N_law "law" (defScope (HD.top 54)) (ga K "law") cdv A outer s H E) rfl
    have D : DSs (cxOf (L2.CX P w) P w K mg base N_law "law" (defScope (HD.top 54)) (ga K "law") cdv A outer s H E) (fun cls d _ H' => E cls d H') (defBody (HD.top 54)) _ _ := (ds_cons (ds_for hp rfl (di_range1 (h.free 11) (da_cons (d_callB (call_max2 rfl) cd_max2 (h.free 9) (da_cons d_int (da_cons (d_callB (call_min2 rfl) cd_min2 (h.free 10) (da_cons (d_len3 (h.free 7) (da_cons (d_var 0) da_nil)) (da_cons d_int da_nil))) da_nil))) da_nil)) (dg_name 1 sc_law.nd)
    (ds_cons (ds_set 2 sc_law.nd (d_call (ok__law_box h) hr (by decide) tk (da_cons (d_call (ok__law_cell h) hr (by decide) tk (da_cons (d_var 0) (da_cons (d_var 1) da_nil))) da_nil)))
    (ds_one (ds_if (dt_w (dw_or (dt_not (dt_val (d_call (ok__law_words_right h) hr (by decide) tk (da_cons (d_var 2) da_nil)))) (dw_or (dt_not (dt_val (d_call (ok__law_turned_right h) hr (by decide) tk (da_cons (d_var 2) da_nil)))) (dw_or1 (dt_not (dt_val (d_call (ok__law_refused_right h) hr (by decide) tk (da_cons (d_var 2) da_nil))))))))
    (ds_one (ds_ret d_bl))
    ds_nil))))
    (ds_one (ds_ret d_bl)))
    exact D
  case hc => decide +kernel
theorem ok_law {P : Program} {w : World} {K : PySem.W.Frag} {mg : Str → Option Value} {base : Heap} (h : Hd fa fn K mg) : OkAt P w K mg base "law" 14 79228200293200141200664821760 1 (spLaw 63) := (fa_law h).ok (fun _ _ _ _ _ _ us hl => match us, hl with | [_], _ => rfl)
end LK
end
set_option Elab.async false
set_option linter.all false
set_option maxRecDepth 100000
set_option maxHeartbeats 0
namespace LK
open PySem PySem.Spec PyProof.Rows L2 DD He HD
theorem facts {P : Program} {w : World} {K : PySem.W.Frag} {h : Heap} {mg : Str → Option Value} {f : Addr} (X : K.In h) (G : h.Ns mainGlobals mg) (hfa : mg ("law" : Str) = some (.ref f)) (c : DH.SaysP fa fn K) :
    ∃ fd : FuncData, (∀ (s : Shared) (v : Value), BindsTo s fd ⟨[v], []⟩ [("script", v)]) ∧ ∀ base : Heap, K.In base → base.Ns mainGlobals mg → FnOk P w K mg base CX0 14 f fd ["script"] (spOf K mg 79228200293200141200664821760 1 (spLaw 63)) := by
  have hh : Hd fa fn K mg := ⟨c, h, X, G⟩
  obtain ⟨fd, F⟩ := hh.def_ 41
  have F : FunD K "law" "law" (defArgs (HD.top 54)) (defBody (HD.top 54)) (defScope (HD.top 54)) [] [] (ga K "law") fd := F
  have e := hfa.symm.trans (hh.glo 61)
  cases e
  have b := FunD.bindsA (ps := ["script"]) F fun _ _ _ _ _ _ us hl => match us, hl with | [_], _ => rfl
  refine ⟨fd, fun s v => b s [v] rfl, fun base _ _ => ?_⟩
  obtain ⟨f2, fd2, F2, hm2, hn2, G2⟩ := (fa_law (P := P) (w := w) (base := base) hh).ex
  have e2 := hfa.symm.trans hm2
  cases e2
  have e3 : fd2 = fd := by
    obtain ⟨_, _, _, _, _, _, _, _, _, _, _, h1, _⟩ := F.ex
    obtain ⟨_, _, _, _, _, _, _, _, _, _, _, h2, _⟩ := F2.ex
    have h3 := h2.symm.trans h1
    simp only [Option.some.injEq, Obj.mk.injEq, Data.func.injEq] at h3
    exact h3.2.2.1
  subst e3
  exact fn_cx0 G2 spLaw_E
end LK
open PySem PySem.W PySem.Calls PyProof.Rows
theorem PySem.Challenge.cw_onetable_k02_words_holds : PySem.Challenge.rw_onetable_k02_words.Holds := by
  w_on; o_law
  refine HandSHeadRun.head_any (r := OpenLaw.row PySem.Challenge.rw_onetable_k02_words) (q := view (OpenLaw.row PySem.Challenge.rw_onetable_k02_words).prog [54]) (H := HD.hk) (ob := HD.ob) (M := 6000) (loose := HD.names) (d := HandSHeadRun.topDef (OpenLaw.row PySem.Challenge.rw_onetable_k02_words).prog 54) (kwd := []) HD.ob_eq
    (by kernel_rfl) (fun s => by kernel_rfl) HD.run (by kernel_rfl) (by kernel_rfl) (by kernel_rfl) (by rfl) (by first | assumption | decide +kernel) (by decide +kernel) ⟨rfl, rfl, rfl, rfl, rfl, by decide +kernel⟩ ?hw ?hc
  case hw => w_witness2
  case hc =>
    refine L2.walk_ofE (l := PySem.Challenge.rw_onetable_k02_words) (n := 63) (k := 14) (x := "script") (CX := L2.CX0) rfl (by decide) (by kernel_rfl) ⟨rfl, by decide, by decide⟩ ?F (fun _ _ _ _ z => z)
    intro w mg fa h Y G hmg0
    obtain ⟨K, KX, c⟩ := Y
    have hmg : mg ("law" : PySem.Str) = some (.ref fa) := by
      have e : (HandSHeadRun.topDef (OpenLaw.row PySem.Challenge.rw_onetable_k02_words).prog 54).name = ("law" : PySem.Str) := by kernel_rfl
      rw [← e]
      exact hmg0
    obtain ⟨fd, hb, hF⟩ := LK.facts (P := (PySem.Challenge.rw_onetable_k02_words).prog) (w := w) KX G hmg c
    exact ⟨K, fd, DD.spOf K mg 79228200293200141200664821760 1 (DD.spLaw 63), KX, hb, fun H a ns hl _ hS => DD.law_in (Nat.le_trans (show 79228200293200141200664821760 ≤ 2 ^ 250 by decide +kernel) (Nat.pow_le_pow_right (by decide) (by decide))) hl hS, hF⟩
