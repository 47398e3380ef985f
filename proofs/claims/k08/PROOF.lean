import PyProof.Rows.All
import Wide.All
import OpenK.AllK
import Wide.FinOn
import HandS.ForMost
import HandS.Exc
import HandS.TryMany
import HandS.ExcOwn
import HandS.Lambda
import HandS.Wide
import HandS.WideBits
import HandS.TupAny
import HandS.TupMul
import HandS.TupLe
import HandS.Deep
import HandS.Style
import KE.LtData
import HandS.TupLen
import HandS.IsInst
import HandS.Conv
import KE.SortData
import PyProof.ReprRoads
import HandS.DictComp
import HandS.Zip
import KE.GoesNew
import KE.GoesNewDict
import HandS.Star
import KE.KSortAsk
import HandS.Ends
import HandS.EndBits
import HandS.WideMore
import HandS.Small
import HandS.Iter
import KE.GoesDict
import HandS.More
import KE.KDictPairs
import HandS.SetFor
import HandS.TupSets
import KE.KDictSum
import KE.KDictCopyH
import KE.DataMinMax
import KE.KIndexOf
import HandS.ExcField
import HandS.RaiseMore
import KE.KExcSuper
import HandS.HotCalls
import HandS.EndTab
import PySem.Challenge.RW_gatesums_k08_errors_of_nets
import KE.KExcLine
set_option Elab.async false
set_option linter.all false
set_option maxRecDepth 100000
set_option maxHeartbeats 2000000
/-! T layer 1: values as trees, a store of mutable cells, the monad, the relation to the abstract heap, what is wanted behind a run. -/
namespace TL
open PySem PySem.Spec PyProof.Rows L2

/-- the tables of code objects that the walk keeps an eye on -/
class Tb where
  T : List (Addr × Str)
instance noTb : Tb := ⟨[]⟩
variable [Tb]

inductive T where
  | non
  | bl (b : Bool)
  | int (i : Int)
  | str (x : Str)
  | lst (xs : List T)
  | fls (xs : List T)
  | tup (xs : List T)
  | ftp (xs : List T)
  | dic (tk : Bool) (kvs : List (T × T))
  | cell (k : Nat)
  | ref (a : Addr)
  | ty (n : String)
  | exn (a dd : Addr) (fs : List (Str × T))
  deriving Inhabited

abbrev Env := List (Option T)
inductive Ob where
  | lst (xs : List T)
  | dic (tk : Bool) (kvs : List (T × T))
structure Cel where
  live : Bool
  o : Ob
abbrev Store := List Cel
structure Exn where
  cls : Str
  fs : List (Str × T)
inductive R (α : Type) where
  | ok (a : α) (μ : Store)
  | err (e : Exn) (μ : Store)
  | no
abbrev M (α : Type) := Store → R α
def M.pure {α : Type} (a : α) : M α := fun μ => .ok a μ
def M.bind {α β : Type} (m : M α) (k : α → M β) : M β := fun μ => match m μ with
  | .ok a μ' => k a μ'
  | .err e μ' => .err e μ'
  | .no => .no
def M.no {α : Type} : M α := fun _ => .no
instance : Monad M where
  pure := M.pure
  bind := M.bind
theorem bind_def {α β : Type} (m : M α) (k : α → M β) : (m >>= k) = M.bind m k := rfl
theorem pure_def {α : Type} (a : α) : (pure a : M α) = M.pure a := rfl

/-! ### trees and the abstract heap -/
/-- a tuple that has no dict of its own: locked, or an object of the module -/
def SqTd (K : PySem.W.Frag) (H : Hp) (a : Addr) (xs : List V) : Prop :=
  (∃ o, H a = some (.frz o (.tup xs)) ∧ o.dict = none) ∨
    ∃ (o : Obj) (its : Array Value) (n : Nat), K.lookup a = some o ∧ o.cls = .type "tuple" ∧ o.dict = none ∧ o.data = .seq its n ∧ its.size ≤ sizeLine ∧ Vals xs its.toList
theorem SqTd.t {K : PySem.W.Frag} {H : Hp} {a : Addr} {xs : List V} (h : SqTd K H a xs) : SqT K H a xs := by
  rcases h with ⟨o, e, _⟩ | ⟨o, its, n, e, c, d, r⟩
  · exact .inl (.inr ⟨o, e⟩)
  · exact .inr ⟨o, its, n, e, c, r⟩
def keyT : Key → T
  | .inl i => .int i
  | .inr x => .str x
mutual
inductive Rp (K : PySem.W.Frag) (F : Hp) (ι : List Addr) : V → T → Prop
  | non : Rp K F ι .non .non
  | bl (b : Bool) : Rp K F ι (.bl b) (.bl b)
  | int (i : Int) : Rp K F ι (.int i) (.int i)
  | str (x : Str) : Rp K F ι (.str x) (.str x)
  | lst {a : Addr} {xs : List V} {ds : List T} : F a = some (.lst xs) → Rps K F ι xs ds → Rp K F ι (.ref a) (.lst ds)
  | fls {a : Addr} {xs : List V} {ds : List T} : SqL K F a xs → Rps K F ι xs ds → Rp K F ι (.ref a) (.fls ds)
  | tup {a : Addr} {xs : List V} {ds : List T} : F a = some (.tup xs) → Rps K F ι xs ds → Rp K F ι (.ref a) (.tup ds)
  | ftp {a : Addr} {xs : List V} {ds : List T} : SqTd K F a xs → Rps K F ι xs ds → Rp K F ι (.ref a) (.ftp ds)
  | dic {a : Addr} {o : Obj} {kvs : List (Key × V)} {ps : List (T × T)} : F a = some (.frz o (.dK kvs)) → Rpk K F ι kvs ps → Rp K F ι (.ref a) (.dic false ps)
  | dit {a : Addr} {o : Obj} {kvs : List (List Key × V)} {ps : List (T × T)} : F a = some (.frz o (.dT kvs)) → Rpt K F ι kvs ps → Rp K F ι (.ref a) (.dic true ps)
  | cell {k : Nat} {a : Addr} : ι[k]? = some a → Rp K F ι (.ref a) (.cell k)
  | ref (a : Addr) : Rp K F ι (.ref a) (.ref a)
  | ty (n : String) : Rp K F ι (.ty n) (.ty n)
  | exn {a dd : Addr} {vs : List (Str × V)} {fs : List (Str × T)} : F dd = some (.xd vs) → Rpx K F ι vs fs → Rp K F ι (.ref a) (.exn a dd fs)
inductive Rps (K : PySem.W.Frag) (F : Hp) (ι : List Addr) : List V → List T → Prop
  | nil : Rps K F ι [] []
  | cons {v : V} {vs : List V} {d : T} {ds : List T} : Rp K F ι v d → Rps K F ι vs ds → Rps K F ι (v :: vs) (d :: ds)
inductive Rpk (K : PySem.W.Frag) (F : Hp) (ι : List Addr) : List (Key × V) → List (T × T) → Prop
  | nil : Rpk K F ι [] []
  | cons {k : Key} {v : V} {vs : List (Key × V)} {d : T} {ds : List (T × T)} : Rp K F ι v d → Rpk K F ι vs ds → Rpk K F ι ((k, v) :: vs) ((keyT k, d) :: ds)
inductive Rpt (K : PySem.W.Frag) (F : Hp) (ι : List Addr) : List (List Key × V) → List (T × T) → Prop
  | nil : Rpt K F ι [] []
  | cons {k : List Key} {v : V} {vs : List (List Key × V)} {d : T} {ds : List (T × T)} : Rp K F ι v d → Rpt K F ι vs ds → Rpt K F ι ((k, v) :: vs) ((.tup (k.map keyT), d) :: ds)
inductive Rpx (K : PySem.W.Frag) (F : Hp) (ι : List Addr) : List (Str × V) → List (Str × T) → Prop
  | nil : Rpx K F ι [] []
  | cons {k : Str} {v : V} {vs : List (Str × V)} {d : T} {ds : List (Str × T)} : Rp K F ι v d → Rpx K F ι vs ds → Rpx K F ι ((k, v) :: vs) ((k, d) :: ds)
end

/-- more is known: what could be read can be read -/
def Sub (F F' : Hp) : Prop := (∀ a u, Rd F a u → Rd F' a u) ∧ (∀ a xs, F a = some (.lst xs) → F' a = some (.lst xs)) ∧ (∀ a xs, F a = some (.tup xs) → F' a = some (.tup xs)) ∧ (∀ a o u, F a = some (.frz o u) → F' a = some (.frz o u)) ∧ ∀ a fs, F a = some (.xd fs) → F' a = some (.xd fs)
def Pre (ι ι' : List Addr) : Prop := ∃ r, ι' = ι ++ r
theorem Pre.refl (ι : List Addr) : Pre ι ι := ⟨[], by simp⟩
theorem Pre.trans {a b c : List Addr} : Pre a b → Pre b c → Pre a c
  | ⟨r, e⟩, ⟨q, g⟩ => ⟨r ++ q, by rw [g, e, List.append_assoc]⟩
theorem Pre.get {a b : List Addr} {k : Nat} {x : Addr} : Pre a b → a[k]? = some x → b[k]? = some x
  | ⟨r, e⟩, h => by
    obtain ⟨hk, _⟩ := List.getElem?_eq_some_iff.mp h
    rw [e, List.getElem?_append_left hk]; exact h
theorem Pre.mem {a b : List Addr} {x : Addr} : Pre a b → x ∈ a → x ∈ b
  | ⟨r, e⟩, h => by rw [e]; exact List.mem_append_left _ h
theorem Pre.len {a b : List Addr} : Pre a b → a.length ≤ b.length
  | ⟨r, e⟩ => by rw [e, List.length_append]; omega
def All (F F' : Hp) : Prop := ∀ a o, F a = some o → F' a = some o
theorem All.sub {F F' : Hp} (h : All F F') : Sub F F' := ⟨fun a u r => by
  rcases r with r | ⟨o, r⟩
  · exact .inl (h _ _ r)
  · exact .inr ⟨o, h _ _ r⟩, fun a xs e => h _ _ e, fun a xs e => h _ _ e, fun a o u e => h _ _ e, fun a fs e => h _ _ e⟩
theorem Sub.refl (F : Hp) : Sub F F := ⟨fun _ _ r => r, fun _ _ e => e, fun _ _ e => e, fun _ _ _ e => e, fun _ _ e => e⟩
theorem Sub.seqL {K : PySem.W.Frag} {F F' : Hp} {a : Addr} {xs : List V} (h : Sub F F') (s : SqL K F a xs) : SqL K F' a xs := by
  rcases s with s | s
  · exact .inl (h.1 _ _ s)
  · exact .inr s
theorem Sub.seqT {K : PySem.W.Frag} {F F' : Hp} {a : Addr} {xs : List V} (h : Sub F F') (s : SqT K F a xs) : SqT K F' a xs := by
  rcases s with s | s
  · exact .inl (h.1 _ _ s)
  · exact .inr s
theorem Sub.seqTd {K : PySem.W.Frag} {F F' : Hp} {a : Addr} {xs : List V} (h : Sub F F') (s : SqTd K F a xs) : SqTd K F' a xs := by
  rcases s with ⟨o, e, d⟩ | s
  · exact .inl ⟨o, h.2.2.2.1 _ _ _ e, d⟩
  · exact .inr s
mutual
theorem Rp.mono {K : PySem.W.Frag} {F F' : Hp} {ι ι' : List Addr} (hF : Sub F F') (hi : Pre ι ι') {v : V} {d : T} : Rp K F ι v d → Rp K F' ι' v d
  | .non => .non
  | .bl b => .bl b
  | .int i => .int i
  | .str x => .str x
  | .lst s r => .lst (hF.2.1 _ _ s) (Rps.mono hF hi r)
  | .fls s r => .fls (hF.seqL s) (Rps.mono hF hi r)
  | .tup s r => .tup (hF.2.2.1 _ _ s) (Rps.mono hF hi r)
  | .ftp s r => .ftp (hF.seqTd s) (Rps.mono hF hi r)
  | .dic s r => .dic (hF.2.2.2.1 _ _ _ s) (Rpk.mono hF hi r)
  | .dit s r => .dit (hF.2.2.2.1 _ _ _ s) (Rpt.mono hF hi r)
  | .cell e => .cell (hi.get e)
  | .ref a => .ref a
  | .ty n => .ty n
  | .exn s r => .exn (hF.2.2.2.2 _ _ s) (Rpx.mono hF hi r)
theorem Rps.mono {K : PySem.W.Frag} {F F' : Hp} {ι ι' : List Addr} (hF : Sub F F') (hi : Pre ι ι') {v : List V} {d : List T} : Rps K F ι v d → Rps K F' ι' v d
  | .nil => .nil
  | .cons r t => .cons (Rp.mono hF hi r) (Rps.mono hF hi t)
theorem Rpk.mono {K : PySem.W.Frag} {F F' : Hp} {ι ι' : List Addr} (hF : Sub F F') (hi : Pre ι ι') {v : List (Key × V)} {d : List (T × T)} : Rpk K F ι v d → Rpk K F' ι' v d
  | .nil => .nil
  | .cons r t => .cons (Rp.mono hF hi r) (Rpk.mono hF hi t)
theorem Rpt.mono {K : PySem.W.Frag} {F F' : Hp} {ι ι' : List Addr} (hF : Sub F F') (hi : Pre ι ι') {v : List (List Key × V)} {d : List (T × T)} : Rpt K F ι v d → Rpt K F' ι' v d
  | .nil => .nil
  | .cons r t => .cons (Rp.mono hF hi r) (Rpt.mono hF hi t)
theorem Rpx.mono {K : PySem.W.Frag} {F F' : Hp} {ι ι' : List Addr} (hF : Sub F F') (hi : Pre ι ι') {v : List (Str × V)} {d : List (Str × T)} : Rpx K F ι v d → Rpx K F' ι' v d
  | .nil => .nil
  | .cons r t => .cons (Rp.mono hF hi r) (Rpx.mono hF hi t)
end
section
variable {K : PySem.W.Frag} {F : Hp} {ι : List Addr}
theorem Rps.length {vs : List V} : ∀ {ds : List T}, Rps K F ι vs ds → vs.length = ds.length := by
  induction vs with
  | nil => intro ds h; cases h; rfl
  | cons v vs ih => intro ds h; cases h with | cons r t => simp [ih t]
theorem Rps.get : ∀ {vs : List V} {ds : List T} {i : Nat} {d : T}, Rps K F ι vs ds → ds[i]? = some d → ∃ v, vs[i]? = some v ∧ Rp K F ι v d
  | _, _, i, d, .nil, h => by simp at h
  | _, _, 0, d, .cons r t, h => by simp at h; subst h; exact ⟨_, rfl, r⟩
  | _, _, i + 1, d, .cons r t, h => by
    obtain ⟨v, e, q⟩ := Rps.get (i := i) t (by simpa using h)
    exact ⟨v, by simpa using e, q⟩
theorem Rps.getV : ∀ {vs : List V} {ds : List T} {i : Nat} {v : V}, Rps K F ι vs ds → vs[i]? = some v → ∃ d, ds[i]? = some d ∧ Rp K F ι v d
  | _, _, i, d, .nil, h => by simp at h
  | _, _, 0, d, .cons r t, h => by simp at h; subst h; exact ⟨_, rfl, r⟩
  | _, _, i + 1, d, .cons r t, h => by
    obtain ⟨v, e, q⟩ := Rps.getV (i := i) t (by simpa using h)
    exact ⟨v, by simpa using e, q⟩
theorem Rps.append : ∀ {vs ws : List V} {ds es : List T}, Rps K F ι vs ds → Rps K F ι ws es → Rps K F ι (vs ++ ws) (ds ++ es)
  | _, _, _, _, .nil, s => s
  | _, _, _, _, .cons r t, s => .cons r (Rps.append t s)
theorem Rps.take : ∀ {vs : List V} {ds : List T} (n : Nat), Rps K F ι vs ds → Rps K F ι (vs.take n) (ds.take n)
  | _, _, 0, _ => .nil
  | _, _, _ + 1, .nil => .nil
  | _, _, n + 1, .cons r t => .cons r (Rps.take n t)
theorem Rps.drop : ∀ {vs : List V} {ds : List T} (n : Nat), Rps K F ι vs ds → Rps K F ι (vs.drop n) (ds.drop n)
  | _, _, 0, r => r
  | _, _, _ + 1, .nil => .nil
  | _, _, n + 1, .cons r t => Rps.drop n t
theorem Rps.set {v : V} {d : T} (r : Rp K F ι v d) : ∀ {vs : List V} {ds : List T} (i : Nat), Rps K F ι vs ds → Rps K F ι (vs.set i v) (ds.set i d)
  | _, _, _, .nil => .nil
  | _, _, 0, .cons _ t => .cons r t
  | _, _, i + 1, .cons q t => .cons q (Rps.set r i t)
theorem Rps.of_get : ∀ {vs : List V} {ds : List T}, vs.length = ds.length → (∀ (i : Nat) v d, vs[i]? = some v → ds[i]? = some d → Rp K F ι v d) → Rps K F ι vs ds
  | [], [], _, _ => .nil
  | v :: vs, d :: ds, h, f => .cons (f 0 v d rfl rfl) (Rps.of_get (by simpa using h) fun i v d a b => f (i + 1) v d (by simpa using a) (by simpa using b))
  | [], _ :: _, h, _ => by simp at h
  | _ :: _, [], h, _ => by simp at h
end

/-! ### the store -/
inductive RpO (K : PySem.W.Frag) (F : Hp) (ι : List Addr) : HO → Ob → Prop
  | lst {xs : List V} {ds : List T} : Rps K F ι xs ds → RpO K F ι (.lst xs) (.lst ds)
  | dic {kvs : List (Key × V)} {ps : List (T × T)} : Rpk K F ι kvs ps → RpO K F ι (.dK kvs) (.dic false ps)
  | dit {kvs : List (List Key × V)} {ps : List (T × T)} : Rpt K F ι kvs ps → RpO K F ι (.dT kvs) (.dic true ps)
  | fdic {ob : Obj} {kvs : List (Key × V)} {ps : List (T × T)} : Rpk K F ι kvs ps → RpO K F ι (.frz ob (.dK kvs)) (.dic false ps)
  | fdit {ob : Obj} {kvs : List (List Key × V)} {ps : List (T × T)} : Rpt K F ι kvs ps → RpO K F ι (.frz ob (.dT kvs)) (.dic true ps)
theorem RpO.mono {K : PySem.W.Frag} {F F' : Hp} {ι ι' : List Addr} (hF : Sub F F') (hi : Pre ι ι') {u : HO} {o : Ob} : RpO K F ι u o → RpO K F' ι' u o
  | .lst r => .lst (r.mono hF hi)
  | .dic r => .dic (r.mono hF hi)
  | .dit r => .dit (r.mono hF hi)
  | .fdic r => .fdic (r.mono hF hi)
  | .fdit r => .fdit (r.mono hF hi)
def CelOk (K : PySem.W.Frag) (F : Hp) (ι : List Addr) (H : Hp) (a : Addr) (c : Cel) : Prop :=
  ∃ u, H a = some u ∧ RpO K F ι u c.o ∧ (c.live = true → F a = none) ∧ (c.live = false → F a = some u) ∧ (c.live = true → ∀ ob w, u ≠ .frz ob w) ∧ (c.live = false → (∀ k, u ≠ .dK k) ∧ ∀ k, u ≠ .dT k)
structure Rel (K : PySem.W.Frag) (F : Hp) (ι : List Addr) (μ : Store) (H : Hp) : Prop where
  sub : All F H
  nd : ι.Nodup
  len : ι.length = μ.length
  cel : ∀ (k : Nat) (a : Addr) (c : Cel), ι[k]? = some a → μ[k]? = some c → CelOk K F ι H a c
  tab : LamX.Tabs Tb.T H
  nt : ∀ a ps, F a ≠ some (.tbl ps)
/-- a table of code objects stands there -/
def IsTb (H : Hp) (a : Addr) : Prop := ∃ ps, H a = some (.tbl ps)
/-- what became of it: what was known is known, cells are added at the end, what is neither stands as it stood (tables may grow) -/
structure Ext (F : Hp) (ι : List Addr) (H F' : Hp) (ι' : List Addr) (H' : Hp) : Prop where
  f : All F F'
  i : Pre ι ι'
  h : ∀ a o, H a = some o → a ∉ ι → (∀ ps, o ≠ .tbl ps) → H' a = some o
  new : ∀ a, a ∈ ι' → a ∈ ι ∨ H a = none ∨ IsTb H a
  fnew : ∀ a o, F' a = some o → F a = some o ∨ a ∈ ι ∨ (H a = none ∨ (∃ xs, o = .tup xs ∧ H a = some (.tup xs)) ∨ IsTb H a)
theorem Ext.refl (F : Hp) (ι : List Addr) (H : Hp) : Ext F ι H F ι H := ⟨fun _ _ h => h, .refl _, fun _ _ h _ _ => h, fun _ h => .inl h, fun _ _ h => .inl h⟩
/-- what stood there before -/
theorem Ext.back {F F' : Hp} {ι ι' : List Addr} {H H' : Hp} (x : Ext F ι H F' ι' H') {a : Addr} (n : a ∉ ι) : H a = none ∨ IsTb H a ∨ ∃ o, H a = some o ∧ H' a = some o ∧ ∀ ps, o ≠ .tbl ps := by
  cases q : H a with
  | none => exact .inl rfl
  | some o =>
    by_cases z : ∃ ps, o = .tbl ps
    · obtain ⟨ps, rfl⟩ := z
      exact .inr (.inl ⟨ps, q⟩)
    · exact .inr (.inr ⟨o, rfl, x.h a o q n fun ps w => z ⟨ps, w⟩, fun ps w => z ⟨ps, w⟩⟩)
theorem Ext.trans {F F1 F2 : Hp} {ι ι1 ι2 : List Addr} {H H1 H2 : Hp} (a : Ext F ι H F1 ι1 H1) (b : Ext F1 ι1 H1 F2 ι2 H2) : Ext F ι H F2 ι2 H2 where
  f := fun x o h => b.f _ _ (a.f _ _ h)
  i := a.i.trans b.i
  h := fun x o e n t => b.h x o (a.h x o e n t) (fun m => by
    rcases a.new x m with z | z | ⟨ps, z⟩
    · exact n z
    · rw [z] at e; cases e
    · rw [z] at e; exact t ps (Option.some.inj e).symm) t
  new := fun x m => by
    rcases b.new x m with m1 | z
    · exact a.new x m1
    · by_cases m0 : x ∈ ι
      · exact .inl m0
      · rcases a.back m0 with q | q | ⟨o, q1, q2, q3⟩
        · exact .inr (.inl q)
        · exact .inr (.inr q)
        · rcases z with z | ⟨ps, z⟩
          · rw [q2] at z; cases z
          · rw [q2] at z; exact (q3 ps (Option.some.inj z)).elim
  fnew := fun x o e => by
    rcases b.fnew x o e with e1 | m1 | z | ⟨xs, rfl, z⟩ | ⟨ps, z⟩
    · exact a.fnew x o e1
    · rcases a.new x m1 with m0 | z0 | z0
      · exact .inr (.inl m0)
      · exact .inr (.inr (.inl z0))
      · exact .inr (.inr (.inr (.inr z0)))
    all_goals
      by_cases m0 : x ∈ ι
      · exact .inr (.inl m0)
      rcases a.back m0 with q | q | ⟨o, q1, q2, q3⟩
      · exact .inr (.inr (.inl q))
      · exact .inr (.inr (.inr (.inr q)))
    · rw [q2] at z; cases z
    · rw [q2] at z; cases z
      exact .inr (.inr (.inr (.inl ⟨xs, rfl, q1⟩)))
    · rw [q2] at z; exact (q3 ps (Option.some.inj z)).elim
/-- one place that is no table and no code object is written -/
theorem tab_put {H H' : Hp} {a : Addr} (n1 : ∀ ps, H a ≠ some (.tbl ps)) (n2 : ∀ φ, H a ≠ some (.ext φ)) (ho : ∀ b, b ≠ a → H' b = H b) {P : Addr} {q : Str} (t : LamX.TabS H P q) : LamX.TabS H' P q := by
  obtain ⟨ps, h1, h2, h3⟩ := t
  refine ⟨ps, by rw [ho P fun z => n1 ps (by rw [← z]; exact h1)]; exact h1, h2, fun pos cv hc => ?_⟩
  obtain ⟨c, e1, e2⟩ := h3 pos cv hc
  exact ⟨c, e1, by rw [ho c fun z => n2 _ (by rw [← z]; exact e2)]; exact e2⟩
theorem RpO.plain {K : PySem.W.Frag} {F : Hp} {ι : List Addr} {u : HO} {o : Ob} (r : RpO K F ι u o) : (∀ ps, u ≠ .tbl ps) ∧ ∀ φ, u ≠ .ext φ := by
  cases r <;> exact ⟨fun _ z => (by cases z), fun _ z => (by cases z)⟩
theorem Rel.plain {K : PySem.W.Frag} {F : Hp} {ι : List Addr} {μ : Store} {H : Hp} {k : Nat} {a : Addr} {c : Cel} (r : Rel K F ι μ H) (h1 : ι[k]? = some a) (h2 : μ[k]? = some c) : (∀ ps, H a ≠ some (.tbl ps)) ∧ ∀ φ, H a ≠ some (.ext φ) := by
  obtain ⟨u, e, q, _⟩ := r.cel k a c h1 h2
  exact ⟨fun ps z => q.plain.1 ps (by rw [e] at z; exact Option.some.inj z), fun φ z => q.plain.2 φ (by rw [e] at z; exact Option.some.inj z)⟩
theorem Ext.sub {F F' : Hp} {ι ι' : List Addr} {H H' : Hp} (x : Ext F ι H F' ι' H') : Sub F F' := x.f.sub

/-! ### exceptions -/
def XRp (K : PySem.W.Frag) (mg : Str → Option Value) (F : Hp) (ι : List Addr) (cls : Value) (dx : Option Addr) (H : Hp) (e : Exn) : Prop :=
  mg e.cls = some cls ∧ ((e.fs = [] ∧ dx = none) ∨ ∃ d fs, dx = some d ∧ F d = some (.xd fs) ∧ Rpx K F ι fs e.fs)

/-! ### what is wanted behind a run -/
section
variable (K : PySem.W.Frag) (mg : Str → Option Value) (E : XK)
def Post {α : Type} (r : R α) (F : Hp) (ι : List Addr) (H : Hp) (rp : Hp → List Addr → Store → Hp → α → Prop) : Prop := match r with
  | .ok a μ' => ∀ F' ι' H', Ext F ι H F' ι' H' → Rel K F' ι' μ' H' → rp F' ι' μ' H' a
  | .err e μ' => ∀ F' ι' H' cls dx, Ext F ι H F' ι' H' → Rel K F' ι' μ' H' → XRp K mg F' ι' cls dx H' e → E cls dx H'
  | .no => False
end
section
variable {K : PySem.W.Frag} {mg : Str → Option Value} {E : XK} {α β : Type} {F F1 : Hp} {ι ι1 : List Addr} {H H1 : Hp} {μ : Store}
theorem Post.imp {r : R α} {rp rp' : Hp → List Addr → Store → Hp → α → Prop} (h : Post K mg E r F ι H rp)
    (f : ∀ F' ι' μ' H' a, Ext F ι H F' ι' H' → Rel K F' ι' μ' H' → rp F' ι' μ' H' a → rp' F' ι' μ' H' a) : Post K mg E r F ι H rp' := by
  cases r with
  | ok a μ' => exact fun F' ι' H' x q => f F' ι' μ' H' a x q (h F' ι' H' x q)
  | err e μ' => exact h
  | no => exact h
/-- from a later state -/
theorem Post.later {r : R α} {rp : Hp → List Addr → Store → Hp → α → Prop} (x : Ext F ι H F1 ι1 H1) (h : Post K mg E r F ι H rp) : Post K mg E r F1 ι1 H1 rp := by
  cases r with
  | ok a μ' => exact fun F' ι' H' y q => h F' ι' H' (x.trans y) q
  | err e μ' => exact fun F' ι' H' cls dx y q z => h F' ι' H' cls dx (x.trans y) q z
  | no => exact h
theorem Post.bind {m : M α} {k : α → M β} {rp : Hp → List Addr → Store → Hp → β → Prop} {rp' : Hp → List Addr → Store → Hp → α → Prop} (h : Post K mg E (M.bind m k μ) F ι H rp)
    (hk : ∀ F' ι' μ' H' a, Ext F ι H F' ι' H' → Rel K F' ι' μ' H' → Post K mg E (k a μ') F' ι' H' rp → rp' F' ι' μ' H' a) : Post K mg E (m μ) F ι H rp' := by
  unfold M.bind at h
  cases e : m μ with
  | ok a μ' =>
    rw [e] at h
    exact fun F' ι' H' x q => hk F' ι' μ' H' a x q (h.later x)
  | err x μ' => rw [e] at h; exact h
  | no => rw [e] at h; exact h
theorem Post.pure {a : α} {rp : Hp → List Addr → Store → Hp → α → Prop} (h : Post K mg E (M.pure a μ) F ι H rp) (r : Rel K F ι μ H) : rp F ι μ H a := h F ι H (.refl ..) r
end

/-! ### slots -/
structure ERp (K : PySem.W.Frag) (F : Hp) (ι : List Addr) (σ : L2.St) (ρ : Env) : Prop where
  len : σ.length = ρ.length
  at_ : ∀ (i : Nat) d, ρ[i]? = some (some d) → ∃ v, σ[i]? = some (some v) ∧ Rp K F ι v d
section
variable {K : PySem.W.Frag} {F F' : Hp} {ι ι' : List Addr} {σ : L2.St} {ρ : Env}
theorem ERp.mono (h : ERp K F ι σ ρ) (hF : Sub F F') (hi : Pre ι ι') : ERp K F' ι' σ ρ := ⟨h.len, fun i d e => let ⟨v, a, r⟩ := h.at_ i d e; ⟨v, a, r.mono hF hi⟩⟩
theorem ERp.ext {H H' : Hp} (h : ERp K F ι σ ρ) (x : Ext F ι H F' ι' H') : ERp K F' ι' σ ρ := h.mono x.sub x.i
theorem ERp.set (h : ERp K F ι σ ρ) {v : V} {d : T} (r : Rp K F ι v d) (i : Nat) : ERp K F ι (σ.set i (some v)) (ρ.set i (some d)) := by
  refine ⟨by simp [h.len], fun j e he => ?_⟩
  by_cases hj : j = i
  · subst hj
    by_cases hl : j < ρ.length
    · rw [List.getElem?_set_self hl] at he
      cases he
      exact ⟨v, by rw [List.getElem?_set_self (by rw [h.len]; exact hl)], r⟩
    · rw [List.getElem?_eq_none (by simp; omega)] at he; cases he
  · rw [List.getElem?_set_ne (Ne.symm hj)] at he
    obtain ⟨v', a, q⟩ := h.at_ j e he
    exact ⟨v', by rw [List.getElem?_set_ne (Ne.symm hj)]; exact a, q⟩
def wipeE (ρ : Env) : List Nat → Env
  | [] => ρ
  | i :: r => (wipeE ρ r).set i none
theorem ERp.unset (h : ERp K F ι σ ρ) (i : Nat) : ERp K F ι (σ.set i none) (ρ.set i none) := by
  refine ⟨by simp [h.len], fun j e he => ?_⟩
  by_cases hj : j = i
  · subst hj
    by_cases hl : j < ρ.length
    · rw [List.getElem?_set_self hl] at he; cases he
    · rw [List.getElem?_eq_none (by simp; omega)] at he; cases he
  · rw [List.getElem?_set_ne (Ne.symm hj)] at he
    obtain ⟨v', a, q⟩ := h.at_ j e he
    exact ⟨v', by rw [List.getElem?_set_ne (Ne.symm hj)]; exact a, q⟩
end

end TL

/-! T layer 2: the judgements over trees; names, constants, tests, displays; blocks. -/
namespace TL
open PySem PySem.Spec PyProof.Rows L2
variable [Tb]

inductive Fl where
  | nx (ρ : Env)
  | rt (d : T)
  | bk (ρ : Env)
  | ct (ρ : Env)

section
variable (K : PySem.W.Frag) (mg : Str → Option Value) (E : XK)
abbrev wT (Q : VK) : Hp → List Addr → Store → Hp → T → Prop := fun F ι _ H d => ∀ v, Rp K F ι v d → Q v H
def tE (f : Env → M T) : TE := fun σ H Q => ∃ F ι μ ρ, Rel K F ι μ H ∧ ERp K F ι σ ρ ∧ Post K mg E (f ρ μ) F ι H (wT K Q)
def tT (f : Env → M Bool) : TT := fun σ H Q => ∃ F ι μ ρ, Rel K F ι μ H ∧ ERp K F ι σ ρ ∧ Post K mg E (f ρ μ) F ι H (fun _ _ _ H' b => Q b H')
def tA (f : Env → M (List T)) : TA := fun σ H Q => ∃ F ι μ ρ, Rel K F ι μ H ∧ ERp K F ι σ ρ ∧ Post K mg E (f ρ μ) F ι H (fun F' ι' _ H' ds => ∀ vs, Rps K F' ι' vs ds → Q vs H')
def wF (D : Ends) : Hp → List Addr → Store → Hp → Fl → Prop := fun F ι _ H fl => match fl with
  | .nx ρ => ∀ σ, ERp K F ι σ ρ → D.nx σ H
  | .rt d => ∀ v, Rp K F ι v d → D.rt v H
  | .bk ρ => ∀ σ, ERp K F ι σ ρ → D.bk σ H
  | .ct ρ => ∀ σ, ERp K F ι σ ρ → D.ct σ H
def tS (g : Env → M Fl) : TS := fun D σ H => ∃ F ι μ ρ, Rel K F ι μ H ∧ ERp K F ι σ ρ ∧ Post K mg E (g ρ μ) F ι H (wF K D)
/-- a new list: its items -/
def tL (f : Env → M (List T)) : TE := fun σ H Q => ∃ F ι μ ρ, Rel K F ι μ H ∧ ERp K F ι σ ρ ∧ Post K mg E (f ρ μ) F ι H
  (fun F' ι' _ H' ds => ∀ p xs H'', (∀ a, a ≠ p → H'' a = H' a) → H' p = none → H'' p = some (.lst xs) → Rps K F' ι' xs ds → Q (.ref p) H'')
/-- a target: the slots vs may change -/
def tG (vs : List Nat) (h : T → Env → M Env) : TG := fun v σ H Q => ∃ F ι μ ρ d, Rel K F ι μ H ∧ ERp K F ι σ ρ ∧ Rp K F ι v d ∧ Post K mg E (h d ρ μ) F ι H
  (fun F' ι' _ H' ρ' => ∀ σ', ERp K F' ι' σ' ρ' → wipe σ' vs = wipe σ vs → Q σ' H')
end
section
variable (X : Cx) (E : XK)
abbrev DE (e : Expr) (f : Env → M T) : Prop := PE X e (tE X.K X.mg E f)
abbrev DT (e : Expr) (f : Env → M Bool) : Prop := PT X e (tT X.K X.mg E f)
abbrev DW (e : Expr) (f : Env → M Bool) : Prop := PW X e (tT X.K X.mg E f)
abbrev DA (es : List Expr) (f : Env → M (List T)) : Prop := PA X es (tA X.K X.mg E f)
abbrev DS (st : Stmt) (g : Env → M Fl) : Prop := PS X st (tS X.K X.mg E g)
abbrev DB (st : List Stmt) (g : Env → M Fl) : Prop := PSs X st (tS X.K X.mg E g)
abbrev DL (e : Expr) (f : Env → M (List T)) : Prop := PE X e (tL X.K X.mg E f)
abbrev DG (target : Expr) (vs : List Nat) (h : T → Env → M Env) : Prop := PG X target (tG X.K X.mg E vs h)
end
theorem pe_imp {X : Cx} {e : Expr} {t u : TE} (h : PE X e t) (f : ∀ σ H Q, u σ H Q → t σ H Q) : PE X e u := ⟨fun pins s σ H Q I q => h.run pins s σ H Q I (f σ H Q q)⟩
theorem pt_imp {X : Cx} {e : Expr} {t u : TT} (h : PT X e t) (f : ∀ σ H Q, u σ H Q → t σ H Q) : PT X e u := ⟨fun pins s σ H Q I q => h.run pins s σ H Q I (f σ H Q q)⟩
theorem pw_imp {X : Cx} {e : Expr} {t u : TT} (h : PW X e t) (f : ∀ σ H Q, u σ H Q → t σ H Q) : PW X e u := ⟨fun wh pins s σ H Q I q => h.run wh pins s σ H Q I (f σ H Q q)⟩
theorem pa_imp {X : Cx} {e : List Expr} {t u : TA} (h : PA X e t) (f : ∀ σ H Q, u σ H Q → t σ H Q) : PA X e u := ⟨fun p pins s σ H Q I q => h.run p pins s σ H Q I (f σ H Q q)⟩
theorem ps_imp {X : Cx} {e : Stmt} {t u : TS} (h : PS X e t) (f : ∀ D σ H, u D σ H → t D σ H) : PS X e u := ⟨fun pins s σ H D I q => h.run pins s σ H D I (f D σ H q)⟩
theorem pss_imp {X : Cx} {e : List Stmt} {t u : TS} (h : PSs X e t) (f : ∀ D σ H, u D σ H → t D σ H) : PSs X e u := ⟨fun pins s σ H D I q => h.run pins s σ H D I (f D σ H q)⟩
theorem pg_imp {X : Cx} {e : Expr} {t u : TG} (h : PG X e t) (f : ∀ v σ H Q, u v σ H Q → t v σ H Q) : PG X e u := ⟨fun pins s σ H v w Q I r q => h.run pins s σ H v w Q I r (f v σ H Q q)⟩

/-! ### names, constants -/
def eVar (i : Nat) : Env → M T := fun ρ => match ρ[i]? with
  | some (some d) => M.pure d
  | _ => M.no
def eC (d : T) : Env → M T := fun _ => M.pure d
section
variable {X : Cx} {E : XK} {pos : Pos}
theorem d_var (i : Nat) {x : Str} (hN : X.N[i]? = some x := by rfl) (hv : Vis X.env.scope x := by first | exact Or.inl rfl | exact Or.inr (Or.inl rfl) | exact Or.inr (Or.inr rfl)) (hd : (x == ("__debug__" : Str)) = false := by decide)
    (hcd : (x == ("__classdict__" : Str)) = false := by decide) : DE X E (.Name x pos) (eVar i) := by
  refine pe_imp (pe_var hN hv hd hcd) fun σ H Q ⟨F, ι, μ, ρ, hr, he, hp⟩ => ?_
  have q : ∀ o, ρ[i]? = o → Post X.K X.mg E ((match o with
    | some (some d) => M.pure d
    | _ => M.no) μ) F ι H (wT X.K Q) := fun o e => by rw [← e]; exact hp
  rcases e : ρ[i]? with _ | _ | d
  · exact (q _ e).elim
  · exact (q _ e).elim
  · obtain ⟨v, a, r⟩ := he.at_ i d e
    exact ⟨v, a, Post.pure (q _ e) hr v r⟩
theorem d_of {e : Expr} {v : V} {d : T} (h : PE X e (tC v)) (r : ∀ F ι, Rp X.K F ι v d) : DE X E e (eC d) :=
  pe_imp h fun σ H Q ⟨F, ι, μ, ρ, hr, he, hp⟩ => Post.pure hp hr v (r F ι)
theorem d_int {i : Int} {j} : DE X E (.Constant (.int i) j pos) (eC (.int i)) := d_of pe_int fun _ _ => .int i
theorem d_bl {b : Bool} {j} : DE X E (.Constant (.bool b) j pos) (eC (.bl b)) := d_of pe_bl fun _ _ => .bl b
theorem d_non {j} : DE X E (.Constant .none j pos) (eC .non) := d_of pe_non fun _ _ => .non
theorem d_str {x : Str} {j} : DE X E (.Constant (.str x) j pos) (eC (.str x)) := d_of pe_str fun _ _ => .str x
/-- a module's constant -/
theorem d_glob {x : Str} {v : V} {d : T} {u : Value} (hm : X.mg x = some u) (r : RelV v u) (rd : ∀ F ι, Rp X.K F ι v d) (hg : Gl X x := by rfl) (hd : (x == ("__debug__" : Str)) = false := by decide) : DE X E (.Name x pos) (eC d) := d_of (pe_glob hg hm r hd) rd
theorem d_bltn {x : Str} {v : V} {d : T} {u : Value} (hm : X.mg x = none) (hv : bootBuiltins x = some u) (r : RelV v u) (rd : ∀ F ι, Rp X.K F ι v d) (hg : Gl X x := by rfl) (hn : x ≠ "__name__" := by decide) (hd : (x == ("__debug__" : Str)) = false := by decide) :
    DE X E (.Name x pos) (eC d) := d_of (pe_bltn hg hm hv r hn hd) rd
end

/-! ### one after another -/
section
variable {K : PySem.W.Frag} {mg : Str → Option Value} {E : XK} {σ : L2.St} {H : Hp} {α : Type} {F : Hp} {ι : List Addr} {μ : Store} {ρ : Env} {rp : Hp → List Addr → Store → Hp → α → Prop}
/-- an expression, then the rest -/
theorem At.e {fa : Env → M T} {k : T → M α} {Q : VK} (hr : Rel K F ι μ H) (he : ERp K F ι σ ρ) (hp : Post K mg E (M.bind (fa ρ) k μ) F ι H rp)
    (hk : ∀ F' ι' μ' H' v d, Ext F ι H F' ι' H' → Rel K F' ι' μ' H' → Rp K F' ι' v d → Post K mg E (k d μ') F' ι' H' rp → Q v H') : tE K mg E fa σ H Q :=
  ⟨F, ι, μ, ρ, hr, he, hp.bind fun F' ι' μ' H' d x q p v r => hk F' ι' μ' H' v d x q r p⟩
theorem At.t {fa : Env → M Bool} {k : Bool → M α} {Q : Bool → Hp → Prop} (hr : Rel K F ι μ H) (he : ERp K F ι σ ρ) (hp : Post K mg E (M.bind (fa ρ) k μ) F ι H rp)
    (hk : ∀ F' ι' μ' H' b, Ext F ι H F' ι' H' → Rel K F' ι' μ' H' → Post K mg E (k b μ') F' ι' H' rp → Q b H') : tT K mg E fa σ H Q :=
  ⟨F, ι, μ, ρ, hr, he, hp.bind fun F' ι' μ' H' d x q p => hk F' ι' μ' H' d x q p⟩
theorem At.a {fa : Env → M (List T)} {k : List T → M α} {Q : List V → Hp → Prop} (hr : Rel K F ι μ H) (he : ERp K F ι σ ρ) (hp : Post K mg E (M.bind (fa ρ) k μ) F ι H rp)
    (hk : ∀ F' ι' μ' H' vs ds, Ext F ι H F' ι' H' → Rel K F' ι' μ' H' → Rps K F' ι' vs ds → Post K mg E (k ds μ') F' ι' H' rp → Q vs H') : tA K mg E fa σ H Q :=
  ⟨F, ι, μ, ρ, hr, he, hp.bind fun F' ι' μ' H' d x q p v r => hk F' ι' μ' H' v d x q r p⟩
theorem At.s {fa : Env → M Fl} {k : Fl → M α} {D : Ends} (hr : Rel K F ι μ H) (he : ERp K F ι σ ρ) (hp : Post K mg E (M.bind (fa ρ) k μ) F ι H rp)
    (hk : ∀ F' ι' μ' H' fl, Ext F ι H F' ι' H' → Rel K F' ι' μ' H' → Post K mg E (k fl μ') F' ι' H' rp → wF K D F' ι' μ' H' fl) : tS K mg E fa D σ H :=
  ⟨F, ι, μ, ρ, hr, he, hp.bind fun F' ι' μ' H' d x q p => hk F' ι' μ' H' d x q p⟩
theorem Rp.ext {F' : Hp} {ι' : List Addr} {H' : Hp} {v : V} {d : T} (r : Rp K F ι v d) (x : Ext F ι H F' ι' H') : Rp K F' ι' v d := r.mono x.sub x.i
theorem Rps.ext {F' : Hp} {ι' : List Addr} {H' : Hp} {v : List V} {d : List T} (r : Rps K F ι v d) (x : Ext F ι H F' ι' H') : Rps K F' ι' v d := r.mono x.sub x.i
end

/-! ### operators by values -/
section
variable (X : Cx) (E : XK)
def rT (g : T → T → M T) : R2 := fun x y H Q => ∃ F ι μ d e, Rel X.K F ι μ H ∧ Rp X.K F ι x d ∧ Rp X.K F ι y e ∧ Post X.K X.mg E (g d e μ) F ι H (wT X.K Q)
def rU1 (g : T → M T) : V → Hp → VK → Prop := fun x H Q => ∃ F ι μ d, Rel X.K F ι μ H ∧ Rp X.K F ι x d ∧ Post X.K X.mg E (g d μ) F ι H (wT X.K Q)
abbrev OpD (f : Value → Value → Sem Value) (g : T → T → M T) : Prop := OpR X f (rT X E g)
abbrev UnD (f : Value → Sem Value) (g : T → M T) : Prop := UnR X f (rU1 X E g)
end
def eOp (g : T → T → M T) (fa fb : Env → M T) : Env → M T := fun ρ => M.bind (fa ρ) fun x => M.bind (fb ρ) fun y => g x y
def eUn (g : T → M T) (fa : Env → M T) : Env → M T := fun ρ => M.bind (fa ρ) g
def eAnd (fa fb : Env → M T) : Env → M T := fun ρ => M.bind (fa ρ) fun x => match x with
  | .bl true => fb ρ
  | .bl false => M.pure (.bl false)
  | _ => M.no
def eOr (fa fb : Env → M T) : Env → M T := fun ρ => M.bind (fa ρ) fun x => match x with
  | .bl true => M.pure (.bl true)
  | .bl false => fb ρ
  | _ => M.no
def asB : T → M Bool
  | .bl b => M.pure b
  | _ => M.no
def eNot (fa : Env → M Bool) : Env → M T := fun ρ => M.bind (fa ρ) fun b => M.pure (.bl (!b))
def bT (fa : Env → M T) : Env → M Bool := fun ρ => M.bind (fa ρ) asB
def bAnd (fa fb : Env → M Bool) : Env → M Bool := fun ρ => M.bind (fa ρ) fun x => bif x then fb ρ else M.pure false
def bOr (fa fb : Env → M Bool) : Env → M Bool := fun ρ => M.bind (fa ρ) fun x => bif x then M.pure true else fb ρ
def bNot (fa : Env → M Bool) : Env → M Bool := fun ρ => M.bind (fa ρ) fun b => M.pure (!b)
def eIf (c : Env → M Bool) (fa fb : Env → M T) : Env → M T := fun ρ => M.bind (c ρ) fun b => bif b then fa ρ else fb ρ
section
variable {X : Cx} {E : XK} {pos : Pos} {a b : Expr} {fa fb : Env → M T} {rest : List Expr} {ta tb : Env → M Bool}
theorem d_op {op : Operator} {g : T → T → M T} (ho : OpD X E (binaryOp op) g) (ha : DE X E a fa) (hb : DE X E b fb) : DE X E (.BinOp a op b pos) (eOp g fa fb) :=
  pe_imp (pe_op ho ha hb) fun σ H Q ⟨F, ι, μ, ρ, hr, he, hp⟩ => At.e hr he hp fun F1 ι1 μ1 H1 v d x1 r1 rv p1 => At.e r1 (he.ext x1) p1 fun F2 ι2 μ2 H2 u e x2 r2 ru p2 => ⟨F2, ι2, μ2, d, e, r2, rv.ext x2, ru, p2⟩
theorem d_cmp {op : CmpOp} {g : T → T → M T} (ho : OpD X E (compareOp op) g) (ha : DE X E a fa) (hb : DE X E b fb) (hm : behindInMarks op b = false := by first | exact nobehind _ (by decide) (by decide) | rfl) : DE X E (.Compare a [op] [b] pos) (eOp g fa fb) :=
  pe_imp (pe_cmpR ho ha hb hm) fun σ H Q ⟨F, ι, μ, ρ, hr, he, hp⟩ => At.e hr he hp fun F1 ι1 μ1 H1 v d x1 r1 rv p1 => At.e r1 (he.ext x1) p1 fun F2 ι2 μ2 H2 u e x2 r2 ru p2 => ⟨F2, ι2, μ2, d, e, r2, rv.ext x2, ru, p2⟩
theorem d_un {op : UnaryOp} {g : T → M T} (ho : UnD X E (unaryOp op) g) (ha : DE X E a fa) : DE X E (.UnaryOp op a pos) (eUn g fa) :=
  pe_imp (pe_un ho ha) fun σ H Q ⟨F, ι, μ, ρ, hr, he, hp⟩ => At.e hr he hp fun F1 ι1 μ1 H1 v d x1 r1 rv p1 => ⟨F1, ι1, μ1, d, r1, rv, p1⟩
/-- a bool's value as a test -/
theorem bT_core {σ : L2.St} {H : Hp} {Q : Bool → Hp → Prop} {K : PySem.W.Frag} {mg : Str → Option Value} (h : tT K mg E (bT fa) σ H Q) : tB (tE K mg E fa) σ H Q := by
  obtain ⟨F, ι, μ, ρ, hr, he, hp⟩ := h
  refine At.e hr he hp fun F1 ι1 μ1 H1 v d x1 r1 rv p1 => ?_
  cases rv with
  | bl b => exact ⟨b, rfl, Post.pure p1 r1⟩
  | _ => exact p1.elim
theorem d_test (h : DE X E a fa) (he : ∀ whole, isTrue a X.env whole = (do let v ← whole; standAt a.pos; holding [v] (truthy v)) := by intro _; rfl) : DT X E a (bT fa) := pt_imp (pt_val h he) fun _ _ _ q => bT_core q
theorem t_cmp {op : CmpOp} {g : T → T → M T} (ho : OpD X E (compareOp op) g) (ha : DE X E a fa) (hb : DE X E b fb) (hm : behindInMarks op b = false := by first | exact nobehind _ (by decide) (by decide) | rfl) : DT X E (.Compare a [op] [b] pos) (bT (eOp g fa fb)) :=
  pt_imp (pt_cmpR ho ha hb hm) fun σ H Q ⟨F, ι, μ, ρ, hr, he, hp⟩ => by
    have hp' : Post X.K X.mg E (M.bind (fa ρ) (fun x => M.bind (fb ρ) fun y => M.bind (g x y) asB) μ) F ι H (fun _ _ _ H' b => Q b H') := by
      have q := hp
      simp only [bT, eOp] at q
      have e : M.bind (M.bind (fa ρ) fun x => M.bind (fb ρ) fun y => g x y) asB = M.bind (fa ρ) (fun x => M.bind (fb ρ) fun y => M.bind (g x y) asB) := by
        funext m
        simp only [M.bind]
        cases fa ρ m with
        | ok x m1 => simp only []; cases fb ρ m1 <;> rfl
        | err _ _ => rfl
        | no => rfl
      rw [e] at q
      exact q
    refine At.e hr he hp' fun F1 ι1 μ1 H1 v d x1 r1 rv p1 => At.e r1 (he.ext x1) p1 fun F2 ι2 μ2 H2 u e x2 r2 ru p2 => ⟨F2, ι2, μ2, d, e, r2, rv.ext x2, ru, ?_⟩
    refine p2.bind fun F3 ι3 μ3 H3 z x3 r3 p3 w rw' => ?_
    cases rw' with
    | bl k => exact ⟨k, rfl, Post.pure p3 r3⟩
    | _ => exact p3.elim
theorem w_and1 (ha : DT X E a ta) : DW X E (.BoolOp .And [a] pos) ta := pw_and1 ha
theorem w_or1 (ha : DT X E a ta) : DW X E (.BoolOp .Or [a] pos) ta := pw_or1 ha
theorem w_and (ha : DT X E a ta) (hb : DW X E (.BoolOp .And (b :: rest) pos) tb) : DW X E (.BoolOp .And (a :: b :: rest) pos) (bAnd ta tb) :=
  pw_imp (pw_and ha hb) fun σ H Q ⟨F, ι, μ, ρ, hr, he, hp⟩ => At.t hr he hp fun F1 ι1 μ1 H1 c x1 r1 p1 => by
    cases c with
    | true => exact iteT ⟨F1, ι1, μ1, ρ, r1, he.ext x1, p1⟩
    | false => exact iteF (Post.pure p1 r1)
theorem w_or (ha : DT X E a ta) (hb : DW X E (.BoolOp .Or (b :: rest) pos) tb) : DW X E (.BoolOp .Or (a :: b :: rest) pos) (bOr ta tb) :=
  pw_imp (pw_or ha hb) fun σ H Q ⟨F, ι, μ, ρ, hr, he, hp⟩ => At.t hr he hp fun F1 ι1 μ1 H1 c x1 r1 p1 => by
    cases c with
    | false => exact iteF ⟨F1, ι1, μ1, ρ, r1, he.ext x1, p1⟩
    | true => exact iteT (Post.pure p1 r1)
theorem t_bool (h : DW X E a ta) : DT X E a ta := h.pt
theorem t_not (ha : DT X E a ta) : DT X E (.UnaryOp .Not a pos) (bNot ta) := pt_imp (pt_not ha) fun σ H Q ⟨F, ι, μ, ρ, hr, he, hp⟩ => At.t hr he hp fun F1 ι1 μ1 H1 c x1 r1 p1 => Post.pure p1 r1
theorem d_one {op} (ha : DE X E a fa) : DE X E (.BoolOp op [a] pos) fa := pe_one ha
theorem d_and (ha : DE X E a fa) (hb : DE X E (.BoolOp .And (b :: rest) pos) fb) : DE X E (.BoolOp .And (a :: b :: rest) pos) (eAnd fa fb) :=
  pe_imp (pe_and ha hb) fun σ H Q ⟨F, ι, μ, ρ, hr, he, hp⟩ => At.e hr he hp fun F1 ι1 μ1 H1 v d x1 r1 rv p1 => by
    cases rv with
    | bl c =>
      refine ⟨c, rfl, ?_⟩
      cases c with
      | true => exact iteT ⟨F1, ι1, μ1, ρ, r1, he.ext x1, p1⟩
      | false => exact iteF (Post.pure p1 r1 _ (.bl false))
    | _ => exact p1.elim
theorem d_or (ha : DE X E a fa) (hb : DE X E (.BoolOp .Or (b :: rest) pos) fb) : DE X E (.BoolOp .Or (a :: b :: rest) pos) (eOr fa fb) :=
  pe_imp (pe_or ha hb) fun σ H Q ⟨F, ι, μ, ρ, hr, he, hp⟩ => At.e hr he hp fun F1 ι1 μ1 H1 v d x1 r1 rv p1 => by
    cases rv with
    | bl c =>
      refine ⟨c, rfl, ?_⟩
      cases c with
      | false => exact iteF ⟨F1, ι1, μ1, ρ, r1, he.ext x1, p1⟩
      | true => exact iteT (Post.pure p1 r1 _ (.bl true))
    | _ => exact p1.elim
/-- not t, t's value a bool -/
theorem d_not (ha : DE X E a fa) : DE X E (.UnaryOp .Not a pos) (eNot (bT fa)) :=
  pe_imp (pe_not ha) fun σ H Q ⟨F, ι, μ, ρ, hr, he, hp⟩ => by
    have hp' : Post X.K X.mg E (M.bind (fa ρ) (fun x => M.bind (asB x) fun b => M.pure (.bl (!b))) μ) F ι H (wT X.K Q) := by
      have q := hp
      simp only [eNot, bT] at q
      have e : M.bind (M.bind (fa ρ) asB) (fun b => M.pure (T.bl (!b))) = M.bind (fa ρ) (fun x => M.bind (asB x) fun b => M.pure (.bl (!b))) := by
        funext m
        simp only [M.bind]
        cases fa ρ m <;> rfl
      rw [e] at q
      exact q
    refine At.e hr he hp' fun F1 ι1 μ1 H1 v d x1 r1 rv p1 => ?_
    cases rv with
    | bl c => exact ⟨c, rfl, Post.pure (a := T.bl (!c)) p1 r1 _ (.bl _)⟩
    | _ => exact p1.elim
theorem d_if {c : Expr} (hc : DT X E c ta) (ha : DE X E a fa) (hb : DE X E b fb) : DE X E (.IfExp c a b pos) (eIf ta fa fb) :=
  pe_imp (pe_ifExp hc ha hb) fun σ H Q ⟨F, ι, μ, ρ, hr, he, hp⟩ => At.t hr he hp fun F1 ι1 μ1 H1 c x1 r1 p1 => by
    cases c with
    | true => exact iteT ⟨F1, ι1, μ1, ρ, r1, he.ext x1, p1⟩
    | false => exact iteF ⟨F1, ι1, μ1, ρ, r1, he.ext x1, p1⟩
end

/-! ### argument lists, displays -/
def aNil : Env → M (List T) := fun _ => M.pure []
def aCons (f : Env → M T) (g : Env → M (List T)) : Env → M (List T) := fun ρ => M.bind (f ρ) fun x => M.bind (g ρ) fun xs => M.pure (x :: xs)
def fits (n : Nat) : Bool := decide (n ≤ 16777216)
theorem fits_le {n : Nat} (h : fits n = true) : n ≤ sizeLine := by rw [sizeLine_eq]; exact of_decide_eq_true h
def okL (ds : List T) : M (List T) := bif fits ds.length then M.pure ds else M.no
def eTup (f : Env → M (List T)) : Env → M T := fun ρ => M.bind (f ρ) fun ds => bif fits ds.length then M.pure (.tup ds) else M.no
def lLst (f : Env → M (List T)) : Env → M (List T) := fun ρ => M.bind (f ρ) okL
/-- a new list as a tree; as a cell -/
def eTree (f : Env → M (List T)) : Env → M T := fun ρ => M.bind (f ρ) fun ds => M.pure (.lst ds)
def newC (o : Ob) : M T := fun μ => .ok (.cell μ.length) (μ ++ [⟨true, o⟩])
def eCell (f : Env → M (List T)) : Env → M T := fun ρ => M.bind (f ρ) fun ds => newC (.lst ds)
section
variable {K : PySem.W.Frag} {F : Hp} {ι : List Addr} {μ : Store} {H H' : Hp} {p : Addr} {u : HO}
theorem Rel.noF (r : Rel K F ι μ H) (hp : H p = none) : F p = none := by
  cases e : F p with
  | none => rfl
  | some o => rw [r.sub _ _ e] at hp; cases hp
theorem Rel.noI (r : Rel K F ι μ H) (hp : H p = none) : p ∉ ι := fun m => by
  obtain ⟨k, hk, e⟩ := List.getElem_of_mem m
  have hk' : k < μ.length := by rw [← r.len]; exact hk
  obtain ⟨u, hu, _⟩ := r.cel k p μ[k] (by rw [List.getElem?_eq_getElem hk, e]) (List.getElem?_eq_getElem hk')
  rw [hu] at hp; cases hp
/-- a new object is laid: it is known from now on -/
theorem Rel.newF (r : Rel K F ι μ H) (hp : H p = none) (ho : ∀ a, a ≠ p → H' a = H a) (hn : H' p = some u) (hu : ∀ ps, u ≠ .tbl ps := by intro _ z; cases z) : Ext F ι H (upd F p u) ι H' ∧ Rel K (upd F p u) ι μ H' := by
  have nF := r.noF hp
  have nI := r.noI hp
  have sub : All F (upd F p u) := fun a o e => by rw [upd_ne (fun z => by rw [z, nF] at e; cases e)]; exact e
  have keep : ∀ a o, H a = some o → H' a = some o := fun a o e => by rw [ho a (fun z => by rw [z, hp] at e; cases e)]; exact e
  refine ⟨⟨sub, .refl _, fun a o e _ _ => keep a o e, fun a m => .inl m, fun a o e => ?_⟩, ⟨fun a o e => ?_, r.nd, r.len, fun k a c h1 h2 => ?_, fun q hq => tab_put (a := p) (fun ps z => by rw [hp] at z; cases z) (fun φ z => by rw [hp] at z; cases z) ho (r.tab q hq), fun a ps z => ?_⟩⟩
  · by_cases z : a = p
    · subst z; exact .inr (.inr (.inl hp))
    · rw [upd_ne z] at e; exact .inl e
  · by_cases z : a = p
    · subst z; rw [upd_same] at e; rw [hn]; exact e
    · rw [upd_ne z] at e; exact keep _ _ (r.sub _ _ e)
  · obtain ⟨v, e1, e2, e3, e4⟩ := r.cel k a c h1 h2
    have ne : a ≠ p := fun z => by rw [z, hp] at e1; cases e1
    exact ⟨v, keep _ _ e1, e2.mono sub.sub (.refl _), fun z => by rw [upd_ne ne]; exact e3 z, fun z => by rw [upd_ne ne]; exact e4.1 z, e4.2⟩
  · by_cases y : a = p
    · subst y; rw [upd_same] at z; exact hu ps (Option.some.inj z)
    · rw [upd_ne y] at z; exact r.nt _ _ z
/-- .. or a new cell -/
theorem Rel.newI {o : Ob} (r : Rel K F ι μ H) (hp : H p = none) (ho : ∀ a, a ≠ p → H' a = H a) (hn : H' p = some u) (ru : RpO K F ι u o) (hf : ∀ ob w, u ≠ .frz ob w := by intro _ _ z; cases z) : Ext F ι H F (ι ++ [p]) H' ∧ Rel K F (ι ++ [p]) (μ ++ [⟨true, o⟩]) H' := by
  have nF := r.noF hp
  have nI := r.noI hp
  have keep : ∀ a o, H a = some o → H' a = some o := fun a o e => by rw [ho a (fun z => by rw [z, hp] at e; cases e)]; exact e
  have pre : Pre ι (ι ++ [p]) := ⟨[p], rfl⟩
  refine ⟨⟨fun a o e => e, pre, fun a o e _ _ => keep a o e, fun a m => ?_, fun a o e => .inl e⟩, ⟨fun a o e => keep _ _ (r.sub _ _ e), ?_, by simp [r.len], fun k a c h1 h2 => ?_, fun q hq => tab_put (a := p) (fun ps z => by rw [hp] at z; cases z) (fun φ z => by rw [hp] at z; cases z) ho (r.tab q hq), r.nt⟩⟩
  · rcases List.mem_append.mp m with m | m
    · exact .inl m
    · have e : a = p := by simpa using m
      subst e; exact .inr (.inl hp)
  · rw [List.nodup_append]
    refine ⟨r.nd, by simp, fun a m b n z => ?_⟩
    have e : b = p := by simpa using n
    subst e; subst z; exact nI m
  · by_cases hk : k < ι.length
    · rw [List.getElem?_append_left hk] at h1
      rw [List.getElem?_append_left (by rw [← r.len]; exact hk)] at h2
      obtain ⟨v, e1, e2, e3, e4⟩ := r.cel k a c h1 h2
      exact ⟨v, keep _ _ e1, e2.mono (Sub.refl _) pre, e3, e4⟩
    · rw [List.getElem?_append_right (by omega)] at h1
      rw [List.getElem?_append_right (by rw [← r.len]; omega)] at h2
      have hk2 : k - ι.length = 0 := by
        obtain ⟨z, _⟩ := List.getElem?_eq_some_iff.mp h1
        simp at z; omega
      rw [hk2] at h1
      rw [← r.len, hk2] at h2
      simp at h1 h2
      subst h1 h2
      exact ⟨u, hn, ru.mono (Sub.refl _) pre, fun _ => nF, fun z => (by cases z), fun _ => hf, fun z => (by cases z)⟩
end
section
variable {X : Cx} {E : XK} {pos : Pos} {e : Expr} {es : List Expr} {f : Env → M T} {g fl : Env → M (List T)}
theorem a_nil : DA X E [] aNil := pa_imp pa_nil fun σ H Q ⟨F, ι, μ, ρ, hr, he, hp⟩ => Post.pure (a := ([] : List T)) hp hr [] .nil
theorem a_cons (ha : DE X E e f) (hb : DA X E es g) (hs : starEach (e :: es) X.env = (false, eval e X.env) :: starEach es X.env := by rfl) : DA X E (e :: es) (aCons f g) :=
  pa_imp (pa_cons ha hb hs) fun σ H Q ⟨F, ι, μ, ρ, hr, he, hp⟩ => At.e hr he hp fun F1 ι1 μ1 H1 v d x1 r1 rv p1 => At.a r1 (he.ext x1) p1 fun F2 ι2 μ2 H2 vs ds x2 r2 rvs p2 =>
    Post.pure p2 r2 _ (.cons (rv.ext x2) rvs)
theorem d_tup {x1} (h : DA X E es g) : DE X E (.Tuple es x1 pos) (eTup g) :=
  pe_imp (pe_tup h) fun σ H Q ⟨F, ι, μ, ρ, hr, he, hp⟩ => At.a hr he hp fun F1 ι1 μ1 H1 vs ds x1 r1 rvs p1 => by
    cases hz : fits ds.length with
    | false => rw [hz] at p1; exact p1.elim
    | true =>
      rw [hz] at p1
      refine ⟨by rw [rvs.length]; exact fits_le hz, fun p np => ?_⟩
      obtain ⟨x2, r2⟩ := r1.newF (u := .tup vs) np (fun a z => upd_ne z) upd_same
      exact p1 _ _ _ x2 r2 _ (.tup upd_same (rvs.ext x2))
theorem l_lst (h : DA X E es g) : DL X E (.List es pos) (lLst g) :=
  pe_imp (pe_lst h) fun σ H Q ⟨F, ι, μ, ρ, hr, he, hp⟩ => At.a hr he hp fun F1 ι1 μ1 H1 vs ds x1 r1 rvs p1 => by
    unfold okL at p1
    cases hz : fits ds.length with
    | false => rw [hz] at p1; exact p1.elim
    | true =>
      rw [hz] at p1
      refine ⟨by rw [rvs.length]; exact fits_le hz, fun p np => ?_⟩
      exact p1 _ _ _ (.refl ..) r1 p vs _ (fun a z => upd_ne z) np upd_same rvs
theorem d_tree (h : DL X E e fl) : DE X E e (eTree fl) :=
  pe_imp h fun σ H Q ⟨F, ι, μ, ρ, hr, he, hp⟩ => ⟨F, ι, μ, ρ, hr, he, hp.bind fun F1 ι1 μ1 H1 ds x1 r1 p1 p xs H2 ho hn h2 rs => by
    obtain ⟨x2, r2⟩ := r1.newF hn ho h2
    exact p1 _ _ _ x2 r2 _ (.lst upd_same (rs.ext x2))⟩
theorem d_cell (h : DL X E e fl) : DE X E e (eCell fl) :=
  pe_imp h fun σ H Q ⟨F, ι, μ, ρ, hr, he, hp⟩ => ⟨F, ι, μ, ρ, hr, he, hp.bind fun F1 ι1 μ1 H1 ds x1 r1 p1 p xs H2 ho hn h2 rs => by
    obtain ⟨x2, r2⟩ := r1.newI hn ho h2 (.lst rs)
    refine p1 _ _ _ x2 r2 _ (.cell ?_)
    rw [← r1.len]; simp⟩
end

/-! ### blocks -/
def sNil : Env → M Fl := fun ρ => M.pure (.nx ρ)
def sSeq (g h : Env → M Fl) : Env → M Fl := fun ρ => M.bind (g ρ) fun fl => match fl with
  | .nx ρ' => h ρ'
  | o => M.pure o
def sRet (f : Env → M T) : Env → M Fl := fun ρ => M.bind (f ρ) fun d => M.pure (.rt d)
def sExp (f : Env → M T) : Env → M Fl := fun ρ => M.bind (f ρ) fun _ => M.pure (.nx ρ)
def sIf (c : Env → M Bool) (g h : Env → M Fl) : Env → M Fl := fun ρ => M.bind (c ρ) fun b => bif b then g ρ else h ρ
def sSet (i : Nat) (f : Env → M T) : Env → M Fl := fun ρ => M.bind (f ρ) fun d => M.pure (.nx (ρ.set i (some d)))
def sTgt (h : T → Env → M Env) (f : Env → M T) : Env → M Fl := fun ρ => M.bind (f ρ) fun d => M.bind (h d ρ) fun ρ' => M.pure (.nx ρ')
section
variable {X : Cx} {E : XK} {pos : Pos} {e : Expr} {st : Stmt} {rest : List Stmt} {f : Env → M T} {g h : Env → M Fl}
theorem b_nil : DB X E [] sNil := pss_imp pss_nil fun D σ H ⟨F, ι, μ, ρ, hr, he, hp⟩ => Post.pure (a := Fl.nx ρ) hp hr σ he
theorem b_one (h1 : DS X E st g) : DB X E [st] g := pss_one h1
theorem b_cons (h1 : DS X E st g) (h2 : DB X E rest h) : DB X E (st :: rest) (sSeq g h) :=
  pss_imp (pss_cons h1 h2) fun D σ H ⟨F, ι, μ, ρ, hr, he, hp⟩ => At.s hr he hp fun F1 ι1 μ1 H1 fl x1 r1 p1 => by
    cases fl with
    | nx ρ' => exact fun σ' he' => ⟨F1, ι1, μ1, ρ', r1, he', p1⟩
    | rt d => exact Post.pure (mg := X.mg) (E := E) (a := Fl.rt d) p1 r1
    | bk ρ' => exact Post.pure (mg := X.mg) (E := E) (a := Fl.bk ρ') p1 r1
    | ct ρ' => exact Post.pure (mg := X.mg) (E := E) (a := Fl.ct ρ') p1 r1
theorem s_pass : DS X E (.Pass pos) sNil := ps_imp ps_pass fun D σ H ⟨F, ι, μ, ρ, hr, he, hp⟩ => Post.pure (a := Fl.nx ρ) hp hr σ he
theorem s_break : DS X E (.Break pos) (fun ρ => M.pure (.bk ρ)) := ps_imp ps_break fun D σ H ⟨F, ι, μ, ρ, hr, he, hp⟩ => Post.pure (a := Fl.bk ρ) hp hr σ he
theorem s_cont : DS X E (.Continue pos) (fun ρ => M.pure (.ct ρ)) := ps_imp ps_continue fun D σ H ⟨F, ι, μ, ρ, hr, he, hp⟩ => Post.pure (a := Fl.ct ρ) hp hr σ he
theorem s_ret (h : DE X E e f) : DS X E (.Return (some e) pos) (sRet f) :=
  ps_imp (ps_ret h) fun D σ H ⟨F, ι, μ, ρ, hr, he, hp⟩ => At.e hr he hp fun F1 ι1 μ1 H1 v d x1 r1 rv p1 => Post.pure (a := Fl.rt d) p1 r1 v rv
theorem s_expr (h : DE X E e f) (hs : swapsWith e none pos.line X.env = pure false := by rfl) : DS X E (.Expr e pos) (sExp f) :=
  ps_imp (ps_expr h hs) fun D σ H ⟨F, ι, μ, ρ, hr, he, hp⟩ => At.e hr he hp fun F1 ι1 μ1 H1 v d x1 r1 rv p1 => Post.pure (a := Fl.nx ρ) p1 r1 σ (he.ext x1)
theorem s_if {c : Expr} {a b : List Stmt} {tc : Env → M Bool} (hc : DT X E c tc) (ha : DB X E a g) (hb : DB X E b h) : DS X E (.If c a b pos) (sIf tc g h) :=
  ps_imp (ps_if hc ha hb) fun D σ H ⟨F, ι, μ, ρ, hr, he, hp⟩ => At.t hr he hp fun F1 ι1 μ1 H1 c x1 r1 p1 => by
    cases c with
    | true => exact iteT ⟨F1, ι1, μ1, ρ, r1, he.ext x1, p1⟩
    | false => exact iteF ⟨F1, ι1, μ1, ρ, r1, he.ext x1, p1⟩
theorem s_set {i : Nat} {x : Str} {pos' : Pos} (hN : X.N.Nodup) (he : DE X E e f) (hi : X.N[i]? = some x := by rfl) (hx : Loc X.env.scope x := by first | exact .inl rfl | exact .inr rfl) (hs : swapsWith e (some (.Name x pos')) pos.line X.env = pure false := by rfl)
    (hf : X.fn x = true ∨ X.env.scope.names.lookup x = some .local := by first | exact .inl rfl | exact .inr rfl) : DS X E (.Assign [.Name x pos'] e pos) (sSet i f) :=
  ps_imp (ps_set hN hi hx he hs hf) fun D σ H ⟨F, ι, μ, ρ, hr, he, hp⟩ => At.e hr he hp fun F1 ι1 μ1 H1 v d x1 r1 rv p1 => Post.pure (a := Fl.nx (ρ.set i (some d))) p1 r1 _ ((he.ext x1).set rv i)
/-- a target that is no plain name (or a plain name) -/
theorem s_tgt {tg : Expr} {vs : List Nat} {t : T → Env → M Env} (he : DE X E e f) (hg : DG X E tg vs t) (hs : swapsWithSole [tg] e pos.line X.env = pure false := by rfl) (hw : swappedStores [tg] e X.env = pure none := by rfl)
    (h1 : (assignEach [tg] X.env).map (·.2) = [assign tg X.env] := by rfl) : DS X E (.Assign [tg] e pos) (sTgt t f) :=
  ps_imp (ps_asg he hg hs hw h1) fun D σ H ⟨F, ι, μ, ρ, hr, he, hp⟩ => At.e hr he hp fun F1 ι1 μ1 H1 v d x1 r1 rv p1 =>
    ⟨F1, ι1, μ1, ρ, d, r1, he.ext x1, rv, p1.bind fun F2 ι2 μ2 H2 ρ' x2 r2 p2 σ' he' _ => Post.pure (a := Fl.nx ρ') p2 r2 σ' he'⟩
end
end TL

/-! T layer 3: operators on trees. -/
namespace TL
open PySem PySem.Spec PyProof.Rows L2
variable [Tb]

/-- what every rule asks of the context -/
structure XO (X : Cx) (E : XK) (k : Nat) : Prop where
  calm : X.calm = true
  nd : X.N.Nodup
  gd : X.A.guards = some []
  room : Room k X.A
  tk : Takes X (fun cls d _ H => E cls d H)
  own : PassesOwn (model X.prog X.w) X.A X.env X.xe

/-! ### cells are read -/
def obT : Ob → T
  | .lst xs => .lst xs
  | .dic tk kvs => .dic tk kvs
def ld (d : T) : M T := fun μ => match d with
  | .cell k => match μ[k]? with
    | some c => .ok (obT c.o) μ
    | none => .no
  | d => .ok d μ
inductive Lp (K : PySem.W.Frag) (F : Hp) (ι : List Addr) (H : Hp) : V → T → Prop
  | non : Lp K F ι H .non .non
  | bl (b : Bool) : Lp K F ι H (.bl b) (.bl b)
  | int (i : Int) : Lp K F ι H (.int i) (.int i)
  | str (x : Str) : Lp K F ι H (.str x) (.str x)
  | lst {a : Addr} {xs : List V} {ds : List T} : H a = some (.lst xs) → Rps K F ι xs ds → Lp K F ι H (.ref a) (.lst ds)
  | fls {a : Addr} {xs : List V} {ds : List T} : SqL K F a xs → Rps K F ι xs ds → Lp K F ι H (.ref a) (.fls ds)
  | tup {a : Addr} {xs : List V} {ds : List T} : F a = some (.tup xs) → Rps K F ι xs ds → Lp K F ι H (.ref a) (.tup ds)
  | ftp {a : Addr} {xs : List V} {ds : List T} : SqTd K F a xs → Rps K F ι xs ds → Lp K F ι H (.ref a) (.ftp ds)
  | dic {a : Addr} {kvs : List (Key × V)} {ps : List (T × T)} : Rd H a (.dK kvs) → Rpk K F ι kvs ps → Lp K F ι H (.ref a) (.dic false ps)
  | dit {a : Addr} {kvs : List (List Key × V)} {ps : List (T × T)} : Rd H a (.dT kvs) → Rpt K F ι kvs ps → Lp K F ι H (.ref a) (.dic true ps)
  | ref (a : Addr) : Lp K F ι H (.ref a) (.ref a)
  | ty (n : String) : Lp K F ι H (.ty n) (.ty n)
  | exn {a dd : Addr} {vs : List (Str × V)} {fs : List (Str × T)} : F dd = some (.xd vs) → Rpx K F ι vs fs → Lp K F ι H (.ref a) (.exn a dd fs)
section
variable {K : PySem.W.Frag} {mg : Str → Option Value} {E : XK} {F : Hp} {ι : List Addr} {μ : Store} {H : Hp} {α : Type} {rp : Hp → List Addr → Store → Hp → α → Prop}
theorem ld_post {v : V} {d : T} {k : T → M α} (r : Rel K F ι μ H) (rv : Rp K F ι v d) (hp : Post K mg E (M.bind (ld d) k μ) F ι H rp) : ∃ d', Lp K F ι H v d' ∧ Post K mg E (k d' μ) F ι H rp := by
  have sub := r.sub.sub
  cases rv with
  | non => exact ⟨_, .non, hp⟩
  | bl b => exact ⟨_, .bl b, hp⟩
  | int i => exact ⟨_, .int i, hp⟩
  | str x => exact ⟨_, .str x, hp⟩
  | lst s t => exact ⟨_, .lst (r.sub _ _ s) t, hp⟩
  | fls s t => exact ⟨_, .fls s t, hp⟩
  | tup s t => exact ⟨_, .tup s t, hp⟩
  | ftp s t => exact ⟨_, .ftp s t, hp⟩
  | dic s t => exact ⟨_, .dic (.inr ⟨_, sub.2.2.2.1 _ _ _ s⟩) t, hp⟩
  | dit s t => exact ⟨_, .dit (.inr ⟨_, sub.2.2.2.1 _ _ _ s⟩) t, hp⟩
  | ref a => exact ⟨_, .ref a, hp⟩
  | ty n => exact ⟨_, .ty n, hp⟩
  | exn s t => exact ⟨_, .exn s t, hp⟩
  | @cell k' a e =>
    have hk : k' < μ.length := by
      obtain ⟨z, _⟩ := List.getElem?_eq_some_iff.mp e
      rw [← r.len]; exact z
    have e2 : μ[k']? = some μ[k'] := List.getElem?_eq_getElem hk
    obtain ⟨u, hu, ro, _, _⟩ := r.cel k' a _ e e2
    have hl : ld (.cell k') μ = .ok (obT μ[k'].o) μ := by simp [ld, e2]
    have hp' : Post K mg E (k (obT μ[k'].o) μ) F ι H rp := by
      unfold M.bind at hp
      rw [hl] at hp
      exact hp
    generalize μ[k'].o = ob at ro hp'
    cases ro with
    | lst t => exact ⟨_, .lst hu t, hp'⟩
    | dic t => exact ⟨_, .dic (.inl hu) t, hp'⟩
    | dit t => exact ⟨_, .dit (.inl hu) t, hp'⟩
    | fdic t => exact ⟨_, .dic (.inr ⟨_, hu⟩) t, hp'⟩
    | fdit t => exact ⟨_, .dit (.inr ⟨_, hu⟩) t, hp'⟩
end

/-! ### data -/
mutual
def toD : T → PyData
  | .non => .none
  | .bl b => .bool b
  | .int i => .int i
  | .str x => .str x
  | .lst xs => .list (toDs xs)
  | .fls xs => .list (toDs xs)
  | .tup xs => .tuple (toDs xs)
  | .ftp xs => .tuple (toDs xs)
  | .dic _ kvs => .dict (toDk kvs)
  | .cell _ => .none
  | .ref _ => .none
  | .ty _ => .none
  | .exn _ _ _ => .none
def toDs : List T → List PyData
  | [] => []
  | x :: xs => toD x :: toDs xs
def toDk : List (T × T) → List (PyData × PyData)
  | [] => []
  | (a, b) :: r => (toD a, toD b) :: toDk r
end
mutual
/-- no cells, no dicts within -/
def okT : T → Bool
  | .non => true
  | .bl _ => true
  | .int _ => true
  | .str x => PyData.strOk x
  | .lst xs => okTs xs
  | .fls xs => okTs xs
  | .tup xs => okTs xs
  | .ftp xs => okTs xs
  | .dic _ _ => false
  | .cell _ => false
  | .ref _ => false
  | .ty _ => false
  | .exn _ _ _ => false
def okTs : List T → Bool
  | [] => true
  | x :: xs => okT x && okTs xs
end
mutual
theorem okT_lay : ∀ d : T, okT d = true → PyData.canLay0 (toD d) = true
  | .non, _ => by simp [toD, PyData.canLay0]
  | .bl _, _ => by simp [toD, PyData.canLay0]
  | .int _, _ => by simp [toD, PyData.canLay0]
  | .str x, h => by simpa [toD, PyData.canLay0, okT] using h
  | .lst xs, h => by simp only [toD, PyData.canLay0]; exact okTs_lay xs (by simpa [okT] using h)
  | .fls xs, h => by simp only [toD, PyData.canLay0]; exact okTs_lay xs (by simpa [okT] using h)
  | .tup xs, h => by simp only [toD, PyData.canLay0]; exact okTs_lay xs (by simpa [okT] using h)
  | .ftp xs, h => by simp only [toD, PyData.canLay0]; exact okTs_lay xs (by simpa [okT] using h)
  | .dic _ _, h => by simp [okT] at h
  | .cell _, h => by simp [okT] at h
  | .ref _, h => by simp [okT] at h
  | .ty _, h => by simp [okT] at h
  | .exn _ _ _, h => by simp [okT] at h
theorem okTs_lay : ∀ ds : List T, okTs ds = true → PyData.canLayAll0 (toDs ds) = true
  | [], _ => by simp [toDs, PyData.canLayAll0]
  | x :: xs, h => by
    have h' : okT x = true ∧ okTs xs = true := by simpa [okTs] using h
    simp only [toDs, PyData.canLayAll0, Bool.and_eq_true]
    exact ⟨okT_lay x h'.1, okTs_lay xs h'.2⟩
end
/-- == can be told of it -/
def shp (d : T) : Bool := okT d && decide ((toD d).depth ≤ 64)
theorem shp_shaped {d : T} (h : shp d = true) : SeqAt.shaped (toD d) = true := by
  unfold shp at h
  rw [Bool.and_eq_true] at h
  unfold SeqAt.shaped
  rw [Bool.and_eq_true]
  exact ⟨okT_lay d h.1, h.2⟩
theorem shp_ok {d : T} (h : shp d = true) : okT d = true := by
  unfold shp at h
  rw [Bool.and_eq_true] at h
  exact h.1
section
variable {K : PySem.W.Frag} {F : Hp} {ι : List Addr} {H : Hp}
mutual
theorem Rp.dp (hF : All F H) : ∀ {d : T} {v : V}, Rp K F ι v d → okT d = true → Dp K H v (toD d)
  | .non, _, h, _ => by cases h; simp only [toD]; exact .non
  | .bl b, _, h, _ => by cases h; simp only [toD]; exact .bl b
  | .int i, _, h, _ => by cases h; simp only [toD]; exact .int i
  | .str x, _, h, _ => by cases h; simp only [toD]; exact .str x
  | .lst xs, _, h, ok => by
    cases h with
    | lst s t => simp only [toD]; exact .lst (SqL.of (hF _ _ s)) (Rps.dps hF t (by simpa [okT] using ok))
  | .fls xs, _, h, ok => by
    cases h with
    | fls s t => simp only [toD]; exact .lst (hF.sub.seqL s) (Rps.dps hF t (by simpa [okT] using ok))
  | .tup xs, _, h, ok => by
    cases h with
    | tup s t => simp only [toD]; exact .tup (SqT.of (hF _ _ s)) (Rps.dps hF t (by simpa [okT] using ok))
  | .ftp xs, _, h, ok => by
    cases h with
    | ftp s t => simp only [toD]; exact .tup (hF.sub.seqT s.t) (Rps.dps hF t (by simpa [okT] using ok))
  | .dic _ _, _, _, ok => by simp [okT] at ok
  | .cell _, _, _, ok => by simp [okT] at ok
  | .ref _, _, _, ok => by simp [okT] at ok
  | .ty _, _, _, ok => by simp [okT] at ok
  | .exn _ _ _, _, _, ok => by simp [okT] at ok
theorem Rps.dps (hF : All F H) : ∀ {ds : List T} {vs : List V}, Rps K F ι vs ds → okTs ds = true → DpAll K H vs (toDs ds)
  | [], _, h, _ => by cases h; simp only [toDs]; exact .nil
  | d :: ds, _, h, ok => by
    cases h with
    | cons r t =>
      have h' : okT d = true ∧ okTs ds = true := by simpa [okTs] using ok
      simp only [toDs]
      exact .cons (Rp.dp hF r h'.1) (Rps.dps hF t h'.2)
end
theorem Lp.dp (hF : All F H) {d : T} {v : V} (h : Lp K F ι H v d) (ok : okT d = true) : Dp K H v (toD d) := by
  cases h with
  | non => simp only [toD]; exact .non
  | bl b => simp only [toD]; exact .bl b
  | int i => simp only [toD]; exact .int i
  | str x => simp only [toD]; exact .str x
  | lst s t => simp only [toD]; exact .lst (SqL.of s) (Rps.dps hF t (by simpa [okT] using ok))
  | fls s t => simp only [toD]; exact .lst (hF.sub.seqL s) (Rps.dps hF t (by simpa [okT] using ok))
  | tup s t => simp only [toD]; exact .tup (SqT.of (hF _ _ s)) (Rps.dps hF t (by simpa [okT] using ok))
  | ftp s t => simp only [toD]; exact .tup (hF.sub.seqT s.t) (Rps.dps hF t (by simpa [okT] using ok))
  | dic _ _ => simp [okT] at ok
  | dit _ _ => simp [okT] at ok
  | ref _ => simp [okT] at ok
  | ty _ => simp [okT] at ok
  | exn _ _ => simp [okT] at ok
end

/-! ### the operators, as functions of trees -/
def lgs (i j : Int) : Nat := i.natAbs.log2 + j.natAbs.log2
def gAdd : T → T → M T
  | .int i, .int j => M.pure (.int (i + j))
  | .int i, .bl b => M.pure (.int (i + bif b then 1 else 0))
  | .str x, .str y => bif fits (x.length + y.length) then M.pure (.str (x ++ y)) else M.no
  | .lst xs, .lst ys => bif fits (xs.length + ys.length) then M.pure (.lst (xs ++ ys)) else M.no
  | .tup xs, .tup ys => bif fits (xs.length + ys.length) then M.pure (.tup (xs ++ ys)) else M.no
  | _, _ => M.no
def gSub : T → T → M T
  | .int i, .int j => M.pure (.int (i - j))
  | _, _ => M.no
def gMul : T → T → M T
  | .int i, .int j => bif decide (lgs i j < 1000000) then M.pure (.int (i * j)) else M.no
  | .lst xs, .int k => bif decide (-(2 ^ 63) ≤ k) && decide (k < 2 ^ 63) && fits (xs.length * k.toNat) then M.pure (.lst (List.replicate k.toNat xs).flatten) else M.no
  | .tup xs, .int k => bif !xs.isEmpty && decide (2 ≤ k) && decide (k ≤ 1000) && decide (xs.length ≤ 1000) then M.pure (.tup (List.replicate k.toNat xs).flatten) else M.no
  | _, _ => M.no
def gFdiv : T → T → M T
  | .int i, .int j => bif decide (0 < j) && decide (j.natAbs.log2 < 9000) then M.pure (.int (i / j)) else M.no
  | _, _ => M.no
def gMod : T → T → M T
  | .int i, .int j => bif decide (0 < j) then M.pure (.int (i % j)) else M.no
  | _, _ => M.no
def gPow : T → T → M T
  | .int i, .int j => bif decide (0 ≤ j) && decide (j ≤ 1000000) && decide (i.natAbs < 2 ^ 64) then M.pure (.int (i ^ j.toNat)) else M.no
  | _, _ => M.no
def gShl : T → T → M T
  | .int i, .int j => bif decide (0 ≤ j) && decide ((Builtin.Int.intBits i : Int) + j ≤ 2 ^ 27) then M.pure (.int (i * 2 ^ j.toNat)) else M.no
  | _, _ => M.no
def gShr : T → T → M T
  | .int i, .int j => bif decide (0 ≤ j) then M.pure (.int (i / 2 ^ j.toNat)) else M.no
  | _, _ => M.no
def gBit (f : Int → Int → Int) : T → T → M T
  | .int i, .int j => M.pure (.int (f i j))
  | _, _ => M.no
def gCmp (p : Int → Int → Bool) : T → T → M T
  | .int i, .int j => M.pure (.bl (p i j))
  | _, _ => M.no
def notNon : T → Bool
  | .non => false
  | _ => true
def gLt : T → T → M T
  | .int i, .int j => M.pure (.bl (decide (i < j)))
  | .int _, _ => M.no
  | _, .int _ => M.no
  | x, y => bif shp x && shp y && PySem.W.alike (toD x) (toD y) && notNon x then M.pure (.bl (PySem.W.dataLt (toD x) (toD y))) else M.no
def gEqD (x y : T) : M T := bif shp x && shp y then M.pure (.bl (PyData.eqv (toD x) (toD y))) else M.no
def gNeD (x y : T) : M T := bif shp x && shp y then M.pure (.bl (!PyData.eqv (toD x) (toD y))) else M.no
def gEq (x y : T) : M T := match x, y with
  | .str a, .str b => M.pure (.bl (decide (a = b)))
  | x, y => gEqD x y
def gNe (x y : T) : M T := match x, y with
  | .str a, .str b => M.pure (.bl (!decide (a = b)))
  | x, y => gNeD x y
def gIs : T → T → M T
  | x, .non => M.pure (.bl (match x with | .non => true | _ => false))
  | .bl a, .bl b => M.pure (.bl (a == b))
  | _, _ => M.no
def gIsN : T → T → M T
  | x, .non => M.pure (.bl (match x with | .non => false | _ => true))
  | .bl a, .bl b => M.pure (.bl (!(a == b)))
  | _, _ => M.no
/-- a key that a dict can bear: which dict, which key -/
def key1 : T → Option Key
  | .int i => some (.inl i)
  | .str x => some (.inr x)
  | _ => none
def keysOf : List T → Option (List Key)
  | [] => some []
  | x :: xs => match key1 x, keysOf xs with
    | some k, some ks => some (k :: ks)
    | _, _ => none
def keyOf : T → Option (Key ⊕ List Key)
  | .int i => some (.inl (.inl i))
  | .str x => some (.inl (.inr x))
  | .tup xs => (keysOf xs).map .inr
  | _ => none
def gNeg : T → M T
  | .int i => M.pure (.int (-i))
  | _ => M.no
def ld2 (g : T → T → M T) (x y : T) : M T := M.bind (ld x) fun x => M.bind (ld y) fun y => g x y

section
variable {X : Cx} {E : XK} {k : Nat}
/-- an operator on trees, from its ways -/
theorem OpD.of {f : Value → Value → Sem Value} {g : T → T → M T}
    (h : ∀ (pins : List (Addr × Obj)) (s : Shared) (σ : L2.St) (H : Hp) (x y : V) (v u : Value) (Q : VK) F ι μ d e, Inv X pins σ H s → RelV x v → RelV y u → Rel X.K F ι μ H → Lp X.K F ι H x d → Lp X.K F ι H y e →
      Post X.K X.mg E (g d e μ) F ι H (wT X.K Q) → wpAny (model X.prog X.w) X.A (f v u) (EP X pins σ Q) X.xe s) : OpD X E f (ld2 g) := by
  intro pins s σ H x y v u Q I rx ry hh
  obtain ⟨F, ι, μ, d, e, hr, hx, hy, hp⟩ := hh
  obtain ⟨d', lx, hp1⟩ := ld_post hr hx hp
  obtain ⟨e', ly, hp2⟩ := ld_post hr hy hp1
  exact h pins s σ H x y v u Q F ι μ d' e' I rx ry hr lx ly hp2
/-- where only ints are let -/
theorem OpD.ints {f : Value → Value → Sem Value} {c : Int → Int → Bool} {C : Int → Int → Prop} {r : Int → Int → V} {q : Int → Int → T} (ho : OpR X f (rI C r)) (hc : ∀ i j, c i j = true → C i j) (hq : ∀ F ι i j, Rp X.K F ι (r i j) (q i j))
    {g : T → T → M T} (hg : ∀ i j, g (.int i) (.int j) = bif c i j then M.pure (q i j) else M.no) (hn : ∀ d e, (∀ i j, ¬ (d = .int i ∧ e = .int j)) → g d e = M.no) : OpD X E f (ld2 g) :=
  .of fun pins s σ H x y v u Q F ι μ d e I rx ry hr lx ly hp => by
    by_cases hij : ∃ i j, d = .int i ∧ e = .int j
    · obtain ⟨i, j, rfl, rfl⟩ := hij
      cases lx
      cases ly
      rw [hg] at hp
      cases hcc : c i j with
      | false => rw [hcc] at hp; exact hp.elim
      | true =>
        rw [hcc] at hp
        exact ho pins s σ H _ _ v u Q I rx ry ⟨i, j, rfl, rfl, hc _ _ hcc, Post.pure (a := q i j) hp hr _ (hq _ _ _ _)⟩
    · rw [hn d e fun i j ⟨h1, h2⟩ => hij ⟨i, j, h1, h2⟩] at hp
      exact hp.elim
theorem OpD.ints0 {f : Value → Value → Sem Value} {r : Int → Int → V} {q : Int → Int → T} (ho : OpR X f (rI0 r)) (hq : ∀ F ι i j, Rp X.K F ι (r i j) (q i j))
    {g : T → T → M T} (hg : ∀ i j, g (.int i) (.int j) = M.pure (q i j)) (hn : ∀ d e, (∀ i j, ¬ (d = .int i ∧ e = .int j)) → g d e = M.no) : OpD X E f (ld2 g) :=
  .of fun pins s σ H x y v u Q F ι μ d e I rx ry hr lx ly hp => by
    by_cases hij : ∃ i j, d = .int i ∧ e = .int j
    · obtain ⟨i, j, rfl, rfl⟩ := hij
      cases lx
      cases ly
      rw [hg] at hp
      exact ho pins s σ H _ _ v u Q I rx ry ⟨i, j, rfl, rfl, Post.pure (a := q i j) hp hr _ (hq _ _ _ _)⟩
    · rw [hn d e fun i j ⟨h1, h2⟩ => hij ⟨i, j, h1, h2⟩] at hp
      exact hp.elim
theorem o_sub : OpD X E (binaryOp .Sub) (ld2 gSub) := .ints0 op_sub (fun _ _ _ _ => .int _) (fun _ _ => rfl) fun d e h => by unfold gSub; split; exact (h _ _ ⟨rfl, rfl⟩).elim; rfl
theorem o_fdiv : OpD X E (binaryOp .FloorDiv) (ld2 gFdiv) := .ints (c := fun _ j => decide (0 < j) && decide (j.natAbs.log2 < 9000)) op_fdivW (fun i j h => by simpa [CDivW] using h) (fun _ _ _ _ => .int _) (fun _ _ => rfl) fun d e h => by unfold gFdiv; split; exact (h _ _ ⟨rfl, rfl⟩).elim; rfl
theorem o_mod : OpD X E (binaryOp .Mod) (ld2 gMod) := .ints (c := fun _ j => decide (0 < j)) op_mod (fun i j h => by simpa using h) (fun _ _ _ _ => .int _) (fun _ _ => rfl) fun d e h => by unfold gMod; split; exact (h _ _ ⟨rfl, rfl⟩).elim; rfl
theorem o_pow : OpD X E (binaryOp .Pow) (ld2 gPow) := .ints (c := fun i j => decide (0 ≤ j) && decide (j ≤ 1000000) && decide (i.natAbs < 2 ^ 64)) op_pow (fun i j h => by simp only [Bool.and_eq_true, decide_eq_true_eq] at h; exact ⟨h.1.1, h.1.2, h.2⟩) (fun _ _ _ _ => .int _) (fun _ _ => rfl) fun d e h => by unfold gPow; split; exact (h _ _ ⟨rfl, rfl⟩).elim; rfl
theorem o_shl : OpD X E (binaryOp .LShift) (ld2 gShl) := .ints (c := fun i j => decide (0 ≤ j) && decide ((Builtin.Int.intBits i : Int) + j ≤ 2 ^ 27)) op_shlW (fun i j h => by simpa [CShl] using h) (fun _ _ _ _ => .int _) (fun _ _ => rfl) fun d e h => by unfold gShl; split; exact (h _ _ ⟨rfl, rfl⟩).elim; rfl
theorem o_shr : OpD X E (binaryOp .RShift) (ld2 gShr) := .ints (c := fun i j => decide (0 ≤ j)) op_shr (fun i j h => by simpa using h) (fun _ _ _ _ => .int _) (fun _ _ => rfl) fun d e h => by unfold gShr; split; exact (h _ _ ⟨rfl, rfl⟩).elim; rfl
theorem o_and : OpD X E (binaryOp .BitAnd) (ld2 (gBit Builtin.bitAnd)) := .ints0 op_and (fun _ _ _ _ => .int _) (fun _ _ => rfl) fun d e h => by unfold gBit; split; exact (h _ _ ⟨rfl, rfl⟩).elim; rfl
theorem o_or : OpD X E (binaryOp .BitOr) (ld2 (gBit Builtin.bitOr)) := .ints0 op_or (fun _ _ _ _ => .int _) (fun _ _ => rfl) fun d e h => by unfold gBit; split; exact (h _ _ ⟨rfl, rfl⟩).elim; rfl
theorem o_xor : OpD X E (binaryOp .BitXor) (ld2 (gBit Builtin.bitXor)) := .ints0 op_xor (fun _ _ _ _ => .int _) (fun _ _ => rfl) fun d e h => by unfold gBit; split; exact (h _ _ ⟨rfl, rfl⟩).elim; rfl
theorem o_le : OpD X E (compareOp .LtE) (ld2 (gCmp fun i j => decide (i ≤ j))) := .ints0 op_le (fun _ _ _ _ => .bl _) (fun _ _ => rfl) fun d e h => by unfold gCmp; split; exact (h _ _ ⟨rfl, rfl⟩).elim; rfl
theorem o_gt : OpD X E (compareOp .Gt) (ld2 (gCmp fun i j => decide (j < i))) := .ints0 op_gt (fun _ _ _ _ => .bl _) (fun _ _ => rfl) fun d e h => by unfold gCmp; split; exact (h _ _ ⟨rfl, rfl⟩).elim; rfl
theorem o_ge : OpD X E (compareOp .GtE) (ld2 (gCmp fun i j => decide (j ≤ i))) := .ints0 op_ge (fun _ _ _ _ => .bl _) (fun _ _ => rfl) fun d e h => by unfold gCmp; split; exact (h _ _ ⟨rfl, rfl⟩).elim; rfl
theorem o_eq (o : XO X E k) : OpD X E (compareOp .Eq) (ld2 gEq) := .of fun pins s σ H x y v u Q F ι μ d e I rx ry hr lx ly hp => by
  have hD : gEq d e = gEqD d e → wpAny (model X.prog X.w) X.A (compareOp .Eq v u) (EP X pins σ Q) X.xe s := fun e1 => by
    rw [e1] at hp
    unfold gEqD at hp
    cases hs : shp d && shp e with
    | false => rw [hs] at hp; exact hp.elim
    | true =>
      rw [hs] at hp
      rw [Bool.and_eq_true] at hs
      exact op_eqD o.room.units pins s σ H x y v u Q I rx ry ⟨_, _, lx.dp hr.sub (shp_ok hs.1), ly.dp hr.sub (shp_ok hs.2), shp_shaped hs.1, shp_shaped hs.2, Post.pure hp hr _ (.bl _)⟩
  cases lx with
  | str a =>
    cases ly with
    | str b =>
      have hp : Post X.K X.mg E (M.pure (T.bl (decide (a = b))) μ) F ι H (wT X.K Q) := hp
      have e : decide (V.str a = V.str b) = decide (a = b) := by by_cases h : a = b <;> simp [h]
      refine op_eq pins s σ H _ _ v u Q I rx ry ⟨rfl, ?_⟩
      rw [e]
      exact Post.pure hp hr _ (.bl _)
    | _ => exact hD rfl
  | _ => exact hD (by cases ly <;> rfl)
theorem o_ne (o : XO X E k) : OpD X E (compareOp .NotEq) (ld2 gNe) := .of fun pins s σ H x y v u Q F ι μ d e I rx ry hr lx ly hp => by
  have hD : gNe d e = gNeD d e → wpAny (model X.prog X.w) X.A (compareOp .NotEq v u) (EP X pins σ Q) X.xe s := fun e1 => by
    rw [e1] at hp
    unfold gNeD at hp
    cases hs : shp d && shp e with
    | false => rw [hs] at hp; exact hp.elim
    | true =>
      rw [hs] at hp
      rw [Bool.and_eq_true] at hs
      exact op_neD o.room.units pins s σ H x y v u Q I rx ry ⟨_, _, lx.dp hr.sub (shp_ok hs.1), ly.dp hr.sub (shp_ok hs.2), shp_shaped hs.1, shp_shaped hs.2, Post.pure hp hr _ (.bl _)⟩
  cases lx with
  | str a =>
    cases ly with
    | str b =>
      have hp : Post X.K X.mg E (M.pure (T.bl (!decide (a = b))) μ) F ι H (wT X.K Q) := hp
      have e : decide (V.str a = V.str b) = decide (a = b) := by by_cases h : a = b <;> simp [h]
      refine op_ne pins s σ H _ _ v u Q I rx ry ⟨rfl, ?_⟩
      rw [e]
      exact Post.pure hp hr _ (.bl _)
    | _ => exact hD rfl
  | _ => exact hD (by cases ly <;> rfl)
theorem o_add : OpD X E (binaryOp .Add) (ld2 gAdd) := .of fun pins s σ H x y v u Q F ι μ d e I rx ry hr lx ly hp => by
  unfold gAdd at hp
  split at hp
  · cases lx; cases ly
    exact op_add pins s σ H _ _ v u Q I rx ry ⟨_, _, rfl, rfl, Post.pure hp hr _ (.int _)⟩
  · rename_i i b
    cases lx; cases ly
    refine op_add_ib pins s σ H _ _ v u Q I rx ry ⟨_, _, rfl, rfl, ?_⟩
    have q := Post.pure hp hr
    cases b <;> exact q _ (.int _)
  · cases lx; cases ly
    cases hz : fits _ with
    | false => rw [hz] at hp; exact hp.elim
    | true =>
      rw [hz] at hp
      exact op_add_str pins s σ H _ _ v u Q I rx ry ⟨_, _, rfl, rfl, fits_le hz, Post.pure hp hr _ (.str _)⟩
  · cases lx with
    | lst ha ra =>
      cases ly with
      | lst hb rb =>
        cases hz : fits _ with
        | false => rw [hz] at hp; exact hp.elim
        | true =>
          rw [hz] at hp
          refine op_cat pins s σ H _ _ v u Q I rx ry ⟨_, _, _, _, rfl, rfl, ha, hb, ?_, fun p np => ?_⟩
          · rw [ra.length, rb.length]; exact fits_le hz
          · obtain ⟨x2, r2⟩ := hr.newF (u := .lst _) np (fun a z => upd_ne z) upd_same
            exact hp _ _ _ x2 r2 _ (.lst upd_same ((ra.append rb).ext x2))
  · rename_i xs ys
    cases lx with
    | @tup a vs _ ha ra =>
      cases ly with
      | @tup b ws _ hb rb =>
        cases hz : fits _ with
        | false => rw [hz] at hp; exact hp.elim
        | true =>
          rw [hz] at hp
          refine op_catA pins s σ H _ _ v u Q I rx ry ⟨_, _, _, _, rfl, rfl, SqT.of (hr.sub _ _ ha), SqT.of (hr.sub _ _ hb), ?_, fun e => ?_, fun e1 e2 => ?_, fun _ _ p np => ?_⟩
          · rw [ra.length, rb.length]; exact fits_le hz
          · subst e
            cases ra
            exact Post.pure (a := T.tup ([] ++ ys)) hp hr _ (.tup hb rb)
          · subst e2
            cases rb
            exact Post.pure (a := T.tup (xs ++ [])) hp hr _ (.tup ha (by rw [List.append_nil]; exact ra))
          · obtain ⟨x2, r2⟩ := hr.newF (u := .tup _) np (fun a z => upd_ne z) upd_same
            exact hp _ _ _ x2 r2 _ (.tup upd_same ((ra.append rb).ext x2))
  · exact hp.elim
end
end TL

set_option maxHeartbeats 4000000
namespace TL
open PySem PySem.Spec PyProof.Rows L2
variable [Tb]
theorem mulSame (l : Addr) (items : Array Value) (n : Nat) (dd : Option Addr) (sl : Array (Option Value)) (x : Int) (u : Tok) (c0 : (decide (x < -(2 ^ 63)) || decide (x ≥ 2 ^ 63)) = false) (c1 : (items.isEmpty || x == 1) = true) :
    Meets (Builtin.«tuple.__mul__» ⟨[.ref l, .int x u], []⟩) (fun _ R s => s.heap.get? l = some { cls := .type "tuple", dict := dd, data := .seq items n, slots := sl } ∧ R (.ok (.ret (.ref l))) s) :=
  .of_wp fun prog w A R s h => by
    obtain ⟨hp, g, d, tk, os⟩ := s
    obtain ⟨hl, h⟩ := h
    have f1 := AutoSeq1.idx_int
    wp_walk using wpAny_loadPart' hl
    repeat (first
      | (refine wpAny_ite_false (decide_eq_false (by rw [c0]; exact Bool.false_ne_true)) ?_; wp_walk using wpAny_loadPart' hl)
      | (refine wpAny_ite_true (decide_eq_true c1) ?_; wp_walk using wpAny_loadPart' hl))
    exact ⟨_, rfl, h⟩
theorem mulNone (l : Addr) (items : Array Value) (n : Nat) (dd : Option Addr) (sl : Array (Option Value)) (x : Int) (u : Tok) (c0 : (decide (x < -(2 ^ 63)) || decide (x ≥ 2 ^ 63)) = false) (c1 : (items.isEmpty || x == 1) = false) (c2 : (decide (x ≤ 0) || items.isEmpty) = true) :
    Meets (Builtin.«tuple.__mul__» ⟨[.ref l, .int x u], []⟩) (fun _ R s => s.heap.get? l = some { cls := .type "tuple", dict := dd, data := .seq items n, slots := sl } ∧
      R (.ok (.ret (Value.ref s.heap.objs.size))) { s with heap := s.heap.push { cls := Value.type "tuple", data := Data.seq #[] }, toks := s.toks }) :=
  .of_wp fun prog w A R s h => by
    obtain ⟨hp, g, d, tk, os⟩ := s
    obtain ⟨hl, h⟩ := h
    have f1 := AutoSeq1.idx_int
    have hz : (#[] : Array Value).size ≤ sizeLine := Nat.zero_le _
    wp_walk using wpAny_loadPart' hl
    repeat (first
      | (refine wpAny_ite_false (decide_eq_false (by rw [c0]; exact Bool.false_ne_true)) ?_; wp_walk using wpAny_loadPart' hl)
      | (refine wpAny_ite_false (decide_eq_false (by rw [c1]; exact Bool.false_ne_true)) ?_; wp_walk using wpAny_loadPart' hl)
      | (refine wpAny_ite_true (decide_eq_true c2) ?_; wp_walk using wpAny_loadPart' hl)
      | (refine wpAny_ite_false (decide_eq_false (Nat.not_lt.mpr hz)) ?_; wp_walk using wpAny_loadPart' hl))
    exact ⟨_, rfl, h⟩

section
variable {X : Cx}
/-- a tuple any number of times -/
def rRepA (K : PySem.W.Frag) : R2 := fun x y H Q => ∃ a k xs, x = .ref a ∧ y = .int k ∧ SqT K H a xs ∧ -(2 ^ 63) ≤ k ∧ k < 2 ^ 63 ∧ xs.length * k.toNat ≤ sizeLine ∧
  ((xs = [] ∨ k = 1) → Q (.ref a) H) ∧ (¬ (xs = [] ∨ k = 1) → ∀ p, H p = none → Q (.ref p) (upd H p (.tup (List.replicate k.toNat xs).flatten)))
theorem op_repA : OpR X (binaryOp .Mult) (rRepA X.K) := by
  intro pins s σ H x y v u Q I rx ry hh
  obtain ⟨a, k, xs, rfl, rfl, hT, b1, b2, hz, q1, q2⟩ := hh
  obtain rfl : v = Value.ref a := rx
  obtain ⟨t, rfl⟩ := ry
  obtain ⟨its, rv, ⟨⟨cl, dd, dt, sl⟩, ho, hc, n, hd⟩, hs⟩ := I.tuple hT
  simp only at hc hd
  subst hc
  subst hd
  have hle := rv.length
  have hem : its.toArray.isEmpty = decide (xs = []) := by
    cases rv with
    | nil => rfl
    | cons _ _ => rfl
  have c0 : (decide (k < -(2 ^ 63)) || decide (k ≥ 2 ^ 63)) = false := by
    rw [decide_eq_false (by omega), decide_eq_false (by omega)]; rfl
  have go : ∀ {G : Value → Shared → Prop}, Meets (Builtin.«tuple.__mul__» ⟨[.ref a, .int k t], []⟩) (fun _ R s' => s'.heap.get? a = some { cls := .type "tuple", dict := dd, data := .seq its.toArray n, slots := sl } ∧ R (.ok (.ret (.ref a))) s') →
      G (.ref a) s → wpAny (model X.prog X.w) X.A (binaryOp .Mult (.ref a) (.int k t)) G X.xe s := fun {G} hm hG =>
    wpAny_binaryOp_repeat_ref (T := "tuple") (U := "int") (by decide) ⟨_, ho, rfl⟩ (fun z => typeIs_int z k t) noFill_tuple_mul F.fills_int_mul F.slot_int_rmul repeat_tuple F.slot_int_index.lookup
      (call_meets F.slot_int_rmul (typeIs_int s k t) F.entry_int_rmul (F.args_int_rmul_2 _ _) (int_rmul_tuple k t a its.toArray n dd sl) ⟨ho, rfl, ⟨_, ho, rfl⟩, call_meets F.slot_tuple_mul ⟨_, ho, rfl⟩ F.entry_tuple_mul (F.args_tuple_mul_2 _ _) hm ⟨ho, hG⟩⟩)
  have go2 : ∀ {G : Value → Shared → Prop} {its2 : Array Value}, Meets (Builtin.«tuple.__mul__» ⟨[.ref a, .int k t], []⟩) (fun _ R s' => s'.heap.get? a = some { cls := .type "tuple", dict := dd, data := .seq its.toArray n, slots := sl } ∧
        R (.ok (.ret (.ref s'.heap.objs.size))) { s' with heap := s'.heap.push { cls := .type "tuple", data := .seq its2 }, toks := s'.toks }) →
      G (.ref s.heap.objs.size) { s with heap := s.heap.push { cls := .type "tuple", data := .seq its2 }, toks := s.toks } → wpAny (model X.prog X.w) X.A (binaryOp .Mult (.ref a) (.int k t)) G X.xe s := fun {G its2} hm hG =>
    wpAny_binaryOp_repeat_ref (T := "tuple") (U := "int") (by decide) ⟨_, ho, rfl⟩ (fun z => typeIs_int z k t) noFill_tuple_mul F.fills_int_mul F.slot_int_rmul repeat_tuple F.slot_int_index.lookup
      (call_meets F.slot_int_rmul (typeIs_int s k t) F.entry_int_rmul (F.args_int_rmul_2 _ _) (int_rmul_tuple k t a its.toArray n dd sl) ⟨ho, rfl, ⟨_, ho, rfl⟩, call_meets F.slot_tuple_mul ⟨_, ho, rfl⟩ F.entry_tuple_mul (F.args_tuple_mul_2 _ _) hm ⟨ho, hG⟩⟩)
  by_cases hk : xs = [] ∨ k = 1
  · refine go (mulSame a its.toArray n dd sl k t c0 ?_) ⟨.ref a, H, I, rfl, q1 hk⟩
    rw [hem, Bool.or_eq_true]
    rcases hk with e | e
    · exact .inl (decide_eq_true e)
    · exact .inr (by rw [e]; rfl)
  · have hx : xs ≠ [] := fun e => hk (.inl e)
    have hk1 : k ≠ 1 := fun e => hk (.inr e)
    have c1 : (its.toArray.isEmpty || k == 1) = false := by
      rw [hem, decide_eq_false hx, Bool.false_or]
      exact beq_eq_false_iff_ne.mpr hk1
    have flen : (List.replicate k.toNat its).flatten.length ≤ sizeLine := by
      rw [PyProof.Rows.lm_len_rep_flat, ← hle, Nat.mul_comm]
      exact hz
    have fin : ∀ {its2 : List Value}, its2 = (List.replicate k.toNat its).flatten → EP X pins σ Q (.ref s.heap.objs.size) { s with heap := s.heap.push { cls := .type "tuple", data := .seq its2.toArray }, toks := s.toks } := fun {its2} e => by
      refine ⟨.ref _, _, I.laid (t' := s.toks) (o := .tup (List.replicate k.toNat xs).flatten) (fun b ob q => Heap.get?_push_of_some _ q) (Nat.le_refl _) ?_, rfl, q2 hk _ (I.hok.fresh (Nat.le_refl _))⟩
      subst e
      exact ⟨by rw [PyProof.Rows.lm_len_rep_flat, Nat.mul_comm]; exact hz, _, rv.rep k.toNat, IsTup.new _ _⟩
    by_cases hk0 : k ≤ 0
    · have e0 : k.toNat = 0 := by omega
      exact go2 (its2 := ([] : List Value).toArray) (mulNone a its.toArray n dd sl k t c0 c1 (by rw [decide_eq_true hk0]; rfl)) (fin (by rw [e0]; rfl))
    · have hi : its.toArray.isEmpty = false := by rw [hem]; exact decide_eq_false hx
      have c2 : (decide (k ≤ 0) || its.toArray.isEmpty) = false := by rw [hi, decide_eq_false hk0]; rfl
      have hmul : ((its.toArray.size : Nat) : Int) * k ≤ sizeLine := by
        have e1 : (k.toNat : Int) = k := Int.toNat_of_nonneg (by omega)
        rw [List.size_toArray, ← hle, ← e1]
        exact_mod_cast hz
      have hsl := sizeLine_eq
      have c4 : Builtin.Tuple.tupleTooMany (((its.toArray.size : Nat) : Int) * k) = false := by
        unfold Builtin.Tuple.tupleTooMany
        exact decide_eq_false (by omega)
      exact go2 (its2 := (List.replicate k.toNat its).flatten.toArray) (by
        have z := tuple_mulW a its.toArray n dd sl k t c0 c1 c2 (by omega) c4 (by rw [size_rep, List.size_toArray]; exact flen)
        rw [size_rep] at z
        exact z) (fin rfl)
end
end TL

/-! T layer 4: times, less, is, in, subscripts, slices. -/
namespace TL
open PySem PySem.Spec PyProof.Rows L2
variable [Tb]

theorem lt_le_line {n : Nat} (h : n ≤ 16777216) : n ≤ sizeLine := by rw [sizeLine_eq]; exact h
section
variable {K : PySem.W.Frag} {F : Hp} {ι : List Addr}
theorem Rps.rep {vs : List V} {ds : List T} (r : Rps K F ι vs ds) : ∀ n : Nat, Rps K F ι (List.replicate n vs).flatten (List.replicate n ds).flatten
  | 0 => .nil
  | n + 1 => by
    rw [List.replicate_succ, List.replicate_succ, List.flatten_cons, List.flatten_cons]
    exact r.append (Rps.rep r n)
end
/-- times: a tuple any number of times -/
def gMulA : T → T → M T
  | .int i, .int j => bif decide (lgs i j < 1000000) then M.pure (.int (i * j)) else M.no
  | .lst xs, .int k => bif decide (-(2 ^ 63) ≤ k) && decide (k < 2 ^ 63) && fits (xs.length * k.toNat) then M.pure (.lst (List.replicate k.toNat xs).flatten) else M.no
  | .tup xs, .int k => bif decide (-(2 ^ 63) ≤ k) && decide (k < 2 ^ 63) && fits (xs.length * k.toNat) then M.pure (.tup (bif xs.isEmpty || k == 1 then xs else (List.replicate k.toNat xs).flatten)) else M.no
  | _, _ => M.no
section
variable {X : Cx} {E : XK} {k : Nat}
theorem o_mul : OpD X E (binaryOp .Mult) (ld2 gMulA) := .of fun pins s σ H x y v u Q F ι μ d e I rx ry hr lx ly hp => by
  unfold gMulA at hp
  split at hp
  · rename_i i j
    cases lx; cases ly
    cases hz : decide (lgs i j < 1000000) with
    | false => rw [hz] at hp; exact hp.elim
    | true =>
      rw [hz] at hp
      exact op_mulW pins s σ H _ _ v u Q I rx ry ⟨_, _, rfl, rfl, of_decide_eq_true (p := lgs i j < 1000000) hz, Post.pure hp hr _ (.int _)⟩
  · rename_i xs n
    cases lx with
    | lst ha ra =>
      cases ly
      cases hz : (decide (-(2 ^ 63) ≤ n) && decide (n < 2 ^ 63) && fits (xs.length * n.toNat)) with
      | false => rw [hz] at hp; exact hp.elim
      | true =>
        rw [hz] at hp
        simp only [Bool.and_eq_true, decide_eq_true_eq] at hz
        refine op_rep pins s σ H _ _ v u Q I rx ry ⟨_, _, _, rfl, rfl, ha, hz.1.1, hz.1.2, by rw [ra.length]; exact fits_le hz.2, fun p np => ?_⟩
        obtain ⟨x2, r2⟩ := hr.newF (u := .lst _) np (fun a z => upd_ne z) upd_same
        exact hp _ _ _ x2 r2 _ (.lst upd_same ((ra.rep _).ext x2))
  · rename_i xs n
    cases lx with
    | @tup a vs _ ha ra =>
      cases ly
      cases hz : (decide (-(2 ^ 63) ≤ n) && decide (n < 2 ^ 63) && fits (xs.length * n.toNat)) with
      | false => rw [hz] at hp; exact hp.elim
      | true =>
        rw [hz] at hp
        simp only [Bool.and_eq_true, decide_eq_true_eq] at hz
        have hem : vs = [] ↔ xs = [] := by
          cases ra with
          | nil => simp
          | cons _ _ => simp
        refine op_repA pins s σ H _ _ v u Q I rx ry ⟨_, _, _, rfl, rfl, SqT.of (hr.sub _ _ ha), hz.1.1, hz.1.2, by rw [ra.length]; exact fits_le hz.2, fun c => ?_, fun c p np => ?_⟩
        · have e : (xs.isEmpty || n == 1) = true := by
            rw [Bool.or_eq_true]
            rcases c with c | c
            · exact .inl (by rw [hem.mp c]; rfl)
            · exact .inr (by rw [c]; rfl)
          rw [e] at hp
          exact Post.pure hp hr _ (.tup ha ra)
        · have e : (xs.isEmpty || n == 1) = false := by
            rw [Bool.or_eq_false_iff]
            refine ⟨?_, beq_eq_false_iff_ne.mpr fun z => c (.inr z)⟩
            cases xs with
            | nil => exact (c (.inl (hem.mpr rfl))).elim
            | cons _ _ => rfl
          rw [e] at hp
          obtain ⟨x2, r2⟩ := hr.newF (u := .tup _) np (fun a z => upd_ne z) upd_same
          exact hp _ _ _ x2 r2 _ (.tup upd_same ((ra.rep _).ext x2))
  · exact hp.elim
theorem compareLt_eq (a b : Value) : compareOp .Lt a b = richCompare .Lt a b := by first | rfl | (unfold compareOp; rfl)
theorem o_lt (o : XO X E k) : OpD X E (compareOp .Lt) (ld2 gLt) := .of fun pins s σ H x y v u Q F ι μ d e I rx ry hr lx ly hp => by
  unfold gLt at hp
  split at hp
  · cases lx; cases ly
    exact op_lt pins s σ H _ _ v u Q I rx ry ⟨_, _, rfl, rfl, Post.pure hp hr _ (.bl _)⟩
  · exact hp.elim
  · exact hp.elim
  · cases hz : (shp d && shp e && PySem.W.alike (toD d) (toD e) && notNon d) with
    | false => rw [hz] at hp; exact hp.elim
    | true =>
      rw [hz] at hp
      simp only [Bool.and_eq_true] at hz
      obtain ⟨as, r1⟩ := Dp.reads I _ x v (lx.dp hr.sub (shp_ok hz.1.1.1)) rx
      obtain ⟨bs, r2⟩ := Dp.reads I _ y u (ly.dp hr.sub (shp_ok hz.1.1.2)) ry
      have nn : toD d ≠ .none := by
        intro z
        have h1 := shp_ok hz.1.1.1
        cases d <;> simp [toD] at z
        · simp [notNon] at hz
        · simp [okT] at h1
        · simp [okT] at h1
        · simp [okT] at h1
        · simp [okT] at h1
      rw [compareLt_eq]
      refine PySem.W.rcLt_alike _ _ X.A s v u as bs r1 r2 hz.1.2 nn ?_ X.prog X.w _ _ ⟨.bl _, H, I, rfl, Post.pure hp hr _ (.bl _)⟩
      exact SeqAt.room_of_shaped (shp_shaped hz.1.1.1) o.room.units
theorem o_is : OpD X E (compareOp .Is) (ld2 gIs) := .of fun pins s σ H x y v u Q F ι μ d e I rx ry hr lx ly hp => by
  unfold gIs at hp
  split at hp
  · cases ly
    refine op_isN pins s σ H _ _ v u Q I rx ry ⟨rfl, ?_⟩
    have q := Post.pure hp hr
    cases lx <;> exact q _ (.bl _)
  · cases lx; cases ly
    refine op_is_bl pins s σ H _ _ v u Q I rx ry ⟨_, _, rfl, rfl, ?_⟩
    have q := Post.pure hp hr _ (.bl _)
    rw [Bool.beq_eq_decide_eq] at q
    exact q
  · exact hp.elim
theorem o_isN : OpD X E (compareOp .IsNot) (ld2 gIsN) := .of fun pins s σ H x y v u Q F ι μ d e I rx ry hr lx ly hp => by
  unfold gIsN at hp
  split at hp
  · cases ly
    refine op_notN pins s σ H _ _ v u Q I rx ry ⟨rfl, ?_⟩
    have q := Post.pure hp hr
    cases lx <;> exact q _ (.bl _)
  · cases lx; cases ly
    refine op_isnot_bl pins s σ H _ _ v u Q I rx ry ⟨_, _, rfl, rfl, ?_⟩
    have q := Post.pure hp hr _ (.bl _)
    rw [Bool.beq_eq_decide_eq] at q
    exact q
  · exact hp.elim
theorem u_neg : UnD X E (unaryOp .USub) (fun x => M.bind (ld x) gNeg) := by
  intro pins s σ H x v Q I rx hh
  obtain ⟨F, ι, μ, d, hr, hx, hp⟩ := hh
  obtain ⟨d', lx, hp⟩ := ld_post hr hx hp
  unfold gNeg at hp
  split at hp
  · cases lx
    exact un_neg pins s σ H _ v Q I rx ⟨_, rfl, Post.pure hp hr _ (.int _)⟩
  · exact hp.elim
end

/-! ### dicts -/
def lookP (kvs : List (T × T)) (k : Key ⊕ List Key) : Option T := (kvs.find? fun p => decide (keyOf p.1 = some k)).map (·.2)
def dGet (tk : Bool) (kvs : List (T × T)) (y : T) : Option (Option T) := match keyOf y with
  | some (.inl k) => bif tk then none else some (lookP kvs (.inl k))
  | some (.inr ks) => bif tk then some (lookP kvs (.inr ks)) else none
  | none => none
theorem key1_keyT (k : Key) : key1 (keyT k) = some k := by cases k <;> rfl
theorem keyOf_keyT (k : Key) : keyOf (keyT k) = some (.inl k) := by cases k <;> rfl
theorem keysOf_map : ∀ ks : List Key, keysOf (ks.map keyT) = some ks
  | [] => rfl
  | k :: ks => by simp only [List.map_cons, keysOf, key1_keyT, keysOf_map ks]
theorem keyOf_tup (ks : List Key) : keyOf (.tup (ks.map keyT)) = some (.inr ks) := by simp only [keyOf, keysOf_map, Option.map_some]
theorem key1_some {d : T} {k : Key} (h : key1 d = some k) : d = keyT k := by
  unfold key1 at h
  split at h <;> first | (cases h; rfl) | cases h
theorem keysOf_some : ∀ {ds : List T} {ks : List Key}, keysOf ds = some ks → ds = ks.map keyT
  | [], ks, h => by cases h; rfl
  | d :: ds, ks, h => by
    simp only [keysOf] at h
    split at h
    · rename_i k r h1 h2
      cases h
      rw [key1_some h1, keysOf_some h2]
      rfl
    · cases h
section
variable {K : PySem.W.Frag} {F : Hp} {ι : List Addr}
theorem Rpk.look : ∀ {kvs : List (Key × V)} {ps : List (T × T)} (k : Key), Rpk K F ι kvs ps → (valV kvs k = none ∧ lookP ps (.inl k) = none) ∨ ∃ v d, valV kvs k = some v ∧ lookP ps (.inl k) = some d ∧ Rp K F ι v d
  | _, _, k, .nil => .inl ⟨rfl, rfl⟩
  | _, _, k, @Rpk.cons _ _ _ k' v vs d ds r t => by
    by_cases e : k' = k
    · subst e
      refine .inr ⟨v, d, valV_pos rfl, ?_, r⟩
      simp [lookP, List.find?_cons, keyOf_keyT]
    · have e2 : ¬ (keyOf (keyT k') = some (.inl k)) := by
        rw [keyOf_keyT]
        intro z
        cases z
        exact e rfl
      have e3 : lookP ((keyT k', d) :: ds) (.inl k) = lookP ds (.inl k) := by simp [lookP, List.find?_cons, e2]
      rw [valV_neg (p := (k', v)) e, e3]
      exact Rpk.look k t
theorem Rpt.look : ∀ {kvs : List (List Key × V)} {ps : List (T × T)} (k : List Key), Rpt K F ι kvs ps → (valV kvs k = none ∧ lookP ps (.inr k) = none) ∨ ∃ v d, valV kvs k = some v ∧ lookP ps (.inr k) = some d ∧ Rp K F ι v d
  | _, _, k, .nil => .inl ⟨rfl, rfl⟩
  | _, _, k, @Rpt.cons _ _ _ k' v vs d ds r t => by
    by_cases e : k' = k
    · subst e
      refine .inr ⟨v, d, valV_pos rfl, ?_, r⟩
      simp [lookP, List.find?_cons, keyOf_tup]
    · have e2 : ¬ (keyOf (.tup (k'.map keyT)) = some (.inr k)) := by
        rw [keyOf_tup]
        intro z
        cases z
        exact e rfl
      have e3 : lookP ((.tup (k'.map keyT), d) :: ds) (.inr k) = lookP ds (.inr k) := by simp [lookP, List.find?_cons, e2]
      rw [valV_neg (p := (k', v)) e, e3]
      exact Rpt.look k t
theorem Rp.key {v : V} {k : Key} (r : Rp K F ι v (keyT k)) : v = kV k := by
  cases k with
  | inl i => cases r; rfl
  | inr x => cases r; rfl
theorem Rps.keys : ∀ {ks : List Key} {vs : List V}, Rps K F ι vs (ks.map keyT) → vs = ks.map kV
  | [], _, h => by cases h; rfl
  | k :: ks, _, h => by
    cases h with
    | cons r t => rw [r.key, Rps.keys t]; rfl
end
section
variable {K : PySem.W.Frag} {F : Hp} {ι : List Addr} {H : Hp}
/-- what a dict answers of a key. A tuple that is a key must be tracked -/
theorem dget_of {a : Addr} {y : V} {tk : Bool} {ps : List (T × T)} {e : T} {o : Option T} (lx : Lp K F ι H (.ref a) (.dic tk ps)) (ly : Lp K F ι H y e) (h : dGet tk ps e = some o)
    (hF : All F H) :
    ∃ r : Option V, DGet H a y r ∧ ((r = none ∧ o = none) ∨ ∃ v d, r = some v ∧ o = some d ∧ Rp K F ι v d) := by
  unfold dGet at h
  cases hk : keyOf e with
  | none => rw [hk] at h; cases h
  | some kk =>
    rw [hk] at h
    cases kk with
    | inl k =>
      cases tk with
      | true => cases h
      | false =>
        cases h
        have ey : y = kV k := by
          cases ly with
          | int i => cases hk; rfl
          | str x => cases hk; rfl
          | tup ha ra =>
            simp only [keyOf] at hk
            rename_i ds
            cases h2 : keysOf ds with
            | none => rw [h2] at hk; cases hk
            | some q => rw [h2] at hk; cases hk
          | _ => cases hk
        cases lx with
        | dic hd rd =>
          rcases rd.look k with ⟨h1, h2⟩ | ⟨v, d, h1, h2, h3⟩
          · exact ⟨none, .inl ⟨_, k, hd, ey, h1.symm⟩, .inl ⟨rfl, h2⟩⟩
          · exact ⟨some v, .inl ⟨_, k, hd, ey, h1.symm⟩, .inr ⟨v, d, rfl, h2, h3⟩⟩
    | inr ks =>
      cases tk with
      | false => cases h
      | true =>
        cases h
        cases ly with
        | @tup b vs ds ha ra =>
          simp only [keyOf] at hk
          cases h2 : keysOf ds with
          | none => rw [h2] at hk; cases hk
          | some q =>
            rw [h2] at hk
            cases hk
            have eds := keysOf_some h2
            subst eds
            have evs := ra.keys
            subst evs
            have hb := hF _ _ ha
            cases lx with
            | dit hd rd =>
              rcases rd.look ks with ⟨h1, h2⟩ | ⟨v, d, h1, h2, h3⟩
              · exact ⟨none, .inr ⟨_, ks, b, hd, rfl, hb, h1.symm⟩, .inl ⟨rfl, h2⟩⟩
              · exact ⟨some v, .inr ⟨_, ks, b, hd, rfl, hb, h1.symm⟩, .inr ⟨v, d, rfl, h2, h3⟩⟩
        | int i => cases hk
        | str x => cases hk
        | _ => cases hk
end

/-! ### in -/
def inDs (x : T) (ys : List T) : M Bool := bif shp x && shp (.lst ys) then M.pure ((toDs ys).any fun z => PyData.eqv z (toD x)) else M.no
def gIn (neg : Bool) (x : T) : T → M T
  | .lst ys => M.bind (inDs x ys) fun b => M.pure (.bl (b != neg))
  | .fls ys => M.bind (inDs x ys) fun b => M.pure (.bl (b != neg))
  | .tup ys => M.bind (inDs x ys) fun b => M.pure (.bl (b != neg))
  | .ftp ys => M.bind (inDs x ys) fun b => M.pure (.bl (b != neg))
  | .dic tk ps => match dGet tk ps x with
    | some o => M.pure (.bl (o.isSome != neg))
    | none => M.no
  | _ => M.no
section
variable {X : Cx} {E : XK} {k : Nat}
theorem shp_list {ys : List T} {d : T} (h : shp (.lst ys) = true) (e : toD d = .list (toDs ys) ∨ toD d = .tuple (toDs ys)) : SeqAt.shaped (.list (toDs ys)) = true := by
  have z := shp_shaped h
  simpa only [toD] using z
theorem in_run {neg : Bool} (o : XO X E k) {pins : List (Addr × Obj)} {s : Shared} {σ : L2.St} {H : Hp} {x y : V} {v u : Value} {Q : VK} {F : Hp} {ι : List Addr} {μ : Store} {d e : T} (I : Inv X pins σ H s) (rx : RelV x v) (ry : RelV y u) (hr : Rel X.K F ι μ H)
    (lx : Lp X.K F ι H x d) (ly : Lp X.K F ι H y e) (hp : Post X.K X.mg E (gIn neg d e μ) F ι H (wT X.K Q)) : wpAny (model X.prog X.w) X.A (compareOp (if neg then .NotIn else .In) v u) (EP X pins σ Q) X.xe s := by
  have seq : ∀ {ys : List T} {r : List Addr} (tp : Bool), Reads s.heap u (if tp then .tuple (toDs ys) else .list (toDs ys)) r → Post X.K X.mg E (M.bind (inDs d ys) (fun b => M.pure (T.bl (b != neg))) μ) F ι H (wT X.K Q) →
      wpAny (model X.prog X.w) X.A (compareOp (if neg then .NotIn else .In) v u) (EP X pins σ Q) X.xe s := fun {ys r} tp ru hp => by
    unfold M.bind inDs at hp
    cases hz : shp d && shp (.lst ys) with
    | false => rw [hz] at hp; exact hp.elim
    | true =>
      rw [hz] at hp
      rw [Bool.and_eq_true] at hz
      obtain ⟨bs, r1⟩ := Dp.reads I _ x v (lx.dp hr.sub (shp_ok hz.1)) rx
      have sd := shp_shaped hz.1
      have sl : SeqAt.shaped (.list (toDs ys)) = true := by simpa only [toD] using shp_shaped hz.2
      have h1 : PyData.canLayAll0 (toDs ys) = true := SeqAt.canLay_of_shaped sl
      have hu : X.A.units + 65 < cLine := by have := o.room.un; omega
      have h3 : X.A.units + 1 + min (PyData.depthAll (toDs ys)) (toD d).depth < cLine := room_in_shaped sd hu
      have q : EP X pins σ Q (.bool (((toDs ys).any fun z => PyData.eqv z (toD d)) != neg)) s := ⟨.bl _, H, I, rfl, Post.pure hp hr _ (.bl _)⟩
      cases neg with
      | false =>
        rw [Bool.bne_false] at q
        cases tp with
        | true => exact SeqAt.in_tuple_reads ru r1 h1 (SeqAt.canLay_of_shaped sd) h3 q
        | false => exact SeqAt.in_list_reads ru r1 h1 (SeqAt.canLay_of_shaped sd) h3 q
      | true =>
        rw [Bool.bne_true] at q
        cases tp with
        | true => exact SeqAt.notIn_tuple_reads ru r1 h1 (SeqAt.canLay_of_shaped sd) h3 q
        | false => exact SeqAt.notIn_list_reads ru r1 h1 (SeqAt.canLay_of_shaped sd) h3 q
  have okl : ∀ {ys : List T}, Post X.K X.mg E (M.bind (inDs d ys) (fun b => M.pure (T.bl (b != neg))) μ) F ι H (wT X.K Q) → okTs ys = true := fun {ys} hp => by
    unfold M.bind inDs at hp
    cases hz : shp d && shp (.lst ys) with
    | false => rw [hz] at hp; exact hp.elim
    | true =>
      rw [Bool.and_eq_true] at hz
      simpa [okT] using shp_ok hz.2
  cases ly with
  | lst ha ra =>
    have hp' : Post X.K X.mg E (M.bind (inDs d _) (fun b => M.pure (T.bl (b != neg))) μ) F ι H (wT X.K Q) := hp
    obtain ⟨as, r2⟩ := Dp.reads I _ _ u (Dp.lst (SqL.of ha) (ra.dps hr.sub (okl hp'))) ry
    exact seq false r2 hp'
  | fls ha ra =>
    have hp' : Post X.K X.mg E (M.bind (inDs d _) (fun b => M.pure (T.bl (b != neg))) μ) F ι H (wT X.K Q) := hp
    obtain ⟨as, r2⟩ := Dp.reads I _ _ u (Dp.lst (hr.sub.sub.seqL ha) (ra.dps hr.sub (okl hp'))) ry
    exact seq false r2 hp'
  | tup ha ra =>
    have hp' : Post X.K X.mg E (M.bind (inDs d _) (fun b => M.pure (T.bl (b != neg))) μ) F ι H (wT X.K Q) := hp
    obtain ⟨as, r2⟩ := Dp.reads I _ _ u (Dp.tup (SqT.of (hr.sub _ _ ha)) (ra.dps hr.sub (okl hp'))) ry
    exact seq true r2 hp'
  | ftp ha ra =>
    have hp' : Post X.K X.mg E (M.bind (inDs d _) (fun b => M.pure (T.bl (b != neg))) μ) F ι H (wT X.K Q) := hp
    obtain ⟨as, r2⟩ := Dp.reads I _ _ u (Dp.tup (hr.sub.sub.seqT ha.t) (ra.dps hr.sub (okl hp'))) ry
    exact seq true r2 hp'
  | dic ha ra =>
    rename_i a kvs ps
    have hp' : Post X.K X.mg E ((match dGet false ps d with
      | some o => M.pure (T.bl (o.isSome != neg))
      | none => M.no) μ) F ι H (wT X.K Q) := hp
    cases hg : dGet false ps d with
    | none => rw [hg] at hp'; exact hp'.elim
    | some ov =>
      rw [hg] at hp'
      obtain ⟨r, g, hro⟩ := dget_of (Lp.dic ha ra) lx hg hr.sub
      have es : r.isSome = ov.isSome := by rcases hro with ⟨e1, e2⟩ | ⟨v', d', e1, e2, _⟩ <;> rw [e1, e2] <;> rfl
      have q := Post.pure hp' hr _ (.bl _)
      rw [← es] at q
      obtain rfl : u = Value.ref a := ry
      cases neg with
      | false => exact d_in (hu_of o.room) I g rx fun s3 I3 => ⟨.bl r.isSome, H, I3, rfl, by rw [Bool.bne_false] at q; exact q⟩
      | true => exact d_notIn (hu_of o.room) I g rx fun s3 I3 => ⟨.bl (!r.isSome), H, I3, rfl, by rw [Bool.bne_true] at q; exact q⟩
  | dit ha ra =>
    rename_i a kvs ps
    have hp' : Post X.K X.mg E ((match dGet true ps d with
      | some o => M.pure (T.bl (o.isSome != neg))
      | none => M.no) μ) F ι H (wT X.K Q) := hp
    cases hg : dGet true ps d with
    | none => rw [hg] at hp'; exact hp'.elim
    | some ov =>
      rw [hg] at hp'
      obtain ⟨r, g, hro⟩ := dget_of (Lp.dit ha ra) lx hg hr.sub
      have es : r.isSome = ov.isSome := by rcases hro with ⟨e1, e2⟩ | ⟨v', d', e1, e2, _⟩ <;> rw [e1, e2] <;> rfl
      have q := Post.pure hp' hr _ (.bl _)
      rw [← es] at q
      obtain rfl : u = Value.ref a := ry
      cases neg with
      | false => exact d_in (hu_of o.room) I g rx fun s3 I3 => ⟨.bl r.isSome, H, I3, rfl, by rw [Bool.bne_false] at q; exact q⟩
      | true => exact d_notIn (hu_of o.room) I g rx fun s3 I3 => ⟨.bl (!r.isSome), H, I3, rfl, by rw [Bool.bne_true] at q; exact q⟩
  | non => exact hp.elim
  | bl _ => exact hp.elim
  | int _ => exact hp.elim
  | str _ => exact hp.elim
  | ref _ => exact hp.elim
  | ty _ => exact hp.elim
  | exn _ _ => exact hp.elim
theorem o_in (o : XO X E k) : OpD X E (compareOp .In) (ld2 (gIn false)) := .of fun pins s σ H x y v u Q F ι μ d e I rx ry hr lx ly hp => in_run (neg := false) o I rx ry hr lx ly hp
theorem o_notIn (o : XO X E k) : OpD X E (compareOp .NotIn) (ld2 (gIn true)) := .of fun pins s σ H x y v u Q F ι μ d e I rx ry hr lx ly hp => in_run (neg := true) o I rx ry hr lx ly hp
end

/-! ### subscripts -/
def ofO : Option T → M T
  | some d => M.pure d
  | none => M.no
def ofOO : Option (Option T) → M T
  | some (some d) => M.pure d
  | _ => M.no
def strAt (z : Str) (i : Int) : Option T := bif fits z.length then (atI z.cps.toList i).map fun c => .str ⟨#[c]⟩ else none
def gIx : T → T → M T
  | .lst xs, .int i => ofO (atI xs i)
  | .fls xs, .int i => ofO (atI xs i)
  | .tup xs, .int i => ofO (atI xs i)
  | .ftp xs, .int i => ofO (atI xs i)
  | .str z, .int i => ofO (strAt z i)
  | .dic tk ps, y => ofOO (dGet tk ps y)
  | _, _ => M.no
theorem sub_any {P : Program} {w : World} {A : Around} {E : Value → Shared → Prop} {s : Shared} {ve se : Expr} {o i : Value} {T id : String} {Q : Value → Shared → Prop} (hT : s.TypeIs o T)
    (hl : typeLookup (.type T) "__getitem__" = pure (some (.builtin id))) (h : wpAny (model P w) A (getItem o i) Q E s) (hs : subscripted se false o i = operate [o, i] (getItem o i)) : wpAny (model P w) A (subscriptTail ve se o i) Q E s := by
  have last : wpAny (model P w) A (subscripted se false o i) (fun r z => wpAny (model P w) A (letTemporaryGo ve o r >>= fun _ => pure r) Q E z) E s :=
    hs ▸ wpAny_operating (wpAny_mono h (fun r z hz => wpAny_bind (wpAny_letTemporaryGo (wpAny_pure hz))) (fun _ _ q => q))
  unfold subscriptTail
  refine wpAny_bind (by rw [getitemInPython_of_ne hT.not_modules]; refine wpAny_bind (wpAny_specialOf hT hl ?_); first | exact wpAny_pure (wpAny_bind last) | exact wpAny_bind (wpAny_pure (wpAny_bind last)) | exact wpAny_bind last)
section
variable {K : PySem.W.Frag} {F : Hp} {ι : List Addr}
theorem Rps.atI {vs : List V} {ds : List T} {i : Int} {d : T} (r : Rps K F ι vs ds) (h : L2.atI ds i = some d) : ∃ v, L2.atI vs i = some v ∧ Rp K F ι v d := by
  have el := r.length
  unfold L2.atI at h ⊢
  rw [el]
  cases hx : ixN ds.length i with
  | none => rw [hx] at h; cases h
  | some j =>
    rw [hx] at h
    obtain ⟨v, e, q⟩ := r.get (i := j) (d := d) (by simpa using h)
    exact ⟨v, by simpa using e, q⟩
end
section
variable {X : Cx} {E : XK} {k : Nat} {a b : Expr} {fa fb : Env → M T} {pos : Pos}
theorem ix_of (o : XO X E k) : IxR X (rT X E (ld2 gIx)) := by
  intro value slice pins s σ H x y v u Q I rx ry hh hs
  obtain ⟨F, ι, μ, d0, e0, hr, hx, hy, hp⟩ := hh
  obtain ⟨d, lx, hp1⟩ := ld_post hr hx hp
  obtain ⟨e, ly, hp⟩ := ld_post hr hy hp1
  have got : ∀ {o : Option T}, Post X.K X.mg E (ofO o μ) F ι H (wT X.K Q) → ∃ d, o = some d ∧ ∀ z, Rp X.K F ι z d → Q z H := fun {o} q => by
    cases o with
    | none => exact q.elim
    | some d => exact ⟨d, rfl, Post.pure q hr⟩
  have pick : ∀ {ds : List T} {vs : List V} {i : Int}, Post X.K X.mg E (ofO (atI ds i) μ) F ι H (wT X.K Q) → Rps X.K F ι vs ds → ∃ z, atI vs i = some z ∧ Q z H := fun q ra => by
    obtain ⟨d, hd, hq⟩ := got q
    obtain ⟨z, hz, rz⟩ := ra.atI hd
    exact ⟨z, hz, hq z rz⟩
  have dic : ∀ {tk : Bool} {ps : List (T × T)} {a : Addr}, x = .ref a → Lp X.K F ι H (.ref a) (.dic tk ps) → Post X.K X.mg E (ofOO (dGet tk ps e) μ) F ι H (wT X.K Q) → wpAny (model X.prog X.w) X.A (subscriptTail value slice v u) (EP X pins σ Q) X.xe s := fun {tk ps a} ex lz hp => by
    subst ex
    cases hd : dGet tk ps e with
    | none => rw [hd] at hp; exact hp.elim
    | some od =>
      cases od with
      | none => rw [hd] at hp; exact hp.elim
      | some d' =>
        rw [hd] at hp
        obtain ⟨r, g, hro⟩ := dget_of lz ly hd hr.sub
        rcases hro with ⟨_, e2⟩ | ⟨v', d'', e1, e2, rr⟩
        · cases e2
        · cases e2
          subst e1
          obtain rfl : v = Value.ref a := rx
          exact sub_any (dict_typeIs I g) PySem.F.slot_dict_getitem.lookup (d_getItem (hu_of o.room) I g ry fun w' s3 I3 rw' => ⟨v', H, I3, rw', Post.pure hp hr _ rr⟩) hs
  cases lx with
  | lst ha ra =>
    cases ly with
    | int i =>
      obtain ⟨z, hz, q⟩ := pick hp ra
      exact ix_list value slice pins s σ H _ _ v u Q I rx ry ⟨_, _, _, z, rfl, rfl, SqL.of ha, hz, q⟩ hs
    | _ => exact hp.elim
  | fls ha ra =>
    cases ly with
    | int i =>
      obtain ⟨z, hz, q⟩ := pick hp ra
      exact ix_list value slice pins s σ H _ _ v u Q I rx ry ⟨_, _, _, z, rfl, rfl, hr.sub.sub.seqL ha, hz, q⟩ hs
    | _ => exact hp.elim
  | tup ha ra =>
    cases ly with
    | int i =>
      obtain ⟨z, hz, q⟩ := pick hp ra
      exact ix_tup value slice pins s σ H _ _ v u Q I rx ry ⟨_, _, _, z, rfl, rfl, SqT.of (hr.sub _ _ ha), hz, q⟩ hs
    | _ => exact hp.elim
  | ftp ha ra =>
    cases ly with
    | int i =>
      obtain ⟨z, hz, q⟩ := pick hp ra
      exact ix_tup value slice pins s σ H _ _ v u Q I rx ry ⟨_, _, _, z, rfl, rfl, hr.sub.sub.seqT ha.t, hz, q⟩ hs
    | _ => exact hp.elim
  | str z =>
    cases ly with
    | int i =>
      have hp : Post X.K X.mg E (ofO (strAt z i) μ) F ι H (wT X.K Q) := hp
      obtain ⟨d, hd, hq⟩ := got hp
      unfold strAt at hd
      cases hz : fits z.length with
      | false => rw [hz] at hd; cases hd
      | true =>
        rw [hz] at hd
        obtain ⟨c, hc, e2⟩ := Option.map_eq_some_iff.mp (show (atI z.cps.toList i).map (fun c => T.str ⟨#[c]⟩) = some d from hd)
        subst e2
        exact ix_str value slice pins s σ H _ _ v u Q I rx ry ⟨_, _, _, rfl, rfl, fits_le hz, hc, hq _ (.str _)⟩ hs
    | _ => exact hp.elim
  | dic ha ra => exact dic rfl (.dic ha ra) hp
  | dit ha ra => exact dic rfl (.dit ha ra) hp
  | non => exact hp.elim
  | bl _ => exact hp.elim
  | int _ => exact hp.elim
  | ref _ => exact hp.elim
  | ty _ => exact hp.elim
  | exn _ _ => exact hp.elim
theorem d_ix (o : XO X E k) (ha : DE X E a fa) (hb : DE X E b fb) (hs : PlainIx b := by exact fun _ _ => rfl) : DE X E (.Subscript a b pos) (eOp (ld2 gIx) fa fb) :=
  pe_imp (pe_ix (ix_of o) ha hb hs) fun σ H Q ⟨F, ι, μ, ρ, hr, he, hp⟩ => At.e hr he hp fun F1 ι1 μ1 H1 v d x1 r1 rv p1 => At.e r1 (he.ext x1) p1 fun F2 ι2 μ2 H2 u e x2 r2 ru p2 => ⟨F2, ι2, μ2, d, e, r2, rv.ext x2, ru, p2⟩
end
end TL

/-! T layer 5: defs and their calls. -/
namespace TL
open PySem PySem.Spec PyProof.Rows L2
variable [Tb]

section
variable (P : Program) (w : World) (K : PySem.W.Frag) (mg : Str → Option Value) (base : Heap)
/-- a def does what m says of trees, at most k calls deep -/
def FnG (k : Nat) (f : Addr) (fd : FuncData) (ps : List Str) (m : List T → M T) : Prop :=
  ∀ (A : Around) (outer : List PySem.Env) (s : Shared) (H : Hp) (args : Args) (us : List Value) (vs : List V) (Q : VK) (E : XK) (F : Hp) (ι : List Addr) (μ : Store) (ds : List T),
    Room k A → A.guards = some [] → L2.Env0 P w K mg base A outer s H → BindsTo s fd args (ps.zip us) → Vals vs us → vs.length = ps.length → Rel K F ι μ H → Rps K F ι vs ds → Post K mg E (m ds μ) F ι H (wT K Q) →
    codeAny (model P w) A (.call (.ref f) args) (CR (L2.CX P w) outer P w H s Q E) s
/-- .. and stands at its name -/
def Def (x : Str) (k n : Nat) (m : List T → M T) : Prop :=
  ∃ f fd ps, mg x = some (.ref f) ∧ PySem.W.keepIn K (.ref f) = true ∧ Binds K fd ps [] ∧ ps.length = n ∧ FnG P w K mg base k f fd ps m
end
def eCall (n : Nat) (m : List T → M T) (fa : Env → M (List T)) : Env → M T := fun ρ => M.bind (fa ρ) fun ds => bif ds.length == n then m ds else M.no
def atEnd : Fl → M T
  | .rt d => M.pure d
  | .nx _ => M.pure .non
  | _ => M.no
def slots0 (n : Nat) (ds : List T) : Env := ds.map some ++ List.replicate (n - ds.length) none
def mkFn (n : Nat) (g : Env → M Fl) : List T → M T := fun ds => M.bind (g (slots0 n ds)) atEnd
section
variable {X : Cx} {E : XK} {k k' : Nat} {x : Str} {p pos : Pos} {e : Expr} {es : List Expr} {fa : Env → M (List T)} {n : Nat} {m : List T → M T} {f : Addr} {fd : FuncData} {ps : List Str}
theorem run_fnG {pins : List (Addr × Obj)} {σ : L2.St} {H : Hp} {s : Shared} {Q : VK} {us : List Value} {vs : List V} {F : Hp} {ι : List Addr} {μ : Store} {ds : List T} (G : FnG X.prog X.w X.K X.mg X.base k f fd ps m) (o : XO X E k') (hk : k ≤ k') (hb : Binds X.K fd ps [])
    (I : Inv X pins σ H s) (r : Vals vs us) (hl : vs.length = ps.length) (hr : Rel X.K F ι μ H) (rs : Rps X.K F ι vs ds) (hp : Post X.K X.mg E (m ds μ) F ι H (wT X.K Q)) : wpAny (model X.prog X.w) X.A (call (.ref f) us) (EP X pins σ Q) X.xe s := by
  have hb' := hb s us I.kIn (by rw [List.append_nil, ← r.length]; exact hl)
  rw [List.append_nil] at hb'
  refine wpAny_call (codeAny_mono (G X.A X.stack s H ⟨us, []⟩ us vs Q E F ι μ ds (o.room.mono hk) o.gd I.env0 hb' r hl hr rs hp) fun z s' hz => ?_)
  rcases z with e | fl
  · exact passes_call o.tk (fun _ _ _ _ q => q) pins σ H s e s' I hz
  · cases fl with
    | ret u => exact I.after hz
    | next => exact hz.elim
    | brk => exact hz.elim
    | cont => exact hz.elim
theorem d_call (D : Def X.prog X.w X.K X.mg X.base x k n m) (o : XO X E k') (ha : DA X E (e :: es) fa) (hk : k ≤ k' := by decide) (hg : Gl X x := by rfl) (hdb : (x == ("__debug__" : Str)) = false := by decide)
    (he : starEach (e :: es) X.env = (false, eval e X.env) :: starEach es X.env := by rfl) (hpl : (backTo pos (starEach es X.env)).any (·.1) = false := by rfl) : DE X E (.Call (.Name x p) (e :: es) [] pos) (eCall n m fa) := by
  obtain ⟨f, fd, ps, hm, kp, hb, hn, G⟩ := D
  refine ⟨fun pins s σ H Q I ⟨F, ι, μ, ρ, hr, hen, hp⟩ => wpAny_Call_Name_kw (ld_glob I hg hm ?_ hdb)⟩
  refine PySem.W.callWith_K (h₀ := X.base) I.ok.mod.kin kp (thn (ha.run pos pins s σ H (fun vs H1 => ∃ F1 ι1 μ1 ds, Rel X.K F1 ι1 μ1 H1 ∧ Rps X.K F1 ι1 vs ds ∧ vs.length = n ∧ Post X.K X.mg E (m ds μ1) F1 ι1 H1 (wT X.K Q)) I (At.a hr hen hp fun F1 ι1 μ1 H1 vs ds x1 r1 rs p1 => ?_)) fun us s1 hh => ?_) he hpl
  · cases hz : (ds.length == n) with
    | false => rw [hz] at p1; exact p1.elim
    | true => rw [hz] at p1; exact ⟨F1, ι1, μ1, ds, r1, rs, by rw [rs.length]; exact beq_iff_eq.mp hz, p1⟩
  · obtain ⟨vs, H1, I1, r, F1, ι1, μ1, ds, r1, rs, hl, p1⟩ := hh
    exact ⟨I1.kIn, run_fnG G o hk hb I1 r (hl.trans hn.symm) r1 rs p1⟩
theorem d_call0 (D : Def X.prog X.w X.K X.mg X.base x k 0 m) (o : XO X E k') (hk : k ≤ k' := by decide) (hg : Gl X x := by rfl) (hdb : (x == ("__debug__" : Str)) = false := by decide) : DE X E (.Call (.Name x p) [] [] pos) (eCall 0 m aNil) := by
  obtain ⟨f, fd, ps, hm, kp, hb, hn, G⟩ := D
  refine ⟨fun pins s σ H Q I ⟨F, ι, μ, ρ, hr, hen, hp⟩ => wpAny_Call_Name_kw (ld_glob I hg hm ?_ hdb)⟩
  exact PySem.W.callWith_K0 I.kIn kp (run_fnG (us := []) (vs := []) (ds := []) G o hk hb I .nil hn.symm hr .nil hp)
end
section
variable {P : Program} {w : World} {K : PySem.W.Frag} {mg : Str → Option Value} {base : Heap}
theorem ERp.begin {F : Hp} {ι : List Addr} {vs : List V} {ds : List T} {N : List Str} (r : Rps K F ι vs ds) : ERp K F ι (L2.start N vs) (slots0 N.length ds) := by
  have hl := r.length
  refine ⟨by simp [L2.start, slots0, hl], fun i d h => ?_⟩
  unfold slots0 at h
  by_cases hi : i < ds.length
  · rw [List.getElem?_append_left (by simpa using hi), List.getElem?_map] at h
    obtain ⟨d', e1, e2⟩ := Option.map_eq_some_iff.mp h
    cases e2
    obtain ⟨v, e3, q⟩ := r.get e1
    refine ⟨v, ?_, q⟩
    unfold L2.start
    rw [List.getElem?_append_left (by simpa [hl] using hi), List.getElem?_map, e3]
    rfl
  · rw [List.getElem?_append_right (by simpa using hi), List.getElem?_replicate] at h
    split at h <;> cases h
/-- a def by its body, its code object known -/
theorem fnGc {x qual : Str} {st : Stmt} {f : Addr} {fd : FuncData} {N ps : List Str} {k : Nat} {g : Env → M Fl} (Fu : Fun K x qual st f fd) (S : FnScope N ps (defScope st))
    (hb : ∀ (cdv : Value), fd.code = cdv → ∀ (A : Around) (outer : List PySem.Env) (s : Shared) (H : Hp) (E : XK), XO (cxOf (L2.CX P w) P w K mg base N qual (defScope st) f cdv A outer s H E) E k →
      DB (cxOf (L2.CX P w) P w K mg base N qual (defScope st) f cdv A outer s H E) E (defBody st) g) : FnG P w K mg base (k + 1) f fd ps (mkFn N.length g) := by
  obtain ⟨oc, od, kV, doc, pm, an, cdv, ct, osl, rfl, lk, hcd⟩ := Fu.ex
  intro A outer s H args us vs Q E F ι μ ds hro hgu e0 hbi rv hl hr rs hp
  have kIn : K.In s.heap := e0.mod.kin.keeps (fun b o e => (e0.bs b o e).1)
  have lim : s.heap.NoLimit := e0.mod.nolimit.keeps (fun b o e => (e0.bs b o e).1)
  refine codeAny_call_function hro.depth (kIn _ _ lk) rfl S.co S.gen rfl (PySem.W.codeRec_of kIn hcd) (hbi _ _ _ _ (wpAny_newFunctionEnv_cells S.kind (fun ⟨nm, vv⟩ hy => ?_) (fun env he s1 x => ?_)))
  · rcases S.par nm (List.of_mem_zip hy).1 with q | q
    · exact .inl q
    · exact .inr ⟨q, PySem.W.cellsFrom_some _ _ _ (.inl q)⟩
  · subst he
    refine ⟨lim.keeps x.toInCall.keep, codeAny_func ?_⟩
    have I : Inv (cxOf (L2.CX P w) P w K mg base N qual (defScope st) f cdv A outer s H E) [] (start N vs) H s1 := inv_start S hro.hd e0 hl rv x
    have o : XO (cxOf (L2.CX P w) P w K mg base N qual (defScope st) f cdv A outer s H E) E k := ⟨rfl, S.nd, hgu, hro.deeper _, takes_of rfl rfl rfl rfl, passes_of rfl⟩
    have fin : ∀ {σ' : L2.St} {H' : Hp} {s' : Shared} {v : V} {u : Value}, Inv (cxOf (L2.CX P w) P w K mg base N qual (defScope st) f cdv A outer s H E) [] σ' H' s' → RelV v u → Q v H' → CE outer P w H s Q u s' :=
      fun {σ' H' s' v u} J rvu q => ⟨v, H', J.os, J.bare, J.base, J.hok, rvu, q⟩
    refine wpAny_mono ((hb cdv rfl A outer s H E o).run [] s1 (start N vs) H { nx := fun _ H' => Q .non H', rt := Q } I
      ⟨F, ι, μ, slots0 N.length ds, hr, .begin rs, hp.bind fun F1 ι1 μ1 H1 fl x1 r1 p1 => ?_⟩) (fun fl s' hs => ?_) (fun _ _ hs => hs)
    · cases fl with
      | nx ρ' => exact fun _ _ => Post.pure (mg := mg) (E := E) (a := T.non) p1 r1 _ .non
      | rt d => exact Post.pure (mg := mg) (E := E) (a := d) p1 r1
      | bk ρ' => exact p1.elim
      | ct ρ' => exact p1.elim
    · cases fl with
      | ret u => obtain ⟨v, σ', H', J, q1, q2⟩ := hs; exact fin J q1 q2
      | next => obtain ⟨σ', H', J, q2⟩ := hs; exact fin (v := V.non) (u := Value.none) J rfl q2
      | brk => obtain ⟨_, _, _, q⟩ := hs; exact q.elim
      | cont => obtain ⟨_, _, _, q⟩ := hs; exact q.elim
/-- a def by its body -/
theorem fnG {x qual : Str} {st : Stmt} {f : Addr} {fd : FuncData} {N ps : List Str} {k : Nat} {g : Env → M Fl} (Fu : Fun K x qual st f fd) (S : FnScope N ps (defScope st))
    (hb : ∀ (cdv : Value) (A : Around) (outer : List PySem.Env) (s : Shared) (H : Hp) (E : XK), XO (cxOf (L2.CX P w) P w K mg base N qual (defScope st) f cdv A outer s H E) E k →
      DB (cxOf (L2.CX P w) P w K mg base N qual (defScope st) f cdv A outer s H E) E (defBody st) g) : FnG P w K mg base (k + 1) f fd ps (mkFn N.length g) := fnGc Fu S fun cdv _ => hb cdv
theorem def_mkC {x : Str} {st : Stmt} {f c : Addr} {fd : FuncData} {N ps : List Str} {k n : Nat} {g : Env → M Fl} {m : List T → M T} (gf : mg x = some (.ref f)) (Fu : Fun K x x st f fd) (hc : fd.code = .ref c) (S : FnScope N ps (defScope st)) (hn : ps.length = n)
    (hbi : ∀ (kV doc pm : Value) (an : Option Addr) (cdv ct : Value) (us : List Value), us.length = ps.length → bindArgs (PySem.W.fnOf x x (defArgs st) (defBody st) (defScope st) .none kV doc pm an cdv ct) ⟨us, []⟩ = pure (ps.zip us))
    (hb : ∀ (A : Around) (outer : List PySem.Env) (s : Shared) (H : Hp) (E : XK), XO (cxOf (L2.CX P w) P w K mg base N x (defScope st) f (.ref c) A outer s H E) E k →
      DB (cxOf (L2.CX P w) P w K mg base N x (defScope st) f (.ref c) A outer s H E) E (defBody st) g) (hm : m = mkFn N.length g) : Def P w K mg base x (k + 1) n m :=
  ⟨f, fd, ps, gf, Fu.kp, Fu.binds hbi, hn, by
    rw [hm]
    refine fnGc Fu S fun cdv e A outer s H E o => ?_
    obtain rfl : cdv = .ref c := e.symm.trans hc
    exact hb A outer s H E o⟩
theorem def_mk {x : Str} {st : Stmt} {f : Addr} {fd : FuncData} {N ps : List Str} {k n : Nat} {g : Env → M Fl} {m : List T → M T} (gf : mg x = some (.ref f)) (Fu : Fun K x x st f fd) (S : FnScope N ps (defScope st)) (hn : ps.length = n)
    (hbi : ∀ (kV doc pm : Value) (an : Option Addr) (cdv ct : Value) (us : List Value), us.length = ps.length → bindArgs (PySem.W.fnOf x x (defArgs st) (defBody st) (defScope st) .none kV doc pm an cdv ct) ⟨us, []⟩ = pure (ps.zip us))
    (hb : ∀ (cdv : Value) (A : Around) (outer : List PySem.Env) (s : Shared) (H : Hp) (E : XK), XO (cxOf (L2.CX P w) P w K mg base N x (defScope st) f cdv A outer s H E) E k →
      DB (cxOf (L2.CX P w) P w K mg base N x (defScope st) f cdv A outer s H E) E (defBody st) g) (hm : m = mkFn N.length g) : Def P w K mg base x (k + 1) n m :=
  ⟨f, fd, ps, gf, Fu.kp, Fu.binds hbi, hn, by rw [hm]; exact fnG Fu S hb⟩
end
end TL

/-! T layer 6: built-in functions on trees. -/
namespace TL
open PySem PySem.Spec PyProof.Rows L2
variable [Tb]

section
variable (X : Cx) (E : XK)
def rC (g : List T → M T) : List V → Hp → VK → Prop := fun xs H Q => ∃ F ι μ ds, Rel X.K F ι μ H ∧ Rps X.K F ι xs ds ∧ Post X.K X.mg E (g ds μ) F ι H (wT X.K Q)
abbrev CallD (f : Value) (g : List T → M T) : Prop := CallR X f (rC X E g)
/-- a new list's items -/
def rCL (g : List T → M (List T)) : List V → Hp → VK → Prop := fun xs H Q => ∃ F ι μ ds, Rel X.K F ι μ H ∧ Rps X.K F ι xs ds ∧ Post X.K X.mg E (g ds μ) F ι H
  (fun F' ι' _ H' es => ∀ p ys H'', (∀ a, a ≠ p → H'' a = H' a) → H' p = none → H'' p = some (.lst ys) → Rps X.K F' ι' ys es → Q (.ref p) H'')
abbrev CallL (f : Value) (g : List T → M (List T)) : Prop := CallR X f (rCL X E g)
end
def eB (g : List T → M T) (fa : Env → M (List T)) : Env → M T := fun ρ => M.bind (fa ρ) g
def lB (g : List T → M (List T)) (fa : Env → M (List T)) : Env → M (List T) := fun ρ => M.bind (fa ρ) g
section
variable {X : Cx} {E : XK} {x : Str} {p pos : Pos} {e : Expr} {es : List Expr} {fa : Env → M (List T)} {id : String} {g : List T → M T} {gl : List T → M (List T)}
theorem d_bi (hc : CallD X E (.builtin id) g) (hm : X.mg x = none) (hv : bootBuiltins x = some (.builtin id)) (ha : DA X E (e :: es) fa) (hg : Gl X x := by rfl) (hn : x ≠ "__name__" := by decide) (hdb : (x == ("__debug__" : Str)) = false := by decide)
    (he : starEach (e :: es) X.env = (false, eval e X.env) :: starEach es X.env := by rfl) (hpl : (backTo pos (starEach es X.env)).any (·.1) = false := by rfl) : DE X E (.Call (.Name x p) (e :: es) [] pos) (eB g fa) :=
  pe_imp (pe_callB hc hg hm hv ha hn hdb he hpl) fun σ H Q ⟨F, ι, μ, ρ, hr, hen, hp⟩ => At.a hr hen hp fun F1 ι1 μ1 H1 vs ds x1 r1 rs p1 => ⟨F1, ι1, μ1, ds, r1, rs, p1⟩
theorem d_bty {T₀ : String} (hc : CallD X E (.type T₀) g) (hm : X.mg x = none) (hv : bootBuiltins x = some (.type T₀)) (ha : DA X E (e :: es) fa) (hg : Gl X x := by rfl) (hn : x ≠ "__name__" := by decide) (hdb : (x == ("__debug__" : Str)) = false := by decide)
    (he : starEach (e :: es) X.env = (false, eval e X.env) :: starEach es X.env := by rfl) (hpl : (backTo pos (starEach es X.env)).any (·.1) = false := by rfl) : DE X E (.Call (.Name x p) (e :: es) [] pos) (eB g fa) :=
  pe_imp (pe_callTy hc hg hm hv ha hn hdb he hpl) fun σ H Q ⟨F, ι, μ, ρ, hr, hen, hp⟩ => At.a hr hen hp fun F1 ι1 μ1 H1 vs ds x1 r1 rs p1 => ⟨F1, ι1, μ1, ds, r1, rs, p1⟩
theorem l_bi (hc : CallL X E (.builtin id) gl) (hm : X.mg x = none) (hv : bootBuiltins x = some (.builtin id)) (ha : DA X E (e :: es) fa) (hg : Gl X x := by rfl) (hn : x ≠ "__name__" := by decide) (hdb : (x == ("__debug__" : Str)) = false := by decide)
    (he : starEach (e :: es) X.env = (false, eval e X.env) :: starEach es X.env := by rfl) (hpl : (backTo pos (starEach es X.env)).any (·.1) = false := by rfl) : DL X E (.Call (.Name x p) (e :: es) [] pos) (lB gl fa) :=
  pe_imp (pe_callB hc hg hm hv ha hn hdb he hpl) fun σ H Q ⟨F, ι, μ, ρ, hr, hen, hp⟩ => At.a hr hen hp fun F1 ι1 μ1 H1 vs ds x1 r1 rs p1 => ⟨F1, ι1, μ1, ds, r1, rs, p1⟩
theorem l_bty {T₀ : String} (hc : CallL X E (.type T₀) gl) (hm : X.mg x = none) (hv : bootBuiltins x = some (.type T₀)) (ha : DA X E (e :: es) fa) (hg : Gl X x := by rfl) (hn : x ≠ "__name__" := by decide) (hdb : (x == ("__debug__" : Str)) = false := by decide)
    (he : starEach (e :: es) X.env = (false, eval e X.env) :: starEach es X.env := by rfl) (hpl : (backTo pos (starEach es X.env)).any (·.1) = false := by rfl) : DL X E (.Call (.Name x p) (e :: es) [] pos) (lB gl fa) :=
  pe_imp (pe_callTy hc hg hm hv ha hn hdb he hpl) fun σ H Q ⟨F, ι, μ, ρ, hr, hen, hp⟩ => At.a hr hen hp fun F1 ι1 μ1 H1 vs ds x1 r1 rs p1 => ⟨F1, ι1, μ1, ds, r1, rs, p1⟩
end

/-- one argument, read -/
def g1 (g : T → M T) : List T → M T
  | [d] => M.bind (ld d) g
  | _ => M.no
def g2 (g : T → T → M T) : List T → M T
  | [d, e] => M.bind (ld d) fun d => M.bind (ld e) fun e => g d e
  | _ => M.no
section
variable {X : Cx} {E : XK} {k : Nat}
theorem CallD.one {f : Value} {g : T → M T} (h : ∀ (pins : List (Addr × Obj)) (s : Shared) (σ : L2.St) (H : Hp) (x : V) (us : List Value) (Q : VK) F ι μ d, Inv X pins σ H s → Vals [x] us → Rel X.K F ι μ H → Lp X.K F ι H x d →
    Post X.K X.mg E (g d μ) F ι H (wT X.K Q) → wpAny (model X.prog X.w) X.A (call f us) (EP X pins σ Q) X.xe s) : CallD X E f (g1 g) := by
  intro pins s σ H xs us Q I rv hh
  obtain ⟨F, ι, μ, ds, hr, rs, hp⟩ := hh
  unfold g1 at hp
  split at hp
  · cases rs with
    | cons r t =>
      cases t
      obtain ⟨d, lx, hp⟩ := ld_post hr r hp
      exact h pins s σ H _ us Q F ι μ d I rv hr lx hp
  · exact hp.elim
theorem CallD.two {f : Value} {g : T → T → M T} (h : ∀ (pins : List (Addr × Obj)) (s : Shared) (σ : L2.St) (H : Hp) (x y : V) (us : List Value) (Q : VK) F ι μ d e, Inv X pins σ H s → Vals [x, y] us → Rel X.K F ι μ H → Lp X.K F ι H x d → Lp X.K F ι H y e →
    Post X.K X.mg E (g d e μ) F ι H (wT X.K Q) → wpAny (model X.prog X.w) X.A (call f us) (EP X pins σ Q) X.xe s) : CallD X E f (g2 g) := by
  intro pins s σ H xs us Q I rv hh
  obtain ⟨F, ι, μ, ds, hr, rs, hp⟩ := hh
  unfold g2 at hp
  split at hp
  · cases rs with
    | cons r t =>
      cases t with
      | cons r2 t =>
        cases t
        obtain ⟨d, lx, hp⟩ := ld_post hr r hp
        obtain ⟨e, ly, hp⟩ := ld_post hr r2 hp
        exact h pins s σ H _ _ us Q F ι μ d e I rv hr lx ly hp
  · exact hp.elim

def gLen : T → M T
  | .lst xs => M.pure (.int xs.length)
  | .fls xs => M.pure (.int xs.length)
  | .tup xs => M.pure (.int xs.length)
  | .ftp xs => M.pure (.int xs.length)
  | .dic _ kvs => M.pure (.int kvs.length)
  | .str z => bif fits z.length then M.pure (.int z.length) else M.no
  | _ => M.no
theorem Rpk.length {K : PySem.W.Frag} {F : Hp} {ι : List Addr} : ∀ {kvs : List (Key × V)} {ps : List (T × T)}, Rpk K F ι kvs ps → kvs.length = ps.length
  | _, _, .nil => rfl
  | _, _, .cons _ t => by simp [Rpk.length t]
theorem Rpt.length {K : PySem.W.Frag} {F : Hp} {ι : List Addr} : ∀ {kvs : List (List Key × V)} {ps : List (T × T)}, Rpt K F ι kvs ps → kvs.length = ps.length
  | _, _, .nil => rfl
  | _, _, .cons _ t => by simp [Rpt.length t]
theorem c_len : CallD X E (.builtin "len") (g1 gLen) := .one fun pins s σ H x us Q F ι μ d I rv hr lx hp => by
  cases lx with
  | lst ha ra =>
    refine call_len_seq pins s σ H _ us Q I rv ⟨_, _, rfl, .inl (SqL.of ha), ?_⟩
    rw [ra.length]
    exact Post.pure hp hr _ (.int _)
  | fls ha ra =>
    refine call_len_seq pins s σ H _ us Q I rv ⟨_, _, rfl, .inl (hr.sub.sub.seqL ha), ?_⟩
    rw [ra.length]
    exact Post.pure hp hr _ (.int _)
  | tup ha ra =>
    refine call_len_seq pins s σ H _ us Q I rv ⟨_, _, rfl, .inr (SqT.of (hr.sub _ _ ha)), ?_⟩
    rw [ra.length]
    exact Post.pure hp hr _ (.int _)
  | ftp ha ra =>
    refine call_len_seq pins s σ H _ us Q I rv ⟨_, _, rfl, .inr (hr.sub.sub.seqT ha.t), ?_⟩
    rw [ra.length]
    exact Post.pure hp hr _ (.int _)
  | dic ha ra =>
    obtain ⟨u, rfl, ru⟩ := vals1 rv
    cases ru
    refine d_len I ha fun t s' I' => ⟨.int _, H, I', ⟨t, rfl⟩, ?_⟩
    rw [ra.length]
    exact Post.pure hp hr _ (.int _)
  | dit ha ra =>
    obtain ⟨u, rfl, ru⟩ := vals1 rv
    cases ru
    obtain ⟨z, hd, ys, rel, dd⟩ := dt_rd I.hok ha
    have hl := Paired.length rel
    refine call_len_dictH hd dd (by rw [← hl]; rw [sizeLine_eq] at z; omega) ?_
    rw [← hl]
    refine ⟨.int _, H, I.tok _, ⟨_, rfl⟩, ?_⟩
    rw [ra.length]
    exact Post.pure hp hr _ (.int _)
  | str z =>
    have hp : Post X.K X.mg E ((bif fits z.length then M.pure (T.int z.length) else M.no) μ) F ι H (wT X.K Q) := hp
    cases hz : fits z.length with
    | false => rw [hz] at hp; exact hp.elim
    | true =>
      rw [hz] at hp
      exact call_len_str pins s σ H _ us Q I rv ⟨_, rfl, fits_le hz, Post.pure hp hr _ (.int _)⟩
  | non => exact hp.elim
  | bl _ => exact hp.elim
  | int _ => exact hp.elim
  | ref _ => exact hp.elim
  | ty _ => exact hp.elim
  | exn _ _ => exact hp.elim
def gInt : T → M T
  | .int i => M.pure (.int i)
  | .bl b => M.pure (.int (bif b then 1 else 0))
  | _ => M.no
theorem c_int : CallD X E (.type "int") (g1 gInt) := .one fun pins s σ H x us Q F ι μ d I rv hr lx hp => by
  cases lx with
  | int i => exact call_int1 pins s σ H _ us Q I rv (.inl ⟨_, rfl, Post.pure hp hr _ (.int _)⟩)
  | bl b =>
    refine call_int1 pins s σ H _ us Q I rv (.inr ⟨_, rfl, ?_⟩)
    have q := Post.pure hp hr
    cases b <;> exact q _ (.int _)
  | _ => exact hp.elim
def gAbs : T → M T
  | .int i => M.pure (.int (if i < 0 then -i else i))
  | _ => M.no
theorem c_abs : CallD X E (.builtin "abs") (g1 gAbs) := .one fun pins s σ H x us Q F ι μ d I rv hr lx hp => by
  cases lx with
  | int i => exact call_abs pins s σ H _ us Q I rv ⟨_, rfl, Post.pure hp hr _ (.int _)⟩
  | _ => exact hp.elim
def gMax2 : T → T → M T
  | .int i, .int j => M.pure (.int (if j > i then j else i))
  | _, _ => M.no
def gMin2 : T → T → M T
  | .int i, .int j => M.pure (.int (if j < i then j else i))
  | _, _ => M.no
theorem c_max2 (o : XO X E k) : CallD X E (.builtin "max") (g2 gMax2) := .two fun pins s σ H x y us Q F ι μ d e I rv hr lx ly hp => by
  unfold gMax2 at hp
  split at hp
  · cases lx; cases ly
    exact call_max2 o.calm pins s σ H _ us Q I rv ⟨_, _, rfl, Post.pure hp hr _ (.int _)⟩
  · exact hp.elim
theorem c_min2 (o : XO X E k) : CallD X E (.builtin "min") (g2 gMin2) := .two fun pins s σ H x y us Q F ι μ d e I rv hr lx ly hp => by
  unfold gMin2 at hp
  split at hp
  · cases lx; cases ly
    exact call_min2 o.calm pins s σ H _ us Q I rv ⟨_, _, rfl, Post.pure hp hr _ (.int _)⟩
  · exact hp.elim

/-! ### lists of ints, of bools -/
def intsOf : List T → Option (List Int)
  | [] => some []
  | .int i :: r => (intsOf r).map (i :: ·)
  | _ :: _ => none
def boolsOf : List T → Option (List Bool)
  | [] => some []
  | .bl b :: r => (boolsOf r).map (b :: ·)
  | _ :: _ => none
theorem Rps.ints {K : PySem.W.Frag} {F : Hp} {ι : List Addr} : ∀ {vs : List V} {ds : List T} {ns : List Int}, Rps K F ι vs ds → intsOf ds = some ns → vs = ns.map V.int
  | _, [], ns, h, e => by cases h; cases e; rfl
  | _, d :: ds, ns, h, e => by
    cases h with
    | cons r t =>
      cases d with
      | int i =>
        simp only [intsOf] at e
        obtain ⟨ms, e1, e2⟩ := Option.map_eq_some_iff.mp e
        subst e2
        cases r
        rw [Rps.ints t e1]
        rfl
      | _ => cases e
theorem Rps.bools {K : PySem.W.Frag} {F : Hp} {ι : List Addr} : ∀ {vs : List V} {ds : List T} {ns : List Bool}, Rps K F ι vs ds → boolsOf ds = some ns → vs = ns.map V.bl
  | _, [], ns, h, e => by cases h; cases e; rfl
  | _, d :: ds, ns, h, e => by
    cases h with
    | cons r t =>
      cases d with
      | bl i =>
        simp only [boolsOf] at e
        obtain ⟨ms, e1, e2⟩ := Option.map_eq_some_iff.mp e
        subst e2
        cases r
        rw [Rps.bools t e1]
        rfl
      | _ => cases e
theorem Rps.of_ints {K : PySem.W.Frag} {F : Hp} {ι : List Addr} : ∀ ns : List Int, Rps K F ι (ns.map V.int) (ns.map T.int)
  | [] => .nil
  | n :: ns => .cons (.int n) (Rps.of_ints ns)
/-- a list that may be read -/
theorem Lp.seq {K : PySem.W.Frag} {F : Hp} {ι : List Addr} {H : Hp} (hF : All F H) {x : V} {ds : List T} (h : Lp K F ι H x (.lst ds) ∨ Lp K F ι H x (.fls ds)) : ∃ a vs, x = .ref a ∧ SqL K H a vs ∧ Rps K F ι vs ds := by
  rcases h with h | h
  · cases h with | lst ha ra => exact ⟨_, _, rfl, SqL.of ha, ra⟩
  · cases h with | fls ha ra => exact ⟨_, _, rfl, hF.sub.seqL ha, ra⟩
def listOf : T → Option (List T)
  | .lst xs => some xs
  | .fls xs => some xs
  | _ => none
theorem listOf_lp {K : PySem.W.Frag} {F : Hp} {ι : List Addr} {H : Hp} (hF : All F H) {x : V} {d : T} {ds : List T} (lx : Lp K F ι H x d) (h : listOf d = some ds) : ∃ a vs, x = .ref a ∧ SqL K H a vs ∧ Rps K F ι vs ds := by
  cases lx with
  | lst ha ra => cases h; exact ⟨_, _, rfl, SqL.of ha, ra⟩
  | fls ha ra => cases h; exact ⟨_, _, rfl, hF.sub.seqL ha, ra⟩
  | _ => cases h
def onInts (d : T) (f : List Int → M T) : M T := match (listOf d).bind intsOf with
  | some ns => f ns
  | none => M.no
def onBools (d : T) (f : List Bool → M T) : M T := match (listOf d).bind boolsOf with
  | some ns => f ns
  | none => M.no
theorem onInts_lp {K : PySem.W.Frag} {mg : Str → Option Value} {F : Hp} {ι : List Addr} {H : Hp} {μ : Store} {Q : VK} (hF : All F H) {x : V} {d : T} {f : List Int → M T} (lx : Lp K F ι H x d) (hp : Post K mg E (onInts d f μ) F ι H (wT K Q)) :
    ∃ a ns, x = .ref a ∧ SqL K H a (ns.map V.int) ∧ Post K mg E (f ns μ) F ι H (wT K Q) := by
  unfold onInts at hp
  cases h1 : listOf d with
  | none => rw [h1] at hp; exact hp.elim
  | some ds =>
    rw [h1] at hp
    cases h2 : intsOf ds with
    | none => simp only [Option.bind_some, h2] at hp; exact hp.elim
    | some ns =>
      simp only [Option.bind_some, h2] at hp
      obtain ⟨a, vs, e1, e2, e3⟩ := listOf_lp hF lx h1
      rw [e3.ints h2] at e2
      exact ⟨a, ns, e1, e2, hp⟩
theorem onBools_lp {K : PySem.W.Frag} {mg : Str → Option Value} {F : Hp} {ι : List Addr} {H : Hp} {μ : Store} {Q : VK} (hF : All F H) {x : V} {d : T} {f : List Bool → M T} (lx : Lp K F ι H x d) (hp : Post K mg E (onBools d f μ) F ι H (wT K Q)) :
    ∃ a ns, x = .ref a ∧ SqL K H a (ns.map V.bl) ∧ Post K mg E (f ns μ) F ι H (wT K Q) := by
  unfold onBools at hp
  cases h1 : listOf d with
  | none => rw [h1] at hp; exact hp.elim
  | some ds =>
    rw [h1] at hp
    cases h2 : boolsOf ds with
    | none => simp only [Option.bind_some, h2] at hp; exact hp.elim
    | some ns =>
      simp only [Option.bind_some, h2] at hp
      obtain ⟨a, vs, e1, e2, e3⟩ := listOf_lp hF lx h1
      rw [e3.bools h2] at e2
      exact ⟨a, ns, e1, e2, hp⟩
def gSum (d : T) : M T := onInts d fun ns => M.pure (.int ns.sum)
theorem c_sum (o : XO X E k) : CallD X E (.builtin "sum") (g1 gSum) := .one fun pins s σ H x us Q F ι μ d I rv hr lx hp => by
  obtain ⟨a, ns, rfl, hs, hp⟩ := onInts_lp hr.sub lx hp
  exact cr_sum o.calm pins s σ H _ us Q I rv ⟨a, ns, rfl, hs, Post.pure hp hr _ (.int _)⟩
def gAll (d : T) : M T := onBools d fun bs => M.pure (.bl (bs.all id))
def gAny (d : T) : M T := onBools d fun bs => M.pure (.bl (bs.any id))
theorem c_all (o : XO X E k) : CallD X E (.builtin "all") (g1 gAll) := .one fun pins s σ H x us Q F ι μ d I rv hr lx hp => by
  obtain ⟨a, ns, rfl, hs, hp⟩ := onBools_lp hr.sub lx hp
  exact cr_all o.calm pins s σ H _ us Q I rv ⟨a, ns, rfl, hs, Post.pure hp hr _ (.bl _)⟩
theorem c_any (o : XO X E k) : CallD X E (.builtin "any") (g1 gAny) := .one fun pins s σ H x us Q F ι μ d I rv hr lx hp => by
  obtain ⟨a, ns, rfl, hs, hp⟩ := onBools_lp hr.sub lx hp
  exact cr_any o.calm pins s σ H _ us Q I rv ⟨a, ns, rfl, hs, Post.pure hp hr _ (.bl _)⟩
/-- the greatest, the least of ints -/
def gMax (d : T) : M T := onInts d fun ns => match ns with
  | [] => M.no
  | n :: r => M.pure (.int (r.foldl max n))
def gMin (d : T) : M T := onInts d fun ns => match ns with
  | [] => M.no
  | n :: r => M.pure (.int (r.foldl min n))
theorem foldl_max_spec : ∀ (r : List Int) (n m : Int), m ∈ n :: r → (∀ y, y ∈ n :: r → y ≤ m) → r.foldl max n = m
  | [], n, m, h, _ => by simp at h; exact h.symm
  | a :: r, n, m, h, hm => by
    show r.foldl max (max n a) = m
    have h1 := hm n (by simp)
    have h2 := hm a (by simp)
    refine foldl_max_spec r (max n a) m ?_ fun y hy => ?_
    · rcases List.mem_cons.mp h with e | h
      · subst e
        have : max m a = m := by omega
        rw [this]; simp
      · rcases List.mem_cons.mp h with e | h
        · subst e
          have : max n m = m := by omega
          rw [this]; simp
        · exact List.mem_cons_of_mem _ h
    · rcases List.mem_cons.mp hy with e | hy
      · subst e; omega
      · exact hm y (List.mem_cons_of_mem _ (List.mem_cons_of_mem _ hy))
theorem foldl_min_spec : ∀ (r : List Int) (n m : Int), m ∈ n :: r → (∀ y, y ∈ n :: r → m ≤ y) → r.foldl min n = m
  | [], n, m, h, _ => by simp at h; exact h.symm
  | a :: r, n, m, h, hm => by
    show r.foldl min (min n a) = m
    have h1 := hm n (by simp)
    have h2 := hm a (by simp)
    refine foldl_min_spec r (min n a) m ?_ fun y hy => ?_
    · rcases List.mem_cons.mp h with e | h
      · subst e
        have : min m a = m := by omega
        rw [this]; simp
      · rcases List.mem_cons.mp h with e | h
        · subst e
          have : min n m = m := by omega
          rw [this]; simp
        · exact List.mem_cons_of_mem _ h
    · rcases List.mem_cons.mp hy with e | hy
      · subst e; omega
      · exact hm y (List.mem_cons_of_mem _ (List.mem_cons_of_mem _ hy))
theorem c_max (o : XO X E k) : CallD X E (.builtin "max") (g1 gMax) := .one fun pins s σ H x us Q F ι μ d I rv hr lx hp => by
  obtain ⟨a, ns, rfl, hs, hp⟩ := onInts_lp hr.sub lx hp
  cases ns with
  | nil => exact hp.elim
  | cons n r =>
    refine cr_max o.calm pins s σ H _ us Q I rv ⟨a, n :: r, rfl, hs, by simp, fun m hm h => ?_⟩
    have q := Post.pure hp hr _ (.int _)
    rw [foldl_max_spec r n m hm h] at q
    exact q
theorem c_min (o : XO X E k) : CallD X E (.builtin "min") (g1 gMin) := .one fun pins s σ H x us Q F ι μ d I rv hr lx hp => by
  obtain ⟨a, ns, rfl, hs, hp⟩ := onInts_lp hr.sub lx hp
  cases ns with
  | nil => exact hp.elim
  | cons n r =>
    refine cr_min o.calm pins s σ H _ us Q I rv ⟨a, n :: r, rfl, hs, by simp, fun m hm h => ?_⟩
    have q := Post.pure hp hr _ (.int _)
    rw [foldl_min_spec r n m hm h] at q
    exact q
/-- two of max, min: one argument or two -/
def gMaxA : List T → M T
  | [d] => g1 gMax [d]
  | ds => g2 gMax2 ds
def gMinA : List T → M T
  | [d] => g1 gMin [d]
  | ds => g2 gMin2 ds

/-! ### tuple(..), list(..) -/
def seqOf : T → Option (List T)
  | .lst xs => some xs
  | .fls xs => some xs
  | .tup xs => some xs
  | .ftp xs => some xs
  | _ => none
theorem seqOf_lp {K : PySem.W.Frag} {F : Hp} {ι : List Addr} {H : Hp} (hF : All F H) {x : V} {d : T} {ds : List T} (lx : Lp K F ι H x d) (h : seqOf d = some ds) : ∃ a vs, x = .ref a ∧ (SqL K H a vs ∨ SqT K H a vs) ∧ Rps K F ι vs ds := by
  cases lx with
  | lst ha ra => cases h; exact ⟨_, _, rfl, .inl (SqL.of ha), ra⟩
  | fls ha ra => cases h; exact ⟨_, _, rfl, .inl (hF.sub.seqL ha), ra⟩
  | tup ha ra => cases h; exact ⟨_, _, rfl, .inr (SqT.of (hF _ _ ha)), ra⟩
  | ftp ha ra => cases h; exact ⟨_, _, rfl, .inr (hF.sub.seqT ha.t), ra⟩
  | _ => cases h
def gTuple : T → M T
  | .lst xs => M.pure (.tup xs)
  | .fls xs => M.pure (.tup xs)
  | .tup xs => M.pure (.tup xs)
  | .ftp xs => M.pure (.ftp xs)
  | _ => M.no
theorem c_tuple : CallD X E (.type "tuple") (g1 gTuple) := .one fun pins s σ H x us Q F ι μ d I rv hr lx hp => by
  cases lx with
  | lst ha ra =>
    refine call_tuple_of pins s σ H _ us Q I rv ⟨_, _, rfl, .inl ⟨SqL.of ha, fun p np => ?_⟩⟩
    obtain ⟨x2, r2⟩ := hr.newF (u := .tup _) np (fun a z => upd_ne z) upd_same
    exact hp _ _ _ x2 r2 _ (.tup upd_same (ra.ext x2))
  | fls ha ra =>
    refine call_tuple_of pins s σ H _ us Q I rv ⟨_, _, rfl, .inl ⟨hr.sub.sub.seqL ha, fun p np => ?_⟩⟩
    obtain ⟨x2, r2⟩ := hr.newF (u := .tup _) np (fun a z => upd_ne z) upd_same
    exact hp _ _ _ x2 r2 _ (.tup upd_same (ra.ext x2))
  | tup ha ra => exact call_tuple_of pins s σ H _ us Q I rv ⟨_, _, rfl, .inr ⟨SqT.of (hr.sub _ _ ha), Post.pure hp hr _ (.tup ha ra)⟩⟩
  | ftp ha ra => exact call_tuple_of pins s σ H _ us Q I rv ⟨_, _, rfl, .inr ⟨hr.sub.sub.seqT ha.t, Post.pure hp hr _ (.ftp ha ra)⟩⟩
  | _ => exact hp.elim
/-- list(..): the items of a new list -/
def glList : List T → M (List T)
  | [d] => M.bind (ld d) fun d => match seqOf d with
    | some xs => M.pure xs
    | none => M.no
  | _ => M.no
theorem CallL.one {f : Value} {g : T → M (List T)} {gl : List T → M (List T)} (hgl : ∀ ds, gl ds = (match ds with | [d] => M.bind (ld d) g | _ => M.no)) (h : ∀ (pins : List (Addr × Obj)) (s : Shared) (σ : L2.St) (H : Hp) (x : V) (us : List Value) (Q : VK) F ι μ d, Inv X pins σ H s → Vals [x] us → Rel X.K F ι μ H → Lp X.K F ι H x d →
    Post X.K X.mg E (g d μ) F ι H (fun F' ι' _ H' es => ∀ p ys H'', (∀ a, a ≠ p → H'' a = H' a) → H' p = none → H'' p = some (.lst ys) → Rps X.K F' ι' ys es → Q (.ref p) H'') → wpAny (model X.prog X.w) X.A (call f us) (EP X pins σ Q) X.xe s) : CallL X E f gl := by
  intro pins s σ H xs us Q I rv hh
  obtain ⟨F, ι, μ, ds, hr, rs, hp⟩ := hh
  rw [hgl] at hp
  split at hp
  · cases rs with
    | cons r t =>
      cases t
      obtain ⟨d, lx, hp⟩ := ld_post hr r hp
      exact h pins s σ H _ us Q F ι μ d I rv hr lx hp
  · exact hp.elim
theorem cl_list : CallL X E (.type "list") glList := .one (g := fun d => match seqOf d with
    | some xs => M.pure xs
    | none => M.no) (fun ds => by unfold glList; rfl) fun pins s σ H x us Q F ι μ d I rv hr lx hp => by
  cases h1 : seqOf d with
  | none => rw [h1] at hp; exact hp.elim
  | some xs =>
    rw [h1] at hp
    obtain ⟨a, vs, rfl, hs, ra⟩ := seqOf_lp hr.sub lx h1
    refine call_list_of pins s σ H _ us Q I rv ⟨a, vs, rfl, hs, fun p np => ?_⟩
    exact Post.pure hp hr p vs _ (fun a z => upd_ne z) np upd_same ra
end
end TL

/-! T layer 7: what is walked; for, while, comprehensions. -/
namespace TL
open PySem PySem.Spec PyProof.Rows L2
variable [Tb]

/-- a walk whose items are the trees ds -/
structure Wk (K : PySem.W.Frag) (F : Hp) (ι : List Addr) (J : It) (ds : List T) : Prop where
  go : ∀ i F' ι' μ' H', All F F' → Pre ι ι' → Rel K F' ι' μ' H' → i < ds.length → J.go i H'
  yld : ∀ i F' ι' μ' H' x H'', All F F' → Pre ι ι' → Rel K F' ι' μ' H' → i < ds.length → J.yld i H' x H'' → ∃ d F'', ds[i]? = some d ∧ Ext F' ι' H' F'' ι' H'' ∧ Rel K F'' ι' μ' H'' ∧ Rp K F'' ι' x d
  stop : ∀ i F' ι' μ' H', All F F' → Pre ι ι' → Rel K F' ι' μ' H' → ds.length ≤ i → J.stop i H'
def tI (K : PySem.W.Frag) (mg : Str → Option Value) (E : XK) (fi : Env → M (List T)) : TI := fun σ H R => ∃ F ι μ ρ, Rel K F ι μ H ∧ ERp K F ι σ ρ ∧ Post K mg E (fi ρ μ) F ι H (fun F' ι' _ H' ds => ∀ J, Wk K F' ι' J ds → R J H')
abbrev DI (X : Cx) (E : XK) (tg iter : Expr) (fi : Env → M (List T)) : Prop := PI X tg iter (tI X.K X.mg E fi)
theorem pi_imp {X : Cx} {tg e : Expr} {t u : TI} (h : PI X tg e t) (f : ∀ σ H R, u σ H R → t σ H R) : PI X tg e u := ⟨fun pins s σ H R I q => h.run pins s σ H R I (f σ H R q)⟩
theorem M.assoc {α β γ : Type} (a : M α) (b : α → M β) (c : β → M γ) : M.bind (M.bind a b) c = M.bind a fun x => M.bind (b x) c := by
  funext μ
  simp only [M.bind]
  cases a μ <;> rfl

/-! ### for -/
def forL (step : T → Env → M Fl) : List T → Env → M Fl
  | [], ρ => M.pure (.nx ρ)
  | x :: xs, ρ => M.bind (step x ρ) fun fl => match fl with
    | .nx ρ' => forL step xs ρ'
    | .ct ρ' => forL step xs ρ'
    | .bk ρ' => M.pure (.nx ρ')
    | .rt d => M.pure (.rt d)
def sFor (fi : Env → M (List T)) (h : T → Env → M Env) (g : Env → M Fl) : Env → M Fl := fun ρ => M.bind (fi ρ) fun ds => forL (fun d ρ => M.bind (h d ρ) g) ds ρ
section
variable {X : Cx} {E : XK} {k : Nat} {tg iter : Expr} {body : List Stmt} {vs : List Nat} {fi : Env → M (List T)} {h : T → Env → M Env} {g : Env → M Fl} {pos : Pos}
theorem s_for (o : XO X E k) (hi : DI X E tg iter fi) (hg : DG X E tg vs h) (hb : DB X E body g) (hs : ∀ x, foldedSetIterable iter X.env x = pure x := by intro _; rfl) : DS X E (.For tg iter body [] pos) (sFor fi h g) :=
  ps_imp (ps_for o.own o.calm hi hg hb hs) fun D σ H ⟨F, ι, μ, ρ, hr, he, hp⟩ => by
    refine ⟨F, ι, μ, ρ, hr, he, hp.bind fun F1 ι1 μ1 H1 ds x1 r1 p1 J wk => ?_⟩
    refine ⟨fun i m σ H => m = ds.length - i ∧ i ≤ ds.length ∧ ∃ F ι μ ρ, All F1 F ∧ Pre ι1 ι ∧ Rel X.K F ι μ H ∧ ERp X.K F ι σ ρ ∧ Post X.K X.mg E (forL (fun d ρ => M.bind (h d ρ) g) (ds.drop i) ρ μ) F ι H (wF X.K D),
      ⟨ds.length, rfl, Nat.zero_le _, F1, ι1, μ1, ρ, fun _ _ e => e, .refl _, r1, he.ext x1, p1⟩, ?_⟩
    rintro i m σ2 H2 ⟨rfl, hle, F2, ι2, μ2, ρ2, a2, b2, r2, e2, p2⟩
    by_cases hlt : i < ds.length
    · refine .inr ⟨wk.go i F2 ι2 μ2 H2 a2 b2 r2 hlt, fun σ' H' => ds.length - (i + 1) = ds.length - (i + 1) ∧ i + 1 ≤ ds.length ∧ ∃ F ι μ ρ, All F1 F ∧ Pre ι1 ι ∧ Rel X.K F ι μ H' ∧ ERp X.K F ι σ' ρ ∧
        Post X.K X.mg E (forL (fun d ρ => M.bind (h d ρ) g) (ds.drop (i + 1)) ρ μ) F ι H' (wF X.K D), fun σ' H' q => ⟨ds.length - (i + 1), by omega, q⟩, fun x H3 y => ?_⟩
      obtain ⟨d, F3, hd, x3, r3, rx⟩ := wk.yld i F2 ι2 μ2 H2 x H3 a2 b2 r2 hlt y
      have ed : ds.drop i = d :: ds.drop (i + 1) := by
        obtain ⟨hh, e⟩ := List.getElem?_eq_some_iff.mp hd
        rw [List.drop_eq_getElem_cons hh, e]
      rw [ed] at p2
      have p3 := p2.later x3
      simp only [forL] at p3
      rw [M.assoc] at p3
      refine ⟨F3, ι2, μ2, ρ2, d, r3, e2.ext x3, rx, p3.bind fun F4 ι4 μ4 H4 ρ4 x4 r4 p4 σ4 e4 _ => ⟨F4, ι4, μ4, ρ4, r4, e4, p4.bind fun F5 ι5 μ5 H5 fl x5 r5 p5 => ?_⟩⟩
      have a5 : All F1 F5 := fun a o e => x5.f _ _ (x4.f _ _ (x3.f _ _ (a2 _ _ e)))
      have b5 : Pre ι1 ι5 := b2.trans (x4.i.trans x5.i)
      cases fl with
      | nx ρ5 => exact fun σ5 e5 => ⟨rfl, hlt, F5, ι5, μ5, ρ5, a5, b5, r5, e5, p5⟩
      | ct ρ5 => exact fun σ5 e5 => ⟨rfl, hlt, F5, ι5, μ5, ρ5, a5, b5, r5, e5, p5⟩
      | bk ρ5 => exact fun σ5 e5 => Post.pure (mg := X.mg) (E := E) (a := Fl.nx ρ5) p5 r5 σ5 e5
      | rt d5 => exact Post.pure (mg := X.mg) (E := E) (a := Fl.rt d5) p5 r5
    · have e : ds.drop i = [] := List.drop_eq_nil_of_le (by omega)
      rw [e] at p2
      exact .inl ⟨wk.stop i F2 ι2 μ2 H2 a2 b2 r2 (by omega), Post.pure (mg := X.mg) (E := E) (a := Fl.nx ρ2) p2 r2 σ2 e2⟩

/-! ### while -/
def whileM (c : Env → M Bool) (g : Env → M Fl) : Nat → Env → M Fl
  | 0, _ => M.no
  | n + 1, ρ => M.bind (c ρ) fun b => bif b then M.bind (g ρ) (fun fl => match fl with
      | .nx ρ' => whileM c g n ρ'
      | .ct ρ' => whileM c g n ρ'
      | .bk ρ' => M.pure (.nx ρ')
      | .rt d => M.pure (.rt d)) else M.pure (.nx ρ)
theorem s_while (n : Nat) {c : Expr} {tc : Env → M Bool} (o : XO X E k) (hc : DT X E c tc) (hb : DB X E body g) : DS X E (.While c body [] pos) (whileM tc g n) :=
  ps_imp (ps_while o.own hc hb) fun D σ H ⟨F, ι, μ, ρ, hr, he, hp⟩ => by
    refine ⟨fun m σ H => ∃ F ι μ ρ, Rel X.K F ι μ H ∧ ERp X.K F ι σ ρ ∧ Post X.K X.mg E (whileM tc g m ρ μ) F ι H (wF X.K D), ⟨n, F, ι, μ, ρ, hr, he, hp⟩, ?_⟩
    rintro m σ2 H2 ⟨F2, ι2, μ2, ρ2, r2, e2, p2⟩
    cases m with
    | zero => exact p2.elim
    | succ m =>
      simp only [whileM] at p2
      refine At.t r2 e2 p2 fun F3 ι3 μ3 H3 b x3 r3 p3 => ?_
      cases b with
      | false => exact iteF (Post.pure (mg := X.mg) (E := E) (a := Fl.nx ρ2) p3 r3 σ2 (e2.ext x3))
      | true =>
        refine iteT ⟨fun σ' H' => ∃ F ι μ ρ, Rel X.K F ι μ H' ∧ ERp X.K F ι σ' ρ ∧ Post X.K X.mg E (whileM tc g m ρ μ) F ι H' (wF X.K D), fun σ' H' q => ⟨m, Nat.lt_succ_self m, q⟩, F3, ι3, μ3, ρ2, r3, e2.ext x3, p3.bind fun F5 ι5 μ5 H5 fl x5 r5 p5 => ?_⟩
        cases fl with
        | nx ρ5 => exact fun σ5 e5 => ⟨F5, ι5, μ5, ρ5, r5, e5, p5⟩
        | ct ρ5 => exact fun σ5 e5 => ⟨F5, ι5, μ5, ρ5, r5, e5, p5⟩
        | bk ρ5 => exact fun σ5 e5 => Post.pure (mg := X.mg) (E := E) (a := Fl.nx ρ5) p5 r5 σ5 e5
        | rt d5 => exact Post.pure (mg := X.mg) (E := E) (a := Fl.rt d5) p5 r5
end

/-! ### targets -/
def hName (i : Nat) : T → Env → M Env := fun d ρ => M.pure (ρ.set i (some d))
def hsNil : List T → Env → M Env
  | [], ρ => M.pure ρ
  | _ :: _, _ => M.no
def hsCons (h : T → Env → M Env) (hs : List T → Env → M Env) : List T → Env → M Env
  | d :: ds, ρ => M.bind (h d ρ) fun ρ' => hs ds ρ'
  | [], _ => M.no
def hTup (n : Nat) (hs : List T → Env → M Env) : T → Env → M Env := fun d ρ => match d with
  | .tup ds => bif ds.length == n then hs ds ρ else M.no
  | .ftp ds => bif ds.length == n then hs ds ρ else M.no
  | _ => M.no
section
variable {X : Cx} {E : XK} {k : Nat} {pos : Pos}
def tGs (K : PySem.W.Frag) (mg : Str → Option Value) (E : XK) (vs : List Nat) (h : List T → Env → M Env) : TGs := fun us σ H Q => ∃ F ι μ ρ ds, Rel K F ι μ H ∧ ERp K F ι σ ρ ∧ Rps K F ι us ds ∧ Post K mg E (h ds ρ μ) F ι H
  (fun F' ι' _ H' ρ' => ∀ σ', ERp K F' ι' σ' ρ' → wipe σ' vs = wipe σ vs → Q σ' H')
theorem pgs_imp {X : Cx} {es : List Expr} {t u : TGs} (h : PGs X es t) (f : ∀ v σ H Q, u v σ H Q → t v σ H Q) : PGs X es u := ⟨fun pins s σ H v w Q I r q => h.run pins s σ H v w Q I r (f v σ H Q q)⟩
theorem wipe_set_any : ∀ (ws : List Nat) (σ : L2.St) (j : Nat) (o : Option V), wipe (σ.set j o) ws = if j ∈ ws then wipe σ ws else (wipe σ ws).set j o
  | [], σ, j, o => by simp [wipe]
  | w :: ws, σ, j, o => by
    show (wipe (σ.set j o) ws).set w none = _
    rw [wipe_set_any ws]
    by_cases e : j = w
    · subst e
      rw [if_pos (show j ∈ j :: ws from List.mem_cons_self)]
      show _ = (wipe σ ws).set j none
      split
      · rfl
      · rw [List.set_set]
    · by_cases m : j ∈ ws
      · rw [if_pos m, if_pos (show j ∈ w :: ws from List.mem_cons_of_mem _ m)]
        rfl
      · rw [if_neg m, if_neg (show ¬ j ∈ w :: ws by simp [m, e])]
        show _ = ((wipe σ ws).set w none).set j o
        rw [List.set_comm _ _ (Ne.symm e)]
theorem wipe_set_self {σ : L2.St} {i : Nat} {o : Option V} {vs : List Nat} (h : i ∈ vs) : wipe (σ.set i o) vs = wipe σ vs := by rw [wipe_set_any, if_pos h]
theorem wipe_sub (σ : L2.St) (ws : List Nat) : ∀ vs : List Nat, (∀ v ∈ vs, v ∈ ws) → wipe (wipe σ vs) ws = wipe σ ws
  | [], _ => rfl
  | v :: vs, h => by
    show wipe ((wipe σ vs).set v none) ws = _
    rw [wipe_set_self (h v List.mem_cons_self)]
    exact wipe_sub σ ws vs fun u hu => h u (List.mem_cons_of_mem _ hu)
theorem wipe_idem (σ : L2.St) (vs : List Nat) : wipe (wipe σ vs) vs = wipe σ vs := wipe_sub σ vs vs fun _ h => h
theorem g_name {i : Nat} {x : Str} {vs : List Nat} (o : XO X E k) (hv : i ∈ vs := by decide) (hi : X.N[i]? = some x := by rfl) (hx : Loc X.env.scope x := by first | exact .inl rfl | exact .inr rfl) (hf : X.fn x = true ∨ X.env.scope.names.lookup x = some .local := by first | exact .inl rfl | exact .inr rfl) :
    DG X E (.Name x pos) vs (hName i) := pg_imp (pg_name o.nd hi hx hf) fun v σ H Q ⟨F, ι, μ, ρ, d, hr, he, rv, hp⟩ => Post.pure (mg := X.mg) (E := E) (a := ρ.set i (some d)) hp hr _ (he.set rv i) (wipe_set_self hv)
theorem gs_nil {vs : List Nat} : PGs X [] (tGs X.K X.mg E vs hsNil) := pgs_imp pgs_nil fun us σ H Q ⟨F, ι, μ, ρ, ds, hr, he, rv, hp⟩ => by
  cases rv with
  | nil => exact ⟨rfl, Post.pure (mg := X.mg) (E := E) (a := ρ) hp hr σ he rfl⟩
  | cons _ _ => exact hp.elim
theorem gs_cons {e : Expr} {es : List Expr} {vs : List Nat} {h : T → Env → M Env} {hs : List T → Env → M Env} (h1 : DG X E e vs h) (h2 : PGs X es (tGs X.K X.mg E vs hs))
    (he : (assignEach (e :: es) X.env).map (·.2) = assign e X.env :: (assignEach es X.env).map (·.2) := by rfl) : PGs X (e :: es) (tGs X.K X.mg E vs (hsCons h hs)) := pgs_imp (pgs_cons h1 h2 he) fun us σ H Q ⟨F, ι, μ, ρ, ds, hr, he, rv, hp⟩ => by
  cases rv with
  | nil => exact hp.elim
  | cons r t =>
    refine ⟨_, _, rfl, F, ι, μ, ρ, _, hr, he, r, hp.bind fun F1 ι1 μ1 H1 ρ1 x1 r1 p1 σ1 e1 w1 => ?_⟩
    refine ⟨F1, ι1, μ1, ρ1, _, r1, e1, t.ext x1, p1.imp fun F2 ι2 μ2 H2 ρ2 x2 r2 q2 σ2 e2 w2 => q2 σ2 e2 (w2.trans w1)⟩
theorem g_tup {es : List Expr} {kk : Nat} {vs : List Nat} {hs : List T → Env → M Env} {n : Nat} (o : XO X E k) (h : PGs X es (tGs X.K X.mg E vs hs)) (hn : (assignEach es X.env).length = n := by rfl) (hst : (assignEach es X.env).findIdx? (·.1) = none := by rfl) :
    DG X E (.Tuple es kk pos) vs (hTup n hs) := pg_imp (pg_tup o.calm h hn hst) fun v σ H Q ⟨F, ι, μ, ρ, d, hr, he, rv, hp⟩ => by
  have go : ∀ {a : Addr} {us : List V} {ds : List T}, SqT X.K H a us → Rps X.K F ι us ds → v = .ref a → Post X.K X.mg E ((bif ds.length == n then hs ds ρ else M.no) μ) F ι H (fun F' ι' _ H' ρ' => ∀ σ', ERp X.K F' ι' σ' ρ' → wipe σ' vs = wipe σ vs → Q σ' H') →
      gTup X.K n (tGs X.K X.mg E vs hs) v σ H Q := fun {a us ds} hs' ra ev hp => by
    cases hz : (ds.length == n) with
    | false => rw [hz] at hp; exact hp.elim
    | true =>
      rw [hz] at hp
      exact ⟨a, us, ev, hs', by rw [ra.length]; exact beq_iff_eq.mp hz, F, ι, μ, ρ, ds, hr, he, ra, hp⟩
  cases rv with
  | tup ha ra => exact go (SqT.of (hr.sub _ _ ha)) ra rfl hp
  | ftp ha ra => exact go (hr.sub.sub.seqT ha.t) ra rfl hp
  | _ => exact hp.elim
end

/-! ### comprehensions -/
/-- the heap without what stands at p -/
def hide (H : Hp) (p : Addr) : Hp := fun a => if a = p then none else H a
theorem hide_same (H : Hp) (p : Addr) : hide H p p = none := by unfold hide; rw [if_pos rfl]
theorem hide_ne {H : Hp} {p a : Addr} (h : a ≠ p) : hide H p a = H a := by unfold hide; rw [if_neg h]
theorem upd_hide (H : Hp) (p : Addr) (o : HO) : upd (hide H p) p o = upd H p o := by
  funext a
  by_cases h : a = p
  · subst h; rw [upd_same, upd_same]
  · rw [upd_ne h, upd_ne h, hide_ne h]
section
variable {K : PySem.W.Frag} {F F' : Hp} {ι ι' : List Addr} {μ μ' : Store} {H H' : Hp} {p : Addr} {o : HO}
/-- an object that is neither known nor a cell is laid beside -/
theorem Rel.beside (r : Rel K F ι μ H) (hp : H p = none) : Rel K F ι μ (upd H p o) := by
  have nF := r.noF hp
  have nI := r.noI hp
  refine ⟨fun a u e => ?_, r.nd, r.len, fun k a c h1 h2 => ?_, fun q hq => tab_put (a := p) (fun ps z => by rw [hp] at z; cases z) (fun φ z => by rw [hp] at z; cases z) (fun b n => upd_ne n) (r.tab q hq), r.nt⟩
  · rw [upd_ne (fun z => by rw [z, nF] at e; cases e)]; exact r.sub _ _ e
  · obtain ⟨u, e1, e2, e3, e4⟩ := r.cel k a c h1 h2
    exact ⟨u, by rw [upd_ne (fun z => by rw [z, hp] at e1; cases e1)]; exact e1, e2, e3, e4⟩
theorem Rel.away (r : Rel K F ι μ H) (nF : F p = none) (nI : p ∉ ι) (n1 : ∀ ps, H p ≠ some (.tbl ps)) (n2 : ∀ φ, H p ≠ some (.ext φ)) : Rel K F ι μ (hide H p) := by
  refine ⟨fun a u e => ?_, r.nd, r.len, fun k a c h1 h2 => ?_, fun q hq => tab_put n1 n2 (fun b n => hide_ne n) (r.tab q hq), r.nt⟩
  · rw [hide_ne (fun z => by rw [z, nF] at e; cases e)]; exact r.sub _ _ e
  · obtain ⟨u, e1, e2, e3, e4⟩ := r.cel k a c h1 h2
    exact ⟨u, by rw [hide_ne (fun z => nI (by rw [← z]; exact List.mem_of_getElem? h1))]; exact e1, e2, e3, e4⟩
/-- behind a run beside it: it stands as it stood, and the rest ran as if it had not been there -/
theorem Ext.away (hno : ∀ xs, o ≠ .tup xs) (x : Ext F ι (upd H p o) F' ι' H') (r : Rel K F ι μ H) (hp : H p = none) (r' : Rel K F' ι' μ' H') (hnt : (∀ ps, o ≠ .tbl ps) ∧ ∀ φ, o ≠ .ext φ := by exact ⟨fun _ z => (by cases z), fun _ z => (by cases z)⟩) : H' p = some o ∧ Ext F ι H F' ι' (hide H' p) ∧ Rel K F' ι' μ' (hide H' p) := by
  have nF := r.noF hp
  have nI := r.noI hp
  have nF' : F' p = none := by
    cases e : F' p with
    | none => rfl
    | some u =>
      rcases x.fnew p u e with z | z | z | ⟨xs, _, z⟩ | ⟨ps, z⟩
      · rw [nF] at z; cases z
      · exact (nI z).elim
      · rw [upd_same] at z; cases z
      · rw [upd_same] at z; exact (hno xs (Option.some.inj z)).elim
      · rw [upd_same] at z; exact (hnt.1 ps (Option.some.inj z)).elim
  have nI' : p ∉ ι' := fun m => by
    rcases x.new p m with z | z | ⟨ps, z⟩
    · exact nI z
    · rw [upd_same] at z; cases z
    · rw [upd_same] at z; exact (hnt.1 ps (Option.some.inj z)).elim
  have back : ∀ a, upd H p o a = none → H a = none := fun a z => by
    by_cases e : a = p
    · rw [e]; exact hp
    · rw [upd_ne e] at z; exact z
  have hp' : H' p = some o := x.h p o upd_same nI hnt.1
  have tbk : ∀ a, IsTb (upd H p o) a → IsTb H a := fun a ⟨ps, z⟩ => by
    by_cases e : a = p
    · rw [e, upd_same] at z; exact (hnt.1 ps (Option.some.inj z)).elim
    · rw [upd_ne e] at z; exact ⟨ps, z⟩
  refine ⟨hp', ⟨x.f, x.i, fun a u e n nt => ?_, fun a m => (x.new a m).imp id (Or.imp (back a) (tbk a)), fun a u e => (x.fnew a u e).imp id (Or.imp id fun z => by
    rcases z with z | ⟨xs, e1, z⟩ | z
    · exact .inl (back a z)
    · by_cases ea : a = p
      · subst ea; rw [upd_same] at z; exact (hno xs (Option.some.inj z)).elim
      · rw [upd_ne ea] at z; exact .inr (.inl ⟨xs, e1, z⟩)
    · exact .inr (.inr (tbk a z)))⟩, r'.away nF' nI' (fun ps z => by rw [hp'] at z; exact hnt.1 ps (Option.some.inj z)) (fun φ z => by rw [hp'] at z; exact hnt.2 φ (Option.some.inj z))⟩
  · have ne : a ≠ p := fun z => by rw [z, hp] at e; cases e
    rw [hide_ne ne]
    exact x.h a u (by rw [upd_ne ne]; exact e) n nt
end
def noErr {α : Type} (m : M α) : M α := fun μ => match m μ with
  | .ok a μ' => .ok a μ'
  | _ => .no
abbrev EF : XK := fun _ _ _ => False
section
variable {K : PySem.W.Frag} {mg : Str → Option Value} {E E' : XK} {α β : Type} {F : Hp} {ι : List Addr} {H : Hp} {μ : Store} {p : Addr} {o : HO}
/-- a part that lets no error out, run beside an object -/
theorem Post.part {m : M α} {c : α → M β} {rp : Hp → List Addr → Store → Hp → β → Prop} {rp' : Hp → List Addr → Store → Hp → α → Prop} (r : Rel K F ι μ H) (hp : H p = none) (h : Post K mg E (M.bind (noErr m) c μ) F ι H rp)
    (hk : ∀ F' ι' μ' H' a, Ext F ι H F' ι' (hide H' p) → Rel K F' ι' μ' (hide H' p) → Rel K F' ι' μ' H' → Ext F ι (upd H p o) F' ι' H' → H' p = some o → Post K mg E (c a μ') F' ι' (hide H' p) rp → rp' F' ι' μ' H' a) (hno : ∀ xs, o ≠ .tup xs := by intro _ z; cases z) (hnt : (∀ ps, o ≠ .tbl ps) ∧ ∀ φ, o ≠ .ext φ := by exact ⟨fun _ z => (by cases z), fun _ z => (by cases z)⟩) :
    Post K mg E' (m μ) F ι (upd H p o) rp' := by
  unfold M.bind noErr at h
  cases e : m μ with
  | ok a μ' =>
    rw [e] at h
    intro F' ι' H' x r'
    obtain ⟨h1, h2, h3⟩ := x.away hno r hp r' hnt
    exact hk F' ι' μ' H' a h2 h3 r' x h1 (h.later h2)
  | err _ _ => rw [e] at h; exact h.elim
  | no => rw [e] at h; exact h.elim
end
/-- one turn: what it adds -/
def lcTurn (h : T → Env → M Env) (t : Env → M Bool) (f : Env → M T) (ρ : Env) (d : T) : M (Option T) := M.bind (h d ρ) fun ρ2 => M.bind (t ρ2) fun b => bif b then M.bind (f ρ2) fun y => M.pure (some y) else M.pure none
def lcL (step : T → M (Option T)) : List T → M (List T)
  | [] => M.pure []
  | x :: xs => M.bind (noErr (step x)) fun o => M.bind (lcL step xs) fun r => M.pure (o.toList ++ r)
def lComp (vs : List Nat) (fi : Env → M (List T)) (h : T → Env → M Env) (t : Env → M Bool) (f : Env → M T) : Env → M (List T) := fun ρ => M.bind (fi ρ) fun ds => M.bind (lcL (lcTurn h t f (wipeE ρ vs)) ds) okL
def bYes : Env → M Bool := fun _ => M.pure true
abbrev DTs (X : Cx) (E : XK) (ifs : List Expr) (t : Env → M Bool) : Prop := PTs X ifs (tT X.K X.mg E t)
theorem ts_nil {X : Cx} {E : XK} : DTs X E [] bYes := ⟨fun pins s σ H Q I ⟨F, ι, μ, ρ, hr, he, hp⟩ => pts_nil.run pins s σ H Q I (Post.pure (mg := X.mg) (E := E) (a := true) hp hr)⟩
theorem ts_one {X : Cx} {E : XK} {c : Expr} {t : Env → M Bool} (h : DT X E c t) : DTs X E [c] t := pts_one h
section
variable {K : PySem.W.Frag} {F : Hp} {ι : List Addr} {σ : L2.St} {ρ : Env}
theorem ERp.wipe (h : ERp K F ι σ ρ) : ∀ vs : List Nat, ERp K F ι (L2.wipe σ vs) (wipeE ρ vs)
  | [] => h
  | i :: r => (ERp.wipe h r).unset i
end
/-- the continuation behind the turns: room for all -/
def lcEnd (acc : List T) (r : List T) : M (List T) := okL (acc ++ r)
theorem lcL_end (step : T → M (Option T)) (x : T) (xs acc : List T) : M.bind (lcL step (x :: xs)) (lcEnd acc) = M.bind (noErr (step x)) fun o => M.bind (lcL step xs) (lcEnd (acc ++ o.toList)) := by
  simp only [lcL]
  rw [M.assoc]
  congr 1
  funext o
  rw [M.assoc]
  congr 1
  funext r
  show lcEnd acc (o.toList ++ r) = lcEnd (acc ++ o.toList) r
  unfold lcEnd
  rw [List.append_assoc]
theorem lcL_room {K : PySem.W.Frag} {mg : Str → Option Value} {E : XK} {F : Hp} {ι : List Addr} {H : Hp} {μ : Store} {rp : Hp → List Addr → Store → Hp → List T → Prop} {step : T → M (Option T)} {xs acc : List T} (h : Post K mg E (M.bind (lcL step xs) (lcEnd acc) μ) F ι H rp) : acc.length ≤ sizeLine := by
  unfold M.bind at h
  have nerr : ∀ (xs : List T) (μ : Store) e μ', lcL step xs μ ≠ .err e μ' := by
    intro xs
    induction xs with
    | nil => intro μ e μ' z; cases z
    | cons x xs ih =>
      intro μ e μ' z
      simp only [lcL, M.bind, noErr] at z
      cases h1 : step x μ with
      | ok a μ1 =>
        rw [h1] at z
        simp only at z
        cases h2 : lcL step xs μ1 with
        | ok b μ2 => rw [h2] at z; cases z
        | err e2 μ2 => exact ih μ1 e2 μ2 h2
        | no => rw [h2] at z; cases z
      | err _ _ => rw [h1] at z; cases z
      | no => rw [h1] at z; cases z
  cases e : lcL step xs μ with
  | ok r μ' =>
    rw [e] at h
    unfold lcEnd okL at h
    cases hz : fits (acc ++ r).length with
    | false => simp only [hz] at h; exact h.elim
    | true =>
      have := fits_le hz
      rw [List.length_append] at this
      omega
  | err e2 μ' => exact (nerr _ _ _ _ e).elim
  | no => rw [e] at h; exact h.elim
section
variable {X : Cx} {E : XK} {k : Nat} {elt tg iter : Expr} {ifs : List Expr} {scope : Scope} {own : List (Str × Nat)} {pos : Pos} {fi : Env → M (List T)} {h : T → Env → M Env} {t : Env → M Bool} {f : Env → M T}
theorem XO.blk (o : XO X E k) {s : Shared} {H : Hp} {cenv : PySem.Env} {fp : List Addr} : XO (X.blk s H scope cenv fp) EF k :=
  ⟨o.calm, o.nd, o.gd, o.room, fun _ _ ⟨_, _, _, _, _, _, _, _, _, _, _, _, _, _, _, _, z⟩ => z.elim, PassesOwn.never⟩
theorem lc_core_t {σ : L2.St} {H : Hp} {Q : VK} {vs : List Nat} (hq : tL X.K X.mg E (lComp vs fi h t f) σ H Q) : tLc (tI X.K X.mg E fi) (tG X.K X.mg EF vs h) (tT X.K X.mg EF t) (tE X.K X.mg EF f) vs σ H Q := by
  obtain ⟨F, ι, μ, ρ, hr, he, hp⟩ := hq
  refine ⟨F, ι, μ, ρ, hr, he, hp.bind fun F1 ι1 μ1 H1 ds x1 r1 p1 J wk D hD => ?_⟩
  have e0 : ∀ (r : List T), okL r = lcEnd [] r := fun r => rfl
  have p1 : Post X.K X.mg E (M.bind (lcL (lcTurn h t f (wipeE ρ vs)) ds) (lcEnd []) μ1) F1 ι1 H1 _ := p1
  refine ⟨fun i m H => m = ds.length - i ∧ i ≤ ds.length ∧ ∃ F ι μ H0 acc ac, All F1 F ∧ Pre ι1 ι ∧ Rel X.K F ι μ H0 ∧ H0 D = none ∧ H = upd H0 D (.lst acc) ∧ Rps X.K F ι acc ac ∧ ERp X.K F ι (L2.wipe σ vs) (wipeE ρ vs) ∧
      Post X.K X.mg E (M.bind (lcL (lcTurn h t f (wipeE ρ vs)) (ds.drop i)) (lcEnd ac) μ) F ι H0 _, ⟨ds.length, rfl, Nat.zero_le _, F1, ι1, μ1, H1, [], [], fun _ _ e => e, .refl _, r1, hD, rfl, .nil, (he.ext x1).wipe vs, p1⟩, ?_⟩
  rintro i m H2 ⟨rfl, hle, F2, ι2, μ2, H0, acc, ac, a2, b2, r2, hD2, rfl, ra, e2, p2⟩
  have r2' : Rel X.K F2 ι2 μ2 (upd H0 D (.lst acc)) := r2.beside hD2
  by_cases hlt : i < ds.length
  · refine .inr ⟨wk.go i F2 ι2 μ2 _ a2 b2 r2' hlt, fun H' => ∃ F ι μ H0 acc ac, All F1 F ∧ Pre ι1 ι ∧ Rel X.K F ι μ H0 ∧ H0 D = none ∧ H' = upd H0 D (.lst acc) ∧ Rps X.K F ι acc ac ∧ ERp X.K F ι (L2.wipe σ vs) (wipeE ρ vs) ∧
      Post X.K X.mg E (M.bind (lcL (lcTurn h t f (wipeE ρ vs)) (ds.drop (i + 1))) (lcEnd ac) μ) F ι H0 _, fun H' q => ⟨ds.length - (i + 1), by omega, rfl, hlt, q⟩, fun x H3 y => ?_⟩
    obtain ⟨d, F3, hd, x3, r3, rx⟩ := wk.yld i F2 ι2 μ2 _ x H3 a2 b2 r2' hlt y
    have ed : ds.drop i = d :: ds.drop (i + 1) := by
      obtain ⟨hh, e⟩ := List.getElem?_eq_some_iff.mp hd
      rw [List.drop_eq_getElem_cons hh, e]
    rw [ed, lcL_end] at p2
    obtain ⟨hD3, x3', r3'⟩ := x3.away (by intro _ z; cases z) r2 hD2 r3
    have p3 := p2.later x3'
    have eH3 : H3 = upd (hide H3 D) D (.lst acc) := by
      rw [upd_hide]
      funext a
      by_cases e : a = D
      · subst e; rw [upd_same]; exact hD3
      · rw [upd_ne e]
    -- the turn's parts, one after another
    have parts := p3
    unfold lcTurn at parts
    have e3 := e2.ext x3'
    have a3 : All F1 F3 := fun a o e => x3.f _ _ (a2 _ _ e)
    have b3 : Pre ι1 ι2 := b2
    have hh : hide H3 D D = none := hide_same _ _
    have step1 : ∀ {α β : Type} (m : M α) (g : α → M β), noErr (M.bind m g) = M.bind (noErr m) fun x => noErr (g x) := fun m g => by
      funext μ
      simp only [noErr, M.bind]
      cases m μ <;> rfl
    rw [step1, M.assoc] at parts
    refine ⟨F3, ι2, μ2, wipeE ρ vs, d, r3, e3, rx, ?_⟩
    rw [eH3]
    refine Post.part r3' hh parts fun F4 ι4 μ4 H4 ρ4 x4 r4 r4' x4' hD4 p4 σ4 e4 w4 => ⟨?_, F4, ι4, μ4, ρ4, r4', e4, ?_⟩
    · rw [w4, wipe_idem]
    · rw [step1, M.assoc] at p4
      have eH4 : H4 = upd (hide H4 D) D (.lst acc) := by
        rw [upd_hide]
        funext a
        by_cases e : a = D
        · subst e; rw [upd_same]; exact hD4
        · rw [upd_ne e]
      rw [eH4]
      refine Post.part r4 (hide_same _ _) p4 fun F5 ι5 μ5 H5 b x5 r5 r5' x5' hD5 p5 => ?_
      have eH5 : H5 = upd (hide H5 D) D (.lst acc) := by
        rw [upd_hide]
        funext a
        by_cases e : a = D
        · subst e; rw [upd_same]; exact hD5
        · rw [upd_ne e]
      have a5 : All F1 F5 := fun a o e => x5.f _ _ (x4.f _ _ (a3 _ _ e))
      have b5 : Pre ι1 ι5 := b3.trans (x4.i.trans x5.i)
      have ra5 : Rps X.K F5 ι5 acc ac := ((ra.ext x3').ext x4).ext x5
      have ew : ERp X.K F5 ι5 (L2.wipe σ vs) (wipeE ρ vs) := (e3.ext x4).ext x5
      cases b with
      | false =>
        refine iteF ⟨F5, ι5, μ5, hide H5 D, acc, ac, a5, b5, r5, hide_same _ _, eH5, ra5, ew, ?_⟩
        have q := p5
        simp only [cond_false] at q
        have q' : Post X.K X.mg E (M.bind (lcL (lcTurn h t f (wipeE ρ vs)) (ds.drop (i + 1))) (lcEnd (ac ++ [])) μ5) F5 ι5 (hide H5 D) _ := q
        rw [List.append_nil] at q'
        exact q'
      | true =>
        refine iteT ⟨F5, ι5, μ5, ρ4, r5', e4.mono x5'.f.sub x5'.i, ?_⟩
        have q := p5
        simp only [cond_true] at q
        rw [step1, M.assoc] at q
        rw [eH5]
        refine Post.part r5 (hide_same _ _) q fun F6 ι6 μ6 H6 yT x6 r6 r6' x6' hD6 p6 v rv => ⟨acc, hD6, ?_, ?_⟩
        · have p6' : Post X.K X.mg E (M.bind (lcL (lcTurn h t f (wipeE ρ vs)) (ds.drop (i + 1))) (lcEnd (ac ++ [yT])) μ6) F6 ι6 (hide H6 D) _ := p6
          have z := lcL_room p6'
          rw [List.length_append] at z
          have z2 := ra5.length
          simp only [List.length_cons, List.length_nil] at z
          omega
        · refine ⟨F6, ι6, μ6, hide H6 D, acc ++ [v], ac ++ [yT], fun a o e => x6.f _ _ (a5 _ _ e), b5.trans x6.i, r6, hide_same _ _, ?_, (ra5.ext x6).append (.cons rv .nil), ew.ext x6, p6⟩
          rw [upd_hide]
  · have e : ds.drop i = [] := List.drop_eq_nil_of_le (by omega)
    rw [e] at p2
    have p2' : Post X.K X.mg E (okL (ac ++ []) μ2) F2 ι2 H0 _ := p2
    rw [List.append_nil] at p2'
    unfold okL at p2'
    refine .inl ⟨wk.stop i F2 ι2 μ2 _ a2 b2 r2' (by omega), ?_⟩
    cases hz : fits ac.length with
    | false => rw [hz] at p2'; exact p2'.elim
    | true =>
      rw [hz] at p2'
      exact Post.pure (mg := X.mg) (E := E) (a := ac) p2' r2 D acc _ (fun a z => upd_ne z) hD2 upd_same ra
theorem l_comp (o : XO X E k) (hi : DI X E tg iter fi) (ok : blkC X.N X.env.scope scope own = true)
    (hg : ∀ (s : Shared) (H : Hp) (C : Addr) (cl : List (Str × Addr)) (fp : List Addr), XO (X.blk s H scope (compEnvC scope cl C X.env) fp) EF k → DG (X.blk s H scope (compEnvC scope cl C X.env) fp) EF tg (own.map (·.2)) h)
    (ht : ∀ (s : Shared) (H : Hp) (C : Addr) (cl : List (Str × Addr)) (fp : List Addr), XO (X.blk s H scope (compEnvC scope cl C X.env) fp) EF k → DTs (X.blk s H scope (compEnvC scope cl C X.env) fp) EF ifs t)
    (he : ∀ (s : Shared) (H : Hp) (C : Addr) (cl : List (Str × Addr)) (fp : List Addr), XO (X.blk s H scope (compEnvC scope cl C X.env) fp) EF k → DE (X.blk s H scope (compEnvC scope cl C X.env) fp) EF elt f) (hs : ∀ x, foldedSetIterable iter X.env x = pure x := by intro _; rfl) :
    DL X E (.ListComp elt [⟨tg, iter, ifs, 0⟩] scope pos) (lComp (own.map (·.2)) fi h t f) :=
  pe_imp (pe_lc o.calm o.nd hi (blkOk_by ok) (fun s H C cl fp => hg s H C cl fp o.blk) (fun s H C cl fp => ht s H C cl fp o.blk) (fun s H C cl fp => he s H C cl fp o.blk) hs) fun σ H Q q => lc_core_t q
end
end TL

/-! T layer: slices, also from the end to the beginning. -/
namespace TL
open PySem PySem.Spec PyProof.Rows L2 HT
variable [Tb]
section
variable {prog : Program} {w : World} {A : Around} {E : Value → Shared → Prop} {s : Shared}
theorem back_adjust (n : Nat) : Builtin.Slice.sliceAdjust none none (-1) (n : Int) = ((n : Int) - 1, -1) := by
  first | rfl | (unfold Builtin.Slice.sliceAdjust; simp)
theorem back_places (n : Nat) : Builtin.Slice.slicePlaces ((n : Int) - 1) (-1) (-1) = n := by
  unfold Builtin.Slice.slicePlaces
  by_cases h : n = 0
  · subst h; decide
  · have h1 : ¬ ((-1 : Int) > 0) := by decide
    simp only [h1, if_false]
    split
    · have e : ((n : Int) - 1 - -1 - 1) = (n : Int) - 1 := by omega
      first
        | omega
        | (rw [show (- -1 : Int) = 1 by decide]; simp; done)
        | (rw [show (- -1 : Int) = 1 by decide]; simp; omega)
    · omega
theorem back_applied {sl : Addr} {va vb vc : Value} {n : Nat} {Q : Int × Int × Nat → Shared → Prop} (hs : s.heap.IsSliceOf sl va vb vc) (pa : IsPart va none) (pb : IsPart vb none) (pc : IsPart vc (some (-1)))
    (h : Q ((n : Int) - 1, -1, n) s) : wpAny (model prog w) A (Builtin.Slice.sliceApplied (.ref sl) (pure (n : Int))) Q E s := by
  obtain ⟨o1, e1, _, d1⟩ := id hs
  unfold Builtin.Slice.sliceApplied Builtin.Slice.sliceFields
  refine wpAny_bind (wpAny_bind (wpAny_field e1 d1 (x := va) rfl (wpAny_bind (wpAny_field e1 d1 (x := vb) rfl (wpAny_bind (wpAny_field e1 d1 (x := vc) rfl (wpAny_pure ?_)))))))
  refine wpAny_bind (slicePart_ pc ?_)
  show wpAny _ _ (if ((-1 : Int) == 0) = true then _ else _) _ _ s
  rw [if_neg (by decide)]
  refine wpAny_bind (slicePart_ pa (wpAny_bind (slicePart_ pb (wpAny_bind (wpAny_pure ?_)))))
  show wpAny _ _ (match Builtin.Slice.sliceAdjust none none (-1) (n : Int) with | (a, b) => pure (a, (-1 : Int), Builtin.Slice.slicePlaces a b (-1))) _ _ s
  rw [back_adjust]
  show wpAny _ _ (pure ((n : Int) - 1, (-1 : Int), Builtin.Slice.slicePlaces ((n : Int) - 1) (-1) (-1))) _ _ s
  rw [back_places]
  exact wpAny_pure h
theorem filterMap_same {α β : Type} {f g : α → Option β} : ∀ {l : List α}, (∀ m ∈ l, f m = g m) → l.filterMap f = l.filterMap g
  | [], _ => rfl
  | a :: l, h => by
    have ih := filterMap_same (l := l) fun m hm => h m (List.mem_cons_of_mem _ hm)
    rw [List.filterMap_cons, List.filterMap_cons, h a List.mem_cons_self, ih]
theorem back_pick (xs : Array Value) : ((List.range xs.size).filterMap fun (m : Nat) => xs[(((xs.size : Nat) : Int) - 1 + (m : Int) * -1).toNat]?).toArray = xs.toList.reverse.toArray := by
  have e : (List.range xs.size).filterMap (fun (m : Nat) => xs[(((xs.size : Nat) : Int) - 1 + (m : Int) * -1).toNat]?) = ((List.range xs.size).map fun m => xs.size - 1 - m).filterMap (xs[·]?) := by
    rw [List.filterMap_map]
    refine filterMap_same fun m hm => ?_
    have hm' := List.mem_range.mp hm
    have e : (((xs.size : Nat) : Int) - 1 + (m : Int) * -1).toNat = xs.size - 1 - m := by omega
    show xs[(((xs.size : Nat) : Int) - 1 + (m : Int) * -1).toNat]? = xs[xs.size - 1 - m]?
    rw [e]
  rw [e, PySem.W.krv_range, List.filterMap_reverse, PySem.W.krv_all]
theorem tuple_back {t sl : Addr} {items : Array Value} {va vb vc : Value} {Q : Value → Shared → Prop} (ht : IsTup s.heap t items) (hs : s.heap.IsSliceOf sl va vb vc) (pa : IsPart va none) (pb : IsPart vb none) (pc : IsPart vc (some (-1)))
    (h : Q (.ref s.heap.objs.size) { s with heap := s.heap.push { cls := .type "tuple", data := .seq items.toList.reverse.toArray } }) (hsz : items.size ≤ sizeLine) : wpAny (model prog w) A (getItem (.ref t) (.ref sl)) Q E s := by
  have fit : sizeOk (.seq items.toList.reverse.toArray) := by
    show items.toList.reverse.toArray.size ≤ sizeLine
    simpa using hsz
  obtain ⟨o1, e1, c1, d1⟩ := id hs
  have tS : s.TypeIs (.ref sl) "slice" := ⟨o1, e1, c1⟩
  unfold getItem
  try with_reducible refine wpAny_holding ?_
  first | refine wpAny_bind (wpAny_pure ?_) | skip
  refine wpAny_bind (wpAny_sequenceKey ht.typeIs (by decide) (wpAny_bind (wpAny_callSpecial?_slot (name := Str.ofString "__getitem__") ht.typeIs PyProof.Rows.slot_tuple_getitem (wpAny_call_entry PyProof.Rows.slot_tuple_getitem ht.typeIs entry_tuple_getitem ?_ (args_tuple_getitem _ _)))))
  show wpAny _ _ (Builtin.Tuple.tupleItemsOf (.ref t) >>= _) _ _ s
  refine wpAny_bind (tupleItemsOf_ ht (wpAny_bind (wpAny_typeOf tS ?_)))
  rw [if_pos (by decide)]
  refine wpAny_bind (back_applied hs pa pb pc ?_)
  have no : ¬ (((((items.size : Nat) : Int) - 1) == 0 && (-1 : Int) == 1 && items.size == items.size) = true) := by
    rw [show ((-1 : Int) == 1) = false from by decide, Bool.and_false, Bool.false_and]
    exact Bool.false_ne_true
  show wpAny _ _ (if ((((items.size : Nat) : Int) - 1) == 0 && (-1 : Int) == 1 && items.size == items.size) = true then _ else _) _ _ s
  rw [if_neg no, back_pick]
  first
    | exact wpAny_bind (m := Builtin.Tuple.tupleExact _) (wpAny_newObj_type (wpAny_pure ⟨_, rfl, wpAny_pure h⟩) fit)
    | exact wpAny_bind (m := Builtin.Tuple.tupleExact _) (wpAny_newObj_type (wpAny_bind (wpAny_pure (wpAny_pure ⟨_, rfl, wpAny_pure h⟩))) fit)
    | exact wpAny_bind (wpAny_bind (m := Builtin.Tuple.tupleExact _) (wpAny_newObj_type (wpAny_pure (wpAny_pure ⟨_, rfl, wpAny_pure h⟩)) fit))
    | exact wpAny_bind (wpAny_bind (m := Builtin.Tuple.tupleExact _) (wpAny_newObj_type (wpAny_pure ⟨_, rfl, wpAny_pure h⟩) fit))
end
def gRev : T → M T
  | .lst xs => M.pure (.lst xs.reverse)
  | .fls xs => M.pure (.lst xs.reverse)
  | .tup xs => M.pure (.tup xs.reverse)
  | .ftp xs => M.pure (.tup xs.reverse)
  | _ => M.no
theorem Rps.reverse {K : PySem.W.Frag} {F : Hp} {ι : List Addr} : ∀ {vs : List V} {ds : List T}, Rps K F ι vs ds → Rps K F ι vs.reverse ds.reverse
  | _, _, .nil => .nil
  | _, _, .cons r t => by
    rw [List.reverse_cons, List.reverse_cons]
    exact (Rps.reverse t).append (.cons r .nil)
section
variable {X : Cx} {E : XK} {k : Nat} {e : Expr} {f : Env → M T}
theorem d_rev {j : Nat} {z1 z2 z3 pos : Pos} (he : DE X E e f) : DE X E (.Subscript e (.Slice none none (some (.UnaryOp .USub (.Constant (.int 1) j z1) z2)) z3) pos) (eUn (fun d => M.bind (ld d) gRev) f) := by
  refine ⟨fun pins s σ H Q I hh => ?_⟩
  obtain ⟨F, ι, μ, ρ, hr, hen, hp⟩ := hh
  refine Subscript_ (thn (he.run pins s σ H (fun v H1 => ∃ F1 ι1 μ1 d, Rel X.K F1 ι1 μ1 H1 ∧ Lp X.K F1 ι1 H1 v d ∧ Post X.K X.mg E (gRev d μ1) F1 ι1 H1 (wT X.K Q)) I (At.e hr hen hp fun F1 ι1 μ1 H1 v d x1 r1 rv p1 => ?_)) fun v s1 hx => ?_)
  · obtain ⟨d', lx, p2⟩ := ld_post r1 rv p1
    exact ⟨F1, ι1, μ1, d', r1, lx, p2⟩
  obtain ⟨x, H1, I1, rx, F1, ι1, μ1, d, r1, lx, p1⟩ := hx
  have cst : PO X (some (.UnaryOp .USub (.Constant (.int 1) j z1) z2)) (tPart (tUn (rU fun i => .int (-i)) (tC (.int 1)))) := po_some (pe_un un_neg pe_int)
  refine wpAny_Slice (thn (po_none.run pins s1 σ H1 (fun o H2 => o = none ∧ H2 = H1) I1 ⟨rfl, rfl⟩) fun va s2 ha => thn (po_none.run pins s2 σ H1 (fun o H3 => o = none ∧ H3 = H1) ?_ ⟨rfl, rfl⟩) fun vb s3 hb => thn (cst.run pins s3 σ H1 (fun o H4 => o = some (-1) ∧ H4 = H1) ?_ ⟨1, rfl, -1, rfl, rfl, rfl⟩) fun vc s4 hc => ?_)
  · obtain ⟨_, H2, I2, _, _, e2⟩ := ha
    rw [e2] at I2
    exact I2
  · obtain ⟨_, H3, I3, _, _, e3⟩ := hb
    rw [e3] at I3
    exact I3
  obtain ⟨_, _, _, pa, ea, _⟩ := ha
  obtain ⟨_, _, _, pb, eb, _⟩ := hb
  obtain ⟨_, H4, I4, pc, ec, e4⟩ := hc
  subst ea eb ec
  rw [e4] at I4
  have I5 : Inv X pins σ H1 { s4 with heap := s4.heap.push { cls := .type "slice", data := .fields #[va, vb, vc] } } := I4.kept (t' := s4.toks) fun b ob q => Heap.get?_push_of_some _ q
  have sl := Heap.IsSliceOf.new s4.heap va vb vc
  have lst : ∀ {a : Addr} {vs : List V} {ds : List T}, x = .ref a → SqL X.K H1 a vs → Rps X.K F1 ι1 vs ds → Post X.K X.mg E (M.pure (T.lst ds.reverse) μ1) F1 ι1 H1 (wT X.K Q) →
      wpAny (model X.prog X.w) X.A (subscriptTail e (.Slice none none (some (.UnaryOp .USub (.Constant (.int 1) j z1) z2)) z3) v (.ref s4.heap.objs.size)) (EP X pins σ Q) X.xe { s4 with heap := s4.heap.push { cls := .type "slice", data := .fields #[va, vb, vc] } } := fun {a vs ds} ex hq ra p1 => by
    subst ex
    obtain rfl : v = Value.ref a := rx
    obtain ⟨its, r, pl, hz⟩ := I5.list hq
    have hlen := r.length
    refine tail_any (ops := [.ref a, .ref s4.heap.objs.size]) pl.isList.typeIs (PySem.slot_list_getitem.lookup) (wpAny_getItem_list_slice pl.isList sl pa pb pc (by decide) ?_ (by rw [List.size_toArray]; omega)) (by with_unfolding_all rfl)
    rw [PySem.W.krv_pick]
    have np := I5.hok.fresh (Nat.le_refl _)
    obtain ⟨x2, r2⟩ := r1.newF (u := .lst vs.reverse) np (fun a z => upd_ne z) upd_same
    exact ⟨.ref _, _, I5.laid (t' := s4.toks) (o := .lst vs.reverse) (fun b ob q => Heap.get?_push_of_some _ q) (Nat.le_refl _) ⟨by rw [List.length_reverse]; exact hz, _, 0, r.reverse, Heap.get?_push_size _ rfl⟩, rfl, p1 _ _ _ x2 r2 _ (.lst upd_same (ra.reverse.ext x2))⟩
  have tup : ∀ {a : Addr} {vs : List V} {ds : List T}, x = .ref a → SqT X.K H1 a vs → Rps X.K F1 ι1 vs ds → Post X.K X.mg E (M.pure (T.tup ds.reverse) μ1) F1 ι1 H1 (wT X.K Q) →
      wpAny (model X.prog X.w) X.A (subscriptTail e (.Slice none none (some (.UnaryOp .USub (.Constant (.int 1) j z1) z2)) z3) v (.ref s4.heap.objs.size)) (EP X pins σ Q) X.xe { s4 with heap := s4.heap.push { cls := .type "slice", data := .fields #[va, vb, vc] } } := fun {a vs ds} ex hq ra p1 => by
    subst ex
    obtain rfl : v = Value.ref a := rx
    obtain ⟨its, r, pl, hz⟩ := I5.tuple hq
    have hlen := r.length
    refine tail_any (ops := [.ref a, .ref s4.heap.objs.size]) pl.typeIs PyProof.Rows.slot_tuple_getitem.lookup (tuple_back pl sl pa pb pc ?_ (by rw [List.size_toArray]; omega)) (by with_unfolding_all rfl)
    have np := I5.hok.fresh (Nat.le_refl _)
    obtain ⟨x2, r2⟩ := r1.newF (u := .tup vs.reverse) np (fun a z => upd_ne z) upd_same
    exact ⟨.ref _, _, I5.laid (t' := s4.toks) (o := .tup vs.reverse) (fun b ob q => Heap.get?_push_of_some _ q) (Nat.le_refl _) ⟨by rw [List.length_reverse]; exact hz, _, r.reverse, IsTup.new _ _⟩, rfl, p1 _ _ _ x2 r2 _ (.tup upd_same (ra.reverse.ext x2))⟩
  cases lx with
  | lst ha ra => exact lst rfl (SqL.of ha) ra p1
  | fls ha ra => exact lst rfl (r1.sub.sub.seqL ha) ra p1
  | tup ha ra => exact tup rfl (SqT.of (r1.sub _ _ ha)) ra p1
  | ftp ha ra => exact tup rfl (r1.sub.sub.seqT ha.t) ra p1
  | _ => exact p1.elim
end
end TL

/-! T layer 8: what a for or a comprehension walks. -/
namespace TL
open PySem PySem.Spec PyProof.Rows L2
variable [Tb]

def gIter (d : T) : M (List T) := match seqOf d with
  | some xs => M.pure xs
  | none => M.no
def iSeq (f : Env → M T) : Env → M (List T) := fun ρ => M.bind (f ρ) gIter
/-- a list's walk, a tuple's -/
theorem wk_list {K : PySem.W.Frag} {F : Hp} {ι : List Addr} {a : Addr} {vs : List V} {ds : List T} (h : SqL K F a vs) (r : Rps K F ι vs ds) : Wk K F ι (Itl K a) ds where
  go := fun i F' ι' μ' H' a1 _ r1 hi => by
    obtain ⟨d, hd⟩ : ∃ d, ds[i]? = some d := ⟨_, List.getElem?_eq_getElem hi⟩
    obtain ⟨v, hv, _⟩ := r.get hd
    exact ⟨vs, v, (r1.sub.sub).seqL (a1.sub.seqL h), hv⟩
  yld := fun i F' ι' μ' H' x H'' a1 b1 r1 _ y => by
    obtain ⟨e, y⟩ := y
    subst e
    have hv := y vs ((r1.sub.sub).seqL (a1.sub.seqL h))
    obtain ⟨d, hd, rd⟩ := r.getV hv
    exact ⟨d, F', hd, .refl .., r1, rd.mono a1.sub b1⟩
  stop := fun i F' ι' μ' H' a1 _ r1 hi => ⟨vs, (r1.sub.sub).seqL (a1.sub.seqL h), by rw [r.length]; exact hi⟩
theorem wk_tup {K : PySem.W.Frag} {F : Hp} {ι : List Addr} {a : Addr} {vs : List V} {ds : List T} (h : SqT K F a vs) (r : Rps K F ι vs ds) : Wk K F ι (Itt K a) ds where
  go := fun i F' ι' μ' H' a1 _ r1 hi => by
    obtain ⟨d, hd⟩ : ∃ d, ds[i]? = some d := ⟨_, List.getElem?_eq_getElem hi⟩
    obtain ⟨v, hv, _⟩ := r.get hd
    exact ⟨vs, v, (r1.sub.sub).seqT (a1.sub.seqT h), hv⟩
  yld := fun i F' ι' μ' H' x H'' a1 b1 r1 _ y => by
    obtain ⟨e, y⟩ := y
    subst e
    have hv := y vs ((r1.sub.sub).seqT (a1.sub.seqT h))
    obtain ⟨d, hd, rd⟩ := r.getV hv
    exact ⟨d, F', hd, .refl .., r1, rd.mono a1.sub b1⟩
  stop := fun i F' ι' μ' H' a1 _ r1 hi => ⟨vs, (r1.sub.sub).seqT (a1.sub.seqT h), by rw [r.length]; exact hi⟩
section
variable {X : Cx} {E : XK} {k : Nat} {tg e : Expr} {f : Env → M T}
/-- an iterator over a list, over a tuple, that stands at a value -/
theorem it_list {pins : List (Addr × Obj)} {σ : L2.St} {H : Hp} {s : Shared} {a : Addr} {xs : List V} {R : It → Hp → Prop} (I : Inv X pins σ H s) (h : SqL X.K H a xs) (q : R (Itl X.K a) H) : wpAny (model X.prog X.w) X.A (pyIter (.ref a)) (PIE X pins σ tg R) X.xe s := by
  obtain ⟨its, rv, pl, _⟩ := I.list h
  refine wpAny_pyIter_list pl.isList ⟨s.heap.objs.size, [s.heap.objs.size], _, _, H, rfl, I.kept (t' := s.toks) (fun b o z => Heap.get?_push_of_some _ z), turn_list a _, ⟨_, Heap.get?_push_size _ rfl, rfl, rfl⟩, (fun b hb => ?_), q⟩
  have eb : b = s.heap.objs.size := List.mem_singleton.mp hb
  subst eb
  exact I.fpOk (Nat.le_refl _) (I.hok.fresh (Nat.le_refl _))
theorem it_tup {pins : List (Addr × Obj)} {σ : L2.St} {H : Hp} {s : Shared} {a : Addr} {xs : List V} {R : It → Hp → Prop} (I : Inv X pins σ H s) (h : SqT X.K H a xs) (q : R (Itt X.K a) H) : wpAny (model X.prog X.w) X.A (pyIter (.ref a)) (PIE X pins σ tg R) X.xe s := by
  obtain ⟨its, rv, pl, _⟩ := I.tuple h
  refine wpAny_pyIter_tuple pl ⟨s.heap.objs.size, [s.heap.objs.size], _, _, H, rfl, I.kept (t' := s.toks) (fun b o z => Heap.get?_push_of_some _ z), turn_tuple a _, ⟨_, Heap.get?_push_size _ rfl, rfl, rfl⟩, (fun b hb => ?_), q⟩
  have eb : b = s.heap.objs.size := List.mem_singleton.mp hb
  subst eb
  exact I.fpOk (Nat.le_refl _) (I.hok.fresh (Nat.le_refl _))
theorem i_seq (he : DE X E e f) : DI X E tg e (iSeq f) := by
  refine ⟨fun pins s σ H R I hh => ?_⟩
  obtain ⟨F, ι, μ, ρ, hr, hen, hp⟩ := hh
  refine thn (he.run pins s σ H (fun v H1 => ∃ F1 ι1 μ1 d, Rel X.K F1 ι1 μ1 H1 ∧ Rp X.K F1 ι1 v d ∧ Post X.K X.mg E (gIter d μ1) F1 ι1 H1 (fun F' ι' _ H' ds => ∀ J, Wk X.K F' ι' J ds → R J H')) I (At.e hr hen hp fun F1 ι1 μ1 H1 v d x1 r1 rv p1 => ⟨F1, ι1, μ1, d, r1, rv, p1⟩)) fun v s1 hx => ?_
  obtain ⟨x, H1, I1, rx, F1, ι1, μ1, d, r1, rv, p1⟩ := hx
  unfold gIter at p1
  cases rv with
  | lst ha ra =>
    obtain rfl : v = Value.ref _ := rx
    exact it_list I1 (SqL.of (r1.sub _ _ ha)) (Post.pure (mg := X.mg) (E := E) p1 r1 _ (wk_list (SqL.of ha) ra))
  | fls ha ra =>
    obtain rfl : v = Value.ref _ := rx
    exact it_list I1 (r1.sub.sub.seqL ha) (Post.pure (mg := X.mg) (E := E) p1 r1 _ (wk_list ha ra))
  | tup ha ra =>
    obtain rfl : v = Value.ref _ := rx
    exact it_tup I1 (SqT.of (r1.sub _ _ ha)) (Post.pure (mg := X.mg) (E := E) p1 r1 _ (wk_tup (SqT.of ha) ra))
  | ftp ha ra =>
    obtain rfl : v = Value.ref _ := rx
    exact it_tup I1 (r1.sub.sub.seqT ha.t) (Post.pure (mg := X.mg) (E := E) p1 r1 _ (wk_tup ha.t ra))
  | _ => exact p1.elim

/-! ### ranges -/
def rangeT (lo : Int) (n : Nat) : List T := (List.range n).map fun (i : Nat) => T.int (lo + (i : Int))
def rangeC (lo c : Int) (n : Nat) : List T := (List.range n).map fun (i : Nat) => T.int (lo + (i : Int) * c)
def sm62 (i : Int) : Bool := decide (-(2 ^ 62) ≤ i) && decide (i < 2 ^ 62)
def gRange1 : List T → M (List T)
  | [.int j] => bif sm62 j then M.pure (rangeT 0 j.toNat) else M.no
  | _ => M.no
def gRange2 : List T → M (List T)
  | [.int i, .int j] => bif sm62 i && sm62 j then M.pure (rangeT i (j - i).toNat) else M.no
  | _ => M.no
def iB (g : List T → M (List T)) (fa : Env → M (List T)) : Env → M (List T) := fun ρ => M.bind (fa ρ) g
theorem sm62_of {i : Int} (h : sm62 i = true) : -(2 ^ 62) ≤ i ∧ i < 2 ^ 62 := by
  unfold sm62 at h
  simpa using h
theorem wk_range {K : PySem.W.Frag} {F : Hp} {ι : List Addr} (lo : Int) (n : Nat) : Wk K F ι (Itr lo n) (rangeT lo n) where
  go := fun i F' ι' μ' H' _ _ _ hi => (by simpa [rangeT] using hi : i < n)
  yld := fun i F' ι' μ' H' x H'' _ _ r1 hi y => by
    obtain ⟨e, y⟩ := y
    subst e y
    have hi' : i < n := by simpa [rangeT] using hi
    exact ⟨.int (lo + i), F', by simp [rangeT, hi'], .refl .., r1, .int _⟩
  stop := fun i F' ι' μ' H' _ _ _ hi => (by simpa [rangeT] using hi : n ≤ i)
theorem wk_rangeC {K : PySem.W.Frag} {F : Hp} {ι : List Addr} (lo c : Int) (n : Nat) : Wk K F ι (Itc lo c n) (rangeC lo c n) where
  go := fun i F' ι' μ' H' _ _ _ hi => (by simpa [rangeC] using hi : i < n)
  yld := fun i F' ι' μ' H' x H'' _ _ r1 hi y => by
    obtain ⟨e, y⟩ := y
    subst e y
    have hi' : i < n := by simpa [rangeC] using hi
    exact ⟨.int (lo + (i : Nat) * c), F', by simp [rangeC, hi'], .refl .., r1, .int _⟩
  stop := fun i F' ι' μ' H' _ _ _ hi => (by simpa [rangeC] using hi : n ≤ i)
theorem i_range1 {a : Expr} {fa : Env → M (List T)} {p pos : Pos} (ha : DA X E [a] fa) (hm : X.mg "range" = none) (hg : Gl X "range" := by rfl) (hs : starEach [a] X.env = [(false, eval a X.env)] := by rfl) : DI X E tg (.Call (.Name "range" p) [a] [] pos) (iB gRange1 fa) :=
  pi_imp (pi_range1 hg hm ha hs) fun σ H R ⟨F, ι, μ, ρ, hr, hen, hp⟩ => At.a hr hen hp fun F1 ι1 μ1 H1 vs ds x1 r1 rs p1 => by
    unfold gRange1 at p1
    split at p1
    · rename_i j
      cases rs with
      | cons r t =>
        cases t
        cases r
        cases hz : sm62 j with
        | false => rw [hz] at p1; exact p1.elim
        | true =>
          rw [hz] at p1
          have hb := sm62_of hz
          exact ⟨j, rfl, hb.1, hb.2, Post.pure (mg := X.mg) (E := E) p1 r1 _ (wk_range 0 j.toNat)⟩
    · exact p1.elim
theorem i_range2 {a b : Expr} {fa : Env → M (List T)} {p pos : Pos} (ha : DA X E [a, b] fa) (hm : X.mg "range" = none) (hg : Gl X "range" := by rfl) (hs : starEach [a, b] X.env = [(false, eval a X.env), (false, eval b X.env)] := by rfl) (hs2 : starEach [b] X.env = [(false, eval b X.env)] := by rfl) :
    DI X E tg (.Call (.Name "range" p) [a, b] [] pos) (iB gRange2 fa) :=
  pi_imp (pi_range2 hg hm ha hs hs2) fun σ H R ⟨F, ι, μ, ρ, hr, hen, hp⟩ => At.a hr hen hp fun F1 ι1 μ1 H1 vs ds x1 r1 rs p1 => by
    unfold gRange2 at p1
    split at p1
    · rename_i i j
      cases rs with
      | cons r t =>
        cases r
        cases t with
        | cons r t =>
          cases t
          cases r
          cases hz : (sm62 i && sm62 j) with
          | false => rw [hz] at p1; exact p1.elim
          | true =>
            rw [hz] at p1
            rw [Bool.and_eq_true] at hz
            have h1 := sm62_of hz.1
            have h2 := sm62_of hz.2
            exact ⟨i, j, rfl, ⟨h1.1, h1.2, h2.1, h2.2⟩, Post.pure (mg := X.mg) (E := E) p1 r1 _ (wk_range i (j - i).toNat)⟩
    · exact p1.elim
end

/-! ### sources that hand out new tuples, from KE's GoesN -/
/-- what such a walk leans on: fp, the iterator's own objects; S, their state; D, what is read of the heap; HD, whence it is known -/
structure Src (P : Program) (w : World) (K : PySem.W.Frag) (tg : Expr) (I₀ : Addr) (fp : List Addr) (n : Nat) (S : Nat → Heap → Prop) (HD : Hp → Prop) (PV : Nat → List V → Prop) : Prop where
  mem : I₀ ∈ fp
  keep : ∀ i h h', S i h → (∀ b ∈ fp, ∀ o, h.get? b = some o → h'.get? b = some o) → S i h'
  self : ∀ (A : Around) (i : Nat) (s : Shared) (Q : Value → Shared → Prop) (E : Value → Shared → Prop), S i s.heap → Q (.ref I₀) s → wpAny (model P w) A (pyIter (.ref I₀)) Q E s
  obj : ∀ i h, S i h → ∀ b ∈ fp, ∃ o, h.get? b = some o ∧ ∀ v, o.data ≠ .cell v
  run : ∀ (X : Cx) (pins : List (Addr × Obj)) (s : Shared) (σ : L2.St) (H : Hp), X.prog = P → X.w = w → X.K = K → X.A.handled = none → Inv X pins σ H s → HD H →
    ∃ (gfp wr : List Addr) (Pt : Nat → Array Value → Prop) (St : Nat → Heap → Prop), (∀ b ∈ wr, b ∈ fp) ∧ GoesN P w X.A tg I₀ gfp wr n (fun i h₀ v h => ∃ T vals, v = .ref T ∧ h₀.objs.size ≤ T ∧ Pt i vals ∧ h.IsTuple T vals) St ∧
      (∀ i, S i s.heap → St i s.heap) ∧ (∀ i h, St i h → S i h) ∧ ∀ i vals, i < n → Pt i vals → ∃ xs, Vals xs vals.toList ∧ xs.length ≤ 16 ∧ PV i xs
def ItP (n : Nat) (HD : Hp → Prop) (PV : Nat → List V → Prop) : It :=
  ⟨fun i H => HD H ∧ i < n, fun i H v H' => ∃ T xs, v = .ref T ∧ H T = none ∧ H' = upd H T (.tup xs) ∧ PV i xs, fun i H => HD H ∧ n ≤ i⟩
theorem Src.turn {P : Program} {w : World} {K : PySem.W.Frag} {tg : Expr} {I₀ : Addr} {fp : List Addr} {n : Nat} {S : Nat → Heap → Prop} {HD : Hp → Prop} {PV : Nat → List V → Prop} (Z : Src P w K tg I₀ fp n S HD PV) :
    Turn P w K tg (ItP n HD PV) fp I₀ (fun i h => i ≤ n ∧ S i h) where
  mem := Z.mem
  obj := fun i h st => Z.obj i h st.2
  keep := fun i h h' st k => ⟨st.1, Z.keep i h h' st.2 k⟩
  item := by
    intro X hP hw hK hc i pins s σ H E I hf st hg
    obtain ⟨gfp, wr, Pt, St, sub, G, s1, s2, pv⟩ := Z.run X pins s σ H hP hw hK (I.ok.hd hc) I hg.1
    subst hP hw
    refine thn (G.goes i s (fun v s' => ∃ h' tk, s' = { s with heap := h', toks := tk } ∧ (∃ T vals, v = .ref T ∧ s.heap.objs.size ≤ T ∧ Pt i vals ∧ h'.IsTuple T vals) ∧ St (i + 1) h' ∧ ∀ b o, b ∉ wr → s.heap.get? b = some o → h'.get? b = some o) E hg.2 (s1 i st.2) fun v h' tk y st' k _ => ⟨h', tk, rfl, y, st', k⟩) fun r s1 ⟨v, hr, hv⟩ => ?_
    refine ⟨v, hr, thn hv fun _ z hz => ?_⟩
    obtain ⟨h', tk, rfl, ⟨T, vals, rfl, hT, hP', hI⟩, st', kk⟩ := hz
    obtain ⟨xs, rv, hl, hxs⟩ := pv i vals hg.2 hP'
    have nT : H T = none := I.hok.fresh hT
    have new : ObjOk X.prog X.w (upd H T (.tup xs)) h' T (.tup xs) := ⟨by rw [sizeLine_eq]; omega, vals.toList, rv, by have z : IsTup h' T vals := hI; simpa using z⟩
    have kfp : ∀ b o, b ∉ fp → s.heap.get? b = some o → h'.get? b = some o := fun b o hb e => kk b o (fun z => hb (sub b z)) e
    refine ⟨.ref T, _, I.turnedNew (t' := tk) (ch := fp) kfp hf hT new, rfl, ⟨T, xs, rfl, nT, rfl, hxs⟩, ⟨hg.2, s2 _ _ st'⟩, fun b hb => ?_⟩
    rw [upd_ne (fun z => ?_)]
    · exact (hf b hb).1
    · obtain ⟨o, e, _⟩ := Z.obj i _ st.2 b hb
      rw [z] at e
      exact absurd (Nat.lt_of_lt_of_le (Heap.lt_size e) hT) (Nat.lt_irrefl _)
  done := by
    intro X hP hw hK hc i pins s σ H E I hf st hg
    obtain ⟨gfp, wr, Pt, St, sub, G, s1, s2, pv⟩ := Z.run X pins s σ H hP hw hK (I.ok.hd hc) I hg.1
    subst hP hw
    have ei : i = n := Nat.le_antisymm st.1 hg.2
    subst ei
    refine thn (G.stops s (fun s' => Inv X pins σ H s') E (s1 i st.2) fun h' tk k _ => I.turnedL (ch := fp) (fun b o hb e => k b o (fun z => hb (sub b z)) e) hf) fun r s1 hz => hz
  self := fun A i s Q E st q => Z.self A i s Q E st.2 q

/-! ### a sequence: a list or a tuple -/
def SqB (b : Bool) (K : PySem.W.Frag) (H : Hp) (a : Addr) (xs : List V) : Prop := cond b (SqT K H a xs) (SqL K H a xs)
def SqIt (b : Bool) (h : Heap) (it a : Addr) (i : Nat) : Prop := cond b (h.IsTupleIter it a i) (h.IsListIter it a i)
def SqAt (b : Bool) (h : Heap) (a : Addr) (items : Array Value) : Prop := cond b (h.IsTuple a items) (h.IsList a items)
def sqO (b : Bool) (a : Addr) : Obj := { cls := .type (cond b "tuple_iterator" "list_iterator"), data := .fields #[.ref a, .int 0 0] }
theorem sq_begins (b : Bool) (a : Addr) (items : Array Value) : Begins (.ref a) (sqO b a) fun h => SqAt b h a items := by
  cases b with
  | true => exact begins_tuple a items
  | false => exact begins_list a items
theorem sq_draws {P : Program} {w : World} {A : Around} (hh : A.handled = none) (b : Bool) (it a : Addr) (hne : a ≠ it) (items : Array Value) :
    Draws P w A it [it, a] items.size (fun i v => items[i]? = some v) (fun i h => SqIt b h it a i ∧ SqAt b h a items) := by
  cases b with
  | true => exact Draws.tuple hh it a hne items
  | false => exact Draws.list hh it a hne items
theorem sq_it0 {b : Bool} {h : Heap} {it a : Addr} (e : h.get? it = some (sqO b a)) : SqIt b h it a 0 := by
  cases b with
  | true => exact ⟨_, e, rfl, rfl⟩
  | false => exact ⟨_, e, rfl, rfl⟩
theorem sq_itAt {b : Bool} {h h' : Heap} {it a : Addr} {i : Nat} (x : SqIt b h it a i) (k : ∀ o, h.get? it = some o → h'.get? it = some o) : SqIt b h' it a i := by
  cases b with
  | true => exact Heap.IsTupleIter.at x k
  | false => exact Heap.IsListIter.at x k
theorem sq_itObj {b : Bool} {h : Heap} {it a : Addr} {i : Nat} (x : SqIt b h it a i) : ∃ o, h.get? it = some o ∧ ∀ v, o.data ≠ .cell v := by
  cases b with
  | true => obtain ⟨o, e, _, d⟩ := (show h.IsTupleIter it a i from x); exact ⟨o, e, fun v z => by rw [d] at z; cases z⟩
  | false => obtain ⟨o, e, _, d⟩ := (show h.IsListIter it a i from x); exact ⟨o, e, fun v z => by rw [d] at z; cases z⟩
theorem Inv.sq {X : Cx} {pins : List (Addr × Obj)} {σ : L2.St} {H : Hp} {s : Shared} {b : Bool} {a : Addr} {xs : List V} (I : Inv X pins σ H s) (h : SqB b X.K H a xs) : ∃ its : List Value, Vals xs its ∧ SqAt b s.heap a its.toArray ∧ a < s.heap.objs.size := by
  cases b with
  | true =>
    obtain ⟨its, r, p, _⟩ := I.tuple h
    obtain ⟨o, e, _⟩ := id p
    exact ⟨its, r, p, Heap.lt_size e⟩
  | false =>
    obtain ⟨its, r, p, _⟩ := I.list h
    obtain ⟨o, n, e, _⟩ := id p
    exact ⟨its, r, p.isList, Heap.lt_size e⟩
theorem Vals.at {xs : List V} {us : List Value} {i : Nat} {u : Value} : Vals xs us → us[i]? = some u → ∃ x, xs[i]? = some x ∧ RelV x u := fun r e => by
  have hl := r.length
  obtain ⟨h1, _⟩ := List.getElem?_eq_some_iff.mp e
  obtain ⟨u', e', ru⟩ := r.get (i := i) (x := xs[i]) (List.getElem?_eq_getElem (by omega))
  rw [e] at e'
  cases e'
  exact ⟨_, List.getElem?_eq_getElem (by omega), ru⟩
/-- enumerate over a sequence -/
theorem src_enum {P : Program} {w : World} {K : PySem.W.Frag} {elts : List Expr} {kk : Nat} {tpos : Pos} (b : Bool) (a e it : Addr) (xs : List V) (ne : e ≠ it) (na : a ≠ it) (nea : e ≠ a) :
    Src P w K (.Tuple elts kk tpos) e [e, it] xs.length (fun i h => (∃ old, IsEnum h e it ((0 : Int) + (i : Nat)) old) ∧ SqIt b h it a i) (fun H => SqB b K H a xs) (fun i ys => ∃ x, xs[i]? = some x ∧ ys = [.int ((0 : Int) + (i : Nat)), x]) where
  mem := by simp
  self := fun A i s Q E st q => by
    obtain ⟨⟨_, he⟩, _⟩ := st
    exact wpAny_pyIter_enum he q
  keep := fun i h h' st k => by
    obtain ⟨⟨old, he⟩, hi⟩ := st
    exact ⟨⟨old, k e (by simp) _ he⟩, sq_itAt hi fun o q => k it (by simp) o q⟩
  obj := fun i h st c hc => by
    obtain ⟨⟨old, he⟩, hi⟩ := st
    have e' : c = e ∨ c = it := by simpa using hc
    rcases e' with z | z
    · subst z; exact ⟨_, he, fun v q => nomatch q⟩
    · subst z; exact sq_itObj hi
  run := fun X pins s σ H hP hw hK hh I hD => by
    subst hP hw hK
    obtain ⟨its, rv, hat, _⟩ := Inv.sq I hD
    have hl := rv.length
    have G := GoesN.enumFrom (elts := elts) (x1 := kk) (pos := tpos) 0 (sq_draws (P := X.prog) (w := X.w) (A := X.A.in1) hh b it a na its.toArray) e ne (by simp [ne, nea]) (by simp)
    have hsz : its.toArray.size = xs.length := by simp [hl]
    rw [hsz] at G
    refine ⟨_, _, fun i vals => ∃ t x, its.toArray[i]? = some x ∧ vals = #[.int ((0 : Int) + (i : Nat)) t, x], _, ?_, G.mono fun i h₀ v h _ ⟨T, t, x, ev, hn, hx, hT⟩ => ⟨T, _, ev, hn, ⟨t, x, hx, rfl⟩, hT⟩, fun i st => ⟨st.1, st.2, hat⟩, fun i h st => ⟨st.1, st.2.1⟩, ?_⟩
    · intro c hc; exact hc
    · rintro i vals hi ⟨t, x, hx, rfl⟩
      obtain ⟨y, hy, ry⟩ := Vals.at rv (by simpa using hx)
      exact ⟨[.int ((0 : Int) + (i : Nat)), y], .cons ⟨t, rfl⟩ (.cons ry .nil), by simp, y, hy, rfl⟩
set_option maxHeartbeats 4000000 in
theorem enum_new1 {v : Value} {o : Obj} {H : Heap → Prop} (B : Begins v o H) :
    Meets (Builtin.«enumerate.__new__» ⟨[.type "enumerate", v], []⟩) (fun _ R s => H s.heap ∧
      R (.ok (.ret (.ref (s.heap.push o).objs.size))) { s with heap := (s.heap.push o).push { cls := .type "enumerate", data := .fields #[.none, .bool false, .ref s.heap.objs.size, rawInt 0, .none, .none] } }) :=
  .of_wp fun prog w A R s h => by
    obtain ⟨hp, g, d, tk, os⟩ := s
    obtain ⟨h1, h⟩ := h
    have sb := sub_enumerate
    have it1 : ∀ {A' : Around} {E : Value → Shared → Prop} {Q : Value → Shared → Prop}, Q (.ref hp.objs.size) ⟨hp.push o, g, d, tk, os⟩ → wpAny (model prog w) A' (pyIter v) Q E ⟨hp, g, d, tk, os⟩ := fun q => B.iter prog w _ _ ⟨hp, g, d, tk, os⟩ _ h1 q
    wp_walk using it1
    refine wpAny_stack_any fun st => wpAny_pure ?_
    split
    · rename_i c _ _ _ _ _
      cases (c == Value.type "enumerate") <;> (wp_walk using it1; exact ⟨_, rfl, h⟩)
    · wp_walk using it1
      exact ⟨_, rfl, h⟩
theorem enum_call1 {prog : Program} {w : World} {A : Around} {E : Value → Shared → Prop} {s : Shared} {v : Value} {o : Obj} {H : Heap → Prop} {Q : Value → Shared → Prop} (B : Begins v o H) (h1 : H s.heap)
    (h : ∀ h', IsEnum h' (s.heap.objs.size + 1) s.heap.objs.size 0 .none → h'.get? s.heap.objs.size = some o → h'.objs.size = s.heap.objs.size + 2 → (∀ b o, s.heap.get? b = some o → h'.get? b = some o) → Q (.ref (s.heap.objs.size + 1)) { s with heap := h' }) :
    wpAny (model prog w) A (call (.type "enumerate") [v]) Q E s := by
  refine callType_new F.called_enumerate (by decide) (F.typeCall_enumerate_1 _) (F.newCall_enumerate_1 _) (fun obj => F.args_object_init_2 obj _) F.entry_enumerate_new (enum_new1 B) ⟨h1, ?_⟩
  have sz : (s.heap.push o).objs.size = s.heap.objs.size + 1 := Heap.size_push ..
  have at1 := Heap.get?_push_size (s.heap.push o) (o := { cls := .type "enumerate", data := .fields #[.none, .bool false, .ref s.heap.objs.size, rawInt 0, .none, .none] }) rfl
  rw [sz] at at1
  show _ ∧ _
  rw [sz]
  exact ⟨⟨_, at1, rfl⟩, h _ at1 (Heap.get?_push_of_some _ (Heap.get?_push_size _ B.free)) (by rw [Heap.size_push, sz]) fun b o x => Heap.get?_push_of_some _ (Heap.get?_push_of_some _ x)⟩
def enumT (ds : List T) : List T := (ds.zipIdx).map fun p => .tup [.int ((p.2 : Nat) : Int), p.1]
def gEnum : List T → M (List T)
  | [d] => M.bind (gIter d) fun ds => M.pure (enumT ds)
  | _ => M.no
def gZip : List T → M (List T)
  | [d, e] => M.bind (gIter d) fun xs => M.bind (gIter e) fun ys => M.pure (List.zipWith (fun x y => .tup [x, y]) xs ys)
  | _ => M.no
section
variable {K : PySem.W.Frag} {F : Hp} {ι : List Addr}
theorem wk_pairs {n : Nat} {HD : Hp → Prop} {PV : Nat → List V → Prop} {es : List (List T)} (hn : es.length = n) (hD : ∀ F' H' : Hp, All F F' → All F' H' → HD H') (hv : ∀ i ys, PV i ys → ∃ ts, es[i]? = some ts ∧ Rps K F ι ys ts) :
    Wk K F ι (ItP n HD PV) (es.map T.tup) where
  go := fun i F' ι' μ' H' a1 _ r1 hi => ⟨hD F' H' a1 r1.sub, by rw [List.length_map] at hi; omega⟩
  yld := fun i F' ι' μ' H' x H'' a1 b1 r1 hi y => by
    obtain ⟨T₀, xs, rfl, nT, rfl, hx⟩ := y
    obtain ⟨ts, e1, rs⟩ := hv i xs hx
    obtain ⟨x2, r2⟩ := r1.newF (u := .tup xs) nT (fun a z => upd_ne z) upd_same
    exact ⟨.tup ts, _, by rw [List.getElem?_map, e1]; rfl, x2, r2, .tup upd_same ((rs.mono a1.sub b1).ext x2)⟩
  stop := fun i F' ι' μ' H' a1 _ r1 hi => ⟨hD F' H' a1 r1.sub, by rw [List.length_map] at hi; omega⟩
theorem seq_b {d : T} {v : V} {ds : List T} (rv : Rp K F ι v d) (h : seqOf d = some ds) : ∃ b a xs, v = .ref a ∧ SqB b K F a xs ∧ Rps K F ι xs ds := by
  cases rv with
  | lst ha ra => cases h; exact ⟨false, _, _, rfl, SqL.of ha, ra⟩
  | fls ha ra => cases h; exact ⟨false, _, _, rfl, ha, ra⟩
  | tup ha ra => cases h; exact ⟨true, _, _, rfl, SqT.of ha, ra⟩
  | ftp ha ra => cases h; exact ⟨true, _, _, rfl, ha.t, ra⟩
  | _ => cases h
theorem SqB.sub {b : Bool} {F' : Hp} {a : Addr} {xs : List V} (h : SqB b K F a xs) (s : Sub F F') : SqB b K F' a xs := by
  cases b with
  | true => exact s.seqT h
  | false => exact s.seqL h
end
section
variable {X : Cx} {E : XK} {k : Nat}
theorem gIter_post {α : Type} {K : PySem.W.Frag} {mg : Str → Option Value} {E : XK} {F : Hp} {ι : List Addr} {H : Hp} {μ : Store} {d : T} {c : List T → M α} {rp : Hp → List Addr → Store → Hp → α → Prop} (hp : Post K mg E (M.bind (gIter d) c μ) F ι H rp) : ∃ ds, seqOf d = some ds ∧ Post K mg E (c ds μ) F ι H rp := by
  unfold M.bind gIter at hp
  cases h : seqOf d with
  | none => rw [h] at hp; exact hp.elim
  | some ds => rw [h] at hp; exact ⟨ds, rfl, hp⟩
theorem i_enum {e : Expr} {fa : Env → M (List T)} {p pos tpos : Pos} {elts : List Expr} {kk : Nat} (ha : DA X E [e] fa) (hm : X.mg "enumerate" = none) (hg : Gl X "enumerate" := by rfl) (hs : starEach [e] X.env = [(false, eval e X.env)] := by rfl) :
    DI X E (.Tuple elts kk tpos) (.Call (.Name "enumerate" p) [e] [] pos) (iB gEnum fa) := by
  refine ⟨fun pins s σ H R I hh => ?_⟩
  obtain ⟨F, ι, μ, ρ, hr, hen, hp⟩ := hh
  refine Call_ (ld_blt I hg hm boot_enumerate (PyProof.Rows.callWith_type1 (thn (ha.run pos pins s σ H (fun vs H1 => ∃ F1 ι1 μ1 ds, Rel X.K F1 ι1 μ1 H1 ∧ Rps X.K F1 ι1 vs ds ∧ Post X.K X.mg E (gEnum ds μ1) F1 ι1 H1 (fun F' ι' _ H' ds => ∀ J, Wk X.K F' ι' J ds → R J H')) I (At.a hr hen hp fun F1 ι1 μ1 H1 vs ds x1 r1 rs p1 => ⟨F1, ι1, μ1, ds, r1, rs, p1⟩)) fun us s1 hx => ?_) hs rfl))
  obtain ⟨vs, H1, I1, rv, F1, ι1, μ1, ds, r1, rs, p1⟩ := hx
  unfold gEnum at p1
  split at p1
  · cases rs with
    | cons r t =>
      cases t
      cases rv with
      | cons q t =>
        cases t
        obtain ⟨es, h1, p2⟩ := gIter_post p1
        obtain ⟨b, a, xs, rfl, hsq, ra⟩ := seq_b r h1
        cases q
        have hsH : SqB b X.K H1 a xs := hsq.sub r1.sub.sub
        obtain ⟨its, rv, hat, hlt⟩ := Inv.sq I1 hsH
        refine enum_call1 (sq_begins b a its.toArray) hat fun h' he hit hsz hk => wpAny_pyIter_enum he ?_
        have I2 : Inv X pins σ H1 { s1 with heap := h' } := I1.kept (t' := s1.toks) hk
        have S := src_enum (P := X.prog) (w := X.w) (K := X.K) (elts := elts) (kk := kk) (tpos := tpos) b a (s1.heap.objs.size + 1) s1.heap.objs.size xs (Nat.succ_ne_self _) (Nat.ne_of_lt hlt) (Nat.ne_of_gt (Nat.lt_succ_of_lt hlt))
        refine ⟨s1.heap.objs.size + 1, [s1.heap.objs.size + 1, s1.heap.objs.size], _, _, H1, rfl, I2, S.turn, ⟨Nat.zero_le _, ⟨.none, he⟩, sq_it0 hit⟩, fun c hc => ?_, ?_⟩
        · have hle : s1.heap.objs.size ≤ c := by
            rcases List.mem_cons.mp hc with z | z
            · rw [z]; exact Nat.le_succ _
            · rw [List.mem_singleton.mp z]; exact Nat.le_refl _
          exact I1.fpOk hle (I1.hok.fresh hle)
        · have q := Post.pure (mg := X.mg) (E := E) (a := enumT es) p2 r1
          refine q _ ?_
          have ee : enumT es = ((es.zipIdx).map fun (p : T × Nat) => [T.int ((p.2 : Nat) : Int), p.1]).map T.tup := by
            unfold enumT
            rw [List.map_map]
            rfl
          rw [ee]
          refine wk_pairs (by simp [ra.length]) (fun F' H' a1 a2 => (hsq.sub a1.sub).sub a2.sub) fun i ys hy => ?_
          obtain ⟨x, hx, rfl⟩ := hy
          obtain ⟨d, hd, rd⟩ := ra.getV hx
          refine ⟨[.int ((i : Nat) : Int), d], by simp [hd], .cons ?_ (.cons rd .nil)⟩
          rw [Int.zero_add]
          exact .int _
  · exact p1.elim
end
end TL

/-! T layer 9: isinstance, chains, stores into cells, methods of cells, slices, starred displays, several names at once. -/
namespace TL
open PySem PySem.Spec PyProof.Rows L2
variable [Tb]

/-! ### isinstance -/
def tyT : T → Option String
  | .non => some "NoneType"
  | .bl _ => some "bool"
  | .int _ => some "int"
  | .str _ => some "str"
  | .lst _ => some "list"
  | .fls _ => some "list"
  | .tup _ => some "tuple"
  | .ftp _ => some "tuple"
  | .dic _ _ => some "dict"
  | _ => none
def isiP (t n : String) : Bool := t == n || (t == "bool" && n == "int")
def tyNames : List String := ["NoneType", "bool", "int", "str", "list", "tuple", "dict"]
def clsNames : List String := ["bool", "int", "str", "list", "tuple", "dict"]
theorem kitB_ok : ∀ t ∈ tyNames, ∀ n ∈ clsNames, kitB t n = some (isiP t n) := by decide +kernel
theorem tyT_mem {d : T} {t : String} (h : tyT d = some t) : t ∈ tyNames := by
  cases d <;> cases h <;> decide
def gIsi : T → T → M T := fun d c => match c with
  | .ty n => match tyT d with
    | some t => bif clsNames.contains n then M.pure (.bl (isiP t n)) else M.no
    | none => M.no
  | _ => M.no
section
variable {X : Cx} {E : XK} {k : Nat}
theorem ty_of {pins : List (Addr × Obj)} {σ : L2.St} {H : Hp} {s : Shared} {F : Hp} {ι : List Addr} {μ : Store} {x : V} {u : Value} {d : T} {t : String} (I : Inv X pins σ H s) (rx : RelV x u) (hr : Rel X.K F ι μ H) (lx : Lp X.K F ι H x d) (h : tyT d = some t) :
    ∃ P : Heap → Prop, PySem.W.KitX X.K u (.type t) P ∧ P s.heap ∧ u ≠ .builtin "__main__.__loader__#opaque" := by
  cases lx with
  | non => cases h; exact kit_of I rx (.base .non)
  | bl b => cases h; exact kit_of I rx (.base (.bl b))
  | int i => cases h; exact kit_of I rx (.base (.int i))
  | str z => cases h; exact kit_of I rx (.base (.str z))
  | lst ha _ => cases h; exact kit_of I rx (.base (.lst ha))
  | fls ha _ =>
    cases h
    rcases hr.sub.sub.seqL ha with (e | ⟨o, e⟩) | ⟨o, its, n, e, c, _⟩
    · exact kit_of I rx (.base (.lst e))
    · exact kit_of I rx (.base (.frz e))
    · exact kit_of I rx (.kList e c)
  | tup ha _ => cases h; exact kit_of I rx (.base (.tup (hr.sub _ _ ha)))
  | ftp ha _ =>
    cases h
    rcases hr.sub.sub.seqT ha.t with (e | ⟨o, e⟩) | ⟨o, its, n, e, c, _⟩
    · exact kit_of I rx (.base (.tup e))
    · exact kit_of I rx (.fTuple e)
    · exact kit_of I rx (.kTuple e c)
  | dic ha _ =>
    cases h
    cases (show u = Value.ref _ from rx)
    obtain ⟨_, _, vs, _, dd⟩ := dk_rd I.hok ha
    obtain ⟨o, h1, h2⟩ := dd.typeIs
    exact ⟨_, PySem.W.kitx_dict, ⟨o, h1, h2⟩, fun z => nomatch z⟩
  | dit ha _ =>
    cases h
    cases (show u = Value.ref _ from rx)
    obtain ⟨_, _, xs, _, dd⟩ := dt_rd I.hok ha
    obtain ⟨o, h1, h2⟩ := dd.typeIs
    exact ⟨_, PySem.W.kitx_dict, ⟨o, h1, h2⟩, fun z => nomatch z⟩
  | ref a => cases h
  | ty n => cases h
  | exn _ _ => cases h
theorem c_isi : CallD X E (.builtin "isinstance") (g2 gIsi) := .two fun pins s σ H x y us Q F ι μ d e I rv hr lx ly hp => by
  obtain ⟨u1, u2, rfl, r1, r2⟩ := vals2 rv
  cases ly with
  | ty n =>
    simp only [gIsi] at hp
    cases ht : tyT d with
    | none => rw [ht] at hp; exact hp.elim
    | some t =>
      rw [ht] at hp
      simp only at hp
      cases hc : clsNames.contains n with
      | false => rw [hc] at hp; exact hp.elim
      | true =>
        rw [hc] at hp
        obtain ⟨P, Z, p, hx⟩ := ty_of I r1 hr lx ht
        cases (show u2 = Value.type n from r2)
        exact PySem.W.kia_one Z I.kIn p (kit_ty (kitB_ok t (tyT_mem ht) n (by simpa using hc))) hx fun tk => ⟨.bl _, H, I.tok tk, rfl, Post.pure hp hr _ (.bl _)⟩
  | _ => exact hp.elim

/-! ### chained compares -/
def eChain (g g' : T → T → M T) (fa fb fc : Env → M T) : Env → M T := fun ρ => M.bind (fa ρ) fun x => M.bind (fb ρ) fun y => M.bind (g x y) fun b => M.bind (asB b) fun b => bif b then M.bind (fc ρ) fun z => g' y z else M.pure (.bl false)
def bChain (g g' : T → T → M T) (fa fb fc : Env → M T) : Env → M Bool := fun ρ => M.bind (fa ρ) fun x => M.bind (fb ρ) fun y => M.bind (g x y) fun b => M.bind (asB b) fun b => bif b then M.bind (fc ρ) fun z => M.bind (g' y z) asB else M.pure false
variable {a b c : Expr} {pos : Pos} {fa fb fc : Env → M T} {g g' : T → T → M T} {op op' : CmpOp}
theorem d_chain (ho : OpD X E (compareOp op) g) (ho' : OpD X E (compareOp op') g') (ha : DE X E a fa) (hb : DE X E b fb) (hc : DE X E c fc) (hm : lastMarks [op, op'] [b, c] = false := by with_unfolding_all rfl) :
    DE X E (.Compare a [op, op'] [b, c] pos) (eChain g g' fa fb fc) :=
  pe_imp (pe_chain ho ho' ha hb hc hm) fun σ H Q ⟨F, ι, μ, ρ, hr, he, hp⟩ => At.e hr he hp fun F1 ι1 μ1 H1 v d x1 r1 rv p1 => At.e r1 (he.ext x1) p1 fun F2 ι2 μ2 H2 u e x2 r2 ru p2 =>
    ⟨F2, ι2, μ2, d, e, r2, rv.ext x2, ru, p2.bind fun F3 ι3 μ3 H3 z x3 r3 p3 w rw' => by
      cases rw' with
      | bl q =>
        refine ⟨q, rfl, ?_⟩
        cases q with
        | true => exact iteT (At.e r3 (((he.ext x1).ext x2).ext x3) p3 fun F4 ι4 μ4 H4 w' d' x4 r4 rw4 p4 => ⟨F4, ι4, μ4, e, d', r4, (ru.ext x3).ext x4, rw4, p4⟩)
        | false => exact iteF (Post.pure (mg := X.mg) (E := E) (a := T.bl false) p3 r3 _ (.bl false))
      | _ => exact p3.elim⟩
theorem t_chain (ho : OpD X E (compareOp op) g) (ho' : OpD X E (compareOp op') g') (ha : DE X E a fa) (hb : DE X E b fb) (hc : DE X E c fc) (hm : lastMarks [op, op'] [b, c] = false := by with_unfolding_all rfl) :
    DT X E (.Compare a [op, op'] [b, c] pos) (bChain g g' fa fb fc) :=
  pt_imp (pt_chain ho ho' ha hb hc hm) fun σ H Q ⟨F, ι, μ, ρ, hr, he, hp⟩ => At.e hr he hp fun F1 ι1 μ1 H1 v d x1 r1 rv p1 => At.e r1 (he.ext x1) p1 fun F2 ι2 μ2 H2 u e x2 r2 ru p2 =>
    ⟨F2, ι2, μ2, d, e, r2, rv.ext x2, ru, p2.bind fun F3 ι3 μ3 H3 z x3 r3 p3 w rw' => by
      cases rw' with
      | bl q =>
        refine ⟨q, rfl, ?_⟩
        cases q with
        | true => exact iteT (At.e r3 (((he.ext x1).ext x2).ext x3) p3 fun F4 ι4 μ4 H4 w' d' x4 r4 rw4 p4 => ⟨F4, ι4, μ4, e, d', r4, (ru.ext x3).ext x4, rw4, p4.bind fun F5 ι5 μ5 H5 z5 x5 r5 p5 w5 rw5 => by
            cases rw5 with
            | bl q5 => exact ⟨q5, rfl, Post.pure (mg := X.mg) (E := E) (a := q5) p5 r5⟩
            | _ => exact p5.elim⟩)
        | false => exact iteF ⟨false, rfl, Post.pure (mg := X.mg) (E := E) (a := false) p3 r3⟩
      | _ => exact p3.elim⟩
end

/-! ### stores into cells -/
theorem Rel.write {K : PySem.W.Frag} {F : Hp} {ι : List Addr} {μ : Store} {H : Hp} {a : Addr} {u : HO} {o : Ob} {k : Nat} {c : Cel} (r : Rel K F ι μ H) (h1 : ι[k]? = some a) (h2 : μ[k]? = some c) (hl : c.live = true) (ru : RpO K F ι u o) (hf : ∀ ob w, u ≠ .frz ob w := by intro _ _ z; cases z) :
    Ext F ι H F ι (upd H a u) ∧ Rel K F ι (μ.set k ⟨true, o⟩) (upd H a u) := by
  obtain ⟨u0, e1, e2, e3, e4⟩ := r.cel k a c h1 h2
  have nF := e3 hl
  have hm : a ∈ ι := List.mem_of_getElem? h1
  refine ⟨⟨fun _ _ e => e, .refl _, fun b x e n _ => ?_, fun b m => .inl m, fun b x e => .inl e⟩, ⟨fun b x e => ?_, r.nd, by simp [r.len], fun j b c' g1 g2 => ?_, fun q hq => tab_put (r.plain h1 h2).1 (r.plain h1 h2).2 (fun b n => upd_ne n) (r.tab q hq), r.nt⟩⟩
  · rw [upd_ne (fun z => n (by rw [z]; exact hm))]; exact e
  · rw [upd_ne (fun z => by rw [z, nF] at e; cases e)]; exact r.sub _ _ e
  · by_cases hj : j = k
    · subst hj
      rw [h1] at g1
      cases g1
      obtain ⟨hk, _⟩ := List.getElem?_eq_some_iff.mp h2
      rw [List.getElem?_set_self hk] at g2
      cases g2
      exact ⟨u, upd_same, ru, fun _ => nF, fun z => (by cases z), fun _ => hf, fun z => (by cases z)⟩
    · rw [List.getElem?_set_ne (Ne.symm hj)] at g2
      obtain ⟨v, q1, q2, q3, q4⟩ := r.cel j b c' g1 g2
      have ne : b ≠ a := fun z => by
        subst z
        obtain ⟨i1, j1⟩ := List.getElem?_eq_some_iff.mp h1
        obtain ⟨i2, j2⟩ := List.getElem?_eq_some_iff.mp g1
        exact hj ((List.getElem_inj r.nd).mp (j2.trans j1.symm))
      exact ⟨v, by rw [upd_ne ne]; exact q1, q2, q3, q4⟩
/-- the list in a cell -/
def onCell {α : Type} (k : Nat) (f : List T → Option (α × List T)) : M α := fun μ => match μ[k]? with
  | some ⟨true, .lst xs⟩ => match f xs with
    | some (a, ys) => .ok a (μ.set k ⟨true, .lst ys⟩)
    | none => .no
  | _ => .no
theorem onCell_post {K : PySem.W.Frag} {mg : Str → Option Value} {E : XK} {F : Hp} {ι : List Addr} {μ : Store} {H : Hp} {α : Type} {k : Nat} {v : V} {f : List T → Option (α × List T)} {rp : Hp → List Addr → Store → Hp → α → Prop}
    (r : Rel K F ι μ H) (rv : Rp K F ι v (.cell k)) (hp : Post K mg E (onCell k f μ) F ι H rp) : ∃ a xs ds y ys, v = .ref a ∧ H a = some (.lst xs) ∧ Rps K F ι xs ds ∧ f ds = some (y, ys) ∧ ∀ zs, Rps K F ι zs ys →
      Ext F ι H F ι (upd H a (.lst zs)) ∧ Rel K F ι (μ.set k ⟨true, .lst ys⟩) (upd H a (.lst zs)) ∧ rp F ι (μ.set k ⟨true, .lst ys⟩) (upd H a (.lst zs)) y := by
  cases rv with
  | @cell _ a e =>
    unfold onCell at hp
    rcases hc : μ[k]? with _ | ⟨lv, o⟩
    · rw [hc] at hp; exact hp.elim
    · rw [hc] at hp
      cases lv with
      | false => cases o <;> exact hp.elim
      | true =>
        cases o with
        | dic tk kvs => exact hp.elim
        | lst ds =>
          simp only at hp
          cases hf : f ds with
          | none => rw [hf] at hp; exact hp.elim
          | some p =>
            obtain ⟨y, ys⟩ := p
            rw [hf] at hp
            obtain ⟨u, e1, e2, e3, e4⟩ := r.cel k a _ e hc
            cases e2 with
            | lst rs =>
              refine ⟨a, _, ds, y, ys, rfl, e1, rs, hf, fun zs rz => ?_⟩
              obtain ⟨x2, r2⟩ := r.write (o := .lst ys) e hc rfl (.lst rz)
              exact ⟨x2, r2, hp _ _ _ x2 r2⟩
def gSetI : T → T → T → M Unit := fun o i v => match o, i with
  | .cell k, .int i => onCell k fun xs => match ixN xs.length i with
    | some j => some ((), xs.set j v)
    | none => none
  | _, _ => M.no
section
variable {X : Cx} {E : XK} {k : Nat} {a b e : Expr} {pos : Pos} {fa fb fe : Env → M T}
def rSetT (X : Cx) (E : XK) (g : T → T → T → M Unit) : TSet := fun o i v H Q => ∃ F ι μ d e w, Rel X.K F ι μ H ∧ Rp X.K F ι o d ∧ Rp X.K F ι i e ∧ Rp X.K F ι v w ∧ Post X.K X.mg E (g d e w μ) F ι H (fun _ _ _ H' _ => Q H')
abbrev SetD (X : Cx) (E : XK) (g : T → T → T → M Unit) : Prop := PSet X (rSetT X E g)
theorem set_ix : SetD X E gSetI := by
  intro pins s σ H o i v ov iv u Q I ro ri rv ⟨F, ι, μ, d, e, w, hr, rd, re, rw', hp⟩
  unfold gSetI at hp
  split at hp
  · cases re with
    | int =>
      rename_i i
      obtain ⟨a, xs, ds, y, ys, rfl, ha, rs, hf, fin⟩ := onCell_post hr rd hp
      cases hx : ixN ds.length i with
      | none => rw [hx] at hf; cases hf
      | some j =>
        rw [hx] at hf
        cases hf
        obtain ⟨_, _, q⟩ := fin _ (rs.set rw' j)
        exact set_list pins s σ H _ _ v ov iv u Q I ro ri rv ⟨a, xs, i, j, rfl, rfl, ha, by rw [rs.length]; exact hx, q⟩
  · exact hp.elim
def hSub (fa fb : Env → M T) (g : T → T → T → M Unit) : T → Env → M Env := fun d ρ => M.bind (fa ρ) fun o => M.bind (fb ρ) fun i => M.bind (g o i d) fun _ => M.pure ρ
theorem g_sub {vs : List Nat} {g : T → T → T → M Unit} (ha : DE X E a fa) (hb : DE X E b fb) (hs : SetD X E g) (hh : ∀ v, assign (.Subscript a b pos) X.env v = (do
      let ov ← holding [v] (eval a X.env)
      let iv ← holding [v, ov] (eval b X.env)
      standAt pos
      holding [v, ov, iv] (setItem ov iv v)
      release [v, ov, iv] []) := by intro _; rfl) : DG X E (.Subscript a b pos) vs (hSub fa fb g) :=
  pg_imp (pg_sub ha hb hs hh) fun v σ H Q ⟨F, ι, μ, ρ, d, hr, he, rv, hp⟩ => At.e hr he hp fun F1 ι1 μ1 H1 o od x1 r1 ro p1 => At.e r1 (he.ext x1) p1 fun F2 ι2 μ2 H2 i id x2 r2 ri p2 =>
    ⟨F2, ι2, μ2, od, id, d, r2, ro.ext x2, ri, (rv.ext x1).ext x2, p2.bind fun F3 ι3 μ3 H3 _ x3 r3 p3 => Post.pure (mg := X.mg) (E := E) (a := ρ) p3 r3 σ (((he.ext x1).ext x2).ext x3) rfl⟩
end
end TL

/-! T layer 10: slices, starred displays, several names at once, a comprehension to a name. -/
namespace TL
open PySem PySem.Spec PyProof.Rows L2 StX
variable [Tb]

/-! ### slices -/
def oNone : Env → M (Option Int) := fun _ => M.pure none
def asO : T → M (Option Int)
  | .int i => M.pure (some i)
  | _ => M.no
def oSome (f : Env → M T) : Env → M (Option Int) := fun ρ => M.bind (f ρ) asO
def cutT (xs : List T) (lo hi : Option Int) : List T := (xs.drop (HT.sIx xs.length 0 lo)).take (HT.sIx xs.length xs.length hi - HT.sIx xs.length 0 lo)
def whole (n : Nat) (lo hi : Option Int) : Bool := decide (HT.sIx n 0 lo = 0) && decide (HT.sIx n n hi = n)
def gSl (lo hi : Option Int) : T → M T
  | .lst xs => M.pure (.lst (cutT xs lo hi))
  | .fls xs => M.pure (.lst (cutT xs lo hi))
  | .tup xs => M.pure (.tup (cutT xs lo hi))
  | .ftp xs => bif whole xs.length lo hi then M.pure (.ftp xs) else M.pure (.tup (cutT xs lo hi))
  | _ => M.no
def eSl (f : Env → M T) (l h : Env → M (Option Int)) : Env → M T := fun ρ => M.bind (f ρ) fun d => M.bind (l ρ) fun lo => M.bind (h ρ) fun hi => M.bind (ld d) (gSl lo hi)
section
variable {K : PySem.W.Frag} {F : Hp} {ι : List Addr}
theorem Rps.cut {vs : List V} {ds : List T} (lo hi : Option Int) (r : Rps K F ι vs ds) : Rps K F ι (cutV vs lo hi) (cutT ds lo hi) := by
  unfold cutV cutT
  rw [r.length]
  exact (r.drop _).take _
theorem cut_whole {ds : List T} {lo hi : Option Int} (h : HT.sIx ds.length 0 lo = 0 ∧ HT.sIx ds.length ds.length hi = ds.length) : cutT ds lo hi = ds := by
  unfold cutT
  rw [h.1, h.2]
  simp
end
section
variable {X : Cx} {E : XK} {k : Nat}
abbrev DO (e : Option Expr) (f : Env → M (Option Int)) (X : Cx) (E : XK) : Prop := PO X e (fun σ H Q => ∃ F ι μ ρ, Rel X.K F ι μ H ∧ ERp X.K F ι σ ρ ∧ Post X.K X.mg E (f ρ μ) F ι H (fun _ _ _ H' o => Q o H'))
theorem o_none : DO none oNone X E := ⟨fun pins s σ H Q I ⟨F, ι, μ, ρ, hr, he, hp⟩ => po_none.run pins s σ H Q I (Post.pure (mg := X.mg) (E := E) (a := (none : Option Int)) hp hr)⟩
theorem o_some {e : Expr} {f : Env → M T} (h : DE X E e f) : DO (some e) (oSome f) X E := ⟨fun pins s σ H Q I ⟨F, ι, μ, ρ, hr, he, hp⟩ => (po_some h).run pins s σ H Q I (At.e hr he hp fun F1 ι1 μ1 H1 v d x1 r1 rv p1 => by
  cases rv with
  | int i => exact ⟨i, rfl, Post.pure (mg := X.mg) (E := E) (a := some i) p1 r1⟩
  | _ => exact p1.elim)⟩
def rSl (X : Cx) (E : XK) : V → Option Int → Option Int → Hp → VK → Prop := fun x lo hi H Q => ∃ F ι μ d, Rel X.K F ι μ H ∧ Rp X.K F ι x d ∧ Post X.K X.mg E (M.bind (ld d) (gSl lo hi) μ) F ι H (wT X.K Q)
theorem sl_all : SlR X (rSl X E) := by
  intro pins s σ H x v vl vu lo hi sl Q I rx hs pl pu ⟨F, ι, μ, d0, hr, rd, hp⟩
  obtain ⟨d, lx, hp⟩ := ld_post hr rd hp
  have lst : ∀ {a : Addr} {xs : List V} {ds : List T}, SqL X.K H a xs → Rps X.K F ι xs ds → Post X.K X.mg E (M.pure (T.lst (cutT ds lo hi)) μ) F ι H (wT X.K Q) → ∀ p, H p = none → Q (.ref p) (upd H p (.lst (cutV xs lo hi))) := fun {a xs ds} ha ra hp p hn => by
    obtain ⟨x2, r2⟩ := hr.newF (u := .lst (cutV xs lo hi)) hn (fun a z => upd_ne z) upd_same
    exact hp _ _ _ x2 r2 _ (.lst upd_same ((ra.cut lo hi).ext x2))
  have tup : ∀ {a : Addr} {xs : List V} {ds : List T}, SqT X.K H a xs → Rps X.K F ι xs ds → Post X.K X.mg E (M.pure (T.tup (cutT ds lo hi)) μ) F ι H (wT X.K Q) → ∀ p, H p = none → Q (.ref p) (upd H p (.tup (cutV xs lo hi))) := fun {a xs ds} ha ra hp p hn => by
    obtain ⟨x2, r2⟩ := hr.newF (u := .tup (cutV xs lo hi)) hn (fun a z => upd_ne z) upd_same
    exact hp _ _ _ x2 r2 _ (.tup upd_same ((ra.cut lo hi).ext x2))
  cases lx with
  | lst ha ra => exact sl_list pins s σ H _ v vl vu lo hi sl Q I rx hs pl pu ⟨_, _, rfl, SqL.of ha, lst (SqL.of ha) ra hp⟩
  | fls ha ra => exact sl_list pins s σ H _ v vl vu lo hi sl Q I rx hs pl pu ⟨_, _, rfl, hr.sub.sub.seqL ha, lst (hr.sub.sub.seqL ha) ra hp⟩
  | @tup a xs ds ha ra =>
    have sq : SqT X.K H a xs := SqT.of (hr.sub _ _ ha)
    refine sl_tupA pins s σ H _ v vl vu lo hi sl Q I rx hs pl pu ⟨_, _, rfl, sq, fun h => ?_, fun _ => tup sq ra hp⟩
    rw [ra.length] at h
    have q : Post X.K X.mg E (M.pure (T.tup (cutT ds lo hi)) μ) F ι H (wT X.K Q) := hp
    rw [cut_whole h] at q
    exact Post.pure q hr _ (.tup ha ra)
  | @ftp a xs ds ha ra =>
    have sq : SqT X.K H a xs := hr.sub.sub.seqT ha.t
    have hp : Post X.K X.mg E ((bif whole ds.length lo hi then M.pure (T.ftp ds) else M.pure (.tup (cutT ds lo hi))) μ) F ι H (wT X.K Q) := hp
    refine sl_tupA pins s σ H _ v vl vu lo hi sl Q I rx hs pl pu ⟨_, _, rfl, sq, fun h => ?_, fun h => ?_⟩
    · rw [ra.length] at h
      have e : whole ds.length lo hi = true := by unfold whole; rw [h.1, h.2]; simp
      rw [e] at hp
      exact Post.pure (a := T.ftp ds) hp hr _ (.ftp ha ra)
    · rw [ra.length] at h
      have e : whole ds.length lo hi = false := by
        cases z : whole ds.length lo hi with
        | false => rfl
        | true =>
          unfold whole at z
          simp only [Bool.and_eq_true, decide_eq_true_eq] at z
          exact (h z).elim
      rw [e] at hp
      exact tup sq ra hp
  | _ => exact hp.elim
theorem d_sl {a : Expr} {lo hi : Option Expr} {f : Env → M T} {l h : Env → M (Option Int)} {p2 pos : Pos} (ha : DE X E a f) (hl : DO lo l X E) (hh : DO hi h X E) : DE X E (.Subscript a (.Slice lo hi none p2) pos) (eSl f l h) :=
  pe_imp (pe_slice sl_all ha hl hh) fun σ H Q ⟨F, ι, μ, ρ, hr, he, hp⟩ => At.e hr he hp fun F1 ι1 μ1 H1 v d x1 r1 rv p1 =>
    ⟨F1, ι1, μ1, ρ, r1, he.ext x1, p1.bind fun F2 ι2 μ2 H2 lo x2 r2 p2 => ⟨F2, ι2, μ2, ρ, r2, (he.ext x1).ext x2, p2.bind fun F3 ι3 μ3 H3 hi x3 r3 p3 => ⟨F3, ι3, μ3, d, r3, (rv.ext x2).ext x3, p3⟩⟩⟩

/-! ### starred displays -/
def aStar (f : Env → M T) (g : Env → M (List T)) : Env → M (List T) := fun ρ => M.bind (f ρ) fun d => M.bind (ld d) fun d => M.bind (gIter d) fun xs => M.bind (g ρ) fun ys => M.pure (xs ++ ys)
theorem a_star {e : Expr} {es : List Expr} {p : Pos} {f : Env → M T} {g : Env → M (List T)} (he : DE X E e f) (hr : DA X E es g) (hs : starEach (.Starred e p :: es) X.env = (true, eval e X.env) :: starEach es X.env := by rfl) : DA X E (.Starred e p :: es) (aStar f g) :=
  pa_imp (pa_star he hr hs) fun σ H Q ⟨F, ι, μ, ρ, hr, he, hp⟩ => At.e hr he hp fun F1 ι1 μ1 H1 v d x1 r1 rv p1 => by
    obtain ⟨d', lx, p2⟩ := ld_post r1 rv p1
    have go : ∀ {a : Addr} {us : List V} {ds : List T}, (SqT X.K H1 a us ∨ SqL X.K H1 a us) → Rps X.K F1 ι1 us ds → v = .ref a → Post X.K X.mg E (M.bind (g ρ) (fun ys => M.pure (ds ++ ys)) μ1) F1 ι1 H1 (fun F' ι' _ H' es => ∀ ws, Rps X.K F' ι' ws es → Q ws H') →
        ∃ p xs, v = V.ref p ∧ (SqT X.K H1 p xs ∨ SqL X.K H1 p xs) ∧ tA X.K X.mg E g σ H1 fun ys H2 => Q (xs ++ ys) H2 := fun {a us ds} hs ra ev p3 =>
      ⟨a, us, ev, hs, At.a r1 (he.ext x1) p3 fun F2 ι2 μ2 H2 ws es x2 r2 rw2 p4 => Post.pure p4 r2 _ ((ra.ext x2).append rw2)⟩
    cases lx with
    | lst ha ra => exact go (.inr (SqL.of ha)) ra rfl p2
    | fls ha ra => exact go (.inr (r1.sub.sub.seqL ha)) ra rfl p2
    | tup ha ra => exact go (.inl (SqT.of (r1.sub _ _ ha))) ra rfl p2
    | ftp ha ra => exact go (.inl (r1.sub.sub.seqT ha.t)) ra rfl p2
    | _ => exact p2.elim

/-! ### a, b = x, y -/
def sPar (i j : Nat) (fa : Env → M (List T)) : Env → M Fl := fun ρ => M.bind (fa ρ) fun ds => match ds with
  | [x, y] => M.pure (.nx ((ρ.set i (some x)).set j (some y)))
  | _ => M.no
def sPar3 (i j l : Nat) (fa : Env → M (List T)) : Env → M Fl := fun ρ => M.bind (fa ρ) fun ds => match ds with
  | [x, y, z] => M.pure (.nx (((ρ.set i (some x)).set j (some y)).set l (some z)))
  | _ => M.no
variable {a b c : Expr} {x y z : Str} {i j l : Nat} {fa : Env → M (List T)} {px py pz pt pos : Pos} {kt k2 pt2}
theorem s_par (o : XO X E k) (i j : Nat) (ha : DA X E [a, b] fa) (hi : X.N[i]? = some x := by rfl) (hj : X.N[j]? = some y := by rfl) (hij : i ≠ j := by decide) (hx : X.env.scope.names.lookup x = some .local := by rfl) (hy : X.env.scope.names.lookup y = some .local := by rfl)
    (hw : swappedStores [.Tuple [.Name x px, .Name y py] kt pt] (.Tuple [a, b] k2 pt2) X.env = pure (some [x, y]) := by rfl)
    (hs : swapsWithSole [.Tuple [.Name x px, .Name y py] kt pt] (.Tuple [a, b] k2 pt2) pos.line X.env = pure false := by rfl) : DS X E (.Assign [.Tuple [.Name x px, .Name y py] kt pt] (.Tuple [a, b] k2 pt2) pos) (sPar i j fa) :=
  ps_imp (ps_par o.calm o.nd hi hj hij hx hy ha hw hs) fun D σ H ⟨F, ι, μ, ρ, hr, he, hp⟩ => At.a hr he hp fun F1 ι1 μ1 H1 vs ds x1 r1 rs p1 => by
    cases rs with
    | nil => exact p1.elim
    | cons ra rs =>
      cases rs with
      | nil => exact p1.elim
      | cons rb rs =>
        cases rs with
        | nil => exact ⟨_, _, rfl, Post.pure (mg := X.mg) (E := E) (a := Fl.nx _) p1 r1 _ (((he.ext x1).set ra i).set rb j)⟩
        | cons _ _ => exact p1.elim
theorem s_par3 (o : XO X E k) (i j l : Nat) (ha : DA X E [a, b, c] fa) (hi : X.N[i]? = some x := by rfl) (hj : X.N[j]? = some y := by rfl) (hl : X.N[l]? = some z := by rfl) (hij : i ≠ j := by decide) (hil : i ≠ l := by decide) (hjl : j ≠ l := by decide) (hx : X.env.scope.names.lookup x = some .local := by rfl) (hy : X.env.scope.names.lookup y = some .local := by rfl)
    (hz : X.env.scope.names.lookup z = some .local := by rfl)
    (hw : swappedStores [.Tuple [.Name x px, .Name y py, .Name z pz] kt pt] (.Tuple [a, b, c] k2 pt2) X.env = pure (some [x, y, z]) := by rfl)
    (hs : swapsWithSole [.Tuple [.Name x px, .Name y py, .Name z pz] kt pt] (.Tuple [a, b, c] k2 pt2) pos.line X.env = pure false := by rfl) : DS X E (.Assign [.Tuple [.Name x px, .Name y py, .Name z pz] kt pt] (.Tuple [a, b, c] k2 pt2) pos) (sPar3 i j l fa) :=
  ps_imp (ps_par3 o.calm o.nd hi hj hl hij hil hjl hx hy hz ha hw hs) fun D σ H ⟨F, ι, μ, ρ, hr, he, hp⟩ => At.a hr he hp fun F1 ι1 μ1 H1 vs ds x1 r1 rs p1 => by
    cases rs with
    | nil => exact p1.elim
    | cons ra rs =>
      cases rs with
      | nil => exact p1.elim
      | cons rb rs =>
        cases rs with
        | nil => exact p1.elim
        | cons rc rs =>
          cases rs with
          | nil => exact ⟨_, _, _, rfl, Post.pure (mg := X.mg) (E := E) (a := Fl.nx _) p1 r1 _ ((((he.ext x1).set ra i).set rb j).set rc l)⟩
          | cons _ _ => exact p1.elim
/-- code that is not come to -/
def sNever : Env → M Fl := fun _ => M.no
theorem s_never {st : Stmt} : DS X E st sNever := ps_imp ps_never fun D σ H ⟨F, ι, μ, ρ, hr, he, hp⟩ => hp
end
section
variable {X : Cx} {E : XK} {k : Nat} {elt tg iter : Expr} {ifs : List Expr} {scope : Scope} {own : List (Str × Nat)} {pos py spos : Pos} {fi : Env → M (List T)} {h : T → Env → M Env} {t : Env → M Bool} {f : Env → M T} {y : Str}
theorem tL_tree {K : PySem.W.Frag} {mg : Str → Option Value} {fl : Env → M (List T)} {σ : L2.St} {H : Hp} {Q : VK} (h : tE K mg E (eTree fl) σ H Q) : tL K mg E fl σ H Q := by
  obtain ⟨F, ι, μ, ρ, hr, he, hp⟩ := h
  exact ⟨F, ι, μ, ρ, hr, he, hp.bind fun F1 ι1 μ1 H1 ds x1 r1 p1 p xs H2 ho hn h2 rs => by
    obtain ⟨x2, r2⟩ := r1.newF hn ho h2
    exact p1 _ _ _ x2 r2 _ (.lst upd_same (rs.ext x2))⟩
theorem tL_cell {K : PySem.W.Frag} {mg : Str → Option Value} {fl : Env → M (List T)} {σ : L2.St} {H : Hp} {Q : VK} (h : tE K mg E (eCell fl) σ H Q) : tL K mg E fl σ H Q := by
  obtain ⟨F, ι, μ, ρ, hr, he, hp⟩ := h
  exact ⟨F, ι, μ, ρ, hr, he, hp.bind fun F1 ι1 μ1 H1 ds x1 r1 p1 p xs H2 ho hn h2 rs => by
    obtain ⟨x2, r2⟩ := r1.newI hn ho h2 (.lst rs)
    refine p1 _ _ _ x2 r2 _ (.cell ?_)
    rw [← r1.len]; simp⟩
/-- name = [.. for ..], on one line: what is laid is e of the items -/
theorem s_setc (o : XO X E k) (i : Nat) {e : (Env → M (List T)) → Env → M T} (hT : ∀ {σ : L2.St} {H : Hp} {Q : VK}, tE X.K X.mg E (e (lComp (own.map (·.2)) fi h t f)) σ H Q → tL X.K X.mg E (lComp (own.map (·.2)) fi h t f) σ H Q) (hi : DI X E tg iter fi) (ok : blkC X.N X.env.scope scope own = true)
    (hg : ∀ (s : Shared) (H : Hp) (C : Addr) (cl : List (Str × Addr)) (fp : List Addr), XO (X.blk s H scope (compEnvC scope cl C X.env) fp) EF k → DG (X.blk s H scope (compEnvC scope cl C X.env) fp) EF tg (own.map (·.2)) h)
    (ht : ∀ (s : Shared) (H : Hp) (C : Addr) (cl : List (Str × Addr)) (fp : List Addr), XO (X.blk s H scope (compEnvC scope cl C X.env) fp) EF k → DTs (X.blk s H scope (compEnvC scope cl C X.env) fp) EF ifs t)
    (he : ∀ (s : Shared) (H : Hp) (C : Addr) (cl : List (Str × Addr)) (fp : List Addr), XO (X.blk s H scope (compEnvC scope cl C X.env) fp) EF k → DE (X.blk s H scope (compEnvC scope cl C X.env) fp) EF elt f)
    (hy : X.N[i]? = some y := by rfl) (hyl : X.env.scope.names.lookup y = some .local := by rfl) (hsw : swapsWith (.ListComp elt [⟨tg, iter, ifs, 0⟩] scope pos) (some (.Name y py)) spos.line X.env = pure true := by exact sw_true rfl rfl rfl rfl)
    (hs : ∀ x, foldedSetIterable iter X.env x = pure x := by intro _; rfl) :
    DS X E (.Assign [.Name y py] (.ListComp elt [⟨tg, iter, ifs, 0⟩] scope pos) spos) (sSet i (e (lComp (own.map (·.2)) fi h t f))) :=
  ps_imp (ps_setLc o.calm o.nd hy hyl hsw hi (blkOk_by ok) (fun s H C cl fp => hg s H C cl fp o.blk) (fun s H C cl fp => ht s H C cl fp o.blk) (fun s H C cl fp => he s H C cl fp o.blk) hs) fun D σ H ⟨F, ι, μ, ρ, hr, hen, hp⟩ =>
    lc_core_t (hT (At.e hr hen hp fun F1 ι1 μ1 H1 v d x1 r1 rv p1 => Post.pure (mg := X.mg) (E := E) (a := Fl.nx (ρ.set i (some d))) p1 r1 _ ((hen.ext x1).set rv i)))
end
end TL

/-! T layer: sum with a start that is a list or a tuple. -/
namespace TL
open PySem PySem.Spec PyProof.Rows L2 StX
variable [Tb]

theorem args_sum_two (a b : Value) : argsOk "sum" ⟨[a, b], []⟩ := by unfold argsOk; kernel_rfl
theorem sl_str : isSubtype (.type "list") (.type "str") = pure false := by rw [isSubtype_type]; kernel_rfl
theorem sl_bytes : isSubtype (.type "list") (.type "bytes") = pure false := by rw [isSubtype_type]; kernel_rfl
theorem sl_ba : isSubtype (.type "list") (.type "bytearray") = pure false := by rw [isSubtype_type]; kernel_rfl
theorem st_str : isSubtype (.type "tuple") (.type "str") = pure false := by rw [isSubtype_type]; kernel_rfl
theorem st_bytes : isSubtype (.type "tuple") (.type "bytes") = pure false := by rw [isSubtype_type]; kernel_rfl
theorem st_ba : isSubtype (.type "tuple") (.type "bytearray") = pure false := by rw [isSubtype_type]; kernel_rfl
abbrev Keep (h h' : Heap) : Prop := ∀ b o, h.get? b = some o → h'.get? b = some o
/-- the running total, and its step -/
structure SumSt (prog : Program) (w : World) (A : Around) (h0 : Heap) (I S : Addr) (items : Array Value) (Tot : Nat → Heap → Addr → Prop) : Prop where
  mono : ∀ i h h' q, Tot i h q → (∀ b o, b ≠ I → b ≠ S → h.get? b = some o → h'.get? b = some o) → Tot i h' q
  step : ∀ i (s : Shared) v q (Q : Value → Shared → Prop) (E : Value → Shared → Prop), items[i]? = some v → Keep h0 s.heap → S < s.heap.objs.size → Tot i s.heap q →
    (∀ h' q', Keep s.heap h' → Tot (i + 1) h' q' → Q (.ref q') { s with heap := h' }) → wpAny (model prog w) A (binaryOp .Add (.ref q) v) Q E s
section
variable {prog : Program} {w : World} {A : Around} {R : Result → Shared → Prop} {h0 : Heap} {I S a : Addr} {items : Array Value} {Tot : Nat → Heap → Addr → Prop}
theorem sum_loop2 (Z : SumSt prog w A.in1 h0 I S items Tot) (hh : A.in1.handled = none) (fI : h0.get? I = none) (fS : h0.get? S = none) (neS : S ≠ I) (hl : h0.IsList a items) :
    ∀ (k i : Nat) (s : Shared) (q : Addr) (c : Nat), items.size - i = k → i ≤ items.size → Keep h0 s.heap → s.heap.IsListIter I a i → s.heap.get? S = some { cls := .type "list", dict := none, data := .seq #[.ref q] c, slots := #[] } → Tot i s.heap q →
    (∀ h' q', Keep h0 h' → Tot items.size h' q' → R (.ok (.ret (.ref q'))) { s with heap := h' }) → codeAny (model prog w) A (.builtin "sum.loop" ⟨[.ref I, .ref S, rawInt 2, rawInt 0], []⟩) R s := by
  have hl' : ∀ {h : Heap}, Keep h0 h → h.IsList a items := fun {h} k => by
    obtain ⟨o, e, r⟩ := hl
    exact ⟨o, k _ _ e, r⟩
  intro k
  induction k with
  | zero =>
    intro i s q c hk hi kp hit hS hT hR
    have hin : i = items.size := by omega
    subst hin
    refine codeAny_builtin F.entry_sum_loop ?_
    rw [Around.under_plainId F.plain_sum_loop _]
    show wpAny _ A.in1 (seqItems? (.ref S) >>= _) _ _ s
    refine wpAny_bind (wpAny_seqItems hS rfl ?_)
    show wpAny _ A.in1 (tryCatch (pyNext (.ref I)) _ >>= _) _ _ s
    refine wpAny_bind (wpAny_tryCatch (wpAny_pyNext_list_end hh hit (hl' kp) (by simp) fun h' eb => ?_))
    have kI : ∀ b o, b ≠ I → b ≠ S → s.heap.get? b = some o → h'.get? b = some o := fun b o n1 _ e => eb b o n1 e
    exact wpAny_pure (hR h' q (fun b o e => eb b o (fun z => by rw [z, fI] at e; cases e) (kp b o e)) (Z.mono _ _ _ _ hT kI))
  | succ k ih =>
    intro i s q c hk hi kp hit hS hT hR
    have hlt : i < items.size := by omega
    have hx : items[i]? = some items[i] := Array.getElem?_eq_getElem hlt
    refine codeAny_builtin F.entry_sum_loop ?_
    rw [Around.under_plainId F.plain_sum_loop _]
    show wpAny _ A.in1 (seqItems? (.ref S) >>= _) _ _ s
    refine wpAny_bind (wpAny_seqItems hS rfl ?_)
    show wpAny _ A.in1 (tryCatch (pyNext (.ref I)) _ >>= _) _ _ s
    refine wpAny_bind (wpAny_tryCatch (wpAny_pyNext_list_item hit (hl' kp) hx fun h' hit' sb => ?_))
    have kp1 : Keep h0 h' := fun b o e => (sb.2 b (fun z => by rw [z, fI] at e; cases e)).trans (kp b o e)
    have hS1 : h'.get? S = some { cls := .type "list", dict := none, data := .seq #[.ref q] c, slots := #[] } := (sb.2 S neS).trans hS
    have hT1 : Tot i h' q := Z.mono _ _ _ _ hT fun b o n1 _ e => (sb.2 b n1).trans e
    have fin : ∀ (v : Value), items[i]? = some v → wpAny (model prog w) A.in1 ((holding [v] (binaryOp .Add (.ref q) v)).attempt >>= fun r => match r with
        | .ok r => (updateSeq S fun _ => #[r]) >>= fun _ => letGo [.ref q, v] >>= fun _ => (updateSeq S fun _ => #[r]) >>= fun _ => again (.builtin "sum.loop" ⟨[.ref I, .ref S, rawInt 2, rawInt 0], []⟩)
        | .error e => (updateSeq S fun _ => #[]) >>= fun _ => letGo [.ref q, v] [e] >>= fun _ => throw e) (fun fin s' => match fin with
      | .done f => R (.ok f) s'
      | .again c' => c'.quiet = true ∧ codeAny (model prog w) A c' R s') (fun e s' => R (.error e) s') { s with heap := h' } := fun v hv => by
      refine wpAny_bind (wpAny_attempt (wpAny_holding (Z.step i { s with heap := h' } v q _ _ hv kp1 (Heap.lt_size hS1) hT1 fun h2 q2 k2 hT2 => ?_)))
      have hS2 := k2 _ _ hS1
      refine wpAny_bind (wpAny_updateSeq hS2 rfl ?_)
      have hS3 := Heap.get?_update_self (Obj.mapSeq fun _ => #[Value.ref q2]) hS2 rfl
      refine wpAny_bind (wpAny_letGo ?_)
      refine wpAny_bind (wpAny_updateSeq hS3 rfl (wpAny_pure ⟨plainId_quiet F.plain_sum_loop _, ?_⟩))
      have oth : ∀ b o, b ≠ S → h2.get? b = some o → ((h2.update S (Obj.mapSeq fun _ => #[Value.ref q2])).update S (Obj.mapSeq fun _ => #[Value.ref q2])).get? b = some o := fun b o n e => (Heap.get?_update_other _ _ (Ne.symm n)).trans ((Heap.get?_update_other _ _ (Ne.symm n)).trans e)
      refine ih (i + 1) _ q2 _ (by omega) hlt (fun b o e => oth b o (fun z => by rw [z, fS] at e; cases e) (k2 _ _ (kp1 b o e))) (hit'.at fun o e => oth I o (Ne.symm neS) (k2 _ _ e)) (Heap.get?_update_self _ hS3 rfl) (Z.mono _ _ _ _ hT2 fun b o _ n e => oth b o n e) fun h3 q3 k3 t3 => hR h3 q3 k3 t3
    have e0 := fin items[i] hx
    cases hv : items[i] with
    | _ => rw [hv] at e0; exact e0
end

section
variable {prog : Program} {w : World} {A : Around} {E : Value → Shared → Prop} {s : Shared} {a q : Addr} {items : Array Value} {Q : Value → Shared → Prop} {T : String}
theorem call_sum2 (hh : A.in1.handled = none) (hl : s.heap.IsList a items) (hT : s.TypeIs (.ref q) T) (s1 : isSubtype (.type T) (.type "str") = pure false) (s2 : isSubtype (.type T) (.type "bytes") = pure false) (s3 : isSubtype (.type T) (.type "bytearray") = pure false)
    {Tot : Nat → Heap → Addr → Prop} (Z : SumSt prog w A.in1 s.heap s.heap.objs.size (s.heap.objs.size + 1) items Tot) (h0 : ∀ h', Keep s.heap h' → Tot 0 h' q)
    (hQ : ∀ h' q', Keep s.heap h' → Tot items.size h' q' → Q (.ref q') { s with heap := h' }) : wpAny (model prog w) A (call (.builtin "sum") [.ref a, .ref q]) Q E s := by
  refine call_function_tree F.kind_sum F.plain_sum F.entry_sum (args_sum_two _ _) ?_
  unfold Builtin.«sum»
  simp only [List.length_cons, List.length_nil]
  rw [if_neg (by decide)]
  refine wpAny_bind (wpAny_of_eq (show Builtin.Builtins.bindParams "sum" ["start"] 0 ⟨[Value.ref q], []⟩ = pure [some (Value.ref q)] from rfl) ?_)
  refine wpAny_bind ((begins_list a items).iter prog w _ _ s _ hl ?_)
  refine wpAny_bind (wpAny_pure ?_)
  have hT2 : ∀ {h' : Heap}, Keep s.heap h' → ({ s with heap := h' } : Shared).TypeIs (.ref q) T := fun {h'} k => by
    obtain ⟨o, e, c⟩ := hT
    exact ⟨o, k _ _ e, c⟩
  have k1 : Keep s.heap (s.heap.push { cls := .type "list_iterator", data := .fields #[.ref a, .int 0 0] }) := fun b o e => Heap.get?_push_of_some _ e
  simp only [List.forIn_cons, List.forIn_nil]
  refine wpAny_bind (wpAny_bind (wpAny_bind (wpAny_isInstance (T := T) (b := false) (hT2 k1) s1 ?_)))
  simp only [Bool.false_eq_true, if_false]
  refine wpAny_pure (wpAny_bind (wpAny_bind (wpAny_isInstance (T := T) (b := false) (hT2 k1) s2 ?_)))
  simp only [Bool.false_eq_true, if_false]
  refine wpAny_pure (wpAny_bind (wpAny_bind (wpAny_isInstance (T := T) (b := false) (hT2 k1) s3 ?_)))
  simp only [Bool.false_eq_true, if_false]
  refine wpAny_pure (wpAny_pure ?_)
  refine wpAny_bind (wpAny_newObj_type ?_)
  have fI : s.heap.get? s.heap.objs.size = none := by
    cases e : s.heap.get? s.heap.objs.size with
    | none => rfl
    | some o => exact absurd (Heap.lt_size e) (Nat.lt_irrefl _)
  have fS : s.heap.get? (s.heap.objs.size + 1) = none := by
    cases e : s.heap.get? (s.heap.objs.size + 1) with
    | none => rfl
    | some o => exact absurd (Nat.lt_of_succ_lt (Heap.lt_size e)) (Nat.lt_irrefl _)
  have sz : (s.heap.push { cls := .type "list_iterator", data := .fields #[.ref a, .int 0 0] }).objs.size = s.heap.objs.size + 1 := Heap.size_push ..
  refine wpAny_pure ⟨plainId_quiet F.plain_sum_loop _, ?_⟩
  show codeAny (model prog w) A (.builtin "sum.loop" ⟨[.ref s.heap.objs.size, .ref (s.heap.push { cls := .type "list_iterator", data := .fields #[.ref a, .int 0 0] }).objs.size, rawInt 2, rawInt 0], []⟩) _ _
  rw [sz]
  have k2 : Keep s.heap ((s.heap.push { cls := .type "list_iterator", data := .fields #[.ref a, .int 0 0] }).push { cls := .type "list", data := .seq #[.ref q] }) := fun b o e => Heap.get?_push_of_some _ (k1 b o e)
  have atI : (s.heap.push { cls := .type "list_iterator", data := .fields #[.ref a, .int 0 0] }).get? s.heap.objs.size = some { cls := .type "list_iterator", data := .fields #[.ref a, .int 0 0] } := Heap.get?_push_size _ rfl
  have atS := Heap.get?_push_size (s.heap.push { cls := .type "list_iterator", data := .fields #[.ref a, .int 0 0] }) (o := { cls := .type "list", data := .seq #[.ref q] }) rfl
  rw [sz] at atS
  exact sum_loop2 Z hh fI fS (Nat.succ_ne_self _) hl items.size 0 _ q _ (by omega) (Nat.zero_le _) k2 ⟨_, Heap.get?_push_of_some _ atI, rfl, rfl⟩ atS (h0 _ k2) hQ
end
/-- lists -/
def accV (xss : List (List Value)) : Nat → List Value
  | 0 => []
  | i + 1 => accV xss i ++ (xss[i]?).getD []
section
variable {prog : Program} {w : World} {A : Around} {q0 : Addr} {items : Array Value} {its0 : List Value} {xss : List (List Value)}
def TotL (h0 : Heap) (q0 : Addr) (its0 : List Value) (xss : List (List Value)) : Nat → Heap → Addr → Prop := fun i h q => (∃ n, IsL h q (its0 ++ accV xss i).toArray n) ∧ ((q = q0 ∧ accV xss i = []) ∨ h0.objs.size + 2 ≤ q)
theorem accV_le (xss : List (List Value)) : ∀ i j, i ≤ j → (accV xss i).length ≤ (accV xss j).length
  | i, 0, h => by
    have e : i = 0 := by omega
    subst e
    exact Nat.le_refl _
  | i, j + 1, h => by
    by_cases e : i = j + 1
    · subst e; exact Nat.le_refl _
    · refine Nat.le_trans (accV_le xss i j (by omega)) ?_
      show _ ≤ (accV xss j ++ _).length
      rw [List.length_append]
      omega
theorem sumL {h0 : Heap} (hq0 : ∃ n, IsL h0 q0 its0.toArray n) (hx : ∀ (i : Nat) (v : Value), items[i]? = some v → ∃ (b : Addr) (its : List Value) (n : Nat), v = Value.ref b ∧ xss[i]? = some its ∧ IsL h0 b its.toArray n) (hz : its0.length + (accV xss items.size).length ≤ sizeLine) :
    SumSt prog w A h0 h0.objs.size (h0.objs.size + 1) items (TotL h0 q0 its0 xss) where
  mono := fun i h h' q ⟨⟨n, e⟩, hq⟩ k => by
    refine ⟨⟨n, k q _ ?_ ?_ e⟩, hq⟩
    · rcases hq with ⟨rfl, _⟩ | hq
      · obtain ⟨n, e0⟩ := hq0
        exact Nat.ne_of_lt (Heap.lt_size e0)
      · exact fun z => absurd (show h0.objs.size + 2 ≤ h0.objs.size by rw [z] at hq; exact hq) (by omega)
    · rcases hq with ⟨rfl, _⟩ | hq
      · obtain ⟨n, e0⟩ := hq0
        exact Nat.ne_of_lt (Nat.lt_succ_of_lt (Heap.lt_size e0))
      · exact fun z => absurd (show h0.objs.size + 2 ≤ h0.objs.size + 1 by rw [z] at hq; exact hq) (by omega)
  step := fun i s v q Q E hv kp hS ⟨⟨n, e⟩, hq⟩ h => by
    obtain ⟨b, its, m, rfl, hi, hb⟩ := hx i v hv
    have hlt : i < items.size := (Array.getElem?_eq_some_iff.mp hv).1
    have z : (accV xss (i + 1)).length ≤ (accV xss items.size).length := accV_le xss _ _ hlt
    have z1 : accV xss (i + 1) = accV xss i ++ its := by show accV xss i ++ (xss[i]?).getD [] = _; rw [hi]; rfl
    rw [z1, List.length_append] at z
    refine PySem.P.add_list e (kp _ _ hb) ?_ (by simp only [List.size_toArray, List.length_append]; omega)
    refine h _ _ (fun b o e => Heap.get?_push_of_some _ e) ⟨⟨0, ?_⟩, .inr hS⟩
    have z2 : (its0 ++ accV xss i).toArray ++ its.toArray = (its0 ++ accV xss (i + 1)).toArray := by rw [z1]; simp
    rw [z2]
    exact Heap.get?_push_size _ rfl
def TotT (h0 : Heap) (its0 : List Value) (xss : List (List Value)) : Nat → Heap → Addr → Prop := fun i h q => IsTup h q (its0 ++ accV xss i).toArray ∧ (h0.get? q ≠ none ∨ h0.objs.size + 2 ≤ q)
theorem sumT {h0 : Heap} (hx : ∀ (i : Nat) (v : Value), items[i]? = some v → ∃ (b : Addr) (its : List Value), v = Value.ref b ∧ xss[i]? = some its ∧ IsTup h0 b its.toArray) (hz : its0.length + (accV xss items.size).length ≤ sizeLine) :
    SumSt prog w A h0 h0.objs.size (h0.objs.size + 1) items (TotT h0 its0 xss) where
  mono := fun i h h' q ⟨e, hq⟩ k => by
    obtain ⟨o, eo, r⟩ := e
    refine ⟨⟨o, k q _ ?_ ?_ eo, r⟩, hq⟩
    · rcases hq with hq | hq
      · cases e0 : h0.get? q with
        | none => exact (hq e0).elim
        | some o => exact Nat.ne_of_lt (Heap.lt_size e0)
      · exact fun z => absurd (show h0.objs.size + 2 ≤ h0.objs.size by rw [z] at hq; exact hq) (by omega)
    · rcases hq with hq | hq
      · cases e0 : h0.get? q with
        | none => exact (hq e0).elim
        | some o => exact Nat.ne_of_lt (Nat.lt_succ_of_lt (Heap.lt_size e0))
      · exact fun z => absurd (show h0.objs.size + 2 ≤ h0.objs.size + 1 by rw [z] at hq; exact hq) (by omega)
  step := fun i s v q Q E hv kp hS ⟨e, hq⟩ h => by
    obtain ⟨b, its, rfl, hi, hb⟩ := hx i v hv
    have hlt : i < items.size := (Array.getElem?_eq_some_iff.mp hv).1
    have z : (accV xss (i + 1)).length ≤ (accV xss items.size).length := accV_le xss _ _ hlt
    have z1 : accV xss (i + 1) = accV xss i ++ its := by show accV xss i ++ (xss[i]?).getD [] = _; rw [hi]; rfl
    rw [z1, List.length_append] at z
    obtain ⟨ob, eb, rb⟩ := hb
    have hb' : IsTup s.heap b its.toArray := ⟨ob, kp _ _ eb, rb⟩
    by_cases h1 : its0 ++ accV xss i = []
    · have hb2 : h0.get? b ≠ none := fun z => by rw [z] at eb; cases eb
      have e2 : IsTup s.heap q ([] : List Value).toArray := by rw [h1] at e; exact e
      refine cat_tup0 e2 hb' (h s.heap b (fun _ _ q => q) ⟨?_, .inl hb2⟩)
      rw [z1, ← List.append_assoc, h1, List.nil_append]
      exact hb'
    · refine HT.cat_tup e hb' h1 (fun h2 => h s.heap q (fun _ _ q => q) ⟨?_, hq⟩) (fun h2 => h _ _ (fun b o e => Heap.get?_push_of_some _ e) ⟨?_, .inr hS⟩) (by rw [List.length_append]; omega)
      · rw [z1, h2, List.append_nil]; exact e
      · rw [z1, ← List.append_assoc]; exact IsTup.new _ _
end

theorem accV_take (iss : List (List Value)) : ∀ i, i ≤ iss.length → accV iss i = (iss.take i).flatten
  | 0, _ => by simp [accV]
  | i + 1, h => by
    show accV iss i ++ (iss[i]?).getD [] = _
    rw [accV_take iss i (by omega), List.take_add_one, List.flatten_append, List.getElem?_eq_getElem (by omega)]
    simp
theorem accV_all (iss : List (List Value)) : accV iss iss.length = iss.flatten := by rw [accV_take iss _ (Nat.le_refl _), List.take_length]
def lstsOf : List T → Option (List (List T))
  | [] => some []
  | .lst xs :: r => (lstsOf r).map (xs :: ·)
  | _ => none
def tupsOf : List T → Option (List (List T))
  | [] => some []
  | .tup xs :: r => (tupsOf r).map (xs :: ·)
  | .ftp xs :: r => (tupsOf r).map (xs :: ·)
  | _ => none
def gSum2 : List T → M T
  | [d, e] => M.bind (ld d) fun d => match listOf d, e with
    | some ds, .lst ys => (match lstsOf ds with
      | some xss => bif fits (ys.length + xss.flatten.length) then M.pure (.lst (ys ++ xss.flatten)) else M.no
      | none => M.no)
    | _, _ => M.no
  | _ => M.no
section
variable {X : Cx} {E : XK} {pins : List (Addr × Obj)} {σ : L2.St} {H : Hp} {s : Shared} {F : Hp} {ι : List Addr} {μ : Store}
theorem items_lst (I : Inv X pins σ H s) (hr : Rel X.K F ι μ H) : ∀ {vs : List V} {ds : List T} {us : List Value} {xss : List (List T)}, Rps X.K F ι vs ds → lstsOf ds = some xss → Vals vs us →
    ∃ (iss : List (List Value)) (ws : List V), iss.length = us.length ∧ (∀ (i : Nat) (u : Value), us[i]? = some u → ∃ (b : Addr) (its : List Value) (n : Nat), u = Value.ref b ∧ iss[i]? = some its ∧ IsL s.heap b its.toArray n) ∧ Vals ws iss.flatten ∧ Rps X.K F ι ws xss.flatten
  | _, _, _, xss, .nil, h, .nil => by
    cases h
    exact ⟨[], [], rfl, fun i u e => by simp at e, .nil, .nil⟩
  | _, _, _, xss, .cons (d := d) r t, h, .cons ru rt => by
    cases d with
    | lst xs =>
      simp only [lstsOf, Option.map_eq_some_iff] at h
      obtain ⟨xr, h1, rfl⟩ := h
      obtain ⟨iss, ws, hl, hi, hv, hp⟩ := items_lst I hr t h1 rt
      cases r with
      | lst ha ra =>
        obtain ⟨z, its, n, rv, e⟩ := I.hok _ _ (hr.sub _ _ ha)
        cases ru
        refine ⟨its :: iss, _ ++ ws, by simp [hl], fun i u e' => ?_, by rw [List.flatten_cons]; exact rv.append hv, by rw [List.flatten_cons]; exact ra.append hp⟩
        cases i with
        | zero => simp at e'; subst e'; exact ⟨_, its, n, rfl, rfl, e⟩
        | succ i => simp only [List.getElem?_cons_succ] at e' ⊢; exact hi i u e'
    | _ => cases h
theorem items_tup (I : Inv X pins σ H s) (hr : Rel X.K F ι μ H) : ∀ {vs : List V} {ds : List T} {us : List Value} {xss : List (List T)}, Rps X.K F ι vs ds → tupsOf ds = some xss → Vals vs us →
    ∃ (iss : List (List Value)) (ws : List V), iss.length = us.length ∧ (∀ (i : Nat) (u : Value), us[i]? = some u → ∃ (b : Addr) (its : List Value), u = Value.ref b ∧ iss[i]? = some its ∧ IsTup s.heap b its.toArray) ∧ Vals ws iss.flatten ∧ Rps X.K F ι ws xss.flatten
  | _, _, _, xss, .nil, h, .nil => by
    cases h
    exact ⟨[], [], rfl, fun i u e => by simp at e, .nil, .nil⟩
  | _, _, _, xss, .cons (d := d) r t, h, .cons ru rt => by
    have go : ∀ {a : Addr} {us1 : List V} {xs : List T} {v : V} {u0 : Value} {us : List Value} {vs : List V} {ds : List T} {xr : List (List T)}, SqT X.K H a us1 → Rps X.K F ι us1 xs → RelV (.ref a) u0 → Rps X.K F ι vs ds → tupsOf ds = some xr → Vals vs us →
        (∃ (iss : List (List Value)) (ws : List V), iss.length = us.length ∧ (∀ (i : Nat) (u : Value), us[i]? = some u → ∃ (b : Addr) (its : List Value), u = Value.ref b ∧ iss[i]? = some its ∧ IsTup s.heap b its.toArray) ∧ Vals ws iss.flatten ∧ Rps X.K F ι ws xr.flatten) →
        ∃ (iss : List (List Value)) (ws : List V), iss.length = (u0 :: us).length ∧ (∀ (i : Nat) (u : Value), (u0 :: us)[i]? = some u → ∃ (b : Addr) (its : List Value), u = Value.ref b ∧ iss[i]? = some its ∧ IsTup s.heap b its.toArray) ∧ Vals ws iss.flatten ∧ Rps X.K F ι ws (xs :: xr).flatten :=
      fun {a us1 xs v u0 us vs ds xr} sq ra ru t h1 rt ⟨iss, ws, hl, hi, hv, hp⟩ => by
        obtain ⟨its, rv, e, z⟩ := I.tuple sq
        cases ru
        refine ⟨its :: iss, _ ++ ws, by simp [hl], fun i u e' => ?_, by rw [List.flatten_cons]; exact rv.append hv, by rw [List.flatten_cons]; exact ra.append hp⟩
        cases i with
        | zero => simp at e'; subst e'; exact ⟨_, its, rfl, rfl, e⟩
        | succ i => simp only [List.getElem?_cons_succ] at e' ⊢; exact hi i u e'
    cases d with
    | tup xs =>
      simp only [tupsOf, Option.map_eq_some_iff] at h
      obtain ⟨xr, h1, rfl⟩ := h
      cases r with
      | tup ha ra => exact go (v := .non) (SqT.of (hr.sub _ _ ha)) ra ru t h1 rt (items_tup I hr t h1 rt)
    | ftp xs =>
      simp only [tupsOf, Option.map_eq_some_iff] at h
      obtain ⟨xr, h1, rfl⟩ := h
      cases r with
      | ftp ha ra => exact go (v := .non) (hr.sub.sub.seqT ha.t) ra ru t h1 rt (items_tup I hr t h1 rt)
    | _ => cases h
end
section
variable {X : Cx} {E : XK} {k : Nat}
theorem c_sum2 (o : XO X E k) : CallD X E (.builtin "sum") gSum2 := by
  intro pins s σ H xs us Q I rv ⟨F, ι, μ, ds, hr, rs, hp⟩
  unfold gSum2 at hp
  split at hp
  · rename_i d e
    cases rs with
    | cons r1 t =>
      cases t with
      | cons r2 t =>
        cases t
        obtain ⟨d', lx, hp⟩ := ld_post hr r1 hp
        obtain ⟨u1, u2, rfl, ru1, ru2⟩ := vals2 rv
        have seq : ∀ {es : List T}, listOf d' = some es → ∃ a vs its, (u1 = Value.ref a) ∧ Vals vs its ∧ s.heap.IsList a its.toArray ∧ Rps X.K F ι vs es := fun {es} h => by
          cases lx with
          | lst ha ra =>
            cases h
            obtain ⟨its, r, p, _⟩ := I.list (SqL.of ha)
            cases ru1
            exact ⟨_, _, its, rfl, r, p.isList, ra⟩
          | fls ha ra =>
            cases h
            obtain ⟨its, r, p, _⟩ := I.list (hr.sub.sub.seqL ha)
            cases ru1
            exact ⟨_, _, its, rfl, r, p.isList, ra⟩
          | _ => cases h
        have hh : X.A.in1.handled = none := I.ok.hd o.calm
        cases hd : listOf d' with
        | none => rw [hd] at hp; exact hp.elim
        | some es =>
          rw [hd] at hp
          cases e with
          | lst ys =>
            simp only at hp
            obtain ⟨a, vs, its, rfl, rvs, hl, res⟩ := seq hd
            cases hx : lstsOf es with
            | none => rw [hx] at hp; exact hp.elim
            | some xss =>
              rw [hx] at hp
              simp only at hp
              cases hz : fits (ys.length + xss.flatten.length) with
              | false => rw [hz] at hp; exact hp.elim
              | true =>
                rw [hz] at hp
                have hp : Post X.K X.mg E (M.pure (T.lst (ys ++ xss.flatten)) μ) F ι H (wT X.K Q) := hp
                obtain ⟨iss, ws, hl2, hi, hv, hws⟩ := items_lst I hr res hx rvs
                cases r2 with
                | lst hb rb =>
                  cases ru2
                  obtain ⟨z0, its0, n0, r0, e0⟩ := I.hok _ _ (hr.sub _ _ hb)
                  have sz : its.toArray.size = iss.length := by simp [hl2]
                  have hlen : its0.length + (accV iss its.toArray.size).length ≤ sizeLine := by
                    rw [sz, accV_all, ← r0.length, ← hv.length, hws.length, rb.length]
                    exact fits_le hz
                  refine call_sum2 hh hl (T := "list") ⟨_, e0, rfl⟩ sl_str sl_bytes sl_ba (sumL ⟨n0, e0⟩ (fun i v hiv => hi i v (by simpa using hiv)) hlen) (fun h' kp => ⟨⟨n0, by simpa [accV] using kp _ _ e0⟩, .inl ⟨rfl, rfl⟩⟩) fun h' q' kp ⟨⟨n, e⟩, hq⟩ => ?_
                  rw [sz, accV_all] at e hq
                  rcases hq with ⟨rfl, hq⟩ | hq
                  · refine ⟨.ref q', H, I.kept (t' := s.toks) kp, rfl, ?_⟩
                    have e1 : ws = [] := by
                      have := hv.length
                      rw [hq] at this
                      exact List.length_eq_zero_iff.mp this
                    have e2 : xss.flatten = [] := by
                      have := hws.length
                      rw [e1] at this
                      exact List.length_eq_zero_iff.mp this.symm
                    rw [e2, List.append_nil] at hp
                    exact Post.pure hp hr _ (.lst hb rb)
                  · have nq : H q' = none := I.hok.fresh (by omega)
                    obtain ⟨x2, rr2⟩ := hr.newF (u := .lst (_ ++ ws)) nq (fun a z => upd_ne z) upd_same
                    refine ⟨.ref q', upd H q' (.lst (_ ++ ws)), I.laid (t' := s.toks) (o := .lst (_ ++ ws)) kp (by omega) ?_, rfl, hp _ _ _ x2 rr2 _ (.lst upd_same ((rb.append hws).ext x2))⟩
                    rw [sz, accV_all, ← r0.length, ← hv.length] at hlen
                    exact ⟨by rw [List.length_append]; exact hlen, _, n, r0.append hv, e⟩
          | _ => exact hp.elim
  · exact hp.elim
end
end TL

/-! T layer d: tuples can be sorted, empty ones among them too. -/
namespace TL
open PySem PySem.Spec PyProof.Rows PySem.W L2 StX SeqAt
variable [Tb]

section
variable {prog : Program} {w : World} {A : Around} {E : Value → Shared → Prop} {s : Shared}
theorem call_tup_lt {Q : Value → Shared → Prop} {l b : Addr} {items items2 : Array Value} {e r : Nat → Bool} (hl : s.heap.IsTuple l items) (hb : s.heap.IsTuple b items2)
    (he : ∀ j (h1 : j < items.size) (h2 : j < items2.size), EqAt A.in1 s items[j] items2[j] (e j)) (hr : ∀ j (h1 : j < items.size) (h2 : j < items2.size), e j = false → SeqAt.RcLt A.in1 s items[j] items2[j] (r j))
    (h : Q (.bool (SeqAt.firstLt e r (decide (items.size < items2.size)) (List.range (min items.size items2.size)))) s) : wpAny (model prog w) A (call (.builtin "tuple.__lt__") [.ref l, .ref b]) Q E s := by
  obtain ⟨⟨c1, d1, t1, sl⟩, ho, hc, n, hd⟩ := id hl
  obtain ⟨⟨c2, d2, t2, sl2⟩, ho2, hc2, n2, hd2⟩ := id hb
  simp only at hc hd hc2 hd2
  subst hc hd hc2 hd2
  exact call_meets PySem.F.slot_tuple_lt ⟨_, ho, rfl⟩ PySem.F.entry_tuple_lt (PySem.F.args_tuple_lt_2 _ _) (SeqAt.tuple_ltAt l b items items2 n n2 d1 d2 sl sl2 e r) ⟨ho, ho2, he, hr, h⟩
/-- two tuples of data, as sorting compares them -/
theorem oneLt_tups {f : Bool} {xs ys : List PyData} {a b : Value} {as bs : List Addr} {Q : Bool → Shared → Prop} (ra : Reads s.heap a (.tuple xs) as) (rb : Reads s.heap b (.tuple ys) bs) (h : alike (.tuple xs) (.tuple ys) = true)
    (hu : A.units + min (PyData.depth (.tuple xs)) (PyData.depth (.tuple ys)) < cLine) (hq : Q (dataLt (.tuple xs) (.tuple ys)) s) : wpAny (model prog w) A (oneLt' f a b) Q E s := by
  cases f with
  | false => exact oneLt_alike (fun z => nomatch z) ra rb h (fun z => nomatch z) hu hq
  | true =>
    have hal : alikeAll xs ys = true := by simpa [alike] using h
    cases ra with
    | @tuple l o vs n _ as₁ h1 h2 h3 h4 =>
      cases rb with
      | @tuple l' o' vs' n' _ bs₁ k1 k2 k3 k4 =>
        have n1 : vs.size = xs.length := by simpa using SeqAt.ReadsAll.length _ _ _ h4
        have n2 : vs'.size = ys.length := by simpa using SeqAt.ReadsAll.length _ _ _ k4
        rw [dataLt_tuple, ← firstLt_toks xs ys hal, ← n1, ← n2] at hq
        rw [oneLt'_eq]
        simp only [if_true]
        refine wpAny_bind (wpAny_cRoomFor (SeqAt.room_here hu) ?_)
        refine wpAny_bind (wpAny_callSpecialIfBound?_slot (T := "tuple") ⟨_, h1, h2⟩ PySem.F.slot_tuple_lt (call_tup_lt (e := pairEq xs ys) (r := fun j => dataLt (xs.getD j .none) (ys.getD j .none)) ⟨_, h1, h2, _, h3⟩ ⟨_, k1, k2, _, k3⟩ (fun j j1 j2 => ?_) (fun j j1 j2 hj => ?_) ?_))
        · have := eqAt_alikeAll xs ys A.in1 s vs.toList vs'.toList _ _ h4 k4 hal (SeqAt.room_in hu) j (by simpa using j1) (by simpa using j2)
          simpa using this
        · have := rcLt_alikeAll xs ys A.in1 s vs.toList vs'.toList _ _ h4 k4 hal (SeqAt.room_in hu) j (by simpa using j1) (by simpa using j2) hj
          simpa using this
        · exact wpAny_truthy_bool hq
theorem mapM_each {M : Model} {α β : Type} {f : α → Sem β} {r : α → β} : ∀ (l : List α) {Q : List β → Shared → Prop}, (∀ v ∈ l, ∀ (Q' : β → Shared → Prop), Q' (r v) s → wpAny M A (f v) Q' E s) → Q (l.map r) s → wpAny M A (l.mapM f) Q E s
  | [], _, _, h => by rw [List.mapM_nil]; exact wpAny_pure h
  | x :: l, Q, hf, h => by
    rw [List.mapM_cons]
    exact wpAny_bind (hf x (.head _) _ (wpAny_bind (mapM_each l (Q := fun bs s' => wpAny M A (pure (r x :: bs)) Q E s') (fun v hv => hf v (.tail _ hv)) (wpAny_pure h))))
/-- what stands first in a tuple at v -/
def fst0 (h : Heap) (v : Value) : Option Value := match v with
  | .ref l => (match h.get? l with
    | some o => (match o.data with
      | .seq vs _ => vs[0]?
      | _ => none)
    | none => none)
  | _ => none
theorem fst0_of {h : Heap} {l : Addr} {o : Obj} {vs : Array Value} {n : Nat} (h1 : h.get? l = some o) (h3 : o.data = .seq vs n) : fst0 h (.ref l) = vs[0]? := by
  simp only [fst0, h1, h3]
theorem each_right {α β : Type} {R : α → β → Prop} : ∀ {vs : List α} {ds : List β}, EachIs R vs ds → ∀ d ∈ ds, ∃ v ∈ vs, R v d
  | _, _, .nil, d, hd => by cases hd
  | _, _, .cons r t, d, hd => by
    rcases List.mem_cons.mp hd with rfl | hd
    · exact ⟨_, List.mem_cons_self, r⟩
    · obtain ⟨v, hv, q⟩ := each_right t d hd
      exact ⟨v, List.mem_cons_of_mem _ hv, q⟩
theorem kind_mixed {vs : List Value} {Q : SortKind → Shared → Prop} (h2 : 2 ≤ vs.length) (ht : ∀ v ∈ vs, ∃ (l : Addr) (o : Obj) (xs : Array Value) (n : Nat), v = .ref l ∧ s.heap.get? l = some o ∧ o.cls = .type "tuple" ∧ o.data = .seq xs n)
    (he : ∃ v ∈ vs, fst0 s.heap v = none) (h : Q (if (fst0 s.heap (vs.getD 0 .none)).isSome then general' else oneType') s) : wpAny (model prog w) A (keyKind' vs.toArray) Q E s := by
  obtain ⟨v₁, rest, rfl⟩ : ∃ v₁ rest, vs = v₁ :: rest := by
    match vs, h2 with
    | [], h2 => simp at h2
    | v₁ :: rest, _ => exact ⟨v₁, rest, rfl⟩
  rw [keyKind'_eq, List.mapM_toArray, map_eq_pure_bind]
  refine wpAny_bind (wpAny_bind (mapM_each (r := fst0 s.heap) _ (fun v hv Q' hq => ?_) (wpAny_pure ?_)))
  · obtain ⟨l, o, xs, n, rfl, e1, e2, e3⟩ := ht v hv
    rw [kas_first_eq]
    refine wpAny_bind (wpAny_typeOf (T := "tuple") ⟨o, e1, e2⟩ ?_)
    rw [if_neg (by decide)]
    rw [fst0_of e1 e3] at hq
    exact wpAny_bind (listItems_at e1 e3 (wpAny_pure hq))
  · have na : (((v₁ :: rest).map (fst0 s.heap)).toArray.all fun x => x.isSome) = false := by
      obtain ⟨v, hv, hn⟩ := he
      rw [Bool.eq_false_iff]
      intro z
      simp only [List.all_toArray, List.all_map, List.all_eq_true] at z
      have := z v hv
      simp [hn] at this
    rw [if_neg (by rw [na]; exact Bool.false_ne_true)]
    have h0 : ((v₁ :: rest).map (fst0 s.heap)).toArray[0]? = some (fst0 s.heap v₁) := by simp
    rw [h0]
    simp only [Option.bind_some, id_eq]
    have h' : Q (if (fst0 s.heap v₁).isSome then general' else oneType') s := h
    by_cases hs : (fst0 s.heap v₁).isSome = true
    · rw [if_pos hs] at h' ⊢
      exact wpAny_pure h'
    · rw [if_neg hs] at h' ⊢
      rw [oneTypeOnly'_eq, List.mapM_toArray, map_eq_pure_bind]
      refine wpAny_bind (wpAny_bind (wpAny_bind (mapM_each (r := fun _ => Value.type "tuple") _ (fun v hv Q' hq => ?_) (wpAny_pure ?_))))
      · obtain ⟨l, o, xs, n, rfl, e1, e2, e3⟩ := ht v hv
        exact wpAny_typeOf (T := "tuple") ⟨o, e1, e2⟩ hq
      · have hall : (((v₁ :: rest).map fun _ => Value.type "tuple").toArray.all fun x => x == Value.type "tuple") = true := by
          simp only [List.all_toArray, List.all_map, List.all_eq_true]
          intro _ _
          rfl
        have h1 : ((v₁ :: rest).map fun _ => Value.type "tuple").toArray[0]? = some (Value.type "tuple") := by simp
        rw [h1]
        simp only [hall, if_true]
        exact wpAny_pure (wpAny_pure h')
/-- .. or all tuples -/
def Sortable2 (ds : List PyData) : Prop := (∀ d, d ∈ ds → ∃ xs, d = .tuple xs) ∨ ∀ d, d ∈ ds → d ≠ .none ∧ ∀ xs, d ≠ .tuple xs
theorem sortsAt2 {vs : List Value} {ds : List PyData} (e : EachIs (fun v d => ∃ as, Reads s.heap v d as) vs ds) (hal : AllAlike ds) (hk : Sortable2 ds) (hu : ∀ d, d ∈ ds → A.units + d.depth < cLine) : SortsAt prog w A s (dataKind s.heap ds) vs := by
  rcases hk with ht | hn
  · by_cases hne : ∀ d, d ∈ ds → ∃ x r, d = PyData.tuple (x :: r)
    · exact SortsAt.data e hal (.inl hne) hu
    · have room : ∀ {d d' : PyData}, d ∈ ds → A.units + min d.depth d'.depth < cLine := fun {d d'} hd => Nat.lt_of_le_of_lt (Nat.add_le_add_left (Nat.min_le_left _ _) _) (hu d hd)
      have tups : ∀ v ∈ vs, ∃ (l : Addr) (o : Obj) (xs : Array Value) (n : Nat), v = .ref l ∧ s.heap.get? l = some o ∧ o.cls = .type "tuple" ∧ o.data = .seq xs n := fun v hv => by
        obtain ⟨d, hd, as, r⟩ := e.left v hv
        obtain ⟨xs, rfl⟩ := ht d hd
        cases r with
        | tuple h1 h2 h3 h4 => exact ⟨_, _, _, _, rfl, h1, h2, h3⟩
      have some_empty : ∃ v ∈ vs, fst0 s.heap v = none := by
        have hx : ∃ d, d ∈ ds ∧ ¬ ∃ x r, d = PyData.tuple (x :: r) := Classical.byContradiction fun z => hne fun d hd => Classical.byContradiction fun y => z ⟨d, hd, y⟩
        obtain ⟨d, hd, hdn⟩ := hx
        obtain ⟨xs, rfl⟩ := ht d hd
        obtain ⟨v, hv, as, r⟩ := each_right e _ hd
        cases xs with
        | cons x rr => exact absurd ⟨x, rr, rfl⟩ hdn
        | nil =>
          cases r with
          | @tuple l o ws n _ _ h1 h2 h3 h4 =>
            refine ⟨_, hv, ?_⟩
            have : ws.size = 0 := by simpa using SeqAt.ReadsAll.length _ _ _ h4
            rw [fst0_of h1 h3, Array.getElem?_eq_none (by omega)]
      refine ⟨fun v hv => ?_, if (fst0 s.heap (vs.getD 0 .none)).isSome then general' else oneType', ?_, fun h2 E Q hq => kind_mixed h2 tups some_empty hq⟩
      · obtain ⟨d, hd, as, r⟩ := e.left v hv
        exact ⟨_, dataKind_some hal hd r⟩
      · intro E x y a b Q ha hb hq
        obtain ⟨d, as, hd, ra, rfl⟩ := dataKind_inv ha
        obtain ⟨d', as', hd', rb, rfl⟩ := dataKind_inv hb
        obtain ⟨xs, rfl⟩ := ht d hd
        obtain ⟨ys, rfl⟩ := ht d' hd'
        split
        · show wpAny (model prog w) A (oneLt' false x y) Q E s
          exact oneLt_tups ra rb (hal _ hd _ hd') (room hd) hq
        · show wpAny (model prog w) A (oneLt' true x y) Q E s
          exact oneLt_tups ra rb (hal _ hd _ hd') (room hd) hq
  · exact SortsAt.data e hal (.inr hn) hu
theorem sorted_data2 {β : Type} {vs : List Value} {bs : List β} {enc : β → PyData} {R : Value → β → Prop} {l : Addr} {Q : Value → Shared → Prop} (hl : s.heap.IsList l vs.toArray) (e : EachIs R vs bs) (er : EachIs (fun v b => ∃ as, Reads s.heap v (enc b) as) vs bs) (hal : AllAlike (bs.map enc)) (hk : Sortable2 (bs.map enc)) (hL : bs.length ≤ sizeLine)
    (hu : ∀ b, b ∈ bs → A.units + 2 + (enc b).depth < cLine) (h : ∀ out, out.length = bs.length → EachIs R out (bs.mergeSort (dataLe false enc)) → Q (.ref (s.heap.objs.size + 1)) { s with heap := sortedAll s.heap vs (List.toArray out) }) :
    wpAny (model prog w) A (call (.builtin "sorted") [.ref l]) Q E s := by
  have er' : EachIs (fun v b => ∃ as, Reads (sortingHeap (copyHeap s.heap vs) (s.heap.objs.size + 1) vs) v (enc b) as) vs bs := er.mono fun _ _ ⟨as, r⟩ => ⟨as, PyProof.Rows.Reads.keeps (fun _ _ => sorting_copy_old) r⟩
  have st := sortsAt2 (prog := prog) (w := w) (A := A.in1.in1) (s := { s with heap := sortingHeap (copyHeap s.heap vs) (s.heap.objs.size + 1) vs }) (each_map (R := fun v d => ∃ as, Reads (sortingHeap (copyHeap s.heap vs) (s.heap.objs.size + 1) vs) v d as) enc er') hal hk (bound_map hu)
  exact sorted_vals hl st (by rw [e.length]; exact hL) (h _ (by rw [sortVals_length false rfl]; exact e.length) (sortVals_data false e er' hal))
end
end TL

/-! T layer 11: repr, sorted. -/
namespace TL
open PySem PySem.Spec PyProof.Rows L2 StX
variable [Tb]

/-! ### repr -/
mutual
theorem okT_noDict : ∀ d : T, okT d = true → (toD d).hasDict = false
  | .non, _ => by simp [toD, PyData.hasDict]
  | .bl _, _ => by simp [toD, PyData.hasDict]
  | .int _, _ => by simp [toD, PyData.hasDict]
  | .str _, _ => by simp [toD, PyData.hasDict]
  | .lst xs, h => by simp only [toD, PyData.hasDict]; exact okTs_noDict xs (by simpa [okT] using h)
  | .fls xs, h => by simp only [toD, PyData.hasDict]; exact okTs_noDict xs (by simpa [okT] using h)
  | .tup xs, h => by simp only [toD, PyData.hasDict]; exact okTs_noDict xs (by simpa [okT] using h)
  | .ftp xs, h => by simp only [toD, PyData.hasDict]; exact okTs_noDict xs (by simpa [okT] using h)
  | .dic _ _, h => by simp [okT] at h
  | .cell _, h => by simp [okT] at h
  | .ref _, h => by simp [okT] at h
  | .ty _, h => by simp [okT] at h
  | .exn _ _ _, h => by simp [okT] at h
theorem okTs_noDict : ∀ ds : List T, okTs ds = true → PyData.hasDictAll (toDs ds) = false
  | [], _ => by simp [toDs, PyData.hasDictAll]
  | x :: xs, h => by
    have h' : okT x = true ∧ okTs xs = true := by simpa [okTs] using h
    simp only [toDs, PyData.hasDictAll, Bool.or_eq_false_iff]
    exact ⟨okT_noDict x h'.1, okTs_noDict xs h'.2⟩
end
def reprOk (d : T) : Bool := shp d && (toD d).showable && fits (toD d).shown.length
def isRef : T → Bool
  | .lst _ => true
  | .fls _ => true
  | .tup _ => true
  | .ftp _ => true
  | _ => false
def gRepr : T → M T := fun d => bif reprOk d then M.pure (.str (toD d).shown) else M.no
section
variable {X : Cx} {E : XK} {k : Nat}
theorem c_reprS (gd : X.A.guards = some []) (un : X.A.units + 200 < cLine) : CallD X E (.builtin "repr") (g1 gRepr) := .one fun pins s σ H x us Q F ι μ d I rv hr lx hp => by
  unfold gRepr at hp
  cases hz : reprOk d with
  | false => rw [hz] at hp; exact hp.elim
  | true =>
    rw [hz] at hp
    have hz := hz
    unfold reprOk at hz
    rw [Bool.and_eq_true, Bool.and_eq_true] at hz
    obtain ⟨⟨h1, h2⟩, h3⟩ := hz
    obtain ⟨u, rfl, ru⟩ := vals1 rv
    obtain ⟨as, r⟩ := Dp.reads I _ x u (lx.dp hr.sub (shp_ok h1)) ru
    have hdep : (toD d).depth ≤ 64 := by
      unfold shp at h1
      rw [Bool.and_eq_true] at h1
      exact of_decide_eq_true h1.2
    have fin : ∀ (h' : Heap) (t : Tok) (tk : Nat), (∀ b o, s.heap.get? b = some o → h'.get? b = some o) → EP X pins σ Q (.str (toD d).shown t) { s with heap := h', toks := tk } := fun h' t tk kp => ⟨.str (toD d).shown, H, I.kept (t' := tk) kp, ⟨_, rfl⟩, Post.pure hp hr _ (.str _)⟩
    have go : ∀ a, u = Value.ref a → wpAny (model X.prog X.w) X.A (call (.builtin "repr") [u]) (EP X pins σ Q) X.xe s := fun a ea => by
      subst ea
      exact repr_of_reads' r h2 (fun z => by rw [okT_noDict d (shp_ok h1)] at z; cases z) gd (by omega) (fun _ _ q => q) (fun h' u tk kp => fin h' u tk kp) (fits_le h3)
    cases lx with
    | non =>
      cases ru
      refine PySem.P.repr_of_none ?_
      have e : (toD .non).shown = ("None" : Str) := by simp [toD, PyData.shown]
      have q := fin s.heap s.toks (s.toks + 1) fun _ _ z => z
      rw [e] at q
      exact q
    | bl b =>
      cases ru
      refine PySem.P.repr_of_bool ?_
      have e : (toD (.bl b)).shown = (if b then "True" else "False" : Str) := by simp [toD, PyData.shown]
      have q := fin s.heap s.toks (s.toks + 1) fun _ _ z => z
      rw [e] at q
      exact q
    | int i =>
      obtain ⟨t, rfl⟩ := ru
      refine PySem.P.repr_of_int (by simpa [toD, PyData.showable] using h2) ?_
      have e : (toD (.int i)).shown = Str.ofString (toString i) := by simp only [toD, PyData.shown]
      have q := fin s.heap s.toks (s.toks + 1) fun _ _ z => z
      rw [e] at q
      exact q
    | str z =>
      obtain ⟨t, rfl⟩ := ru
      have e : (toD (.str z)).shown = reprText z := by simp only [toD, PyData.shown]
      refine PySem.P.repr_of_str ?_ (by rw [← e]; exact fits_le h3)
      have q := fin s.heap s.toks (s.toks + 1) fun _ _ z => z
      rw [e] at q
      exact q
    | lst ha ra => cases ru; exact go _ rfl
    | fls ha ra => cases ru; exact go _ rfl
    | tup ha ra => cases ru; exact go _ rfl
    | ftp ha ra => cases ru; exact go _ rfl
    | dic _ _ => have := shp_ok h1; simp [okT] at this
    | dit _ _ => have := shp_ok h1; simp [okT] at this
    | ref a => have := shp_ok h1; simp [okT] at this
    | ty n => have := shp_ok h1; simp [okT] at this
    | exn _ _ => have := shp_ok h1; simp [okT] at this
theorem c_repr (o : XO X E k) : CallD X E (.builtin "repr") (g1 gRepr) := c_reprS o.gd (by have := o.room.un; omega)
end

/-! ### sorted -/
def leT (d e : T) : Bool := !PySem.W.dataLt (toD e) (toD d)
def neTup : T → Bool
  | .tup _ => true
  | .ftp _ => true
  | _ => false
def noTup : T → Bool
  | .tup _ => false
  | .ftp _ => false
  | .non => false
  | _ => true
def alikeTs (ds : List T) : Bool := ds.all fun x => ds.all fun y => PySem.W.alike (toD x) (toD y)
def srtOk (ds : List T) : Bool := ds.all (fun d => shp d) && alikeTs ds && (ds.all neTup || ds.all noTup) && fits ds.length
def gSort (ds : List T) : M (List T) := bif srtOk ds then M.pure (ds.mergeSort leT) else M.no
def gSorted : List T → M (List T)
  | [d] => M.bind (ld d) fun d => match listOf d with
    | some ds => gSort ds
    | none => M.no
  | _ => M.no
theorem each_of {K : PySem.W.Frag} {F : Hp} {ι : List Addr} : ∀ {vs : List V} {us : List Value} {ds : List T}, Vals vs us → Rps K F ι vs ds → PySem.W.EachIs (fun u d => ∃ v, RelV v u ∧ Rp K F ι v d) us ds
  | _, _, _, .nil, .nil => .nil
  | _, _, _, .cons r t, .cons q s => .cons ⟨_, r, q⟩ (each_of t s)
theorem each_back {K : PySem.W.Frag} {F : Hp} {ι : List Addr} : ∀ {us : List Value} {ds : List T}, PySem.W.EachIs (fun u d => ∃ v, RelV v u ∧ Rp K F ι v d) us ds → ∃ vs, Vals vs us ∧ Rps K F ι vs ds
  | _, _, .nil => ⟨[], .nil, .nil⟩
  | _, _, .cons ⟨v, r, q⟩ t => by
    obtain ⟨vs, a, b⟩ := each_back t
    exact ⟨v :: vs, .cons r a, .cons q b⟩
section
variable {X : Cx} {E : XK} {k : Nat}
theorem c_sorted (o : XO X E k) : CallL X E (.builtin "sorted") gSorted := by
  intro pins s σ H xs us Q I rv ⟨F, ι, μ, ds, hr, rs, hp⟩
  unfold gSorted at hp
  split at hp
  · cases rs with
    | cons r1 t =>
      cases t
      obtain ⟨d', lx, hp⟩ := ld_post hr r1 hp
      obtain ⟨u1, rfl, ru1⟩ := vals1 rv
      cases hd : listOf d' with
      | none => rw [hd] at hp; exact hp.elim
      | some es =>
        rw [hd] at hp
        simp only [gSort] at hp
        obtain ⟨a, vs, its, rfl, rvs, hl, res⟩ : ∃ a vs its, (u1 = Value.ref a) ∧ Vals vs its ∧ s.heap.IsList a its.toArray ∧ Rps X.K F ι vs es := by
          cases lx with
          | lst ha ra =>
            cases hd
            obtain ⟨its, r, p, _⟩ := I.list (SqL.of ha)
            cases ru1
            exact ⟨_, _, its, rfl, r, p.isList, ra⟩
          | fls ha ra =>
            cases hd
            obtain ⟨its, r, p, _⟩ := I.list (hr.sub.sub.seqL ha)
            cases ru1
            exact ⟨_, _, its, rfl, r, p.isList, ra⟩
          | _ => cases hd
        cases hz : srtOk es with
        | false => rw [hz] at hp; exact hp.elim
        | true =>
          rw [hz] at hp
          have hp : Post X.K X.mg E (M.pure (es.mergeSort leT) μ) F ι H _ := hp
          unfold srtOk at hz
          rw [Bool.and_eq_true, Bool.and_eq_true, Bool.and_eq_true] at hz
          obtain ⟨⟨⟨h1, h2⟩, h3⟩, h4⟩ := hz
          have shp1 : ∀ d ∈ es, shp d = true := fun d hd => List.all_eq_true.mp h1 d hd
          have er : PySem.W.EachIs (fun u d => ∃ as, Reads s.heap u (toD d) as) its es := by
            have go : ∀ {vs : List V} {us : List Value} {ds : List T}, Vals vs us → Rps X.K F ι vs ds → (∀ d ∈ ds, shp d = true) → PySem.W.EachIs (fun u d => ∃ as, Reads s.heap u (toD d) as) us ds := by
              intro vs us ds a
              induction a generalizing ds with
              | nil => intro b _; cases b; exact .nil
              | cons r t ih =>
                intro b h
                cases b with
                | cons q s => exact .cons (Dp.reads I _ _ _ (q.dp hr.sub (shp_ok (h _ List.mem_cons_self))) r) (ih s fun d hd => h d (List.mem_cons_of_mem _ hd))
            exact go rvs res shp1
          refine sorted_data2 (enc := toD) hl (each_of rvs res) er ?_ ?_ (fits_le h4) ?_ ?_
          · intro x hx y hy
            obtain ⟨b, hb, rfl⟩ := List.mem_map.mp hx
            obtain ⟨c, hc, rfl⟩ := List.mem_map.mp hy
            exact List.all_eq_true.mp (List.all_eq_true.mp h2 b hb) c hc
          · rw [Bool.or_eq_true] at h3
            rcases h3 with h3 | h3
            · refine .inl fun d hd => ?_
              obtain ⟨b, hb, rfl⟩ := List.mem_map.mp hd
              have q := List.all_eq_true.mp h3 b hb
              unfold neTup at q
              split at q
              · exact ⟨_, by simp only [toD]; rfl⟩
              · exact ⟨_, by simp only [toD]; rfl⟩
              · cases q
            · refine .inr fun d hd => ?_
              obtain ⟨b, hb, rfl⟩ := List.mem_map.mp hd
              have q := List.all_eq_true.mp h3 b hb
              have ok := shp_ok (shp1 b hb)
              unfold noTup at q
              split at q
              · cases q
              · cases q
              · cases q
              · cases b <;> simp_all [toD, okT]
          · intro b hb
            have h := shp1 b hb
            unfold shp at h
            rw [Bool.and_eq_true] at h
            have h5 : (toD b).depth ≤ 64 := of_decide_eq_true h.2
            have := o.room.un
            omega
          · intro out ho eo
            obtain ⟨ws, rw1, rw2⟩ := each_back eo
            obtain ⟨c, hc⟩ := sortedAll_at s.heap its out.toArray
            have nq : H (s.heap.objs.size + 1) = none := I.hok.fresh (Nat.le_succ _)
            have rw3 : Rps X.K F ι ws (es.mergeSort leT) := rw2
            refine ⟨.ref (s.heap.objs.size + 1), upd H (s.heap.objs.size + 1) (.lst ws), I.laid (t' := s.toks) (o := .lst ws) (fun b o e => sortedAll_old e) (Nat.le_succ _) ?_, rfl,
              hp F ι H (.refl ..) hr _ ws _ (fun a z => upd_ne z) nq upd_same rw3⟩
            exact ⟨by rw [rw1.length, ho]; exact fits_le h4, _, c, rw1, hc⟩
  · exact hp.elim
end
end TL

/-! T layer, the end: from the law's mirror to the statement. -/
namespace TL
open PySem PySem.Spec PyProof.Rows L2 StX

def scriptT (ns : List Int) : T := .fls (ns.map T.int)
theorem rps_ints {K : PySem.W.Frag} {F : Hp} {ι : List Addr} : ∀ ns : List Int, Rps K F ι (ns.map V.int) (ns.map T.int)
  | [] => .nil
  | n :: ns => .cons (.int n) (rps_ints ns)
section
variable {P : Program} {w : World} {K : PySem.W.Frag} {mg mb : Str → Option Value} {k : Nat} {fa a : Addr} {fd : FuncData} {x : Str} {m : List T → M T} {t : Shared} {vs : List Value} {ns : List Int} {G : Hp}
/-- the law is called where G is tracked: the script at most -/
theorem top_call (kin : K.In t.heap) (gl : t.heap.Ns mainGlobals mg) (bl : t.heap.Ns builtinsNs mb) (bb : ∀ y : Str, y ≠ "__name__" → mb y = bootBuiltins y) (nl : t.heap.NoLimit) (g0 : t.gens = #[]) (obj : t.heap.get? a = some { cls := .type "list", data := .seq vs.toArray })
    (rm : Room k callerA) (D : ∀ b : Heap, K.In b → b.Ns mainGlobals mg → FnG P w K mg b k fa fd [x] m) (bi : ∀ (s : Shared) (u : Value), BindsTo s fd ⟨[u], []⟩ [(x, u)]) (ans : ∃ μ, m [scriptT ns] [] = .ok (.bl true) μ)
    (gok : HOk P w G t.heap) (ga : ∀ b u, G b = some u → b = a ∧ K.lookup b = none ∧ ∃ o xs, u = .frz o (.lst xs)) (gs : SqL K G a (ns.map V.int)) :
    codeAny (model P w) callerA (.call (.ref fa) ⟨[.ref a], []⟩) (fun r z => r = .ok (.ret (.bool true)) ∧ PySem.OldK t.heap z.heap ∧ z.os = t.os ∧ AllBare z.gens) t := by
  have free : ∀ {b : Addr} {o : Obj}, t.heap.get? b = some o → G b = none → (hidT t.heap G).get? b = some o := fun e n => hidT_get e n
  have noG : ∀ {b : Addr}, (∀ u, G b = some u → False) → G b = none := fun {b} h => by
    cases q : G b with
    | none => rfl
    | some u => exact (h u q).elim
  have ns1 : ∀ {b : Addr} {q : Str → Option Value}, t.heap.Ns b q → (hidT t.heap G).Ns b q := fun {b q} ⟨o, es, ep, e, d, r⟩ =>
    ⟨o, es, ep, free e (noG fun u g => by
      obtain ⟨rfl, _⟩ := ga b u g
      rw [obj] at e
      cases e
      cases (show Data.seq vs.toArray _ = Data.dict es ep from d)), d, r⟩
  have kin1 : K.In (hidT t.heap G) := fun b o e => free (kin b o e) (noG fun u g => by
    obtain ⟨_, z, _⟩ := ga b u g
    rw [z] at e
    cases e)
  obtain ⟨mc, l1, l2⟩ := nl
  have e0 : Env0 P w K mg (hidT t.heap G) callerA [] t G := ⟨rfl, ⟨kin1, ns1 gl, ⟨mb, ns1 bl, bb⟩, ⟨mc, ns1 l1, l2⟩⟩, fun b o e => of_hidT e, Nat.le_of_eq (hidT_size _ _), trivial, fun b hb => (nomatch hb), gok, .of_eq g0⟩
  obtain ⟨μ, ans⟩ := ans
  have rel : Rel K G [] [] G := ⟨fun _ _ e => e, List.nodup_nil, rfl, fun k a c e _ => by simp at e, fun q hq => (List.not_mem_nil hq).elim, fun b ps z => by
    obtain ⟨_, _, o, xs, q⟩ := ga b _ z
    cases q⟩
  refine codeAny_mono (D _ kin1 (ns1 gl) callerA [] t G ⟨[.ref a], []⟩ [.ref a] [.ref a] (fun v _ => v = .bl true) EF G [] [] [scriptT ns] rm rfl e0 (bi t (.ref a)) (.cons rfl .nil) rfl rel (.cons (.fls gs (rps_ints ns)) .nil) ?_) fun r z h => ?_
  · rw [ans]
    exact fun F' ι' H' _ _ v rv => by cases rv; rfl
  · rcases r with e | fl
    · obtain ⟨_, _, _, _, _, _, _, _, _, _, _, _, z⟩ := h
      exact False.elim z
    · cases fl with
      | ret u =>
        obtain ⟨v, G', os, bare, un, gok', rv, rfl⟩ := h
        obtain rfl : u = Value.bool true := rv
        refine ⟨rfl, OldK.of_keep fun b o e => ?_, os, bare⟩
        cases q : G b with
        | none => exact un.keep b o e q (fun z => nomatch z) (by simp)
        | some u =>
          obtain ⟨_, _, ob, xs, rfl⟩ := ga b u q
          have g2 := un.frzs b ob _ q
          obtain ⟨e1, _⟩ := gok b _ q
          obtain ⟨e2, _⟩ := gok' b _ g2
          rw [e] at e1
          cases e1
          exact e2
      | next => exact False.elim h
      | brk => exact False.elim h
      | cont => exact False.elim h
theorem top_any (kin : K.In t.heap) (gl : t.heap.Ns mainGlobals mg) (bl : t.heap.Ns builtinsNs mb) (bb : ∀ y : Str, y ≠ "__name__" → mb y = bootBuiltins y) (nl : t.heap.NoLimit) (g0 : t.gens = #[]) (obj : t.heap.get? a = some { cls := .type "list", data := .seq vs.toArray })
    (ia : IntsAre vs ns) (sz : ns.length ≤ sizeLine) (rm : Room k callerA) (D : ∀ b : Heap, K.In b → b.Ns mainGlobals mg → FnG P w K mg b k fa fd [x] m) (bi : ∀ (s : Shared) (u : Value), BindsTo s fd ⟨[u], []⟩ [(x, u)]) (ans : ∃ μ, m [scriptT ns] [] = .ok (.bl true) μ) :
    codeAny (model P w) callerA (.call (.ref fa) ⟨[.ref a], []⟩) (fun r z => r = .ok (.ret (.bool true)) ∧ PySem.OldK t.heap z.heap ∧ z.os = t.os ∧ AllBare z.gens) t := by
  have rv := vals_ints ia
  have nl2 : ns.length = vs.length := by simpa using rv.length
  cases hk : K.lookup a with
  | some o =>
    have e := kin a o hk
    rw [obj] at e
    cases e
    exact top_call (G := fun _ => none) kin gl bl bb nl g0 obj rm D bi ans (fun _ _ z => nomatch z) (fun _ _ z => nomatch z) (.inr ⟨_, vs.toArray, _, hk, rfl, rfl, rfl, by rw [List.size_toArray, ← nl2]; exact sz, by simpa using rv⟩)
  | none =>
    refine top_call (G := upd (fun _ => none) a (.frz { cls := .type "list", data := .seq vs.toArray } (.lst (ns.map V.int)))) kin gl bl bb nl g0 obj rm D bi ans (fun b u z => ?_) (fun b u z => ?_) (.inl (.inr ⟨_, upd_same⟩))
    · by_cases hb : b = a
      · subst hb
        rw [upd_same] at z
        cases z
        exact ⟨obj, by rw [List.length_map]; exact sz, vs, _, rv, obj⟩
      · rw [upd_ne hb] at z
        cases z
    · by_cases hb : b = a
      · subst hb
        rw [upd_same] at z
        cases z
        exact ⟨rfl, hk, _, _, rfl⟩
      · rw [upd_ne hb] at z
        cases z
end
/-- the goal behind the head -/
theorem walk_T {l : PySem.W.OpenLaw} {n k : Nat} {q : Program} {loose : List Str} {XP : (Str → Option Value) → Heap → Prop} {YP : World → Heap → Prop} {d : DefRec} {K : Params → PySem.W.Frag} {x : Str} {m : List T → M T}
    (hn : l.most = some n) (hn2 : n ≤ sizeLine) (hdf : d.params.defaults = []) (rm : Room k callerA) (hY : ∀ (w : World) (h : Heap), YP w h → (K w.params).In h)
    (D : ∀ (w : World) (mg : Str → Option Value) (fa : Addr) (h : Heap), (K w.params).In h → h.Ns mainGlobals mg → mg d.name = some (.ref fa) →
      ∃ fd : FuncData, (∀ (s : Shared) (u : Value), BindsTo s fd ⟨[u], []⟩ [(x, u)]) ∧ ∀ b : Heap, (K w.params).In b → b.Ns mainGlobals mg → FnG l.prog w (K w.params) mg b k fa fd [x] m)
    (ans : ∀ ns : List Int, ns.length ≤ n → (∀ z ∈ ns, Builtin.Int.intBits z ≤ 1048576) → ∃ μ, m [scriptT ns] [] = .ok (.bl true) μ) : PySem.W.WalkO q loose XP YP l.row.toRowW d [] (fun f vs => PySem.call f vs) := by
  refine Att.attach_callB hn hdf fun w _ t mg mb fa _ _ _ _ a vs ns G Y _ _ _ hmg obj ia len bits g0 => ?_
  obtain ⟨fd, bi, D'⟩ := D w mg fa _ (hY w _ Y) G.T.g hmg
  exact top_any (hY w _ Y) G.T.g G.T.b G.T.builtins G.T.nolimit g0 obj ia (Nat.le_trans len hn2) rm D' bi (ans ns len bits)
end TL

/-! T layer: zip of two. -/
namespace TL
open PySem PySem.Spec PyProof.Rows L2 StX
variable [Tb]

theorem src_zip {P : Program} {w : World} {K : PySem.W.Frag} {elts : List Expr} {kk : Nat} {tpos : Pos} (b1 b2 : Bool) (a1 a2 N : Addr) (xs1 xs2 : List V) (n1 : a1 < N) (n2 : a2 < N) :
    Src P w K (.Tuple elts kk tpos) (N + 4) [N + 4, N + 2, N + 3, N, N + 1] (min xs1.length xs2.length)
      (fun i h => IsZip h (N + 4) (N + 2) (N + 3) .none ∧ IsTupOf2 h (N + 2) (.ref N) (.ref (N + 1)) ∧ (∃ u1 u2, IsTupOf2 h (N + 3) u1 u2) ∧ SqIt b1 h N a1 i ∧ SqIt b2 h (N + 1) a2 i)
      (fun H => SqB b1 K H a1 xs1 ∧ SqB b2 K H a2 xs2) (fun i ys => ∃ x y, xs1[i]? = some x ∧ xs2[i]? = some y ∧ ys = [x, y]) where
  mem := by simp
  self := fun A i s Q E st q => wpAny_pyIter_zip st.1 q
  keep := fun i h h' ⟨hz, h1, ⟨u1, u2, h2⟩, h3, h4⟩ k => ⟨k _ (by simp) _ hz, k _ (by simp) _ h1, ⟨u1, u2, k _ (by simp) _ h2⟩, sq_itAt h3 fun o q => k N (by simp) o q, sq_itAt h4 fun o q => k (N + 1) (by simp) o q⟩
  obj := fun i h ⟨hz, h1, ⟨u1, u2, h2⟩, h3, h4⟩ c hc => by
    simp only [List.mem_cons, List.not_mem_nil, or_false] at hc
    rcases hc with z | z | z | z | z
    · subst z; exact ⟨_, hz, fun v q => nomatch q⟩
    · subst z; exact ⟨_, h1, fun v q => nomatch q⟩
    · subst z; exact ⟨_, h2, fun v q => nomatch q⟩
    · subst z; exact sq_itObj h3
    · subst z; exact sq_itObj h4
  run := fun X pins s σ H hP hw hK hh I hD => by
    subst hP hw hK
    obtain ⟨its1, rv1, hat1, _⟩ := Inv.sq I hD.1
    obtain ⟨its2, rv2, hat2, _⟩ := Inv.sq I hD.2
    have hl1 := rv1.length
    have hl2 := rv2.length
    have S := zip_sep2 (N := N) (fp1 := [a1]) (fp2 := [a2]) (fun b hb => by rw [List.mem_singleton.mp hb]; exact n1) (fun b hb => by rw [List.mem_singleton.mp hb]; exact n2)
    have D1 := sq_draws (P := X.prog) (w := X.w) (A := X.A.in1) hh b1 N a1 (Nat.ne_of_lt n1) its1.toArray
    have D2 := sq_draws (P := X.prog) (w := X.w) (A := X.A.in1) hh b2 (N + 1) a2 (Nat.ne_of_lt (Nat.lt_succ_of_lt n2)) its2.toArray
    have G := GoesN.zip2 (elts := elts) (x1 := kk) (pos := tpos) S D1 D2
    have e1 : its1.toArray.size = xs1.length := by simp [hl1]
    have e2 : its2.toArray.size = xs2.length := by simp [hl2]
    rw [e1, e2] at G
    refine ⟨_, _, fun i vals => ∃ x y, its1.toArray[i]? = some x ∧ its2.toArray[i]? = some y ∧ vals = #[x, y], _, ?_, G.mono fun i h₀ v h _ ⟨T, x, y, ev, hn, hx, hy, hT⟩ => ⟨T, _, ev, hn, ⟨x, y, hx, hy, rfl⟩, hT⟩,
      fun i st => ⟨st.1, st.2.1, st.2.2.1, ⟨st.2.2.2.1, hat1⟩, ⟨st.2.2.2.2, hat2⟩⟩, fun i h st => ⟨st.1, st.2.1, st.2.2.1, st.2.2.2.1.1, st.2.2.2.2.1⟩, ?_⟩
    · intro c hc
      simp only [List.mem_cons, List.not_mem_nil, or_false] at hc
      rcases hc with z | z | z | z <;> (rw [z]; simp)
    · rintro i vals hi ⟨x, y, hx, hy, rfl⟩
      obtain ⟨x', hx', rx⟩ := Vals.at rv1 (by simpa using hx)
      obtain ⟨y', hy', ry⟩ := Vals.at rv2 (by simpa using hy)
      exact ⟨[x', y'], .cons rx (.cons ry .nil), by simp, x', y', hx', hy', rfl⟩
section
variable {X : Cx} {E : XK} {k : Nat}
theorem i_zip {e1 e2 : Expr} {fa : Env → M (List T)} {p pos tpos : Pos} {elts : List Expr} {kk : Nat} (ha : DA X E [e1, e2] fa) (hm : X.mg "zip" = none) (hg : Gl X "zip" := by rfl) (hs : starEach [e1, e2] X.env = [(false, eval e1 X.env), (false, eval e2 X.env)] := by rfl) (hs2 : starEach [e2] X.env = [(false, eval e2 X.env)] := by rfl) :
    DI X E (.Tuple elts kk tpos) (.Call (.Name "zip" p) [e1, e2] [] pos) (iB gZip fa) := by
  refine ⟨fun pins s σ H R I hh => ?_⟩
  obtain ⟨F, ι, μ, ρ, hr, hen, hp⟩ := hh
  refine Call_ (ld_blt I hg hm PyProof.Rows.boot_zip (PyProof.Rows.callWith_type1 (thn (ha.run pos pins s σ H (fun vs H1 => ∃ F1 ι1 μ1 ds, Rel X.K F1 ι1 μ1 H1 ∧ Rps X.K F1 ι1 vs ds ∧ Post X.K X.mg E (gZip ds μ1) F1 ι1 H1 (fun F' ι' _ H' ds => ∀ J, Wk X.K F' ι' J ds → R J H')) I (At.a hr hen hp fun F1 ι1 μ1 H1 vs ds x1 r1 rs p1 => ⟨F1, ι1, μ1, ds, r1, rs, p1⟩)) fun us s1 hx => ?_) (by rw [hs, hs2]) (by rw [hs2]; rfl)))
  obtain ⟨vs, H1, I1, rv, F1, ι1, μ1, ds, r1, rs, p1⟩ := hx
  unfold gZip at p1
  split at p1
  · cases rs with
    | cons ra t =>
      cases t with
      | cons rb t =>
        cases t
        cases rv with
        | cons q t =>
          cases t with
          | cons q2 t =>
            cases t
            obtain ⟨es1, h1, p2⟩ := gIter_post p1
            obtain ⟨es2, h2, p3⟩ := gIter_post p2
            obtain ⟨b1, a1, xs1, rfl, hsq1, ra1⟩ := seq_b ra h1
            obtain ⟨b2, a2, xs2, rfl, hsq2, ra2⟩ := seq_b rb h2
            cases q
            cases q2
            obtain ⟨its1, rv1, hat1, hlt1⟩ := Inv.sq I1 (hsq1.sub r1.sub.sub)
            obtain ⟨its2, rv2, hat2, hlt2⟩ := Inv.sq I1 (hsq2.sub r1.sub.sub)
            refine zip_begins2 (sq_begins b1 a1 its1.toArray) (sq_begins b2 a2 its2.toArray) hat1 hat2 fun h' hz t1 t2 i1 i2 hsz hk => wpAny_pyIter_zip hz ?_
            have I2 : Inv X pins σ H1 { s1 with heap := h' } := I1.kept (t' := s1.toks) hk
            have S := src_zip (P := X.prog) (w := X.w) (K := X.K) (elts := elts) (kk := kk) (tpos := tpos) b1 b2 a1 a2 s1.heap.objs.size xs1 xs2 hlt1 hlt2
            refine ⟨s1.heap.objs.size + 4, _, _, _, H1, rfl, I2, S.turn, ⟨Nat.zero_le _, hz, t1, ⟨_, _, t2⟩, sq_it0 i1, sq_it0 i2⟩, fun c hc => ?_, ?_⟩
            · have hle : s1.heap.objs.size ≤ c := by
                simp only [List.mem_cons, List.not_mem_nil, or_false] at hc
                rcases hc with z | z | z | z | z <;> (rw [z]; first | exact Nat.le_refl _ | exact Nat.le_add_right _ _)
              exact I1.fpOk hle (I1.hok.fresh hle)
            · have q := Post.pure (mg := X.mg) (E := E) p3 r1
              refine q _ ?_
              have ee : List.zipWith (fun x y => T.tup [x, y]) es1 es2 = (List.zipWith (fun x y => [x, y]) es1 es2).map T.tup := by rw [List.map_zipWith]
              rw [ee]
              refine wk_pairs (by rw [List.length_zipWith, ra1.length, ra2.length]) (fun F' H' s1 s2 => ⟨(hsq1.sub s1.sub).sub s2.sub, (hsq2.sub s1.sub).sub s2.sub⟩) fun i ys hy => ?_
              obtain ⟨x, y, hx, hy, rfl⟩ := hy
              obtain ⟨d, hd, rd⟩ := ra1.getV hx
              obtain ⟨e, he, re⟩ := ra2.getV hy
              exact ⟨[d, e], by simp [List.getElem?_zipWith, hd, he], .cons rd (.cons re .nil)⟩
  · exact p1.elim
end
end TL

/-! T layer 12: cells frozen; methods of lists; name op= e. -/
namespace TL
open PySem PySem.Spec PyProof.Rows L2 StX
variable [Tb]

/-! ### a cell that will not be written any more is a tree -/
def frz (d : T) : M T := fun μ => match d with
  | .cell k => match μ[k]? with
    | some c => .ok (obT c.o) (μ.set k ⟨false, c.o⟩)
    | none => .no
  | d => .ok d μ
def eFrz (f : Env → M T) : Env → M T := fun ρ => M.bind (f ρ) frz
section
variable {K : PySem.W.Frag} {mg : Str → Option Value} {E : XK} {F : Hp} {ι : List Addr} {μ : Store} {H : Hp} {α : Type} {rp : Hp → List Addr → Store → Hp → α → Prop}
/-- a cell at a becomes known; what stands there is written anew as u' -/
theorem Rel.fix {a : Addr} {k : Nat} {c : Cel} {u' : HO} (r : Rel K F ι μ H) (h1 : ι[k]? = some a) (h2 : μ[k]? = some c) (hF : ∀ o, F a = some o → o = u') (ru : RpO K F ι u' c.o) (hd : (∀ k, u' ≠ .dK k) ∧ ∀ k, u' ≠ .dT k) : Ext F ι H (upd F a u') ι (upd H a u') ∧ Rel K (upd F a u') ι (μ.set k ⟨false, c.o⟩) (upd H a u') := by
  have hm : a ∈ ι := List.mem_of_getElem? h1
  have sub : All F (upd F a u') := fun b o e => by
    by_cases z : b = a
    · subst z; rw [hF o e]; exact upd_same
    · rw [upd_ne z]; exact e
  refine ⟨⟨sub, .refl _, fun b o e n _ => ?_, fun b m => .inl m, fun b o e => ?_⟩, ⟨fun b o e => ?_, r.nd, by simp [r.len], fun j b c' g1 g2 => ?_, fun q hq => tab_put (r.plain h1 h2).1 (r.plain h1 h2).2 (fun b n => upd_ne n) (r.tab q hq), fun b ps z => by
    by_cases y : b = a
    · subst y; rw [upd_same] at z; exact ru.plain.1 ps (Option.some.inj z)
    · rw [upd_ne y] at z; exact r.nt _ _ z⟩⟩
  · rw [upd_ne (fun z => n (by rw [z]; exact hm))]; exact e
  · by_cases z : b = a
    · subst z; exact .inr (.inl hm)
    · rw [upd_ne z] at e; exact .inl e
  · by_cases z : b = a
    · subst z; rw [upd_same] at e ⊢; exact e
    · rw [upd_ne z] at e ⊢; exact r.sub _ _ e
  · by_cases hj : j = k
    · subst hj
      rw [h1] at g1
      cases g1
      obtain ⟨hk, _⟩ := List.getElem?_eq_some_iff.mp h2
      rw [List.getElem?_set_self hk] at g2
      cases g2
      exact ⟨u', upd_same, ru.mono sub.sub (.refl _), fun z => (by cases z), fun _ => upd_same, fun z => (by cases z), fun _ => hd⟩
    · rw [List.getElem?_set_ne (Ne.symm hj)] at g2
      obtain ⟨v, q1, q2, q3, q4⟩ := r.cel j b c' g1 g2
      have ne : b ≠ a := fun z => by
        subst z
        obtain ⟨i1, j1⟩ := List.getElem?_eq_some_iff.mp h1
        obtain ⟨i2, j2⟩ := List.getElem?_eq_some_iff.mp g1
        exact hj ((List.getElem_inj r.nd).mp (j2.trans j1.symm))
      exact ⟨v, by rw [upd_ne ne]; exact q1, q2.mono sub.sub (.refl _), fun z => by rw [upd_ne ne]; exact q3 z, fun z => by rw [upd_ne ne]; exact q4.1 z, q4.2⟩
theorem upd_here {H : Hp} {a : Addr} {u : HO} (h : H a = some u) : upd H a u = H := by
  funext b
  by_cases z : b = a
  · subst z; rw [upd_same, h]
  · rw [upd_ne z]
/-- as it is, or behind a lock -/
def FrzQ (H : Hp) (v : V) (P : Hp → Prop) : Prop := P H ∨ ∃ a u, v = .ref a ∧ H a = some u ∧ Mut (some u) ∧ ∀ od, P (upd H a (.frz od u))
theorem frz_post {v : V} {d : T} {k : T → M α} (r : Rel K F ι μ H) (rv : Rp K F ι v d) (hp : Post K mg E (M.bind (frz d) k μ) F ι H rp) : FrzQ H v fun H' => ∃ F' μ' d', Ext F ι H F' ι H' ∧ Rel K F' ι μ' H' ∧ Rp K F' ι v d' ∧ Post K mg E (k d' μ') F' ι H' rp := by
  cases rv with
  | non => exact .inl ⟨F, μ, _, .refl .., r, .non, hp⟩
  | bl b => exact .inl ⟨F, μ, _, .refl .., r, .bl b, hp⟩
  | int i => exact .inl ⟨F, μ, _, .refl .., r, .int i, hp⟩
  | str x => exact .inl ⟨F, μ, _, .refl .., r, .str x, hp⟩
  | lst s t => exact .inl ⟨F, μ, _, .refl .., r, .lst s t, hp⟩
  | fls s t => exact .inl ⟨F, μ, _, .refl .., r, .fls s t, hp⟩
  | tup s t => exact .inl ⟨F, μ, _, .refl .., r, .tup s t, hp⟩
  | ftp s t => exact .inl ⟨F, μ, _, .refl .., r, .ftp s t, hp⟩
  | dic s t => exact .inl ⟨F, μ, _, .refl .., r, .dic s t, hp⟩
  | dit s t => exact .inl ⟨F, μ, _, .refl .., r, .dit s t, hp⟩
  | ref a => exact .inl ⟨F, μ, _, .refl .., r, .ref a, hp⟩
  | ty n => exact .inl ⟨F, μ, _, .refl .., r, .ty n, hp⟩
  | exn s t => exact .inl ⟨F, μ, _, .refl .., r, .exn s t, hp⟩
  | @cell k' a e =>
    rcases hc : μ[k']? with _ | c
    · have hp : Post K mg E ((M.bind (frz (.cell k')) k) μ) F ι H rp := hp
      simp only [M.bind, frz, hc] at hp
      exact hp.elim
    · simp only [M.bind, frz, hc] at hp
      obtain ⟨u, e1, e2, e3, e4, e5⟩ := r.cel k' a c e hc
      have hF : ∀ o, F a = some o → o = u := fun o ho => by
        have := r.sub _ _ ho
        rw [e1] at this
        exact (Option.some.inj this).symm
      have now : ((∀ k, u ≠ .dK k) ∧ ∀ k, u ≠ .dT k) → ∀ d', Rp K (upd F a u) ι (.ref a) d' → obT c.o = d' → FrzQ H (.ref a) fun H' => ∃ F' μ' d', Ext F ι H F' ι H' ∧ Rel K F' ι μ' H' ∧ Rp K F' ι (.ref a) d' ∧ Post K mg E (k d' μ') F' ι H' rp := fun hd d' rd ed => by
        obtain ⟨x, r'⟩ := r.fix e hc hF e2 hd
        rw [upd_here e1] at x r'
        rw [ed] at hp
        exact .inl ⟨_, _, d', x, r', rd, hp.later x⟩
      have later : (∀ o, F a = some o → False) → Mut (some u) → (∀ od, RpO K F ι (.frz od u) c.o) → (∀ od, RpO K (upd F a (.frz od u)) ι (.frz od u) c.o → Rp K (upd F a (.frz od u)) ι (.ref a) (obT c.o)) → FrzQ H (.ref a) fun H' => ∃ F' μ' d', Ext F ι H F' ι H' ∧ Rel K F' ι μ' H' ∧ Rp K F' ι (.ref a) d' ∧ Post K mg E (k d' μ') F' ι H' rp := fun nF mu ro rd =>
        .inr ⟨a, u, rfl, e1, mu, fun od => by
          obtain ⟨x, r'⟩ := r.fix (u' := .frz od u) e hc (fun o ho => (nF o ho).elim) (ro od) ⟨fun _ z => (by cases z), fun _ z => (by cases z)⟩
          exact ⟨_, _, _, x, r', rd od ((ro od).mono x.sub x.i), hp.later x⟩⟩
      have nF : c.live = true → ∀ o, F a = some o → False := fun hl o ho => by rw [e3 hl] at ho; cases ho
      have sub : All F (upd F a u) := fun b o e' => by
        by_cases z : b = a
        · subst z; rw [hF o e']; exact upd_same
        · rw [upd_ne z]; exact e'
      obtain ⟨lv, ob⟩ := c
      cases e2 with
      | lst rs => exact now ⟨fun _ z => (by cases z), fun _ z => (by cases z)⟩ _ (.lst upd_same (rs.mono sub.sub (.refl _))) rfl
      | fdic rs => exact now ⟨fun _ z => (by cases z), fun _ z => (by cases z)⟩ _ (.dic upd_same (rs.mono sub.sub (.refl _))) rfl
      | fdit rs => exact now ⟨fun _ z => (by cases z), fun _ z => (by cases z)⟩ _ (.dit upd_same (rs.mono sub.sub (.refl _))) rfl
      | dic rs =>
        cases lv with
        | true => exact later (nF rfl) trivial (fun od => .fdic rs) fun od ro => by cases ro with | fdic rs => exact .dic upd_same rs
        | false => exact ((e5.2 rfl).1 _ rfl).elim
      | dit rs =>
        cases lv with
        | true => exact later (nF rfl) trivial (fun od => .fdit rs) fun od ro => by cases ro with | fdit rs => exact .dit upd_same rs
        | false => exact ((e5.2 rfl).2 _ rfl).elim
end
section
variable {X : Cx} {E : XK} {k : Nat} {e : Expr} {f : Env → M T} {tg : Expr}
theorem pe_fix {t : TE} (h : PE X e t) : PE X e (fun σ H Q => t σ H fun v H1 => FrzQ H1 v (Q v)) := ⟨fun pins s σ H Q I hw => thn (h.run pins s σ H _ I hw) fun u s1 ⟨x, H1, I1, r, q⟩ => by
  rcases q with q | ⟨a, u0, rfl, hd, mu, q⟩
  · exact ⟨x, H1, I1, r, q⟩
  · obtain ⟨od, I2⟩ := I1.lock hd mu
    exact ⟨_, _, I2, r, q od⟩⟩
theorem d_frz (h : DE X E e f) : DE X E e (eFrz f) := pe_imp (pe_fix h) fun σ H Q ⟨F, ι, μ, ρ, hr, he, hp⟩ => ⟨F, ι, μ, ρ, hr, he, hp.bind fun F1 ι1 μ1 H1 d x1 r1 p1 v rv => by
  have p2 : Post X.K X.mg E (M.bind (frz d) M.pure μ1) F1 ι1 H1 (wT X.K Q) := by
    have e : M.bind (frz d) M.pure = frz d := by funext m; simp only [M.bind]; cases frz d m <;> rfl
    rw [e]; exact p1
  have go : ∀ H', (∃ F' μ' d', Ext F1 ι1 H1 F' ι1 H' ∧ Rel X.K F' ι1 μ' H' ∧ Rp X.K F' ι1 v d' ∧ Post X.K X.mg E (M.pure d' μ') F' ι1 H' (wT X.K Q)) → Q v H' := fun H' ⟨F', μ', d', x2, r2, rv2, p3⟩ => Post.pure p3 r2 v rv2
  rcases frz_post r1 rv p2 with q | ⟨a, u, ev, h1, mu, q⟩
  · exact .inl (go _ q)
  · exact .inr ⟨a, u, ev, h1, mu, fun od => go _ (q od)⟩⟩
end

/-! ### methods -/
def isL (d : T) : M Unit := fun μ => match d with
  | .lst _ => .ok () μ
  | .fls _ => .ok () μ
  | .cell k => match μ[k]? with
    | some ⟨_, .lst _⟩ => .ok () μ
    | _ => .no
  | _ => .no
def eMeth (c : T → M Unit) (g : T → List T → M T) (fo : Env → M T) (fa : Env → M (List T)) : Env → M T := fun ρ => M.bind (fo ρ) fun d => M.bind (c d) fun _ => M.bind (fa ρ) fun ds => g d ds
theorem isL_post {K : PySem.W.Frag} {mg : Str → Option Value} {E : XK} {F : Hp} {ι : List Addr} {μ : Store} {H : Hp} {α : Type} {rp : Hp → List Addr → Store → Hp → α → Prop} {v : V} {d : T} {k : Unit → M α} (r : Rel K F ι μ H) (rv : Rp K F ι v d) (hp : Post K mg E (M.bind (isL d) k μ) F ι H rp) :
    tyV K "list" v H ∧ Post K mg E (k () μ) F ι H rp := by
  cases rv with
  | lst s t => exact ⟨.inl ⟨rfl, _, SqL.of (r.sub _ _ s)⟩, hp⟩
  | fls s t => exact ⟨.inl ⟨rfl, _, r.sub.sub.seqL s⟩, hp⟩
  | @cell k' a e =>
    rcases hc : μ[k']? with _ | ⟨lv, o⟩
    · simp only [M.bind, isL, hc] at hp; exact hp.elim
    · cases o with
      | dic tk kvs => simp only [M.bind, isL, hc] at hp; exact hp.elim
      | lst xs =>
        simp only [M.bind, isL, hc] at hp
        obtain ⟨u, e1, e2, _⟩ := r.cel k' a _ e hc
        cases e2 with
        | lst rs => exact ⟨.inl ⟨rfl, _, SqL.of e1⟩, hp⟩
  | _ => exact hp.elim
section
variable (X : Cx) (E : XK)
def rM (g : T → List T → M T) : V → List V → Hp → VK → Prop := fun x xs H Q => ∃ F ι μ d ds, Rel X.K F ι μ H ∧ Rp X.K F ι x d ∧ Rps X.K F ι xs ds ∧ Post X.K X.mg E (g d ds μ) F ι H (wT X.K Q)
abbrev MtD (id : String) (g : T → List T → M T) : Prop := MtR X id (rM X E g)
end
section
variable {X : Cx} {E : XK} {k : Nat} {o e : Expr} {es : List Expr} {fo : Env → M T} {fa : Env → M (List T)} {name : Str} {apos cpos : Pos} {Ty id : String} {g : T → List T → M T} {c : T → M Unit}
abbrev ChkD (c : T → M Unit) (Ty : String) : Prop := ∀ {K : PySem.W.Frag} {mg : Str → Option Value} {E : XK} {F : Hp} {ι : List Addr} {μ : Store} {H : Hp} {rp : Hp → List Addr → Store → Hp → T → Prop} {v : V} {d : T} {k : Unit → M T}, Rel K F ι μ H → Rp K F ι v d → Post K mg E (M.bind (c d) k μ) F ι H rp → tyV K Ty v H ∧ Post K mg E (k () μ) F ι H rp
theorem d_meth (hc : ChkD c Ty) (pa : PlainAttrs Ty) (slot : Slot Ty name id) (hty : typeOf (.builtin id) = pure (.type "method_descriptor")) (hm : MtD X E id g) (ho : DE X E o fo) (ha : DA X E (e :: es) fa) (hbase : attributeBase o name X.env (eval o X.env) = eval o X.env := by rfl)
    (hfew : ((backTo cpos (starEach (e :: es) X.env)).all (fun x => !x.1) && (backToKw cpos (keywordEach [] X.env)).all (fun x => x.1.isSome)
      && decide ((e :: es).length + ([] : List Keyword).length + (if ([] : List Keyword).isEmpty then 0 else 1) < 30)) = true := by rfl)
    (hline : (apos.endLine == cpos.line) = true := by rfl) (hs : starEach (e :: es) X.env = (false, eval e X.env) :: starEach es X.env := by rfl) (hplain : (backTo cpos (starEach es X.env)).any (·.1) = false := by rfl) :
    DE X E (.Call (.Attribute o name apos) (e :: es) [] cpos) (eMeth c g fo fa) :=
  pe_imp (pe_bm pa slot hty hm ho ha hbase hfew hline hs hplain) fun σ H Q ⟨F, ι, μ, ρ, hr, he, hp⟩ => At.e hr he hp fun F1 ι1 μ1 H1 v d x1 r1 rv p1 => by
    obtain ⟨ty, p2⟩ := hc r1 rv p1
    exact ⟨ty, At.a r1 (he.ext x1) p2 fun F2 ι2 μ2 H2 vs ds x2 r2 rs p3 => ⟨F2, ι2, μ2, d, ds, r2, rv.ext x2, rs, p3⟩⟩
theorem d_meth0 (hc : ChkD c Ty) (pa : PlainAttrs Ty) (slot : Slot Ty name id) (hty : typeOf (.builtin id) = pure (.type "method_descriptor")) (hm : MtD X E id g) (ho : DE X E o fo) (hbase : attributeBase o name X.env (eval o X.env) = eval o X.env := by rfl)
    (hline : (apos.endLine == cpos.line) = true := by rfl) : DE X E (.Call (.Attribute o name apos) [] [] cpos) (eMeth c g fo aNil) :=
  pe_imp (pe_bm0 pa slot hty hm ho hbase hline) fun σ H Q ⟨F, ι, μ, ρ, hr, he, hp⟩ => At.e hr he hp fun F1 ι1 μ1 H1 v d x1 r1 rv p1 => by
    obtain ⟨ty, p2⟩ := hc r1 rv p1
    exact ⟨ty, F1, ι1, μ1, d, [], r1, rv, .nil, p2⟩
def gAppend : T → List T → M T := fun d ds => match d, ds with
  | .cell k, [v] => onCell k fun xs => bif fits (xs.length + 1) then some (.non, xs ++ [v]) else none
  | _, _ => M.no
theorem m_append : MtD X E "list.append" gAppend := by
  intro pins s σ H x xs v us Q I rx rxs ⟨F, ι, μ, d, ds, hr, rd, rs, hp⟩
  unfold gAppend at hp
  split at hp
  · rename_i k w
    obtain ⟨a, ys, es, y, zs, rfl, ha, re, hf, fin⟩ := onCell_post hr rd hp
    cases hz : fits (es.length + 1) with
    | false => rw [hz] at hf; cases hf
    | true =>
      rw [hz] at hf
      cases hf
      cases rs with
      | cons r1 t =>
        cases t
        obtain ⟨_, _, q⟩ := fin _ (re.append (.cons r1 .nil))
        have := fits_le hz
        exact mt_append pins s σ H _ _ v us Q I rx rxs ⟨a, ys, _, rfl, rfl, ha, by rw [re.length]; omega, q _ .non⟩
  · exact hp.elim
def gPop : T → List T → M T := fun d ds => match d, ds with
  | .cell k, [] => onCell k fun xs => (xs[xs.length - 1]?).map fun y => (y, xs.dropLast)
  | _, _ => M.no
theorem Rps.dropLast {K : PySem.W.Frag} {F : Hp} {ι : List Addr} {vs : List V} {ds : List T} (r : Rps K F ι vs ds) : Rps K F ι vs.dropLast ds.dropLast := by
  rw [List.dropLast_eq_take, List.dropLast_eq_take, r.length]
  exact r.take _
theorem m_pop : MtD X E "list.pop" gPop := by
  intro pins s σ H x xs v us Q I rx rxs ⟨F, ι, μ, d, ds, hr, rd, rs, hp⟩
  unfold gPop at hp
  split at hp
  · rename_i k
    obtain ⟨a, ys, es, y, zs, rfl, ha, re, hf, fin⟩ := onCell_post hr rd hp
    cases hy : es[es.length - 1]? with
    | none => rw [hy] at hf; cases hf
    | some y' =>
      rw [hy] at hf
      cases hf
      cases rs
      obtain ⟨w, hw, rw'⟩ := re.get hy
      obtain ⟨x2, _, q⟩ := fin _ re.dropLast
      exact mt_pop pins s σ H _ _ v us Q I rx rxs ⟨a, ys, w, rfl, rfl, ha, by rw [re.length]; exact hw, q _ (rw'.ext x2)⟩
  · exact hp.elim
def gExtend : T → List T → M T := fun d ds => match d, ds with
  | .cell k, [.lst ys] => onCell k fun xs => bif fits (xs.length + ys.length) then some (.non, xs ++ ys) else none
  | _, _ => M.no
theorem m_extend : MtD X E "list.extend" gExtend := by
  intro pins s σ H x xs v us Q I rx rxs ⟨F, ι, μ, d, ds, hr, rd, rs, hp⟩
  unfold gExtend at hp
  split at hp
  · rename_i k ws
    obtain ⟨a, ys, es, y, zs, rfl, ha, re, hf, fin⟩ := onCell_post hr rd hp
    cases hz : fits (es.length + ws.length) with
    | false => rw [hz] at hf; cases hf
    | true =>
      rw [hz] at hf
      cases hf
      cases rs with
      | cons r1 t =>
        cases t
        cases r1 with
        | lst hb rb =>
          obtain ⟨_, _, q⟩ := fin _ (re.append rb)
          have := fits_le hz
          exact mt_extend pins s σ H _ _ v us Q I rx rxs ⟨a, _, ys, _, rfl, rfl, ha, hr.sub _ _ hb, by rw [re.length, rb.length]; exact this, q _ .non⟩
  · exact hp.elim
end

/-! ### name op= e -/
def sAug (i : Nat) (g : T → T → M T) (f : Env → M T) : Env → M Fl := fun ρ => M.bind (varOf ρ i) fun x => M.bind (f ρ) fun y => M.bind (g x y) fun z => M.pure (.nx (ρ.set i (some z)))
where varOf (ρ : Env) (i : Nat) : M T := match ρ[i]? with
  | some (some d) => M.pure d
  | _ => M.no
section
variable {X : Cx} {E : XK} {k : Nat} {e : Expr} {f : Env → M T} {g : T → T → M T} {op : Operator} {x : Str} {pos pos' : Pos}
theorem s_aug (i : Nat) (hN : X.N.Nodup) (he : DE X E e f) (ho : OpD X E (inplaceOp op) g) (hi : X.N[i]? = some x := by rfl) (hx : Loc X.env.scope x := by first | exact .inl rfl | exact .inr rfl) (hf : X.fn x = true ∨ X.env.scope.names.lookup x = some .local := by first | exact .inl rfl | exact .inr rfl) :
    DS X E (.AugAssign (.Name x pos') op e pos) (sAug i g f) :=
  ps_imp (ps_aug hN hi hx he ho hf) fun D σ H ⟨F, ι, μ, ρ, hr, hen, hp⟩ => by
    unfold sAug at hp
    rcases hv : ρ[i]? with _ | _ | d
    · simp only [M.bind, sAug.varOf, hv] at hp; exact hp.elim
    · simp only [M.bind, sAug.varOf, hv] at hp; exact hp.elim
    · have hp : Post X.K X.mg E (M.bind (f ρ) (fun y => M.bind (g d y) fun z => M.pure (.nx (ρ.set i (some z)))) μ) F ι H (wF X.K D) := by
        have e1 : sAug.varOf ρ i = M.pure d := by unfold sAug.varOf; rw [hv]
        rw [e1] at hp
        exact hp
      obtain ⟨v, hs, rv⟩ := hen.at_ i d hv
      exact ⟨v, hs, At.e hr hen hp fun F1 ι1 μ1 H1 u y x1 r1 ru p1 => ⟨F1, ι1, μ1, d, y, r1, rv.ext x1, ru, p1.bind fun F2 ι2 μ2 H2 z x2 r2 p2 w rw' => Post.pure (mg := X.mg) (E := E) (a := Fl.nx _) p2 r2 _ (((hen.ext x1).ext x2).set rw' i)⟩⟩
def gInts (f : Int → Int → Int) : T → T → M T
  | .int i, .int j => M.pure (.int (f i j))
  | _, _ => M.no
def gMulI : T → T → M T
  | .int i, .int j => bif decide (lgs i j < 1000000) then M.pure (.int (i * j)) else M.no
  | _, _ => M.no
theorem p_add : OpD X E (inplaceOp .Add) (ld2 (gInts fun i j => i + j)) := .ints0 iop_add (fun _ _ _ _ => .int _) (fun _ _ => rfl) fun d e h => by unfold gInts; split; exact (h _ _ ⟨rfl, rfl⟩).elim; rfl
theorem p_sub : OpD X E (inplaceOp .Sub) (ld2 gSub) := .ints0 iop_sub (fun _ _ _ _ => .int _) (fun _ _ => rfl) fun d e h => by unfold gSub; split; exact (h _ _ ⟨rfl, rfl⟩).elim; rfl
theorem p_and : OpD X E (inplaceOp .BitAnd) (ld2 (gBit Builtin.bitAnd)) := .ints0 iop_and (fun _ _ _ _ => .int _) (fun _ _ => rfl) fun d e h => by unfold gBit; split; exact (h _ _ ⟨rfl, rfl⟩).elim; rfl
theorem p_or : OpD X E (inplaceOp .BitOr) (ld2 (gBit Builtin.bitOr)) := .ints0 iop_or (fun _ _ _ _ => .int _) (fun _ _ => rfl) fun d e h => by unfold gBit; split; exact (h _ _ ⟨rfl, rfl⟩).elim; rfl
theorem p_xor : OpD X E (inplaceOp .BitXor) (ld2 (gBit Builtin.bitXor)) := .ints0 iop_xor (fun _ _ _ _ => .int _) (fun _ _ => rfl) fun d e h => by unfold gBit; split; exact (h _ _ ⟨rfl, rfl⟩).elim; rfl
theorem p_fdiv : OpD X E (inplaceOp .FloorDiv) (ld2 gFdiv) := .ints (c := fun _ j => decide (0 < j) && decide (j.natAbs.log2 < 9000)) iop_fdivW (fun i j h => by simpa [CDivW] using h) (fun _ _ _ _ => .int _) (fun _ _ => rfl) fun d e h => by unfold gFdiv; split; exact (h _ _ ⟨rfl, rfl⟩).elim; rfl
theorem p_mul : OpD X E (inplaceOp .Mult) (ld2 gMulI) := .ints (c := fun i j => decide (lgs i j < 1000000)) (show OpR X (inplaceOp .Mult) (rI CMulW fun i j => .int (i * j)) from opI fun _ _ _ _ _ _ _ hc q => imul_int q hc.ok)
  (fun i j h => by have := of_decide_eq_true h; exact this) (fun _ _ _ _ => .int _) (fun _ _ => rfl) fun d e h => by unfold gMulI; split; exact (h _ _ ⟨rfl, rfl⟩).elim; rfl
end
end TL

/-! T layer 13: dicts. -/
namespace TL
open PySem PySem.Spec PyProof.Rows L2 StX
variable [Tb]

def putP (kvs : List (T × T)) (key : Key ⊕ List Key) (kt v : T) : List (T × T) := bif (lookP kvs key).isSome then kvs.map (fun p => if keyOf p.1 = some key then (p.1, v) else p) else kvs ++ [(kt, v)]
section
variable {K : PySem.W.Frag} {F : Hp} {ι : List Addr}
theorem Rpk.map {k : Key} {v : V} {d : T} (r : Rp K F ι v d) : ∀ {kvs : List (Key × V)} {ps : List (T × T)}, Rpk K F ι kvs ps → Rpk K F ι (kvs.map fun p => if p.1 = k then (p.1, v) else p) (ps.map fun p => if keyOf p.1 = some (.inl k) then (p.1, d) else p)
  | _, _, .nil => .nil
  | _, _, @Rpk.cons _ _ _ k' v' vs d' ds q t => by
    rw [List.map_cons, List.map_cons]
    by_cases e : k' = k
    · rw [if_pos (show (k', v').1 = k from e), if_pos (show keyOf (keyT k', d').1 = some (.inl k) by rw [keyOf_keyT, e])]
      exact .cons r (Rpk.map r t)
    · rw [if_neg (show ¬ (k', v').1 = k from e), if_neg (show ¬ keyOf (keyT k', d').1 = some (.inl k) by rw [keyOf_keyT]; intro z; cases z; exact e rfl)]
      exact .cons q (Rpk.map r t)
theorem Rpk.snoc {k : Key} {v : V} {d : T} (r : Rp K F ι v d) : ∀ {kvs : List (Key × V)} {ps : List (T × T)}, Rpk K F ι kvs ps → Rpk K F ι (kvs ++ [(k, v)]) (ps ++ [(keyT k, d)])
  | _, _, .nil => .cons r .nil
  | _, _, .cons q t => .cons q (Rpk.snoc r t)
theorem Rpk.put {k : Key} {v : V} {d : T} (r : Rp K F ι v d) {kvs : List (Key × V)} {ps : List (T × T)} (h : Rpk K F ι kvs ps) : Rpk K F ι (putK kvs k v) (putP ps (.inl k) (keyT k) d) := by
  rcases h.look k with ⟨h1, h2⟩ | ⟨v', d', h1, h2, h3⟩
  · unfold putP
    rw [putK_new v h1, h2]
    exact h.snoc r
  · unfold putP putK
    rw [valV_any, h1, h2]
    exact h.map r
theorem Rpt.map {k : List Key} {v : V} {d : T} (r : Rp K F ι v d) : ∀ {kvs : List (List Key × V)} {ps : List (T × T)}, Rpt K F ι kvs ps → Rpt K F ι (kvs.map fun p => if p.1 = k then (p.1, v) else p) (ps.map fun p => if keyOf p.1 = some (.inr k) then (p.1, d) else p)
  | _, _, .nil => .nil
  | _, _, @Rpt.cons _ _ _ k' v' vs d' ds q t => by
    rw [List.map_cons, List.map_cons]
    by_cases e : k' = k
    · rw [if_pos (show (k', v').1 = k from e), if_pos (show keyOf (T.tup (k'.map keyT), d').1 = some (.inr k) by rw [keyOf_tup, e])]
      exact .cons r (Rpt.map r t)
    · rw [if_neg (show ¬ (k', v').1 = k from e), if_neg (show ¬ keyOf (T.tup (k'.map keyT), d').1 = some (.inr k) by rw [keyOf_tup]; intro z; cases z; exact e rfl)]
      exact .cons q (Rpt.map r t)
theorem Rpt.snoc {k : List Key} {v : V} {d : T} (r : Rp K F ι v d) : ∀ {kvs : List (List Key × V)} {ps : List (T × T)}, Rpt K F ι kvs ps → Rpt K F ι (kvs ++ [(k, v)]) (ps ++ [(.tup (k.map keyT), d)])
  | _, _, .nil => .cons r .nil
  | _, _, .cons q t => .cons q (Rpt.snoc r t)
theorem Rpt.put {k : List Key} {v : V} {d : T} (r : Rp K F ι v d) {kvs : List (List Key × V)} {ps : List (T × T)} (h : Rpt K F ι kvs ps) : Rpt K F ι (putK kvs k v) (putP ps (.inr k) (.tup (k.map keyT)) d) := by
  rcases h.look k with ⟨h1, h2⟩ | ⟨v', d', h1, h2, h3⟩
  · unfold putP
    rw [putK_new v h1, h2]
    exact h.snoc r
  · unfold putP putK
    rw [valV_any, h1, h2]
    exact h.map r
end
/-- d[i] = v -/
def gPut : T → T → T → M Unit := fun o i v => match o with
  | .cell k => fun μ => match μ[k]? with
    | some ⟨true, .dic tk kvs⟩ => (match tk, keyOf i with
      | false, some (.inl key) => bif fits (kvs.length + 1) then .ok () (μ.set k ⟨true, .dic false (putP kvs (.inl key) (keyT key) v)⟩) else .no
      | true, some (.inr ks) => bif fits (kvs.length + 1) then .ok () (μ.set k ⟨true, .dic true (putP kvs (.inr ks) (.tup (ks.map keyT)) v)⟩) else .no
      | _, _ => .no)
    | _ => .no
  | _ => M.no
section
variable {X : Cx} {E : XK} {k : Nat}
theorem set_put (o : XO X E k) : SetD X E gPut := by
  intro pins s σ H ob i v ov iv u Q I ro ri rv ⟨F, ι, μ, d, e, w, hr, rd, re, rw', hp⟩
  unfold gPut at hp
  cases rd with
  | @cell kk a hi =>
    simp only at hp
    rcases hc : μ[kk]? with _ | ⟨lv, oo⟩
    · rw [hc] at hp; exact hp.elim
    · rw [hc] at hp
      cases lv with
      | false => cases oo <;> exact hp.elim
      | true =>
        cases oo with
        | lst xs => exact hp.elim
        | dic tk kvs =>
          simp only at hp
          obtain ⟨u0, e1, e2, e3, e4⟩ := hr.cel kk a _ hi hc
          cases hk : keyOf e with
          | none => rw [hk] at hp; cases tk <;> exact hp.elim
          | some key =>
            rw [hk] at hp
            cases key with
            | inl key =>
              cases tk with
              | true => exact hp.elim
              | false =>
                simp only at hp
                cases e2 with
                | fdic _ => exact (e4.2.1 rfl _ _ rfl).elim
                | @dic kv _ rk =>
                  cases hz : fits (kvs.length + 1) with
                  | false => rw [hz] at hp; exact hp.elim
                  | true =>
                    rw [hz] at hp
                    have hl := fits_le hz
                    have lk := rk.length
                    have ey : i = kV key := by
                      cases re with
                      | int i => cases hk; rfl
                      | str x => cases hk; rfl
                      | tup ha ra =>
                        simp only [keyOf, Option.map_eq_some_iff] at hk
                        obtain ⟨_, _, z⟩ := hk
                        cases z
                      | _ => cases hk
                    obtain ⟨x2, r2⟩ := hr.write (o := .dic false (putP kvs (.inl key) (keyT key) w)) hi hc rfl (.dic (rk.put rw'))
                    exact set_dict (hu_of o.room) pins s σ H _ _ v ov iv u Q I ro ri rv ⟨a, _, rfl, .inl ⟨kv, key, e1, ey, by omega, rfl⟩, hp _ _ _ x2 r2⟩
            | inr ks =>
              cases tk with
              | false => exact hp.elim
              | true =>
                simp only at hp
                cases e2 with
                | fdit _ => exact (e4.2.1 rfl _ _ rfl).elim
                | @dit kv _ rk =>
                  cases hz : fits (kvs.length + 1) with
                  | false => rw [hz] at hp; exact hp.elim
                  | true =>
                    rw [hz] at hp
                    have hl := fits_le hz
                    have lk := rk.length
                    cases re with
                    | @tup b vs ds ha ra =>
                      simp only [keyOf, Option.map_eq_some_iff] at hk
                      obtain ⟨q, h2, z⟩ := hk
                      cases z
                      have eds := keysOf_some h2
                      subst eds
                      have evs := ra.keys
                      subst evs
                      obtain ⟨x2, r2⟩ := hr.write (o := .dic true (putP kvs (.inr ks) (.tup (ks.map keyT)) w)) hi hc rfl (.dit (rk.put rw'))
                      exact set_dict (hu_of o.room) pins s σ H _ _ v ov iv u Q I ro ri rv ⟨a, _, rfl, .inr ⟨kv, ks, b, e1, rfl, hr.sub _ _ ha, by omega, rfl⟩, hp _ _ _ x2 r2⟩
                    | int i => cases hk
                    | str x => cases hk
                    | _ => cases hk
  | _ => exact hp.elim
variable {pos : Pos}
theorem d_dict0 : DE X E (.Dict [] [] pos) (fun _ => newC (.dic false [])) := pe_imp pe_dnewK fun σ H Q ⟨F, ι, μ, ρ, hr, he, hp⟩ p hn => by
  obtain ⟨x2, r2⟩ := hr.newI (u := .dK []) hn (fun a z => upd_ne z) upd_same (.dic .nil)
  exact hp _ _ _ x2 r2 _ (.cell (by rw [← hr.len]; simp))
theorem d_dict0T : DE X E (.Dict [] [] pos) (fun _ => newC (.dic true [])) := pe_imp pe_dnewT fun σ H Q ⟨F, ι, μ, ρ, hr, he, hp⟩ p hn => by
  obtain ⟨x2, r2⟩ := hr.newI (u := .dT []) hn (fun a z => upd_ne z) upd_same (.dit .nil)
  exact hp _ _ _ x2 r2 _ (.cell (by rw [← hr.len]; simp))
/-- d.get(k, x), d.get(k) -/
def isD (d : T) : M Unit := fun μ => match d with
  | .dic _ _ => .ok () μ
  | .cell k => match μ[k]? with
    | some ⟨_, .dic _ _⟩ => .ok () μ
    | _ => .no
  | _ => .no
theorem isD_post {K : PySem.W.Frag} {mg : Str → Option Value} {E : XK} {F : Hp} {ι : List Addr} {μ : Store} {H : Hp} {α : Type} {rp : Hp → List Addr → Store → Hp → α → Prop} {v : V} {d : T} {k : Unit → M α} (r : Rel K F ι μ H) (rv : Rp K F ι v d) (hp : Post K mg E (M.bind (isD d) k μ) F ι H rp) :
    ∃ a, v = .ref a ∧ IsD H a ∧ Post K mg E (k () μ) F ι H rp := by
  cases rv with
  | dic s t => exact ⟨_, rfl, .inl ⟨_, .inr ⟨_, r.sub _ _ s⟩⟩, hp⟩
  | dit s t => exact ⟨_, rfl, .inr ⟨_, .inr ⟨_, r.sub _ _ s⟩⟩, hp⟩
  | @cell k' a e =>
    rcases hc : μ[k']? with _ | ⟨lv, o⟩
    · simp only [M.bind, isD, hc] at hp; exact hp.elim
    · cases o with
      | lst xs => simp only [M.bind, isD, hc] at hp; exact hp.elim
      | dic tk kvs =>
        simp only [M.bind, isD, hc] at hp
        obtain ⟨u, e1, e2, _⟩ := r.cel k' a _ e hc
        cases e2 with
        | dic rs => exact ⟨_, rfl, .inl ⟨_, .inl e1⟩, hp⟩
        | dit rs => exact ⟨_, rfl, .inr ⟨_, .inl e1⟩, hp⟩
        | fdic rs => exact ⟨_, rfl, .inl ⟨_, .inr ⟨_, e1⟩⟩, hp⟩
        | fdit rs => exact ⟨_, rfl, .inr ⟨_, .inr ⟨_, e1⟩⟩, hp⟩
  | _ => exact hp.elim
def gGet (z : T) : T → T → M T
  | .dic tk kvs, y => match dGet tk kvs y with
    | some o => M.pure (o.getD z)
    | none => M.no
  | _, _ => M.no
def eGet1 (fo fi : Env → M T) : Env → M T := fun ρ => M.bind (fo ρ) fun d => M.bind (isD d) fun _ => M.bind (fi ρ) fun y => ld2 (gGet .non) d y
def eGet2 (fo fi fx : Env → M T) : Env → M T := fun ρ => M.bind (fo ρ) fun d => M.bind (isD d) fun _ => M.bind (fi ρ) fun y => M.bind (fx ρ) fun z => ld2 (gGet z) d y
variable {ob e f : Expr} {apos cpos : Pos} {fo fi fx : Env → M T}
theorem get_core {F : Hp} {ι : List Addr} {μ : Store} {H : Hp} {Q : VK} {a : Addr} {y z : V} {d dy dz : T} (r : Rel X.K F ι μ H) (rd : Rp X.K F ι (.ref a) d) (ry : Rp X.K F ι y dy) (rz : Rp X.K F ι z dz) (hp : Post X.K X.mg E (ld2 (gGet dz) d dy μ) F ι H (wT X.K Q)) :
    ∃ o, DGet H a y o ∧ Q (o.getD z) H := by
  obtain ⟨d', lx, hp⟩ := ld_post r rd hp
  obtain ⟨y', ly, hp⟩ := ld_post r ry hp
  cases d' with
  | dic tk kvs =>
    simp only [gGet] at hp
    cases hg : dGet tk kvs y' with
    | none => rw [hg] at hp; exact hp.elim
    | some oo =>
      rw [hg] at hp
      obtain ⟨rr, g, hh⟩ := dget_of lx ly hg r.sub
      refine ⟨rr, g, ?_⟩
      rcases hh with ⟨rfl, rfl⟩ | ⟨v, d2, rfl, rfl, rv⟩
      · exact Post.pure hp r _ rz
      · exact Post.pure hp r _ rv
  | _ => exact hp.elim
theorem d_get1 (o : XO X E k) (ho : DE X E ob fo) (he : DE X E e fi) (m : M1 X ob "get" apos e cpos := by exact ⟨rfl, rfl, rfl, rfl⟩) : DE X E (.Call (.Attribute ob "get" apos) [e] [] cpos) (eGet1 fo fi) :=
  pe_imp (pe_dget1 (hu_of o.room) ho he m) fun σ H Q ⟨F, ι, μ, ρ, hr, hen, hp⟩ => At.e hr hen hp fun F1 ι1 μ1 H1 v d x1 r1 rv p1 => by
    obtain ⟨a, rfl, isd, p2⟩ := isD_post r1 rv p1
    exact ⟨a, rfl, isd, At.e r1 (hen.ext x1) p2 fun F2 ι2 μ2 H2 y dy x2 r2 ry p3 => by
      obtain ⟨oo, g, q⟩ := get_core r2 (rv.ext x2) ry .non p3
      exact ⟨oo, g, q⟩⟩
theorem d_get2 (o : XO X E k) (ho : DE X E ob fo) (he : DE X E e fi) (hf : DE X E f fx) (m : M2 X ob "get" apos e f cpos := by exact ⟨rfl, rfl, rfl, rfl⟩) : DE X E (.Call (.Attribute ob "get" apos) [e, f] [] cpos) (eGet2 fo fi fx) :=
  pe_imp (pe_dget2 (hu_of o.room) ho he hf m) fun σ H Q ⟨F, ι, μ, ρ, hr, hen, hp⟩ => At.e hr hen hp fun F1 ι1 μ1 H1 v d x1 r1 rv p1 => by
    obtain ⟨a, rfl, isd, p2⟩ := isD_post r1 rv p1
    exact ⟨a, rfl, isd, At.e r1 (hen.ext x1) p2 fun F2 ι2 μ2 H2 y dy x2 r2 ry p3 => At.e r2 ((hen.ext x1).ext x2) p3 fun F3 ι3 μ3 H3 z dz x3 r3 rz p4 => get_core r3 ((rv.ext x2).ext x3) (ry.ext x3) rz p4⟩
end
end TL

/-! T layer 14: walking dicts. -/
namespace TL
open PySem PySem.Spec PyProof.Rows L2 StX
variable [Tb]

/-- a locked dict at a: its entries -/
structure Ents (H : Hp) (a : Addr) (o : Obj) (es : Array DictEntry) (ep : Nat) (kvs : List (V × V)) : Prop where
  at_ : ∃ u, H a = some (.frz o u)
  ex : o.ExactDict
  dat : o.data = .dict es ep
  sm : (a == sysModules) = false
  sz : es.size = kvs.length
  rel : ∀ i (hi : i < es.size), ∃ k v, kvs[i]? = some (k, v) ∧ RelV k es[i].key ∧ RelV v es[i].val
section
variable {X : Cx} {pins : List (Addr × Obj)} {σ : L2.St} {H : Hp} {s : Shared} {F : Hp} {ι : List Addr} {μ : Store}
theorem frz_get {a : Addr} {o : Obj} {u : HO} (I : Inv X pins σ H s) (h : H a = some (.frz o u)) : s.heap.get? a = some o := by
  have x := I.hok a _ h
  cases u <;> exact x.1
theorem Ents.raw {a : Addr} {o : Obj} {es : Array DictEntry} {ep : Nat} {kvs : List (V × V)} (x : Ents H a o es ep kvs) {H' : Hp} {s' : Shared} (I : Inv X pins σ H' s') (h : ∃ u, H' a = some (.frz o u)) : s'.heap.DictRaw a es ep := by
  obtain ⟨u, h⟩ := h
  exact ⟨o, frz_get I h, x.ex, x.dat⟩
/-- all tuples that are tracked become known -/
theorem Rel.learn (r : Rel X.K F ι μ H) : ∃ F', Ext F ι H F' ι H ∧ Rel X.K F' ι μ H ∧ ∀ b xs, H b = some (.tup xs) → F' b = some (.tup xs) := by
  let F' : Hp := fun b => match F b with
    | some o => some o
    | none => match H b with
      | some (.tup xs) => some (.tup xs)
      | _ => none
  have new : ∀ b o, F' b = some o → F b = some o ∨ (F b = none ∧ ∃ xs, o = .tup xs ∧ H b = some (.tup xs)) := fun b o e => by
    have e : (match F b with
      | some o => some o
      | none => match H b with
        | some (.tup xs) => some (.tup xs)
        | _ => none) = some o := e
    cases h1 : F b with
    | some o' => rw [h1] at e; exact .inl e
    | none =>
      rw [h1] at e
      simp only at e
      split at e
      · cases e; exact .inr ⟨rfl, _, rfl, by assumption⟩
      · cases e
  have old : All F F' := fun b o e => by
    show (match F b with
      | some o => some o
      | none => match H b with
        | some (.tup xs) => some (.tup xs)
        | _ => none) = some o
    rw [e]
  refine ⟨F', ⟨old, .refl _, fun b o e _ _ => e, fun b m => .inl m, fun b o e => ?_⟩, ⟨fun b o e => ?_, r.nd, r.len, fun k b c h1 h2 => ?_, r.tab, fun b ps z => by
    rcases new b _ z with q | ⟨_, xs, q, _⟩
    · exact r.nt _ _ q
    · cases q⟩, fun b xs e => ?_⟩
  · rcases new b o e with z | ⟨_, xs, z1, z2⟩
    · exact .inl z
    · exact .inr (.inr (.inr (.inl ⟨xs, z1, z2⟩)))
  · rcases new b o e with z | ⟨_, xs, rfl, z⟩
    · exact r.sub _ _ z
    · exact z
  · obtain ⟨u, e1, e2, e3, e4⟩ := r.cel k b c h1 h2
    refine ⟨u, e1, e2.mono old.sub (.refl _), fun z => ?_, fun z => old _ _ (e4.1 z), e4.2⟩
    cases q : F' b with
    | none => rfl
    | some o =>
      rcases new b o q with z2 | ⟨_, xs, _, z2⟩
      · rw [e3 z] at z2; cases z2
      · rw [e1] at z2; cases z2; cases e2
  · show (match F b with
      | some o => some o
      | none => match H b with
        | some (.tup xs) => some (.tup xs)
        | _ => none) = some (.tup xs)
    cases h1 : F b with
    | none => simp only [e]
    | some o =>
      have := r.sub _ _ h1
      rw [e] at this
      exact this.symm
theorem Rpk.ents : ∀ {kvs : List (Key × V)} {ps : List (T × T)}, Rpk X.K F ι kvs ps → ∀ (i : Nat) (k v : V), (kvs.map fun p => (kV p.1, p.2))[i]? = some (k, v) → ∃ p : T × T, ps[i]? = some p ∧ Rp X.K F ι k p.1 ∧ Rp X.K F ι v p.2
  | _, _, .nil, i, k, v, h => by simp at h
  | _, _, @Rpk.cons _ _ _ k' v' vs d' ds q t, 0, k, v, h => by
    simp at h
    obtain ⟨rfl, rfl⟩ := h
    exact ⟨_, rfl, by cases k' with | inl i => exact .int i | inr x => exact .str x, q⟩
  | _, _, .cons q t, i + 1, k, v, h => by
    obtain ⟨p, h1, h2⟩ := Rpk.ents t i k v (by simpa using h)
    exact ⟨p, by simpa using h1, h2⟩
theorem rps_keys : ∀ ks : List Key, Rps X.K F ι (ks.map kV) (ks.map keyT)
  | [] => .nil
  | k :: ks => .cons (by cases k with | inl i => exact .int i | inr x => exact .str x) (rps_keys ks)
theorem ents_of {a : Addr} {tk : Bool} {ps : List (T × T)} (I : Inv X pins σ H s) (r : Rel X.K F ι μ H) (rd : Rp X.K F ι (.ref a) (.dic tk ps)) : ∃ F' o es ep kvs, Ext F ι H F' ι H ∧ Rel X.K F' ι μ H ∧ Ents F' a o es ep kvs ∧ Ents H a o es ep kvs ∧ kvs.length = ps.length ∧
    ∀ (i : Nat) (k v : V), kvs[i]? = some (k, v) → ∃ p : T × T, ps[i]? = some p ∧ Rp X.K F' ι k p.1 ∧ Rp X.K F' ι v p.2 := by
  obtain ⟨F', x, r', lt⟩ := r.learn
  have rd' := rd.ext x
  cases rd' with
  | @dic _ o kvs _ ha rk =>
    obtain ⟨e1, z, sm, vs, kv, dd⟩ := I.hok a _ (r'.sub _ _ ha)
    obtain ⟨es, ep, ⟨o', g1, g2, g3⟩, sz, ent⟩ := dd.raw
    rw [e1] at g1
    cases g1
    have hl : kvs.length = vs.length := Paired.length kv
    have E : ∀ G : Hp, G a = some (.frz o (.dK kvs)) → Ents G a o es ep (kvs.map fun p => (kV p.1, p.2)) := fun G hG => ⟨⟨_, hG⟩, g2, g3, sm, by rw [List.length_map, sz, hl], fun i hi => by
      have hi2 : i < kvs.length := by omega
      obtain ⟨u, hu, ru⟩ := kv_get kv (show kvs[i]? = some (kvs[i].1, kvs[i].2) by rw [List.getElem?_eq_getElem hi2])
      obtain ⟨q1, q2⟩ := ent i hi _ _ hu
      exact ⟨kV kvs[i].1, kvs[i].2, by rw [List.getElem?_map, List.getElem?_eq_getElem hi2]; rfl, relV_key q1, by rw [q2]; exact ru⟩⟩
    exact ⟨F', o, es, ep, _, x, r', E _ ha, E _ (r'.sub _ _ ha), by rw [List.length_map, rk.length], fun i k v hi => rk.ents i k v hi⟩
  | @dit _ o kvs _ ha rk =>
    obtain ⟨z, sm, xs, rel, dd⟩ := dt_rd I.hok (.inr ⟨o, r'.sub _ _ ha⟩)
    obtain ⟨es, ep, ⟨o', g1, g2, g3⟩, sz, ent⟩ := dd.raw
    have e1 := frz_get I (r'.sub _ _ ha)
    rw [e1] at g1
    cases g1
    have hl : kvs.length = xs.length := Paired.length rel
    have pg : ∀ {kvs : List (List Key × V)} {xs : List (List Key × Addr × Value)} {ps : List (T × T)}, KT H kvs xs → Rpt X.K F' ι kvs ps → ∀ (i : Nat) (y : List Key × Addr × Value), xs[i]? = some y → ∃ (kv : List Key × V) (p : T × T), kvs[i]? = some kv ∧ RelV kv.2 y.2.2 ∧ ps[i]? = some p ∧ Rp X.K F' ι (.ref y.2.1) p.1 ∧ Rp X.K F' ι kv.2 p.2 := by
      intro kvs xs ps h1
      induction h1 generalizing ps with
      | nil => intro h2 i y hy; simp at hy
      | @cons p q pr qs hq t ih =>
        intro h2 i y hy
        cases h2 with
        | cons rv tt =>
          cases i with
          | zero =>
            simp at hy
            subst hy
            refine ⟨_, _, rfl, hq.2.2, rfl, ?_, rv⟩
            exact .tup (lt _ _ hq.2.1) (rps_keys _)
          | succ i => obtain ⟨kv, pp, a1, a2, a3, a4, a5⟩ := ih tt i y (by simpa using hy); exact ⟨kv, pp, by simpa using a1, a2, by simpa using a3, a4, a5⟩
    have vv : ∀ (i : Nat) (y : List Key × Addr × Value), xs[i]? = some y → ∃ kv : List Key × V, kvs[i]? = some kv ∧ RelV kv.2 y.2.2 := fun i y hy => by
      obtain ⟨kv, p, a1, a2, _⟩ := pg rel rk i y hy
      exact ⟨kv, a1, a2⟩
    let ents : List (V × V) := (List.zip xs kvs).map fun p => (V.ref p.1.2.1, p.2.2)
    have len : ents.length = ps.length := by
      show ((List.zip xs kvs).map _).length = _
      rw [List.length_map, List.length_zip, ← hl, Nat.min_self, rk.length]
    have E : ∀ G : Hp, G a = some (.frz o (.dT kvs)) → Ents G a o es ep ents := fun G hG => ⟨⟨_, hG⟩, g2, g3, sm, by rw [len, sz, ← hl, rk.length], fun i hi => by
      obtain ⟨y, hy, k1, k2, _⟩ := ent i hi
      obtain ⟨kv, h1, h2⟩ := vv i y hy
      refine ⟨.ref y.2.1, kv.2, ?_, by rw [k1]; rfl, by rw [k2]; exact h2⟩
      show ((List.zip xs kvs).map _)[i]? = _
      rw [List.getElem?_map, List.getElem?_zip_eq_some (z := (y, kv)) |>.mpr ⟨hy, h1⟩]
      rfl⟩
    refine ⟨F', o, es, ep, ents, x, r', E _ ha, E _ (r'.sub _ _ ha), len, fun i k v hi => ?_⟩
    have hi : ((List.zip xs kvs).map fun p => (V.ref p.1.2.1, p.2.2))[i]? = some (k, v) := hi
    obtain ⟨⟨y, kv⟩, hz, e⟩ := Option.map_eq_some_iff.mp ((List.getElem?_map ..).symm.trans hi)
    obtain ⟨h1, h2⟩ := List.getElem?_zip_eq_some.mp hz
    obtain ⟨kv', p, b1, b2, b3, b4, b5⟩ := pg rel rk i y h1
    rw [h2] at b1
    cases b1
    cases e
    exact ⟨p, b3, b4, b5⟩
end
end TL

/-! T layer 15: for over a dict, its keys, its values, its items. -/
namespace TL
open PySem PySem.Spec PyProof.Rows L2 StX
variable [Tb]

theorem src_items {P : Program} {w : World} {K : PySem.W.Frag} {elts : List Expr} {kk : Nat} {tpos : Pos} {G : Hp} {a : Addr} {o : Obj} {es : Array DictEntry} {ep : Nat} {kvs : List (V × V)} (it : Addr) (hne : a ≠ it) (x : Ents G a o es ep kvs) :
    Src P w K (.Tuple elts kk tpos) it [it] es.size (fun i h => ∃ ok ov, IsItemIter h it a i es.size ep ok ov) (fun H => ∃ u, H a = some (.frz o u)) (fun i ys => ∃ k v, kvs[i]? = some (k, v) ∧ ys = [k, v]) where
  mem := by simp
  self := fun A i s Q E ⟨ok, ov, st⟩ q => wpAny_pyIter_itemiter st q
  keep := fun i h h' ⟨ok, ov, st⟩ k => ⟨ok, ov, k it (by simp) _ st⟩
  obj := fun i h ⟨ok, ov, st⟩ c hc => by
    rw [List.mem_singleton.mp hc]
    exact ⟨_, st, fun v q => nomatch q⟩
  run := fun X pins s σ H hP hw hK hh I hD => by
    subst hP hw hK
    have hm := x.raw I hD
    have g := GoesN.rawItems (prog := X.prog) (w := X.w) (A := X.A) (elts := elts) (x1 := kk) (pos := tpos) hh it a hne es ep
    refine ⟨_, _, fun i vals => ∃ hi : i < es.size, vals = #[es[i].key, es[i].val], _, ?_, g.mono fun i h₀ v h _ ⟨T, hi, ev, hn, hT⟩ => ⟨T, _, ev, hn, ⟨hi, rfl⟩, hT⟩, fun i st => ⟨st, hm⟩, fun i h st => st.1, ?_⟩
    · intro c hc; exact hc
    · rintro i vals hi ⟨hi2, rfl⟩
      obtain ⟨k, v, h1, h2, h3⟩ := x.rel i hi2
      exact ⟨[k, v], .cons h2 (.cons h3 .nil), by simp, k, v, h1, rfl⟩
/-- sources that hand out what stands there -/
structure Src1 (P : Program) (w : World) (K : PySem.W.Frag) (tg : Expr) (I₀ : Addr) (fp : List Addr) (n : Nat) (S : Nat → Heap → Prop) (HD : Hp → Prop) (PV : Nat → V → Prop) : Prop where
  mem : I₀ ∈ fp
  keep : ∀ i h h', S i h → (∀ b ∈ fp, ∀ o, h.get? b = some o → h'.get? b = some o) → S i h'
  self : ∀ (A : Around) (i : Nat) (s : Shared) (Q : Value → Shared → Prop) (E : Value → Shared → Prop), S i s.heap → Q (.ref I₀) s → wpAny (model P w) A (pyIter (.ref I₀)) Q E s
  obj : ∀ i h, S i h → ∀ b ∈ fp, ∃ o, h.get? b = some o ∧ ∀ v, o.data ≠ .cell v
  run : ∀ (X : Cx) (pins : List (Addr × Obj)) (s : Shared) (σ : L2.St) (H : Hp), X.prog = P → X.w = w → X.K = K → X.A.handled = none → Inv X pins σ H s → HD H →
    ∃ (gfp wr : List Addr) (Y : Nat → Value → Prop) (St : Nat → Heap → Prop), (∀ b ∈ wr, b ∈ fp) ∧ Goes P w X.A tg I₀ gfp wr n (fun i v _ => Y i v) St ∧
      (∀ i, S i s.heap → St i s.heap) ∧ (∀ i h, St i h → S i h) ∧ ∀ i v, i < n → Y i v → ∃ x, RelV x v ∧ PV i x
def ItV (n : Nat) (HD : Hp → Prop) (PV : Nat → V → Prop) : It := ⟨fun i H => HD H ∧ i < n, fun i H v H' => H' = H ∧ PV i v, fun i H => HD H ∧ n ≤ i⟩
theorem Src1.turn {P : Program} {w : World} {K : PySem.W.Frag} {tg : Expr} {I₀ : Addr} {fp : List Addr} {n : Nat} {S : Nat → Heap → Prop} {HD : Hp → Prop} {PV : Nat → V → Prop} (Z : Src1 P w K tg I₀ fp n S HD PV) :
    Turn P w K tg (ItV n HD PV) fp I₀ (fun i h => i ≤ n ∧ S i h) where
  mem := Z.mem
  obj := fun i h st => Z.obj i h st.2
  keep := fun i h h' st k => ⟨st.1, Z.keep i h h' st.2 k⟩
  item := by
    intro X hP hw hK hc i pins s σ H E I hf st hg
    obtain ⟨gfp, wr, Y, St, sub, G, s1, s2, pv⟩ := Z.run X pins s σ H hP hw hK (I.ok.hd hc) I hg.1
    subst hP hw
    refine thn (G.goes i s (fun v s' => ∃ h' tk, s' = { s with heap := h', toks := tk } ∧ Y i v ∧ St (i + 1) h' ∧ ∀ b o, b ∉ wr → s.heap.get? b = some o → h'.get? b = some o) E hg.2 (s1 i st.2) fun v h' tk y st' k _ => ⟨h', tk, rfl, y, st', k⟩) fun r s1 ⟨v, hr, hv⟩ => ?_
    refine ⟨v, hr, thn hv fun _ z hz => ?_⟩
    obtain ⟨h', tk, rfl, y, st', kk⟩ := hz
    obtain ⟨x, rx, hx⟩ := pv i v hg.2 y
    have kfp : ∀ b o, b ∉ fp → s.heap.get? b = some o → h'.get? b = some o := fun b o hb e => kk b o (fun z => hb (sub b z)) e
    exact ⟨x, H, I.turnedL (t' := tk) (ch := fp) kfp hf, rx, ⟨rfl, hx⟩, ⟨hg.2, s2 _ _ st'⟩, fun b hb => (hf b hb).1⟩
  done := by
    intro X hP hw hK hc i pins s σ H E I hf st hg
    obtain ⟨gfp, wr, Y, St, sub, G, s1, s2, pv⟩ := Z.run X pins s σ H hP hw hK (I.ok.hd hc) I hg.1
    subst hP hw
    have ei : i = n := Nat.le_antisymm st.1 hg.2
    subst ei
    refine thn (G.stops s (fun s' => Inv X pins σ H s') E (s1 i st.2) fun h' tk k _ => I.turnedL (ch := fp) (fun b o hb e => k b o (fun z => hb (sub b z)) e) hf) fun r s1 hz => hz
  self := fun A i s Q E st q => Z.self A i s Q E st.2 q
theorem wk_vals {K : PySem.W.Frag} {F : Hp} {ι : List Addr} {n : Nat} {HD : Hp → Prop} {PV : Nat → V → Prop} {es : List T} (hn : es.length = n) (hD : ∀ F' H' : Hp, All F F' → All F' H' → HD H') (hv : ∀ i y, PV i y → ∃ t, es[i]? = some t ∧ Rp K F ι y t) : Wk K F ι (ItV n HD PV) es where
  go := fun i F' ι' μ' H' a1 _ r1 hi => ⟨hD F' H' a1 r1.sub, by omega⟩
  yld := fun i F' ι' μ' H' x H'' a1 b1 r1 hi y => by
    obtain ⟨rfl, y⟩ := y
    obtain ⟨t, e1, rt⟩ := hv i x y
    exact ⟨t, F', e1, .refl .., r1, rt.mono a1.sub b1⟩
  stop := fun i F' ι' μ' H' a1 _ r1 hi => ⟨hD F' H' a1 r1.sub, by omega⟩
theorem src_keys {P : Program} {w : World} {K : PySem.W.Frag} {tg : Expr} {G : Hp} {a : Addr} {o : Obj} {es : Array DictEntry} {ep : Nat} {kvs : List (V × V)} (it : Addr) (hne : a ≠ it) (x : Ents G a o es ep kvs) :
    Src1 P w K tg it [it] es.size (fun i h => h.IsKeyIter it a i es.size ep) (fun H => ∃ u, H a = some (.frz o u)) (fun i y => ∃ v, kvs[i]? = some (y, v)) where
  mem := by simp
  self := fun A i s Q E st q => by
    have g := Goes.rawKeys (prog := P) (w := w) (A := { A with handled := none }) (target := tg) rfl it a hne es ep
    exact wpAny_pyIter_keyiter st q
  keep := fun i h h' ⟨ob, e, r⟩ k => ⟨ob, k it (by simp) _ e, r⟩
  obj := fun i h ⟨ob, e, c, d⟩ b hb => by
    rw [List.mem_singleton.mp hb]
    exact ⟨ob, e, fun v q => by rw [d] at q; cases q⟩
  run := fun X pins s σ H hP hw hK hh I hD => by
    subst hP hw hK
    have hm := x.raw I hD
    have g := Goes.rawKeys (prog := X.prog) (w := X.w) (A := X.A) (target := tg) hh it a hne es ep
    refine ⟨_, _, fun i v => ∃ hi : i < es.size, v = es[i].key, _, ?_, g, fun i st => ⟨st, hm⟩, fun i h st => st.1, ?_⟩
    · intro c hc; exact hc
    · rintro i v hi ⟨hi2, rfl⟩
      obtain ⟨k, v, h1, h2, h3⟩ := x.rel i hi2
      exact ⟨k, h2, v, h1⟩
theorem src_values {P : Program} {w : World} {K : PySem.W.Frag} {tg : Expr} {G : Hp} {a : Addr} {o : Obj} {es : Array DictEntry} {ep : Nat} {kvs : List (V × V)} (it : Addr) (hne : a ≠ it) (x : Ents G a o es ep kvs) :
    Src1 P w K tg it [it] es.size (fun i h => h.IsValIter it a i es.size ep) (fun H => ∃ u, H a = some (.frz o u)) (fun i y => ∃ k, kvs[i]? = some (k, y)) where
  mem := by simp
  self := fun A i s Q E st q => by
    exact wpAny_pyIter_valiter st q
  keep := fun i h h' ⟨ob, e, r⟩ k => ⟨ob, k it (by simp) _ e, r⟩
  obj := fun i h ⟨ob, e, c, d⟩ b hb => by
    rw [List.mem_singleton.mp hb]
    exact ⟨ob, e, fun v q => by rw [d] at q; cases q⟩
  run := fun X pins s σ H hP hw hK hh I hD => by
    subst hP hw hK
    have hm := x.raw I hD
    have g := Goes.rawValues (prog := X.prog) (w := X.w) (A := X.A) (target := tg) hh it a hne es ep
    refine ⟨_, _, fun i v => ∃ hi : i < es.size, v = es[i].val, _, ?_, g, fun i st => ⟨st, hm⟩, fun i h st => st.1, ?_⟩
    · intro c hc; exact hc
    · rintro i v hi ⟨hi2, rfl⟩
      obtain ⟨k, v, h1, h2, h3⟩ := x.rel i hi2
      exact ⟨v, h3, k, h1⟩

def gEach : T → M (List T)
  | .lst xs => M.pure xs
  | .fls xs => M.pure xs
  | .tup xs => M.pure xs
  | .ftp xs => M.pure xs
  | .dic _ ps => M.pure (ps.map (·.1))
  | _ => M.no
def iAny (f : Env → M T) : Env → M (List T) := fun ρ => M.bind (eFrz f ρ) gEach
def gKeys : T → M (List T)
  | .dic _ ps => M.pure (ps.map (·.1))
  | _ => M.no
def gVals : T → M (List T)
  | .dic _ ps => M.pure (ps.map (·.2))
  | _ => M.no
def gItems : T → M (List T)
  | .dic _ ps => M.pure (ps.map fun p => .tup [p.1, p.2])
  | _ => M.no
def iView (g : T → M (List T)) (f : Env → M T) : Env → M (List T) := fun ρ => M.bind (eFrz f ρ) g
section
variable {X : Cx} {E : XK} {k : Nat} {tg e : Expr} {f : Env → M T} {apos cpos : Pos}
abbrev PI1 (X : Cx) (E : XK) (g : T → M (List T)) (R : It → Hp → Prop) (v : V) (H1 : Hp) : Prop := ∃ F1 ι1 μ1 d, Rel X.K F1 ι1 μ1 H1 ∧ Rp X.K F1 ι1 v d ∧ Post X.K X.mg E (g d μ1) F1 ι1 H1 (fun F' ι' _ H' ds => ∀ J, Wk X.K F' ι' J ds → R J H')
theorem fpOne {pins : List (Addr × Obj)} {σ : L2.St} {H : Hp} {s s' : Shared} {it : Addr} (I : Inv X pins σ H s) (h : s.heap.objs.size ≤ it) : ∀ b ∈ [it], FpOk X pins H b := fun b hb => by
  rw [List.mem_singleton.mp hb]
  exact I.fpOk h (I.hok.fresh h)
theorem i_any (he : DE X E e f) : DI X E tg e (iAny f) := by
  refine ⟨fun pins s σ H R I ⟨F, ι, μ, ρ, hr, hen, hp⟩ => ?_⟩
  refine thn ((d_frz he).run pins s σ H (PI1 X E gEach R) I (At.e hr hen hp fun F1 ι1 μ1 H1 v d x1 r1 rv p1 => ⟨F1, ι1, μ1, d, r1, rv, p1⟩)) fun u s1 ⟨x, H1, I1, rx, F1, ι1, μ1, d, r1, rv, p1⟩ => ?_
  cases rv with
  | lst ha ra => cases rx; exact it_list I1 (SqL.of (r1.sub _ _ ha)) (Post.pure (mg := X.mg) (E := E) p1 r1 _ (wk_list (SqL.of ha) ra))
  | fls ha ra => cases rx; exact it_list I1 (r1.sub.sub.seqL ha) (Post.pure (mg := X.mg) (E := E) p1 r1 _ (wk_list ha ra))
  | tup ha ra => cases rx; exact it_tup I1 (SqT.of (r1.sub _ _ ha)) (Post.pure (mg := X.mg) (E := E) p1 r1 _ (wk_tup (SqT.of ha) ra))
  | ftp ha ra => cases rx; exact it_tup I1 (r1.sub.sub.seqT ha.t) (Post.pure (mg := X.mg) (E := E) p1 r1 _ (wk_tup ha.t ra))
  | @dic a o0 kv0 ps ha ra =>
    cases rx
    obtain ⟨F', o, es, ep, kvs, x2, r2, EF', EH, hl, get⟩ := ents_of I1 r1 (.dic ha ra)
    have hm := EH.raw I1 EH.at_
    have hlt : a < s1.heap.objs.size := by obtain ⟨ob, h1, _⟩ := hm; exact Heap.lt_size h1
    refine wpAny_pyIter_dict_raw EH.sm hm ?_
    have I2 := I1.kept (t' := s1.toks) (h' := s1.heap.push { cls := .type "dict_keyiterator", data := .fields #[.ref a, .int 0 0, .int es.size 0, .int ep 0] }) fun b ob q => Heap.get?_push_of_some _ q
    refine ⟨s1.heap.objs.size, [s1.heap.objs.size], _, _, H1, rfl, I2, (src_keys (P := X.prog) (w := X.w) (K := X.K) (tg := tg) s1.heap.objs.size (Nat.ne_of_lt hlt) EF').turn, ⟨Nat.zero_le _, _, Heap.get?_push_size _ rfl, rfl, rfl⟩, fpOne (s' := s1) I1 (Nat.le_refl _), ?_⟩
    refine Post.pure (mg := X.mg) (E := E) (p1.later x2) r2 _ (wk_vals (by rw [List.length_map, EH.sz, hl]) (fun G' H' a1 a2 => let ⟨u, h⟩ := EF'.at_; ⟨u, a2 _ _ (a1 _ _ h)⟩) fun i y hy => ?_)
    obtain ⟨v, hv⟩ := hy
    obtain ⟨p, h1, h2, h3⟩ := get i y v hv
    exact ⟨p.1, by rw [List.getElem?_map, h1]; rfl, h2⟩
  | @dit a o0 kv0 ps ha ra =>
    cases rx
    obtain ⟨F', o, es, ep, kvs, x2, r2, EF', EH, hl, get⟩ := ents_of I1 r1 (.dit ha ra)
    have hm := EH.raw I1 EH.at_
    have hlt : a < s1.heap.objs.size := by obtain ⟨ob, h1, _⟩ := hm; exact Heap.lt_size h1
    refine wpAny_pyIter_dict_raw EH.sm hm ?_
    have I2 := I1.kept (t' := s1.toks) (h' := s1.heap.push { cls := .type "dict_keyiterator", data := .fields #[.ref a, .int 0 0, .int es.size 0, .int ep 0] }) fun b ob q => Heap.get?_push_of_some _ q
    refine ⟨s1.heap.objs.size, [s1.heap.objs.size], _, _, H1, rfl, I2, (src_keys (P := X.prog) (w := X.w) (K := X.K) (tg := tg) s1.heap.objs.size (Nat.ne_of_lt hlt) EF').turn, ⟨Nat.zero_le _, _, Heap.get?_push_size _ rfl, rfl, rfl⟩, fpOne (s' := s1) I1 (Nat.le_refl _), ?_⟩
    refine Post.pure (mg := X.mg) (E := E) (p1.later x2) r2 _ (wk_vals (by rw [List.length_map, EH.sz, hl]) (fun G' H' a1 a2 => let ⟨u, h⟩ := EF'.at_; ⟨u, a2 _ _ (a1 _ _ h)⟩) fun i y hy => ?_)
    obtain ⟨v, hv⟩ := hy
    obtain ⟨p, h1, h2, h3⟩ := get i y v hv
    exact ⟨p.1, by rw [List.getElem?_map, h1]; rfl, h2⟩
  | _ => exact p1.elim
abbrev ViewR (X : Cx) (E : XK) (g : T → M (List T)) (R : It → Hp → Prop) (u : Value) (H1 : Hp) (s1 : Shared) : Prop :=
  ∃ a tk ps F' ι' μ' o es ep kvs, u = Value.ref a ∧ Rel X.K F' ι' μ' H1 ∧ Ents F' a o es ep kvs ∧ Ents H1 a o es ep kvs ∧ kvs.length = ps.length ∧ (∀ (i : Nat) (k v : V), kvs[i]? = some (k, v) → ∃ p : T × T, ps[i]? = some p ∧ Rp X.K F' ι' k p.1 ∧ Rp X.K F' ι' v p.2) ∧
      s1.heap.DictRaw a es ep ∧ a < s1.heap.objs.size ∧ s1.TypeIs u "dict" ∧ (∀ b, u = .ref b → ∃ ob, s1.heap.get? b = some ob ∧ ob.dict = none) ∧ Post X.K X.mg E (g (.dic tk ps) μ') F' ι' H1 (fun F' ι' _ H' ds => ∀ J, Wk X.K F' ι' J ds → R J H')
theorem view_core {g : T → M (List T)} (hg : ∀ d, (∀ tk ps, d ≠ .dic tk ps) → g d = M.no) {pins : List (Addr × Obj)} {σ : L2.St} {H1 : Hp} {s1 : Shared} {R : It → Hp → Prop} {x : V} {u : Value} (I1 : Inv X pins σ H1 s1) (rx : RelV x u) (h : PI1 X E g R x H1) : ViewR X E g R u H1 s1 := by
  obtain ⟨F1, ι1, μ1, d, r1, rv, p1⟩ := h
  have go : ∀ {a : Addr} {tk : Bool} {ps : List (T × T)}, x = .ref a → Rp X.K F1 ι1 (.ref a) (.dic tk ps) → Post X.K X.mg E (g (.dic tk ps) μ1) F1 ι1 H1 (fun F' ι' _ H' ds => ∀ J, Wk X.K F' ι' J ds → R J H') → ViewR X E g R u H1 s1 := fun {a tk ps} ex rd p1 => by
    subst ex
    cases rx
    obtain ⟨F', o, es, ep, kvs, x2, r2, EF', EH, hl, get⟩ := ents_of I1 r1 rd
    have hm := EH.raw I1 EH.at_
    have hlt : a < s1.heap.objs.size := by obtain ⟨ob, h1, _⟩ := hm; exact Heap.lt_size h1
    obtain ⟨u0, h0⟩ := EH.at_
    exact ⟨a, tk, ps, F', ι1, μ1, o, es, ep, kvs, rfl, r2, EF', EH, hl, get, hm, hlt, hm.typeIs, fun b e => by cases e; exact ⟨o, frz_get I1 h0, EH.ex.2.1⟩, p1.later x2⟩
  cases rv with
  | dic ha ra => exact go rfl (.dic ha ra) p1
  | dit ha ra => exact go rfl (.dit ha ra) p1
  | _ => rw [hg _ (fun _ _ z => by cases z)] at p1; exact p1.elim
theorem i_items {elts : List Expr} {kk : Nat} {tpos : Pos} (he : DE X E e f) (hbase : attributeBase e "items" X.env (eval e X.env) = eval e X.env := by rfl) (hline : (apos.endLine == cpos.line) = true := by rfl) :
    DI X E (.Tuple elts kk tpos) (.Call (.Attribute e "items" apos) [] [] cpos) (iView gItems f) := by
  refine ⟨fun pins s σ H R I ⟨F, ι, μ, ρ, hr, hen, hp⟩ => ?_⟩
  refine wpAny_Call_method (T := "dict") (id := "dict.items") hbase rfl hline PySem.F.plainAttrs_dict PySem.F.slot_dict_items PySem.F.type_dict_items (thn ((d_frz he).run pins s σ H (PI1 X E gItems R) I (At.e hr hen hp fun F1 ι1 μ1 H1 v d x1 r1 rv p1 => ⟨F1, ι1, μ1, d, r1, rv, p1⟩)) fun u s1 ⟨x, H1, I1, rx, hx⟩ => ?_)
  obtain ⟨a, tk, ps, F', ι', μ', o, es, ep, kvs, rfl, r2, EF', EH, hl, get, hm, hlt, ty, nd, p1⟩ := view_core (fun d hd => by cases d <;> first | rfl | exact (hd _ _ rfl).elim) I1 rx hx
  refine ⟨ty, nd, Calls.callWith_builtin rfl (PySem.evalArgs_none ?_)⟩
  refine call_meetsIn PySem.F.slot_dict_items ty PySem.F.entry_dict_items (PySem.F.args_dict_items_1 _) (meets_dict_items_raw a EH.sm) ⟨⟨es, ep, hm⟩, ?_⟩
  have hk : ∀ b ob, s1.heap.get? b = some ob → (s1.heap.push { cls := .type "dict_items", data := .fields #[.ref a] }).get? b = some ob := fun b ob q => Heap.get?_push_of_some _ q
  refine wpAny_pyIter_items_raw ⟨_, Heap.get?_push_size _ rfl, rfl, rfl⟩ (hm.at fun o q => hk _ _ q) ?_
  have sz : (s1.heap.push { cls := .type "dict_items", data := .fields #[.ref a] }).objs.size = s1.heap.objs.size + 1 := Heap.size_push ..
  have I2 := I1.kept (t' := s1.toks) (h' := (s1.heap.push { cls := .type "dict_items", data := .fields #[.ref a] }).push { cls := .type "dict_itemiterator", data := .fields #[.none, .bool false, .ref a, .int 0 0, .int es.size 0, .int ep 0, .none, .none] }) fun b ob q => Heap.get?_push_of_some _ (hk _ _ q)
  have at1 := Heap.get?_push_size (s1.heap.push { cls := .type "dict_items", data := .fields #[.ref a] }) (o := { cls := .type "dict_itemiterator", data := .fields #[.none, .bool false, .ref a, .int 0 0, .int es.size 0, .int ep 0, .none, .none] }) rfl
  show PIE X pins σ _ R (.ref (s1.heap.push { cls := .type "dict_items", data := .fields #[.ref a] }).objs.size) _
  rw [sz] at at1 ⊢
  refine ⟨s1.heap.objs.size + 1, [s1.heap.objs.size + 1], _, _, H1, rfl, I2, (src_items (P := X.prog) (w := X.w) (K := X.K) (elts := elts) (kk := kk) (tpos := tpos) (s1.heap.objs.size + 1) (Nat.ne_of_lt (Nat.lt_succ_of_lt hlt)) EF').turn, ⟨Nat.zero_le _, .none, .none, at1⟩, fpOne (s' := s1) I1 (Nat.le_succ _), ?_⟩
  refine Post.pure (mg := X.mg) (E := E) p1 r2 _ ?_
  have ee : (ps.map fun p => T.tup [p.1, p.2]) = (ps.map fun p => [p.1, p.2]).map T.tup := by rw [List.map_map]; rfl
  rw [ee]
  refine wk_pairs (by rw [List.length_map, EH.sz, hl]) (fun G' H' a1 a2 => let ⟨u, h⟩ := EF'.at_; ⟨u, a2 _ _ (a1 _ _ h)⟩) fun i ys hy => ?_
  obtain ⟨k, v, hkv, rfl⟩ := hy
  obtain ⟨p, h1, h2, h3⟩ := get i k v hkv
  exact ⟨[p.1, p.2], by rw [List.getElem?_map, h1]; rfl, .cons h2 (.cons h3 .nil)⟩
theorem i_keys (he : DE X E e f) (hbase : attributeBase e "keys" X.env (eval e X.env) = eval e X.env := by rfl) (hline : (apos.endLine == cpos.line) = true := by rfl) : DI X E tg (.Call (.Attribute e "keys" apos) [] [] cpos) (iView gKeys f) := by
  refine ⟨fun pins s σ H R I ⟨F, ι, μ, ρ, hr, hen, hp⟩ => ?_⟩
  refine wpAny_Call_method (T := "dict") (id := "dict.keys") hbase rfl hline PySem.F.plainAttrs_dict PySem.F.slot_dict_keys PySem.F.type_dict_keys (thn ((d_frz he).run pins s σ H (PI1 X E gKeys R) I (At.e hr hen hp fun F1 ι1 μ1 H1 v d x1 r1 rv p1 => ⟨F1, ι1, μ1, d, r1, rv, p1⟩)) fun u s1 ⟨x, H1, I1, rx, hx⟩ => ?_)
  obtain ⟨a, tk, ps, F', ι', μ', o, es, ep, kvs, rfl, r2, EF', EH, hl, get, hm, hlt, ty, nd, p1⟩ := view_core (fun d hd => by cases d <;> first | rfl | exact (hd _ _ rfl).elim) I1 rx hx
  refine ⟨ty, nd, Calls.callWith_builtin rfl (PySem.evalArgs_none ?_)⟩
  refine call_meetsIn PySem.F.slot_dict_keys ty PySem.F.entry_dict_keys (PySem.F.args_dict_keys_1 _) (meets_dict_keys_raw a EH.sm) ⟨⟨es, ep, hm⟩, ?_⟩
  have hk : ∀ b ob, s1.heap.get? b = some ob → (s1.heap.push { cls := .type "dict_keys", data := .fields #[.ref a] }).get? b = some ob := fun b ob q => Heap.get?_push_of_some _ q
  refine wpAny_pyIter_keys_raw ⟨_, Heap.get?_push_size _ rfl, rfl, rfl⟩ (hm.at fun o q => hk _ _ q) ?_
  have sz : (s1.heap.push { cls := .type "dict_keys", data := .fields #[.ref a] }).objs.size = s1.heap.objs.size + 1 := Heap.size_push ..
  have I2 := I1.kept (t' := s1.toks) (h' := (s1.heap.push { cls := .type "dict_keys", data := .fields #[.ref a] }).push { cls := .type "dict_keyiterator", data := .fields #[.ref a, .int 0 0, .int es.size 0, .int ep 0] }) fun b ob q => Heap.get?_push_of_some _ (hk _ _ q)
  have at1 := Heap.get?_push_size (s1.heap.push { cls := .type "dict_keys", data := .fields #[.ref a] }) (o := { cls := .type "dict_keyiterator", data := .fields #[.ref a, .int 0 0, .int es.size 0, .int ep 0] }) rfl
  show PIE X pins σ _ R (.ref (s1.heap.push { cls := .type "dict_keys", data := .fields #[.ref a] }).objs.size) _
  rw [sz] at at1 ⊢
  refine ⟨s1.heap.objs.size + 1, [s1.heap.objs.size + 1], _, _, H1, rfl, I2, (src_keys (P := X.prog) (w := X.w) (K := X.K) (tg := tg) (s1.heap.objs.size + 1) (Nat.ne_of_lt (Nat.lt_succ_of_lt hlt)) EF').turn, ⟨Nat.zero_le _, _, at1, rfl, rfl⟩, fpOne (s' := s1) I1 (Nat.le_succ _), ?_⟩
  refine Post.pure (mg := X.mg) (E := E) p1 r2 _ (wk_vals (by rw [List.length_map, EH.sz, hl]) (fun G' H' a1 a2 => let ⟨u, h⟩ := EF'.at_; ⟨u, a2 _ _ (a1 _ _ h)⟩) fun i y hy => ?_)
  obtain ⟨v, hv⟩ := hy
  obtain ⟨p, h1, h2, h3⟩ := get i y v hv
  exact ⟨p.1, by rw [List.getElem?_map, h1]; rfl, h2⟩
theorem i_values (he : DE X E e f) (hbase : attributeBase e "values" X.env (eval e X.env) = eval e X.env := by rfl) (hline : (apos.endLine == cpos.line) = true := by rfl) : DI X E tg (.Call (.Attribute e "values" apos) [] [] cpos) (iView gVals f) := by
  refine ⟨fun pins s σ H R I ⟨F, ι, μ, ρ, hr, hen, hp⟩ => ?_⟩
  refine wpAny_Call_method (T := "dict") (id := "dict.values") hbase rfl hline PySem.F.plainAttrs_dict PySem.F.slot_dict_values PySem.F.type_dict_values (thn ((d_frz he).run pins s σ H (PI1 X E gVals R) I (At.e hr hen hp fun F1 ι1 μ1 H1 v d x1 r1 rv p1 => ⟨F1, ι1, μ1, d, r1, rv, p1⟩)) fun u s1 ⟨x, H1, I1, rx, hx⟩ => ?_)
  obtain ⟨a, tk, ps, F', ι', μ', o, es, ep, kvs, rfl, r2, EF', EH, hl, get, hm, hlt, ty, nd, p1⟩ := view_core (fun d hd => by cases d <;> first | rfl | exact (hd _ _ rfl).elim) I1 rx hx
  refine ⟨ty, nd, Calls.callWith_builtin rfl (PySem.evalArgs_none ?_)⟩
  refine call_meetsIn PySem.F.slot_dict_values ty PySem.F.entry_dict_values (PySem.F.args_dict_values_1 _) (meets_dict_values_raw a EH.sm) ⟨⟨es, ep, hm⟩, ?_⟩
  have hk : ∀ b ob, s1.heap.get? b = some ob → (s1.heap.push { cls := .type "dict_values", data := .fields #[.ref a] }).get? b = some ob := fun b ob q => Heap.get?_push_of_some _ q
  refine wpAny_pyIter_values_raw ⟨_, Heap.get?_push_size _ rfl, rfl, rfl⟩ (hm.at fun o q => hk _ _ q) ?_
  have sz : (s1.heap.push { cls := .type "dict_values", data := .fields #[.ref a] }).objs.size = s1.heap.objs.size + 1 := Heap.size_push ..
  have I2 := I1.kept (t' := s1.toks) (h' := (s1.heap.push { cls := .type "dict_values", data := .fields #[.ref a] }).push { cls := .type "dict_valueiterator", data := .fields #[.ref a, .int 0 0, .int es.size 0, .int ep 0] }) fun b ob q => Heap.get?_push_of_some _ (hk _ _ q)
  have at1 := Heap.get?_push_size (s1.heap.push { cls := .type "dict_values", data := .fields #[.ref a] }) (o := { cls := .type "dict_valueiterator", data := .fields #[.ref a, .int 0 0, .int es.size 0, .int ep 0] }) rfl
  show PIE X pins σ _ R (.ref (s1.heap.push { cls := .type "dict_values", data := .fields #[.ref a] }).objs.size) _
  rw [sz] at at1 ⊢
  refine ⟨s1.heap.objs.size + 1, [s1.heap.objs.size + 1], _, _, H1, rfl, I2, (src_values (P := X.prog) (w := X.w) (K := X.K) (tg := tg) (s1.heap.objs.size + 1) (Nat.ne_of_lt (Nat.lt_succ_of_lt hlt)) EF').turn, ⟨Nat.zero_le _, _, at1, rfl, rfl⟩, fpOne (s' := s1) I1 (Nat.le_succ _), ?_⟩
  refine Post.pure (mg := X.mg) (E := E) p1 r2 _ (wk_vals (by rw [List.length_map, EH.sz, hl]) (fun G' H' a1 a2 => let ⟨u, h⟩ := EF'.at_; ⟨u, a2 _ _ (a1 _ _ h)⟩) fun i y hy => ?_)
  obtain ⟨v, hv⟩ := hy
  obtain ⟨p, h1, h2, h3⟩ := get i v y hv
  exact ⟨p.2, by rw [List.getElem?_map, h1]; rfl, h3⟩
end
end TL

/-! T layer 16: o[i] = v of any cell; {k: v, ..}; range of three. -/
namespace TL
open PySem PySem.Spec PyProof.Rows L2 StX
variable [Tb]

def gSet : T → T → T → M Unit := fun o i v μ => match o with
  | .cell k => match μ[k]? with
    | some ⟨_, .dic _ _⟩ => gPut o i v μ
    | _ => gSetI o i v μ
  | _ => .no
section
variable {X : Cx} {E : XK} {k : Nat}
theorem set_any (o : XO X E k) : SetD X E gSet := by
  intro pins s σ H ob i v ov iv u Q I ro ri rv ⟨F, ι, μ, d, e, w, hr, rd, re, rw', hp⟩
  cases rd with
  | @cell kk a hi =>
    have h1 : gSet (.cell kk) e w μ = gPut (.cell kk) e w μ ∨ gSet (.cell kk) e w μ = gSetI (.cell kk) e w μ := by
      rcases hc : μ[kk]? with _ | ⟨lv, ob⟩
      · exact .inr (by simp only [gSet, hc])
      · cases ob with
        | lst xs => exact .inr (by simp only [gSet, hc])
        | dic tk kvs => exact .inl (by simp only [gSet, hc])
    rcases h1 with h1 | h1
    · rw [h1] at hp
      exact set_put o pins s σ H _ i v ov iv u Q I ro ri rv ⟨F, ι, μ, _, e, w, hr, .cell hi, re, rw', hp⟩
    · rw [h1] at hp
      exact set_ix pins s σ H _ i v ov iv u Q I ro ri rv ⟨F, ι, μ, _, e, w, hr, .cell hi, re, rw', hp⟩
  | _ => exact hp.elim
/-- no error is let out -/
theorem XO.ef (o : XO X E k) : XO X EF k := ⟨o.calm, o.nd, o.gd, o.room, fun _ _ ⟨_, _, _, _, _, _, _, _, _, _, _, _, _, _, _, _, z⟩ => z.elim, o.own⟩

/-! ### displays of dicts -/
def dPairs : List ((Env → M T) × (Env → M T)) → Env → M (List (T × T))
  | [], _ => M.pure []
  | (fk, fv) :: r, ρ => M.bind (noErr (fk ρ)) fun x => M.bind (noErr (fv ρ)) fun y => M.bind (dPairs r ρ) fun ps => M.pure ((x, y) :: ps)
def keysP : List (T × T) → Option (List (Key × T))
  | [] => some []
  | (k, v) :: r => match key1 k, keysP r with
    | some k, some r => some ((k, v) :: r)
    | _, _ => none
def mergeP (ps : List (Key × T)) : List (T × T) := ps.foldl (fun acc p => putP acc (.inl p.1) (keyT p.1) p.2) []
def eDisp (fs : List ((Env → M T) × (Env → M T))) : Env → M T := fun ρ => M.bind (dPairs fs ρ) fun ps => match keysP ps with
  | some ks => bif decide (ks.length ≤ 15) then newC (.dic false (mergeP ks)) else M.no
  | none => M.no
abbrev trsOf (X : Cx) (fs : List ((Env → M T) × (Env → M T))) : List (TE × TE) := fs.map fun p => (tE X.K X.mg EF p.1, tE X.K X.mg EF p.2)
theorem Post.dp {α β : Type} {K : PySem.W.Frag} {mg : Str → Option Value} {E : XK} {F : Hp} {ι : List Addr} {H : Hp} {μ : Store} {p : Addr} {ob : HO} {m : M α} {c : α → M β} {rp : Hp → List Addr → Store → Hp → β → Prop} {rp' : Hp → List Addr → Store → Hp → α → Prop} (hno : (∀ xs, ob ≠ .tup xs) ∧ (∀ ps, ob ≠ .tbl ps) ∧ ∀ φ, ob ≠ .ext φ) (r : Rel K F ι μ H) (hp : H p = none)
    (h : Post K mg E (M.bind (noErr m) c μ) F ι H rp)
    (hk : ∀ F' ι' μ' H' a, Ext F ι H F' ι' (hide H' p) → Rel K F' ι' μ' (hide H' p) → H' = upd (hide H' p) p ob → Post K mg E (c a μ') F' ι' (hide H' p) rp → rp' F' ι' μ' H' a) : Post K mg EF (m μ) F ι (upd H p ob) rp' :=
  Post.part r hp h (fun F' ι' μ' H' a x r' _ _ e q => hk F' ι' μ' H' a x r' (by
    rw [upd_hide]
    funext b
    by_cases z : b = p
    · subst z; rw [upd_same]; exact e
    · rw [upd_ne z]) q) hno.1 hno.2
theorem pairs_run {p : Addr} {β : Type} {c : List (T × T) → M β} {rp : Hp → List Addr → Store → Hp → β → Prop} {σ : L2.St} {ρ : Env} : ∀ (fs : List ((Env → M T) × (Env → M T))) {F : Hp} {ι : List Addr} {μ : Store} {H : Hp} {Q : List (V × V) → Hp → Prop}, Rel X.K F ι μ H → ERp X.K F ι σ ρ → H p = none → Post X.K X.mg E (M.bind (dPairs fs ρ) c μ) F ι H rp →
    (∀ F' ι' μ' H' vs ps, Ext F ι H F' ι' H' → Rel X.K F' ι' μ' H' → H' p = none → Rps X.K F' ι' (vs.map (·.1)) (ps.map (·.1)) → Rps X.K F' ι' (vs.map (·.2)) (ps.map (·.2)) → Post X.K X.mg E (c ps μ') F' ι' H' rp → Q vs (upd H' p (.dK []))) →
    tPairs (trsOf X fs) σ (upd H p (.dK [])) Q
  | [], F, ι, μ, H, Q, hr, he, hn, hp, hq => hq F ι μ H [] [] (.refl ..) hr hn .nil .nil hp
  | (fk, fv) :: r, F, ι, μ, H, Q, hr, he, hn, hp, hq => by
    simp only [dPairs] at hp
    rw [M.assoc] at hp
    refine ⟨F, ι, μ, ρ, hr.beside hn, he, Post.dp ⟨fun _ z => (by cases z), fun _ z => (by cases z), fun _ z => (by cases z)⟩ hr hn hp fun F1 ι1 μ1 H1 x x1 r1 e1 p1 v1 rv1 => ?_⟩
    rw [M.assoc] at p1
    rw [e1]
    refine ⟨F1, ι1, μ1, ρ, r1.beside (hide_same _ _), he.ext x1, Post.dp ⟨fun _ z => (by cases z), fun _ z => (by cases z), fun _ z => (by cases z)⟩ r1 (hide_same _ _) p1 fun F2 ι2 μ2 H2 y x2 r2 e2 p2 v2 rv2 => ?_⟩
    rw [e2]
    rw [M.assoc] at p2
    refine pairs_run r r2 ((he.ext x1).ext x2) (hide_same _ _) p2 fun F3 ι3 μ3 H3 vs ps x3 r3 hn3 q1 q2 p3 => ?_
    exact hq F3 ι3 μ3 H3 ((v1, v2) :: vs) ((x, y) :: ps) (x1.trans (x2.trans x3)) r3 hn3 (.cons ((rv1.ext x2).ext x3) q1) (.cons (rv2.ext x3) q2) p3
theorem keys_rel {F : Hp} {ι : List Addr} : ∀ {vs : List (V × V)} {ps : List (T × T)} {ks : List (Key × T)}, Rps X.K F ι (vs.map (·.1)) (ps.map (·.1)) → Rps X.K F ι (vs.map (·.2)) (ps.map (·.2)) → keysP ps = some ks →
    ∃ kvs : List (Key × V), vs = kvs.map (fun kv => (kV kv.1, kv.2)) ∧ kvs.length = ks.length ∧ Rpk X.K F ι kvs (ks.map fun p => (keyT p.1, p.2))
  | [], [], _, _, _, h => by cases h; exact ⟨[], rfl, rfl, .nil⟩
  | (a, b) :: vs, (x, y) :: ps, _, .cons r1 t1, .cons r2 t2, h => by
    simp only [keysP] at h
    split at h
    · rename_i k r h1 h2
      cases h
      obtain ⟨kvs, e1, e2, e3⟩ := keys_rel t1 t2 h2
      have hx := key1_some h1
      subst hx
      refine ⟨(k, b) :: kvs, ?_, by simp [e2], .cons r2 e3⟩
      have ea : a = kV k := r1.key
      rw [e1, ea]
      rfl
    · cases h
theorem merge_rel {F : Hp} {ι : List Addr} : ∀ (ks : List (Key × T)) (kvs : List (Key × V)) (acc : List (Key × V)) (ac : List (T × T)), Rpk X.K F ι kvs (ks.map fun p => (keyT p.1, p.2)) → Rpk X.K F ι acc ac → Rpk X.K F ι (mergeK acc kvs) (ks.foldl (fun acc p => putP acc (.inl p.1) (keyT p.1) p.2) ac)
  | [], _, acc, ac, h, ha => by cases h; exact ha
  | (k, t) :: ks, kvs, acc, ac, h, ha => by
    have h : Rpk X.K F ι kvs ((keyT k, t) :: ks.map fun p => (keyT p.1, p.2)) := h
    generalize hk : keyT k = kt at h
    cases h with
    | @cons k' v vs d ds r t' =>
      have e : k' = k := by
        have a := key1_keyT k'
        rw [← hk, key1_keyT] at a
        exact (Option.some.inj a).symm
      subst e
      exact merge_rel ks vs _ _ t' (ha.put r)
variable {pos : Pos} {keys : List (Option Expr)} {values : List Expr} {fs : List ((Env → M T) × (Env → M T))}
theorem d_disp (h : PPs X pos keys values (trsOf X fs)) (hall : keys.all (·.isSome) = true := by rfl) (hl : keys.length = values.length := by rfl) (h0 : keys ≠ [] := by intro z; cases z) (h15 : keys.length ≤ 15 := by decide) : DE X E (.Dict keys values pos) (eDisp fs) :=
  pe_imp (pe_disp h hall hl h0 h15) fun σ H Q ⟨F, ι, μ, ρ, hr, he, hp⟩ p hn => by
    refine pairs_run fs hr he hn hp fun F1 ι1 μ1 H1 vs ps x1 r1 hn1 q1 q2 p1 => ⟨upd_same, ?_⟩
    cases hk : keysP ps with
    | none => rw [hk] at p1; exact p1.elim
    | some ks =>
      rw [hk] at p1
      simp only at p1
      cases hz : decide (ks.length ≤ 15) with
      | false => rw [hz] at p1; exact p1.elim
      | true =>
        rw [hz] at p1
        obtain ⟨kvs, e1, e2, e3⟩ := keys_rel q1 q2 hk
        have hlen : ks.length ≤ 15 := of_decide_eq_true hz
        refine ⟨kvs, e1, by omega, ?_⟩
        rw [upd_upd]
        obtain ⟨x2, r2⟩ := r1.newI (u := .dK (mergeK [] kvs)) (o := .dic false (mergeP ks)) hn1 (fun a z => upd_ne z) upd_same (.dic (merge_rel ks kvs [] [] e3 .nil))
        exact p1 _ _ _ x2 r2 _ (.cell (by rw [← r1.len]; simp))
theorem pp_nil : PPs X pos [] [] (trsOf X []) := pps_nil
theorem pp_cons {a b : Expr} {ks : List (Option Expr)} {vs : List Expr} {fk fv : Env → M T} (hk : DE X EF a fk) (hv : DE X EF b fv) (hr : PPs X pos ks vs (trsOf X fs)) : PPs X pos (some a :: ks) (b :: vs) (trsOf X ((fk, fv) :: fs)) := pps_cons hk hv hr

/-! ### range(a, b, c) -/
def gRange3 : List T → M (List T)
  | [.int i, .int j, .int c] => bif decide (c ≠ 0) && decide (c.natAbs < 1073741824) && Builtin.Range.small i j c && decide (0 ≤ Builtin.Range.rangeSize i j c) then M.pure (rangeC i c (Builtin.Range.rangeSize i j c).toNat) else M.no
  | _ => M.no
variable {tg a b c : Expr} {fa : Env → M (List T)} {p : Pos}
theorem i_range3 (ha : DA X E [a, b, c] fa) (hm : X.mg "range" = none) (hg : Gl X "range" := by rfl) (hs : starEach [a, b, c] X.env = (false, eval a X.env) :: starEach [b, c] X.env := by rfl) (hpl : (backTo pos (starEach [b, c] X.env)).any (·.1) = false := by rfl) :
    DI X E tg (.Call (.Name "range" p) [a, b, c] [] pos) (iB gRange3 fa) :=
  pi_imp (pi_range3 hg hm ha hs hpl) fun σ H R ⟨F, ι, μ, ρ, hr, hen, hp⟩ => At.a hr hen hp fun F1 ι1 μ1 H1 vs ds x1 r1 rs p1 => by
    unfold gRange3 at p1
    split at p1
    · rename_i i j k
      cases rs with
      | cons r t =>
        cases r
        cases t with
        | cons r t =>
          cases r
          cases t with
          | cons r t =>
            cases t
            cases r
            cases hz : (decide (k ≠ 0) && decide (k.natAbs < 1073741824) && Builtin.Range.small i j k && decide (0 ≤ Builtin.Range.rangeSize i j k)) with
            | false => rw [hz] at p1; exact p1.elim
            | true =>
              rw [hz] at p1
              simp only [Bool.and_eq_true, decide_eq_true_eq] at hz
              exact ⟨i, j, k, _, rfl, ⟨hz.1.1.1, hz.1.1.2, hz.1.2, (Int.toNat_of_nonneg hz.2).symm⟩, Post.pure (mg := X.mg) (E := E) p1 r1 _ (wk_rangeC i k _)⟩
    · exact p1.elim
end
end TL

/-! T layer 17: {k: v for ..}, keys of either kind. -/
namespace TL
open PySem PySem.Spec PyProof.Rows L2 StX
variable [Tb]

def newD (b : Bool) : HO := cond b (.dT []) (.dK [])
/-- the dict at D gets z at y, and then N -/
def PutAt (D : Addr) (y z : V) (G : Hp) (N : Hp → Prop) : Prop := ∃ G', DPut G D y z G' ∧ N G'
theorem dput_set {Y : Cx} {pp : List (Addr × Obj)} {ς : L2.St} {G : Hp} {t : Shared} {D : Addr} {y z : V} {u r : Value} {N : Hp → Prop} {E₀ : Value → Shared → Prop} (hu : Y.A.units + 1 < cLine) (J : Inv Y pp ς G t) (h : PutAt D y z G N) (ry : RelV y u) (rz : RelV z r) :
    wpAny (model Y.prog Y.w) Y.A (dictSet D u r) (fun _ t' => ∃ G', Inv Y pp ς G' t' ∧ N G') E₀ t := by
  obtain ⟨G', hput, hN⟩ := h
  rcases hput with ⟨kvs, k, e, rfl, lt, rfl⟩ | ⟨kvs, k, b, e, rfl, eb, lt, rfl⟩
  · exact d_dictSet J e lt ry rz fun t' J' => ⟨_, J', hN⟩
  · cases (show u = Value.ref b from ry)
    obtain ⟨le, sm, xs, rel, dd⟩ := dt_of J.hok e
    have l2 := Paired.length rel
    refine wpAny_dictSet_heap (hsz := by omega) (show Y.A.units < cLine from Nat.lt_of_succ_lt hu) (key_of J.hok eb) dd fun h' dd' same => ⟨_, ?_, hN⟩
    obtain ⟨q, es, ep, hq, h2, h3, h4, _, h5⟩ := dd'
    have l3 := length_putK kvs k z
    exact d_write J (by rw [e]; exact True.intro) same ⟨q, hq⟩ ⟨by omega, sm, _, (rel.put k eb rz).keeps fun c ys ec => by rw [upd_ne (ne_of ec e (fun z => nomatch z))]; exact ec, q, es, ep, hq, h2, h3, h4, h5⟩
section
variable {X : Cx}
def tDx (nw : HO) (wi : TI) (g : TG) (tt : TT) (tk tv : TE) (vs : List Nat) : TE := fun ς G Q => wi ς G fun J G1 => ∀ D, G1 D = none → ∃ W : Nat → Nat → Hp → Prop, (∃ m, W 0 m (upd G1 D nw)) ∧ ∀ i m G, W i m G →
  (J.stop i G ∧ Q (.ref D) G) ∨ (J.go i G ∧ ∃ N : Hp → Prop, (∀ G', N G' → ∃ m', m' < m ∧ W (i + 1) m' G') ∧ ∀ x G', J.yld i G x G' → g x (wipe ς vs) G' fun ς2 G2 => wipe ς2 vs = wipe ς vs ∧ tt ς2 G2 fun b G3 =>
    if b = true then tk ς2 G3 fun y G4 => tv ς2 G4 fun z G5 => PutAt D y z G5 N else N G3)
theorem pe_dx (bk : Bool) {kx vx tg iter : Expr} {ifs : List Expr} {scope : Scope} {own : List (Str × Nat)} {pos : Pos} {wi : TI} {g : TG} {tt : TT} {tk tv : TE} (calm : X.calm = true) (nd : X.N.Nodup) (hu : X.A.units + 1 < cLine) (hi : PI X tg iter wi) (bl : BlkOk X.N X.env.scope scope own)
    (hg : ∀ (s : Shared) (G : Hp) (C : Addr) (cl : List (Str × Addr)) (fp : List Addr), PG (X.blk s G scope (compEnvC scope cl C X.env) fp) tg g) (ht : ∀ (s : Shared) (G : Hp) (C : Addr) (cl : List (Str × Addr)) (fp : List Addr), PTs (X.blk s G scope (compEnvC scope cl C X.env) fp) ifs tt)
    (hk : ∀ (s : Shared) (G : Hp) (C : Addr) (cl : List (Str × Addr)) (fp : List Addr), PE (X.blk s G scope (compEnvC scope cl C X.env) fp) kx tk)
    (hv : ∀ (s : Shared) (G : Hp) (C : Addr) (cl : List (Str × Addr)) (fp : List Addr), PE (X.blk s G scope (compEnvC scope cl C X.env) fp) vx tv) (hs : ∀ x, foldedSetIterable iter X.env x = pure x) : PE X (.DictComp kx vx [⟨tg, iter, ifs, 0⟩] scope pos) (tDx (newD bk) wi g tt tk tv (own.map (·.2))) := by
  refine ⟨fun pp t0 ς G Q J0 q0 => ?_⟩
  rw [arm_eval_DictComp]
  have clo : ∀ y ∈ scope.names, y.2 = .free → ∃ c, X.env.cells.lookup y.1 = some c := fun y hy e => (bl.free y hy e).elim (fun z => J0.ok.has _ (.inl z)) fun z => J0.ok.has _ (.inr z)
  refine wpAny_comprehension_free (use := none) rfl hs (closure_ok clo) bl.kind (fun y hy e => by rw [bl.uniq y hy, e]) (thn (hi.run pp t0 ς G _ J0 q0) fun xv t1 w1 => thn w1 fun itv t2 w2 => ?_)
  obtain ⟨it, fp, tn, J, G2, rfl, J2, Tn, st2, f2, q2⟩ := w2
  refine wpAny_newObj_type (newEnv_comp ?_)
  -- the dict, at D
  obtain ⟨D, eD⟩ : ∃ D, t2.heap.objs.size = D := ⟨_, rfl⟩
  have nD : G2 D = none := J2.hok.fresh (Nat.le_of_eq eD)
  obtain ⟨W, ⟨m0, w0⟩, turn⟩ := q2 D nD
  obtain ⟨t3, e3⟩ : ∃ t3 : Shared, ({ t2 with heap := t2.heap.push { cls := .type "dict", data := .dict #[] } } : Shared) = t3 := ⟨_, rfl⟩
  have J3 : Inv X pp ς (upd G2 D (newD bk)) t3 := by
    rw [← e3]
    refine J2.laid (t' := t2.toks) (fun b o e => Heap.get?_push_of_some _ e) (Nat.le_of_eq eD) ?_
    rw [← eD]
    cases bk with
    | true => exact dt_empty t2.heap J2.big
    | false => exact dk_empty t2.heap J2.big
  have hp3 : t3.heap = t2.heap.push { cls := .type "dict", data := .dict #[] } := by rw [← e3]
  have f3 : ∀ b ∈ fp, FpOk X pp (upd G2 D (newD bk)) b ∧ b < t3.heap.objs.size := fun b hb => by
    obtain ⟨o, e, _⟩ := Tn.obj _ _ st2 b hb
    have lt := Heap.lt_size e
    refine ⟨⟨?_, (f2 b hb).2⟩, by rw [hp3, Heap.size_push]; exact Nat.lt_succ_of_lt lt⟩
    rw [upd_ne (by rw [← eD]; exact Nat.ne_of_lt lt)]
    exact (f2 b hb).1
  have st3 : tn 0 t3.heap := Tn.keep _ _ _ st2 fun b _ o e => by rw [hp3]; exact Heap.get?_push_of_some _ e
  have J4 := block_start J3 bl nd f3
  have pg := hg t3 (upd G2 D (newD bk)) t3.heap.objs.size (cellsFrom (t3.heap.objs.size + 1) scope.names (cloFrom X.env.cells scope.names [])) fp
  have pt := ht t3 (upd G2 D (newD bk)) t3.heap.objs.size (cellsFrom (t3.heap.objs.size + 1) scope.names (cloFrom X.env.cells scope.names [])) fp
  have pk := hk t3 (upd G2 D (newD bk)) t3.heap.objs.size (cellsFrom (t3.heap.objs.size + 1) scope.names (cloFrom X.env.cells scope.names [])) fp
  have pv := hv t3 (upd G2 D (newD bk)) t3.heap.objs.size (cellsFrom (t3.heap.objs.size + 1) scope.names (cloFrom X.env.cells scope.names [])) fp
  rw [e3, eD]
  show codeAny _ _ (.compStart (.DictComp kx vx [⟨tg, iter, ifs, 0⟩] scope pos) 0 (.ref it) (.ref D) (compEnvC scope (cellsFrom (t3.heap.objs.size + 1) scope.names (cloFrom X.env.cells scope.names [])) t3.heap.objs.size X.env)) _ _
  have nfp : ∀ b ∈ fp, (upd G2 D (newD bk)) b = none := fun b hb => (f3 b hb).1.1
  generalize ec : compEnvC scope (cellsFrom (t3.heap.objs.size + 1) scope.names (cloFrom X.env.cells scope.names [])) t3.heap.objs.size X.env = ce at J4 pg pt pk pv ⊢
  have cL : ce.locals = t3.heap.objs.size := by subst ec; rfl
  generalize eG : upd G2 D (newD bk) = G3 at J3 J4 pg pt pk pv w0 nfp f3
  generalize e4 : ({ t3 with heap := pushCells (t3.heap.push { cls := .type "dict", data := .dict #[] }) scope.names } : Shared) = t4 at J4 ⊢
  have st4 : tn 0 t4.heap := Tn.keep _ _ _ st3 fun b _ o e => by rw [← e4]; exact pushCells_keeps _ _ _ _ (Heap.get?_push_of_some _ e)
  have own_ok : ∀ {ς' : L2.St} {G' : Hp} {t' : Shared}, Inv (X.blk t3 G3 scope ce fp) [] ς' G' t' → (∀ b ∈ fp, G' b = none) → ∀ b ∈ fp, FpOk (X.blk t3 G3 scope ce fp) [] G' b := fun {ς' G' t'} J' no b hb =>
    ⟨no b hb, (J'.ok.exf b hb).1, J'.ok.exfs b hb, .inl hb, fun x c e => (J'.ok.exf b hb).2 x c e, fun p hp => absurd hp (by simp [Cx.blk])⟩
  refine codeAny_compStart_dict ?loop (Tn.self X.A 0 _ _ _ st4 ?loop)
  refine compLoop_anyD (fun n t' => ∃ i G', Inv (X.blk t3 G3 scope ce fp) [] (wipe ς (own.map (·.2))) G' t' ∧ tn i t'.heap ∧ (∀ b ∈ fp, G' b = none) ∧ W i n G') ?_ m0 ⟨0, G3, J4, st4, nfp, w0⟩
  rintro n t5 ⟨i, G5, J5, st5, n5, w5⟩
  rcases turn i n G5 w5 with ⟨stop, done⟩ | ⟨go, N, less, step⟩
  · refine thnF (Tn.done (X.blk t3 G3 scope ce fp) rfl rfl rfl calm i [] t5 _ G5 (fun _ _ => False) J5 (own_ok J5 n5) st5 stop) fun r t6 ⟨er, J6⟩ => ?_
    subst er
    have back : Inv X pp ς G5 t6 := J3.call' (ch := fp) J6.os J6.base J6.hok J6.bare fun b hb => ⟨(f3 b hb).1.2.2.2.1, (f3 b hb).1.2.1, (f3 b hb).1.2.2.2.2.1, (f3 b hb).1.2.2.2.2.2⟩
    have noC : G5 t3.heap.objs.size = none := by rw [← cL]; exact J6.free
    obtain ⟨m, names, _⟩ := J6.loc
    have names : t6.heap.Ns t3.heap.objs.size m := by rw [← cL]; exact names
    obtain ⟨g0, g1, g2, g3, g4, g5⟩ := J3.fpOk (Nat.le_refl _) noC
    exact ⟨m, names, fun h'' sb => ⟨.ref D, G5, back.turned (t' := t6.toks) (fun b o hb e => (sb.2 b hb).trans e) g0 g1 g3 g4 g5, rfl, done⟩⟩
  · refine thnF (Tn.item (X.blk t3 G3 scope ce fp) rfl rfl rfl calm i [] t5 _ G5 (fun _ _ => False) J5 (own_ok J5 n5) st5 go) fun r t6 ⟨u, er, w6⟩ => ?_
    subst er
    refine thnF w6 fun _ t7 ⟨x, G7, J7, r7, y7, st7, n7⟩ => ?_
    refine thnF (pg.run _ t7 _ G7 x u _ (J7.pinned (own_ok J7 n7) (Tn.obj _ _ st7)) r7 (step x G7 y7)) fun _ t8 ⟨ς8, G8, J8, hw8, q8⟩ => ?_
    refine thnF (pt.run _ t8 ς8 G8 _ J8 q8) fun b t9 ⟨G9, J9, q9⟩ => ?_
    have fin : ∀ {t' : Shared} {G' : Hp}, Inv (X.blk t3 G3 scope ce fp) ([] ++ pinsAt fp t7.heap) ς8 G' t' → N G' → ∃ m, m < n ∧ ∃ i G', Inv (X.blk t3 G3 scope ce fp) [] (wipe ς (own.map (·.2))) G' t' ∧ tn i t'.heap ∧ (∀ b ∈ fp, G' b = none) ∧ W i m G' := fun {t' G'} J' hN => by
      obtain ⟨m', hm, w'⟩ := less G' hN
      have still : ∀ b ∈ fp, ∀ o, t7.heap.get? b = some o → t'.heap.get? b = some o ∧ G' b = none := fun b hb o e => by
        obtain ⟨z1, z2, _⟩ := J'.pin (b, o) (List.mem_append_right _ (List.mem_append_right _ (mem_pinsAt hb e)))
        exact ⟨z1, z2⟩
      refine ⟨m', hm, i + 1, G', (J'.unpinned (pins := [])).weak (by rw [← hw8, wipe_length]) (fun j v e => by rw [← hw8] at e; exact (wipe_some e).1), Tn.keep _ _ _ st7 fun b hb o e => (still b hb o e).1, fun b hb => ?_, w'⟩
      obtain ⟨o, e, _⟩ := Tn.obj _ _ st7 b hb
      exact (still b hb o e).2
    cases b with
    | false => exact fin J9 q9
    | true =>
      refine thnF (pk.run _ t9 ς8 G9 _ J9 q9) fun z t10 ⟨yk, G10, J10, r10, q10⟩ => ?_
      refine thnF (pv.run _ t10 ς8 G10 _ J10 q10) fun z2 t11 ⟨yv, G11, J11, r11, put⟩ => ?_
      exact thn (dput_set (Y := X.blk t3 G3 scope ce fp) hu J11 put r10 r11) fun _ t12 ⟨G12, J12, hN⟩ => fin J12 hN
end
end TL

/-! T layer 18: {k: v for ..} on trees. -/
namespace TL
open PySem PySem.Spec PyProof.Rows L2 StX
variable [Tb]

/-- what the dict in the making is -/
inductive DObj (K : PySem.W.Frag) (F : Hp) (ι : List Addr) : Bool → HO → List (T × T) → Prop where
  | k {kvs : List (Key × V)} {ps : List (T × T)} : Rpk K F ι kvs ps → DObj K F ι false (.dK kvs) ps
  | t {kvs : List (List Key × V)} {ps : List (T × T)} : Rpt K F ι kvs ps → DObj K F ι true (.dT kvs) ps
section
variable {K : PySem.W.Frag} {F F' : Hp} {ι ι' : List Addr} {b : Bool} {u : HO} {ps : List (T × T)} {H H' : Hp}
theorem DObj.ext (h : DObj K F ι b u ps) (x : Ext F ι H F' ι' H') : DObj K F' ι' b u ps := by
  cases h with
  | k r => exact .k (r.mono x.f.sub x.i)
  | t r => exact .t (r.mono x.f.sub x.i)
theorem DObj.notup (h : DObj K F ι b u ps) : ∀ xs, u ≠ .tup xs := by
  cases h <;> intro _ z <;> cases z
theorem DObj.no3 (h : DObj K F ι b u ps) : (∀ xs, u ≠ .tup xs) ∧ (∀ ps, u ≠ .tbl ps) ∧ ∀ φ, u ≠ .ext φ := by
  cases h <;> exact ⟨fun _ z => (by cases z), fun _ z => (by cases z), fun _ z => (by cases z)⟩
theorem DObj.rpO (h : DObj K F ι b u ps) : RpO K F ι u (.dic b ps) := by
  cases h with
  | k r => exact .dic r
  | t r => exact .dit r
end
def dcTurn (h : T → Env → M Env) (t : Env → M Bool) (fk fv : Env → M T) (ρ : Env) (d : T) : M (Option (T × T)) := M.bind (h d ρ) fun ρ2 => M.bind (t ρ2) fun b => bif b then M.bind (fk ρ2) fun y => M.bind (fv ρ2) fun z => M.pure (some (y, z)) else M.pure none
def dAdd (tk : Bool) (acc : List (T × T)) : Option (T × T) → M (List (T × T))
  | none => M.pure acc
  | some (k, v) => match tk, keyOf k with
    | false, some (.inl key) => bif fits (acc.length + 1) then M.pure (putP acc (.inl key) (keyT key) v) else M.no
    | true, some (.inr ks) => bif fits (acc.length + 1) then M.pure (putP acc (.inr ks) (.tup (ks.map keyT)) v) else M.no
    | _, _ => M.no
def dcL (tk : Bool) (step : T → M (Option (T × T))) : List T → List (T × T) → M (List (T × T))
  | [], acc => M.pure acc
  | x :: xs, acc => M.bind (noErr (step x)) fun o => M.bind (dAdd tk acc o) fun a2 => dcL tk step xs a2
def dComp (tk : Bool) (vs : List Nat) (fi : Env → M (List T)) (h : T → Env → M Env) (t : Env → M Bool) (fk fv : Env → M T) : Env → M T := fun ρ => M.bind (fi ρ) fun ds => M.bind (dcL tk (dcTurn h t fk fv (wipeE ρ vs)) ds []) fun ps => newC (.dic tk ps)
section
variable {K : PySem.W.Frag} {F : Hp} {ι : List Addr} {G : Hp} {D : Addr} {u : HO} {tk : Bool} {ac : List (T × T)} {y z : V} {dk dv : T}
theorem dadd_put {mg : Str → Option Value} {E : XK} {μ : Store} {H0 : Hp} {α : Type} {c : List (T × T) → M α} {rp : Hp → List Addr → Store → Hp → α → Prop} (hG : G = upd H0 D u) (sub : ∀ a xs, F a = some (.tup xs) → G a = some (.tup xs)) (ob : DObj K F ι tk u ac) (ry : Rp K F ι y dk) (rz : Rp K F ι z dv) (hp : Post K mg E (M.bind (dAdd tk ac (some (dk, dv))) c μ) F ι H0 rp) :
    ∃ u' ac', DPut G D y z (upd H0 D u') ∧ DObj K F ι tk u' ac' ∧ Post K mg E (c ac' μ) F ι H0 rp := by
  unfold dAdd at hp
  simp only at hp
  subst hG
  cases hk : keyOf dk with
  | none => rw [hk] at hp; cases tk <;> exact hp.elim
  | some key =>
    rw [hk] at hp
    cases key with
    | inl key =>
      cases tk with
      | true => exact hp.elim
      | false =>
        simp only at hp
        cases ob with
        | @k kv _ rk =>
        cases hz : fits (ac.length + 1) with
        | false => rw [hz] at hp; exact hp.elim
        | true =>
          rw [hz] at hp
          have hl := fits_le hz
          have lk := rk.length
          have ey : y = kV key := by
            cases ry with
            | int i => cases hk; rfl
            | str x => cases hk; rfl
            | tup ha ra =>
              simp only [keyOf, Option.map_eq_some_iff] at hk
              obtain ⟨_, _, z⟩ := hk
              cases z
            | _ => cases hk
          exact ⟨_, _, .inl ⟨kv, key, upd_same, ey, by omega, by rw [upd_upd]⟩, .k (rk.put rz), hp⟩
    | inr ks =>
      cases tk with
      | false => exact hp.elim
      | true =>
        simp only at hp
        cases ob with
        | @t kv _ rk =>
        cases hz : fits (ac.length + 1) with
        | false => rw [hz] at hp; exact hp.elim
        | true =>
          rw [hz] at hp
          have hl := fits_le hz
          have lk := rk.length
          cases ry with
          | @tup b vs ds ha ra =>
            simp only [keyOf, Option.map_eq_some_iff] at hk
            obtain ⟨q, h2, z⟩ := hk
            cases z
            have eds := keysOf_some h2
            subst eds
            have evs := ra.keys
            subst evs
            exact ⟨_, _, .inr ⟨kv, ks, b, upd_same, rfl, sub _ _ ha, by omega, by rw [upd_upd]⟩, .t (rk.put rz), hp⟩
          | int i => cases hk
          | str x => cases hk
          | _ => cases hk
end
section
variable {X : Cx} {E : XK} {k : Nat} {kx vx tg iter : Expr} {ifs : List Expr} {scope : Scope} {own : List (Str × Nat)} {pos : Pos} {fi : Env → M (List T)} {h : T → Env → M Env} {t : Env → M Bool} {fk fv : Env → M T} {tk : Bool}
theorem dc_core_t {σ : L2.St} {H : Hp} {Q : VK} {vs : List Nat} (hq : tE X.K X.mg E (dComp tk vs fi h t fk fv) σ H Q) : tDx (newD tk) (tI X.K X.mg E fi) (tG X.K X.mg EF vs h) (tT X.K X.mg EF t) (tE X.K X.mg EF fk) (tE X.K X.mg EF fv) vs σ H Q := by
  obtain ⟨F, ι, μ, ρ, hr, he, hp⟩ := hq
  refine ⟨F, ι, μ, ρ, hr, he, hp.bind fun F1 ι1 μ1 H1 ds x1 r1 p1 J wk D hD => ?_⟩
  have new0 : DObj X.K F1 ι1 tk (newD tk) [] := by cases tk; exact .k .nil; exact .t .nil
  refine ⟨fun i m H => m = ds.length - i ∧ i ≤ ds.length ∧ ∃ F ι μ H0 u ac, All F1 F ∧ Pre ι1 ι ∧ Rel X.K F ι μ H0 ∧ H0 D = none ∧ H = upd H0 D u ∧ DObj X.K F ι tk u ac ∧ ERp X.K F ι (L2.wipe σ vs) (wipeE ρ vs) ∧
      Post X.K X.mg E (M.bind (dcL tk (dcTurn h t fk fv (wipeE ρ vs)) (ds.drop i) ac) (fun ps => newC (.dic tk ps)) μ) F ι H0 _, ⟨ds.length, rfl, Nat.zero_le _, F1, ι1, μ1, H1, _, [], fun _ _ e => e, .refl _, r1, hD, rfl, new0, (he.ext x1).wipe vs, p1⟩, ?_⟩
  rintro i m H2 ⟨rfl, hle, F2, ι2, μ2, H0, acc, ac, a2, b2, r2, hD2, rfl, ra, e2, p2⟩
  have r2' : Rel X.K F2 ι2 μ2 (upd H0 D acc) := r2.beside hD2
  by_cases hlt : i < ds.length
  · refine .inr ⟨wk.go i F2 ι2 μ2 _ a2 b2 r2' hlt, fun H' => ∃ F ι μ H0 u ac, All F1 F ∧ Pre ι1 ι ∧ Rel X.K F ι μ H0 ∧ H0 D = none ∧ H' = upd H0 D u ∧ DObj X.K F ι tk u ac ∧ ERp X.K F ι (L2.wipe σ vs) (wipeE ρ vs) ∧
      Post X.K X.mg E (M.bind (dcL tk (dcTurn h t fk fv (wipeE ρ vs)) (ds.drop (i + 1)) ac) (fun ps => newC (.dic tk ps)) μ) F ι H0 _, fun H' q => ⟨ds.length - (i + 1), by omega, rfl, hlt, q⟩, fun x H3 y => ?_⟩
    obtain ⟨d, F3, hd, x3, r3, rx⟩ := wk.yld i F2 ι2 μ2 _ x H3 a2 b2 r2' hlt y
    have ed : ds.drop i = d :: ds.drop (i + 1) := by
      obtain ⟨hh, e⟩ := List.getElem?_eq_some_iff.mp hd
      rw [List.drop_eq_getElem_cons hh, e]
    rw [ed] at p2
    simp only [dcL] at p2
    rw [M.assoc] at p2
    obtain ⟨hD3, x3', r3'⟩ := x3.away ra.notup r2 hD2 r3 ra.no3.2
    have p3 := p2.later x3'
    have eH3 : H3 = upd (hide H3 D) D acc := by
      rw [upd_hide]
      funext a
      by_cases e : a = D
      · subst e; rw [upd_same]; exact hD3
      · rw [upd_ne e]
    have parts := p3
    unfold dcTurn at parts
    have e3 := e2.ext x3'
    have a3 : All F1 F3 := fun a o e => x3.f _ _ (a2 _ _ e)
    have hh : hide H3 D D = none := hide_same _ _
    have step1 : ∀ {α β : Type} (m : M α) (g : α → M β), noErr (M.bind m g) = M.bind (noErr m) fun x => noErr (g x) := fun m g => by
      funext μ
      simp only [noErr, M.bind]
      cases m μ <;> rfl
    rw [step1, M.assoc] at parts
    refine ⟨F3, ι2, μ2, wipeE ρ vs, d, r3, e3, rx, ?_⟩
    rw [eH3]
    refine Post.dp ra.no3 r3' hh parts fun F4 ι4 μ4 H4 ρ4 x4 r4 eH4 p4 σ4 e4 w4 => ⟨?_, F4, ι4, μ4, ρ4, eH4 ▸ r4.beside (hide_same _ _), e4, ?_⟩
    · rw [w4, wipe_idem]
    · rw [step1, M.assoc] at p4
      rw [eH4]
      refine Post.dp ra.no3 r4 (hide_same _ _) p4 fun F5 ι5 μ5 H5 b x5 r5 eH5 p5 => ?_
      have a5 : All F1 F5 := fun a o e => x5.f _ _ (x4.f _ _ (a3 _ _ e))
      have b5 : Pre ι1 ι5 := b2.trans (x4.i.trans x5.i)
      have ra5 := ((ra.ext x3').ext x4).ext x5
      have ew : ERp X.K F5 ι5 (L2.wipe σ vs) (wipeE ρ vs) := (e3.ext x4).ext x5
      cases b with
      | false =>
        refine iteF ⟨F5, ι5, μ5, hide H5 D, acc, ac, a5, b5, r5, hide_same _ _, eH5, ra5, ew, ?_⟩
        have q := p5
        simp only [cond_false] at q
        exact q
      | true =>
        refine iteT ⟨F5, ι5, μ5, ρ4, eH5 ▸ r5.beside (hide_same _ _), e4.mono x5.f.sub x5.i, ?_⟩
        have q := p5
        simp only [cond_true] at q
        rw [step1, M.assoc] at q
        rw [eH5]
        refine Post.dp ra.no3 r5 (hide_same _ _) q fun F6 ι6 μ6 H6 yT x6 r6 eH6 p6 yk ryk => ?_
        rw [step1, M.assoc] at p6
        rw [eH6]
        refine ⟨F6, ι6, μ6, ρ4, r6.beside (hide_same _ _), (e4.mono x5.f.sub x5.i).mono x6.f.sub x6.i, ?_⟩
        refine Post.dp ra.no3 r6 (hide_same _ _) p6 fun F7 ι7 μ7 H7 zT x7 r7 eH7 p7 yv ryv => ?_
        have r7' : Rel X.K F7 ι7 μ7 H7 := eH7 ▸ r7.beside (hide_same _ _)
        have p7' := p7
        change Post X.K X.mg E (M.bind (M.bind (dAdd tk ac (some (yT, zT))) (fun a2 => dcL tk (dcTurn h t fk fv (wipeE ρ vs)) (ds.drop (i + 1)) a2)) (fun ps => newC (.dic tk ps)) μ7) _ _ _ _ at p7'
        rw [M.assoc] at p7'
        obtain ⟨u', ac', hput, ob', p8⟩ := dadd_put eH7 (fun a xs e => r7'.sub _ _ e) ((ra5.ext x6).ext x7) (ryk.ext x7) ryv p7'
        exact ⟨_, hput, F7, ι7, μ7, hide H7 D, u', ac', fun a o e => x7.f _ _ (x6.f _ _ (a5 _ _ e)), b5.trans (x6.i.trans x7.i), r7, hide_same _ _, rfl, ob', (ew.ext x6).ext x7, p8⟩
  · have e : ds.drop i = [] := List.drop_eq_nil_of_le (by omega)
    rw [e] at p2
    refine .inl ⟨wk.stop i F2 ι2 μ2 _ a2 b2 r2' (by omega), ?_⟩
    have p2' : Post X.K X.mg E (newC (.dic tk ac) μ2) F2 ι2 H0 _ := p2
    obtain ⟨x9, r9⟩ := r2.newI (u := acc) hD2 (fun a z => upd_ne z) upd_same ra.rpO (hf := by intro _ _ z; subst z; cases ra)
    exact p2' _ _ _ x9 r9 _ (.cell (by rw [← r2.len]; simp))
theorem d_dcomp (tk : Bool) (o : XO X E k) (hi : DI X E tg iter fi) (ok : blkC X.N X.env.scope scope own = true)
    (hg : ∀ (s : Shared) (H : Hp) (C : Addr) (cl : List (Str × Addr)) (fp : List Addr), XO (X.blk s H scope (compEnvC scope cl C X.env) fp) EF k → DG (X.blk s H scope (compEnvC scope cl C X.env) fp) EF tg (own.map (·.2)) h)
    (ht : ∀ (s : Shared) (H : Hp) (C : Addr) (cl : List (Str × Addr)) (fp : List Addr), XO (X.blk s H scope (compEnvC scope cl C X.env) fp) EF k → DTs (X.blk s H scope (compEnvC scope cl C X.env) fp) EF ifs t)
    (hk : ∀ (s : Shared) (H : Hp) (C : Addr) (cl : List (Str × Addr)) (fp : List Addr), XO (X.blk s H scope (compEnvC scope cl C X.env) fp) EF k → DE (X.blk s H scope (compEnvC scope cl C X.env) fp) EF kx fk)
    (hv : ∀ (s : Shared) (H : Hp) (C : Addr) (cl : List (Str × Addr)) (fp : List Addr), XO (X.blk s H scope (compEnvC scope cl C X.env) fp) EF k → DE (X.blk s H scope (compEnvC scope cl C X.env) fp) EF vx fv) (hs : ∀ x, foldedSetIterable iter X.env x = pure x := by intro _; rfl) :
    DE X E (.DictComp kx vx [⟨tg, iter, ifs, 0⟩] scope pos) (dComp tk (own.map (·.2)) fi h t fk fv) :=
  pe_imp (pe_dx tk o.calm o.nd (hu_of o.room) hi (blkOk_by ok) (fun s H C cl fp => hg s H C cl fp o.blk) (fun s H C cl fp => ht s H C cl fp o.blk) (fun s H C cl fp => hk s H C cl fp o.blk) (fun s H C cl fp => hv s H C cl fp o.blk) hs) fun σ H Q q => dc_core_t q
end
end TL

/-! T layer 19: comprehensions of two loops. -/
namespace TL
open PySem PySem.Spec PyProof.Rows L2 StX
variable [Tb]

def lc2Turn (h : T → Env → M Env) (t : Env → M Bool) (vs1 : List Nat) (fi1 : Env → M (List T)) (h1 : T → Env → M Env) (t1 : Env → M Bool) (f : Env → M T) (ρ : Env) (d : T) : M (List T) :=
  M.bind (h d ρ) fun ρ2 => M.bind (t ρ2) fun b => bif b then M.bind (fi1 ρ2) fun ds => lcL (lcTurn h1 t1 f (wipeE ρ2 vs1)) ds else M.pure []
def lc2L (step : T → M (List T)) : List T → M (List T)
  | [] => M.pure []
  | x :: xs => M.bind (noErr (step x)) fun o => M.bind (lc2L step xs) fun r => M.pure (o ++ r)
def lComp2 (vs vs1 : List Nat) (fi : Env → M (List T)) (h : T → Env → M Env) (t : Env → M Bool) (fi1 : Env → M (List T)) (h1 : T → Env → M Env) (t1 : Env → M Bool) (f : Env → M T) : Env → M (List T) := fun ρ => M.bind (fi ρ) fun ds => M.bind (lc2L (lc2Turn h t vs1 fi1 h1 t1 f (wipeE ρ vs)) ds) okL
theorem lc2L_end (step : T → M (List T)) (x : T) (xs acc : List T) : M.bind (lc2L step (x :: xs)) (lcEnd acc) = M.bind (noErr (step x)) fun o => M.bind (lc2L step xs) (lcEnd (acc ++ o)) := by
  simp only [lc2L]
  rw [M.assoc]
  congr 1
  funext o
  rw [M.assoc]
  congr 1
  funext r
  show lcEnd acc (o ++ r) = lcEnd (acc ++ o) r
  unfold lcEnd
  rw [List.append_assoc]
theorem noErr_bind {α β : Type} (m : M α) (g : α → M β) : noErr (M.bind m g) = M.bind (noErr m) fun x => noErr (g x) := by
  funext μ
  simp only [noErr, M.bind]
  cases m μ <;> rfl
theorem noErr_two {α : Type} (m : M α) : noErr (noErr m) = noErr m := by
  funext μ
  simp only [noErr]
  cases m μ <;> rfl
/-- one item of the inner loop -/
theorem lcL_in {β : Type} (step : T → M (Option T)) (x : T) (xs acc : List T) (k : List T → M β) : M.bind (noErr (lcL step (x :: xs))) (fun r => k (acc ++ r)) = M.bind (noErr (step x)) fun o => M.bind (noErr (lcL step xs)) fun r => k ((acc ++ o.toList) ++ r) := by
  simp only [lcL]
  rw [noErr_bind, noErr_two, M.assoc]
  congr 1
  funext o
  rw [noErr_bind, M.assoc]
  congr 1
  funext r
  show k (acc ++ (o.toList ++ r)) = k ((acc ++ o.toList) ++ r)
  rw [List.append_assoc]
theorem lc2L_room {K : PySem.W.Frag} {mg : Str → Option Value} {E : XK} {F : Hp} {ι : List Addr} {H : Hp} {μ : Store} {rp : Hp → List Addr → Store → Hp → List T → Prop} {step1 : T → M (Option T)} {step : T → M (List T)} {xs ys acc : List T} (h : Post K mg E (M.bind (noErr (lcL step1 xs)) (fun r => M.bind (lc2L step ys) (lcEnd (acc ++ r))) μ) F ι H rp) : acc.length ≤ sizeLine := by
  have nerr : ∀ (xs : List T) (μ : Store) e μ', lc2L step xs μ ≠ .err e μ' := by
    intro xs
    induction xs with
    | nil => intro μ e μ' z; cases z
    | cons x xs ih =>
      intro μ e μ' z
      simp only [lc2L, M.bind, noErr] at z
      cases h1 : step x μ with
      | ok a μ1 =>
        rw [h1] at z
        simp only at z
        cases h2 : lc2L step xs μ1 with
        | ok b μ2 => rw [h2] at z; cases z
        | err e2 μ2 => exact ih μ1 e2 μ2 h2
        | no => rw [h2] at z; cases z
      | err _ _ => rw [h1] at z; cases z
      | no => rw [h1] at z; cases z
  unfold M.bind noErr at h
  cases e0 : lcL step1 xs μ with
  | ok r0 μ1 =>
    rw [e0] at h
    simp only at h
    cases e : lc2L step ys μ1 with
    | ok r μ' =>
      rw [e] at h
      unfold lcEnd okL at h
      cases hz : fits (acc ++ r0 ++ r).length with
      | false => simp only [hz] at h; exact h.elim
      | true =>
        have := fits_le hz
        rw [List.length_append, List.length_append] at this
        omega
    | err e2 μ' => exact (nerr _ _ _ _ e).elim
    | no => rw [e] at h; exact h.elim
  | err _ _ => rw [e0] at h; exact h.elim
  | no => rw [e0] at h; exact h.elim
section
variable {X : Cx} {E : XK} {k : Nat} {elt tg iter tg1 iter1 : Expr} {ifs ifs1 : List Expr} {scope : Scope} {own : List (Str × Nat)} {pos : Pos} {fi fi1 : Env → M (List T)} {h h1 : T → Env → M Env} {t t1 : Env → M Bool} {f : Env → M T}
theorem lc2_core_t {σ : L2.St} {H : Hp} {Q : VK} {vs vs1 : List Nat} (hq : tL X.K X.mg E (lComp2 vs vs1 fi h t fi1 h1 t1 f) σ H Q) : tLc2 (tI X.K X.mg E fi) (tG X.K X.mg EF vs h) (tT X.K X.mg EF t) (tI X.K X.mg EF fi1) (tG X.K X.mg EF vs1 h1) (tT X.K X.mg EF t1) (tE X.K X.mg EF f) vs vs1 σ H Q := by
  obtain ⟨F, ι, μ, ρ, hr, he, hp⟩ := hq
  refine ⟨F, ι, μ, ρ, hr, he, hp.bind fun F1 ι1 μ1 H1 ds x1 r1 p1 J wk D hD => ?_⟩
  have p1 : Post X.K X.mg E (M.bind (lc2L (lc2Turn h t vs1 fi1 h1 t1 f (wipeE ρ vs)) ds) (lcEnd []) μ1) F1 ι1 H1 _ := p1
  have ntup : ∀ (ys : List V), (∀ xs, HO.lst ys ≠ .tup xs) ∧ (∀ ps, HO.lst ys ≠ .tbl ps) ∧ ∀ φ, HO.lst ys ≠ .ext φ := fun _ => ⟨fun _ z => (by cases z), fun _ z => (by cases z), fun _ z => (by cases z)⟩
  refine ⟨fun i m H => m = ds.length - i ∧ i ≤ ds.length ∧ ∃ F ι μ H0 acc ac, All F1 F ∧ Pre ι1 ι ∧ Rel X.K F ι μ H0 ∧ H0 D = none ∧ H = upd H0 D (.lst acc) ∧ Rps X.K F ι acc ac ∧ ERp X.K F ι (L2.wipe σ vs) (wipeE ρ vs) ∧
      Post X.K X.mg E (M.bind (lc2L (lc2Turn h t vs1 fi1 h1 t1 f (wipeE ρ vs)) (ds.drop i)) (lcEnd ac) μ) F ι H0 _, ⟨ds.length, rfl, Nat.zero_le _, F1, ι1, μ1, H1, [], [], fun _ _ e => e, .refl _, r1, hD, rfl, .nil, (he.ext x1).wipe vs, p1⟩, ?_⟩
  rintro i m H2 ⟨rfl, hle, F2, ι2, μ2, H0, acc, ac, a2, b2, r2, hD2, rfl, ra, e2, p2⟩
  have r2' : Rel X.K F2 ι2 μ2 (upd H0 D (.lst acc)) := r2.beside hD2
  by_cases hlt : i < ds.length
  · refine .inr ⟨wk.go i F2 ι2 μ2 _ a2 b2 r2' hlt, fun H' => ∃ F ι μ H0 acc ac, All F1 F ∧ Pre ι1 ι ∧ Rel X.K F ι μ H0 ∧ H0 D = none ∧ H' = upd H0 D (.lst acc) ∧ Rps X.K F ι acc ac ∧ ERp X.K F ι (L2.wipe σ vs) (wipeE ρ vs) ∧
      Post X.K X.mg E (M.bind (lc2L (lc2Turn h t vs1 fi1 h1 t1 f (wipeE ρ vs)) (ds.drop (i + 1))) (lcEnd ac) μ) F ι H0 _, fun H' q => ⟨ds.length - (i + 1), by omega, rfl, hlt, q⟩, fun x H3 y => ?_⟩
    obtain ⟨d, F3, hd, x3, r3, rx⟩ := wk.yld i F2 ι2 μ2 _ x H3 a2 b2 r2' hlt y
    have ed : ds.drop i = d :: ds.drop (i + 1) := by
      obtain ⟨hh, e⟩ := List.getElem?_eq_some_iff.mp hd
      rw [List.drop_eq_getElem_cons hh, e]
    rw [ed, lc2L_end] at p2
    obtain ⟨hD3, x3', r3'⟩ := x3.away (by intro _ z; cases z) r2 hD2 r3
    have p3 := p2.later x3'
    have eH3 : H3 = upd (hide H3 D) D (.lst acc) := by
      rw [upd_hide]
      funext a
      by_cases e : a = D
      · subst e; rw [upd_same]; exact hD3
      · rw [upd_ne e]
    have parts := p3
    unfold lc2Turn at parts
    have e3 := e2.ext x3'
    have a3 : All F1 F3 := fun a o e => x3.f _ _ (a2 _ _ e)
    have hh : hide H3 D D = none := hide_same _ _
    rw [noErr_bind, M.assoc] at parts
    refine ⟨F3, ι2, μ2, wipeE ρ vs, d, r3, e3, rx, ?_⟩
    rw [eH3]
    refine Post.dp (ntup _) r3' hh parts fun F4 ι4 μ4 H4 ρ4 x4 r4 eH4 p4 σ4 e4 w4 => ⟨?_, F4, ι4, μ4, ρ4, eH4 ▸ r4.beside (hide_same _ _), e4, ?_⟩
    · rw [w4, wipe_idem]
    · rw [noErr_bind, M.assoc] at p4
      rw [eH4]
      refine Post.dp (ntup _) r4 (hide_same _ _) p4 fun F5 ι5 μ5 H5 b x5 r5 eH5 p5 => ?_
      have a5 : All F1 F5 := fun a o e => x5.f _ _ (x4.f _ _ (a3 _ _ e))
      have b5 : Pre ι1 ι5 := b2.trans (x4.i.trans x5.i)
      have ra5 : Rps X.K F5 ι5 acc ac := ((ra.ext x3').ext x4).ext x5
      have ew : ERp X.K F5 ι5 (L2.wipe σ vs) (wipeE ρ vs) := (e3.ext x4).ext x5
      cases b with
      | false =>
        refine iteF ⟨F5, ι5, μ5, hide H5 D, acc, ac, a5, b5, r5, hide_same _ _, eH5, ra5, ew, ?_⟩
        have q := p5
        simp only [cond_false] at q
        have q' : Post X.K X.mg E (M.bind (lc2L (lc2Turn h t vs1 fi1 h1 t1 f (wipeE ρ vs)) (ds.drop (i + 1))) (lcEnd (ac ++ [])) μ5) F5 ι5 (hide H5 D) _ := q
        rw [List.append_nil] at q'
        exact q'
      | true =>
        have e5 : ERp X.K F5 ι5 σ4 ρ4 := e4.mono x5.f.sub x5.i
        refine iteT ⟨F5, ι5, μ5, ρ4, eH5 ▸ r5.beside (hide_same _ _), e5, ?_⟩
        have q := p5
        simp only [cond_true] at q
        rw [noErr_bind, M.assoc] at q
        rw [eH5]
        refine Post.dp (ntup _) r5 (hide_same _ _) q fun F6 ι6 μ6 H6 ds1 x6 r6 eH6 p6 J1 wk1 => ?_
        have e6 := (e5.mono x6.f.sub x6.i).wipe vs1
        refine ⟨fun j m H => m = ds1.length - j ∧ j ≤ ds1.length ∧ ∃ F ι μ H0 acc ac, All F6 F ∧ Pre ι6 ι ∧ Rel X.K F ι μ H0 ∧ H0 D = none ∧ H = upd H0 D (.lst acc) ∧ Rps X.K F ι acc ac ∧ ERp X.K F ι (L2.wipe σ vs) (wipeE ρ vs) ∧ ERp X.K F ι (L2.wipe σ4 vs1) (wipeE ρ4 vs1) ∧
            Post X.K X.mg E (M.bind (noErr (lcL (lcTurn h1 t1 f (wipeE ρ4 vs1)) (ds1.drop j))) (fun r => M.bind (lc2L (lc2Turn h t vs1 fi1 h1 t1 f (wipeE ρ vs)) (ds.drop (i + 1))) (lcEnd (ac ++ r))) μ) F ι H0 _,
          ⟨ds1.length, rfl, Nat.zero_le _, F6, ι6, μ6, hide H6 D, acc, ac, fun _ _ e => e, .refl _, r6, hide_same _ _, eH6, ra5.ext x6, ew.ext x6, e6, p6⟩, ?_⟩
        rintro j m' H7 ⟨rfl, hle1, F7, ι7, μ7, H07, acc7, ac7, a7, b7, r7, hD7, rfl, ra7, ew7, e7, p7⟩
        have r7' : Rel X.K F7 ι7 μ7 (upd H07 D (.lst acc7)) := r7.beside hD7
        by_cases hlt1 : j < ds1.length
        · refine .inr ⟨wk1.go j F7 ι7 μ7 _ a7 b7 r7' hlt1, fun H' => ∃ F ι μ H0 acc ac, All F6 F ∧ Pre ι6 ι ∧ Rel X.K F ι μ H0 ∧ H0 D = none ∧ H' = upd H0 D (.lst acc) ∧ Rps X.K F ι acc ac ∧ ERp X.K F ι (L2.wipe σ vs) (wipeE ρ vs) ∧ ERp X.K F ι (L2.wipe σ4 vs1) (wipeE ρ4 vs1) ∧
            Post X.K X.mg E (M.bind (noErr (lcL (lcTurn h1 t1 f (wipeE ρ4 vs1)) (ds1.drop (j + 1)))) (fun r => M.bind (lc2L (lc2Turn h t vs1 fi1 h1 t1 f (wipeE ρ vs)) (ds.drop (i + 1))) (lcEnd (ac ++ r))) μ) F ι H0 _,
            fun H' q => ⟨ds1.length - (j + 1), by omega, rfl, hlt1, q⟩, fun x H8 y => ?_⟩
          obtain ⟨d1, F8, hd1, x8, r8, rx1⟩ := wk1.yld j F7 ι7 μ7 _ x H8 a7 b7 r7' hlt1 y
          have ed1 : ds1.drop j = d1 :: ds1.drop (j + 1) := by
            obtain ⟨hh, e⟩ := List.getElem?_eq_some_iff.mp hd1
            rw [List.drop_eq_getElem_cons hh, e]
          rw [ed1, lcL_in _ d1 _ ac7 (fun z => M.bind (lc2L (lc2Turn h t vs1 fi1 h1 t1 f (wipeE ρ vs)) (ds.drop (i + 1))) (lcEnd z))] at p7
          obtain ⟨hD8, x8', r8'⟩ := x8.away (by intro _ z; cases z) r7 hD7 r8
          have p8 := p7.later x8'
          have eH8 : H8 = upd (hide H8 D) D (.lst acc7) := by
            rw [upd_hide]
            funext a
            by_cases e : a = D
            · subst e; rw [upd_same]; exact hD8
            · rw [upd_ne e]
          have parts1 := p8
          unfold lcTurn at parts1
          have e8 := e7.ext x8'
          have a8 : All F6 F8 := fun a o e => x8.f _ _ (a7 _ _ e)
          rw [noErr_bind, M.assoc] at parts1
          refine ⟨F8, ι7, μ7, wipeE ρ4 vs1, d1, r8, e8, rx1, ?_⟩
          rw [eH8]
          refine Post.dp (ntup _) r8' (hide_same _ _) parts1 fun F9 ι9 μ9 H9 ρ9 x9 r9 eH9 p9 σ9 e9 w9 => ⟨?_, F9, ι9, μ9, ρ9, eH9 ▸ r9.beside (hide_same _ _), e9, ?_⟩
          · rw [w9, wipe_idem]
          · rw [noErr_bind, M.assoc] at p9
            rw [eH9]
            refine Post.dp (ntup _) r9 (hide_same _ _) p9 fun Fa ιa μa Ha b1 xa rA eHa pa => ?_
            have aa : All F6 Fa := fun a o e => xa.f _ _ (x9.f _ _ (a8 _ _ e))
            have ba : Pre ι6 ιa := b7.trans (x9.i.trans xa.i)
            have raa : Rps X.K Fa ιa acc7 ac7 := ((ra7.ext x8').ext x9).ext xa
            have ewa : ERp X.K Fa ιa (L2.wipe σ vs) (wipeE ρ vs) := ((ew7.ext x8').ext x9).ext xa
            have ewb : ERp X.K Fa ιa (L2.wipe σ4 vs1) (wipeE ρ4 vs1) := (e8.ext x9).ext xa
            cases b1 with
            | false =>
              refine iteF ⟨Fa, ιa, μa, hide Ha D, acc7, ac7, aa, ba, rA, hide_same _ _, eHa, raa, ewa, ewb, ?_⟩
              have q := pa
              simp only [cond_false] at q
              have q' : Post X.K X.mg E (M.bind (noErr (lcL (lcTurn h1 t1 f (wipeE ρ4 vs1)) (ds1.drop (j + 1)))) (fun r => M.bind (lc2L (lc2Turn h t vs1 fi1 h1 t1 f (wipeE ρ vs)) (ds.drop (i + 1))) (lcEnd ((ac7 ++ []) ++ r))) μa) Fa ιa (hide Ha D) _ := q
              rw [List.append_nil] at q'
              exact q'
            | true =>
              refine iteT ⟨Fa, ιa, μa, ρ9, eHa ▸ rA.beside (hide_same _ _), e9.mono xa.f.sub xa.i, ?_⟩
              have q := pa
              simp only [cond_true] at q
              rw [noErr_bind, M.assoc] at q
              rw [eHa]
              refine Post.dp (ntup _) rA (hide_same _ _) q fun Fb ιb μb Hb yT xb rb eHb pb v rv => ⟨acc7, by rw [eHb, upd_same], ?_, ?_⟩
              · have pb' : Post X.K X.mg E (M.bind (noErr (lcL (lcTurn h1 t1 f (wipeE ρ4 vs1)) (ds1.drop (j + 1)))) (fun r => M.bind (lc2L (lc2Turn h t vs1 fi1 h1 t1 f (wipeE ρ vs)) (ds.drop (i + 1))) (lcEnd ((ac7 ++ [yT]) ++ r))) μb) Fb ιb (hide Hb D) _ := pb
                have z := lc2L_room pb'
                rw [List.length_append] at z
                have z2 := raa.length
                simp only [List.length_cons, List.length_nil] at z
                omega
              · refine ⟨Fb, ιb, μb, hide Hb D, acc7 ++ [v], ac7 ++ [yT], fun a o e => xb.f _ _ (aa _ _ e), ba.trans xb.i, rb, hide_same _ _, ?_, (raa.ext xb).append (.cons rv .nil), ewa.ext xb, ewb.ext xb, pb⟩
                rw [upd_hide]
        · have e : ds1.drop j = [] := List.drop_eq_nil_of_le (by omega)
          rw [e] at p7
          refine .inl ⟨wk1.stop j F7 ι7 μ7 _ a7 b7 r7' (by omega), F7, ι7, μ7, H07, acc7, ac7, fun a o e => a7 _ _ (x6.f _ _ (a5 _ _ e)), b5.trans (x6.i.trans b7), r7, hD7, rfl, ra7, ew7, ?_⟩
          have q' : Post X.K X.mg E (M.bind (lc2L (lc2Turn h t vs1 fi1 h1 t1 f (wipeE ρ vs)) (ds.drop (i + 1))) (lcEnd (ac7 ++ [])) μ7) F7 ι7 H07 _ := p7
          rw [List.append_nil] at q'
          exact q'
  · have e : ds.drop i = [] := List.drop_eq_nil_of_le (by omega)
    rw [e] at p2
    have p2' : Post X.K X.mg E (okL (ac ++ []) μ2) F2 ι2 H0 _ := p2
    rw [List.append_nil] at p2'
    unfold okL at p2'
    refine .inl ⟨wk.stop i F2 ι2 μ2 _ a2 b2 r2' (by omega), ?_⟩
    cases hz : fits ac.length with
    | false => rw [hz] at p2'; exact p2'.elim
    | true =>
      rw [hz] at p2'
      exact Post.pure (mg := X.mg) (E := E) (a := ac) p2' r2 D acc _ (fun a z => upd_ne z) hD2 upd_same ra
theorem l_comp2 {vs1 : List Nat} (o : XO X E k) (hi : DI X E tg iter fi) (ok : blkC X.N X.env.scope scope own = true) (hv : ∀ i ∈ vs1, i ∈ own.map (·.2))
    (hg : ∀ (s : Shared) (H : Hp) (C : Addr) (cl : List (Str × Addr)) (fp : List Addr), XO (X.blk s H scope (compEnvC scope cl C X.env) fp) EF k → DG (X.blk s H scope (compEnvC scope cl C X.env) fp) EF tg (own.map (·.2)) h)
    (ht : ∀ (s : Shared) (H : Hp) (C : Addr) (cl : List (Str × Addr)) (fp : List Addr), XO (X.blk s H scope (compEnvC scope cl C X.env) fp) EF k → DTs (X.blk s H scope (compEnvC scope cl C X.env) fp) EF ifs t)
    (hi1 : ∀ (s : Shared) (H : Hp) (C : Addr) (cl : List (Str × Addr)) (fp : List Addr), XO (X.blk s H scope (compEnvC scope cl C X.env) fp) EF k → DI (X.blk s H scope (compEnvC scope cl C X.env) fp) EF tg1 iter1 fi1)
    (hg1 : ∀ (s : Shared) (H : Hp) (C : Addr) (cl : List (Str × Addr)) (fp : List Addr), XO (X.blk s H scope (compEnvC scope cl C X.env) fp) EF k → DG (X.blk s H scope (compEnvC scope cl C X.env) fp) EF tg1 vs1 h1)
    (ht1 : ∀ (s : Shared) (H : Hp) (C : Addr) (cl : List (Str × Addr)) (fp : List Addr), XO (X.blk s H scope (compEnvC scope cl C X.env) fp) EF k → DTs (X.blk s H scope (compEnvC scope cl C X.env) fp) EF ifs1 t1)
    (he : ∀ (s : Shared) (H : Hp) (C : Addr) (cl : List (Str × Addr)) (fp : List Addr), XO (X.blk s H scope (compEnvC scope cl C X.env) fp) EF k → DE (X.blk s H scope (compEnvC scope cl C X.env) fp) EF elt f)
    (hs : ∀ x, foldedSetIterable iter X.env x = pure x := by intro _; rfl) (hs1 : ∀ env x, foldedSetIterable iter1 env x = pure x := by intro _ _; rfl) :
    DL X E (.ListComp elt [⟨tg, iter, ifs, 0⟩, ⟨tg1, iter1, ifs1, 0⟩] scope pos) (lComp2 (own.map (·.2)) vs1 fi h t fi1 h1 t1 f) :=
  pe_imp (pe_lc2 o.calm o.nd hi (blkOk_by ok) hv (fun s H C cl fp => hg s H C cl fp o.blk) (fun s H C cl fp => ht s H C cl fp o.blk) (fun s H C cl fp => hi1 s H C cl fp o.blk) (fun s H C cl fp => hg1 s H C cl fp o.blk) (fun s H C cl fp => ht1 s H C cl fp o.blk) (fun s H C cl fp => he s H C cl fp o.blk) hs hs1) fun σ H Q q => lc2_core_t q
theorem s_setc2 {vs1 : List Nat} {y : Str} {py spos : Pos} (o : XO X E k) (i : Nat) {e : (Env → M (List T)) → Env → M T} (hT : ∀ {σ : L2.St} {H : Hp} {Q : VK}, tE X.K X.mg E (e (lComp2 (own.map (·.2)) vs1 fi h t fi1 h1 t1 f)) σ H Q → tL X.K X.mg E (lComp2 (own.map (·.2)) vs1 fi h t fi1 h1 t1 f) σ H Q) (hi : DI X E tg iter fi) (ok : blkC X.N X.env.scope scope own = true) (hv : ∀ i ∈ vs1, i ∈ own.map (·.2))
    (hg : ∀ (s : Shared) (H : Hp) (C : Addr) (cl : List (Str × Addr)) (fp : List Addr), XO (X.blk s H scope (compEnvC scope cl C X.env) fp) EF k → DG (X.blk s H scope (compEnvC scope cl C X.env) fp) EF tg (own.map (·.2)) h)
    (ht : ∀ (s : Shared) (H : Hp) (C : Addr) (cl : List (Str × Addr)) (fp : List Addr), XO (X.blk s H scope (compEnvC scope cl C X.env) fp) EF k → DTs (X.blk s H scope (compEnvC scope cl C X.env) fp) EF ifs t)
    (hi1 : ∀ (s : Shared) (H : Hp) (C : Addr) (cl : List (Str × Addr)) (fp : List Addr), XO (X.blk s H scope (compEnvC scope cl C X.env) fp) EF k → DI (X.blk s H scope (compEnvC scope cl C X.env) fp) EF tg1 iter1 fi1)
    (hg1 : ∀ (s : Shared) (H : Hp) (C : Addr) (cl : List (Str × Addr)) (fp : List Addr), XO (X.blk s H scope (compEnvC scope cl C X.env) fp) EF k → DG (X.blk s H scope (compEnvC scope cl C X.env) fp) EF tg1 vs1 h1)
    (ht1 : ∀ (s : Shared) (H : Hp) (C : Addr) (cl : List (Str × Addr)) (fp : List Addr), XO (X.blk s H scope (compEnvC scope cl C X.env) fp) EF k → DTs (X.blk s H scope (compEnvC scope cl C X.env) fp) EF ifs1 t1)
    (he : ∀ (s : Shared) (H : Hp) (C : Addr) (cl : List (Str × Addr)) (fp : List Addr), XO (X.blk s H scope (compEnvC scope cl C X.env) fp) EF k → DE (X.blk s H scope (compEnvC scope cl C X.env) fp) EF elt f)
    (hy : X.N[i]? = some y := by rfl) (hyl : X.env.scope.names.lookup y = some .local := by rfl) (hsw : swapsWith (.ListComp elt [⟨tg, iter, ifs, 0⟩, ⟨tg1, iter1, ifs1, 0⟩] scope pos) (some (.Name y py)) spos.line X.env = pure true := by exact sw_true rfl rfl rfl rfl)
    (hs : ∀ x, foldedSetIterable iter X.env x = pure x := by intro _; rfl) (hs1 : ∀ env x, foldedSetIterable iter1 env x = pure x := by intro _ _; rfl) :
    DS X E (.Assign [.Name y py] (.ListComp elt [⟨tg, iter, ifs, 0⟩, ⟨tg1, iter1, ifs1, 0⟩] scope pos) spos) (sSet i (e (lComp2 (own.map (·.2)) vs1 fi h t fi1 h1 t1 f))) :=
  ps_imp (ps_setLc2 o.calm o.nd hy hyl hsw hi (blkOk_by ok) hv (fun s H C cl fp => hg s H C cl fp o.blk) (fun s H C cl fp => ht s H C cl fp o.blk) (fun s H C cl fp => hi1 s H C cl fp o.blk) (fun s H C cl fp => hg1 s H C cl fp o.blk) (fun s H C cl fp => ht1 s H C cl fp o.blk) (fun s H C cl fp => he s H C cl fp o.blk) hs hs1) fun D σ H ⟨F, ι, μ, ρ, hr, hen, hp⟩ =>
    lc2_core_t (hT (At.e hr hen hp fun F1 ι1 μ1 H1 v d x1 r1 rv p1 => Post.pure (mg := X.mg) (E := E) (a := Fl.nx (ρ.set i (some d))) p1 r1 _ ((hen.ext x1).set rv i)))
end
end TL

/-! T layer 20: pop(i); a def that calls itself, by fuel. -/
namespace TL
open PySem PySem.Spec PyProof.Rows L2 StX
variable [Tb]

def gPopAt : T → List T → M T := fun d ds => match d, ds with
  | .cell k, [.int i] => bif decide (-(2 ^ 63) ≤ i) && decide (i < 2 ^ 63) then onCell k fun xs => match seqIndex? i xs.length with
      | some j => (xs[j]?).map fun y => (y, xs.eraseIdx j)
      | none => none
    else M.no
  | _, _ => M.no
theorem Rps.eraseIdx {K : PySem.W.Frag} {F : Hp} {ι : List Addr} : ∀ {vs : List V} {ds : List T} (j : Nat), Rps K F ι vs ds → Rps K F ι (vs.eraseIdx j) (ds.eraseIdx j)
  | _, _, _, .nil => .nil
  | _, _, 0, .cons r t => t
  | _, _, j + 1, .cons r t => .cons r (Rps.eraseIdx j t)
section
variable {X : Cx} {E : XK} {k : Nat}
theorem m_popAt : MtD X E "list.pop" gPopAt := by
  intro pins s σ H x xs v us Q I rx rxs ⟨F, ι, μ, d, ds, hr, rd, rs, hp⟩
  unfold gPopAt at hp
  split at hp
  · rename_i k i
    cases hb : decide (-(2 ^ 63) ≤ i) && decide (i < 2 ^ 63) with
    | false => rw [hb] at hp; exact hp.elim
    | true =>
      rw [hb] at hp
      rw [Bool.and_eq_true, decide_eq_true_eq, decide_eq_true_eq] at hb
      obtain ⟨a, ys, es, y, zs, rfl, ha, re, hf, fin⟩ := onCell_post hr rd hp
      cases hj : seqIndex? i es.length with
      | none => rw [hj] at hf; cases hf
      | some j =>
        rw [hj] at hf
        cases hy : es[j]? with
        | none => simp only [hy] at hf; cases hf
        | some y' =>
          simp only [hy] at hf
          cases hf
          cases rs with
          | cons r1 t =>
            cases t
            cases r1
            obtain ⟨w, hw, rw'⟩ := re.get hy
            obtain ⟨x2, _, q⟩ := fin _ (re.eraseIdx j)
            exact mt_popAt pins s σ H _ _ v us Q I rx rxs ⟨a, ys, i, j, w, rfl, rfl, ha, hb.1, hb.2, by rw [re.length]; exact hj, hw, q _ (rw'.ext x2)⟩
  · exact hp.elim
end
section
variable {P : Program} {w : World} {K : PySem.W.Frag} {mg : Str → Option Value} {base : Heap}
/-- a def of which nothing is asked -/
theorem def_no {x : Str} {st : Stmt} {f : Addr} {fd : FuncData} {ps : List Str} {k n : Nat} (gf : mg x = some (.ref f)) (Fu : Fun K x x st f fd) (hn : ps.length = n)
    (hbi : ∀ (kV doc pm : Value) (an : Option Addr) (cdv ct : Value) (us : List Value), us.length = ps.length → bindArgs (PySem.W.fnOf x x (defArgs st) (defBody st) (defScope st) .none kV doc pm an cdv ct) ⟨us, []⟩ = pure (ps.zip us)) : Def P w K mg base x k n (fun _ => M.no) :=
  ⟨f, fd, ps, gf, Fu.kp, Fu.binds hbi, hn, fun _ _ _ _ _ _ _ _ _ _ _ _ _ _ _ _ _ _ _ _ _ hp => hp.elim⟩
end
end TL

/-! T layer 21: sum of lists, as a list that is laid anew. -/
namespace TL
open PySem PySem.Spec PyProof.Rows L2 StX
variable [Tb]
def gSum2L (ds : List T) : M (List T) := match ds with
  | [d, e] => M.bind (ld d) fun d => match listOf d with
    | some es => (match e with
      | .lst ys => (match lstsOf es with
        | some xss => bif fits (ys.length + xss.flatten.length) && decide (xss.flatten ≠ []) then M.pure (ys ++ xss.flatten) else M.no
        | none => M.no)
      | _ => M.no)
    | none => M.no
  | _ => M.no
section
variable {X : Cx} {E : XK} {k : Nat}
theorem cl_sum2 (o : XO X E k) : CallL X E (.builtin "sum") gSum2L := by
  intro pins s σ H xs us Q I rv ⟨F, ι, μ, ds, hr, rs, hp⟩
  unfold gSum2L at hp
  split at hp
  · rename_i d e
    cases rs with
    | cons r1 t =>
      cases t with
      | cons r2 t =>
        cases t
        obtain ⟨d', lx, hp⟩ := ld_post hr r1 hp
        obtain ⟨u1, u2, rfl, ru1, ru2⟩ := vals2 rv
        have seq : ∀ {es : List T}, listOf d' = some es → ∃ a vs its, (u1 = Value.ref a) ∧ Vals vs its ∧ s.heap.IsList a its.toArray ∧ Rps X.K F ι vs es := fun {es} h => by
          cases lx with
          | lst ha ra =>
            cases h
            obtain ⟨its, r, p, _⟩ := I.list (SqL.of ha)
            cases ru1
            exact ⟨_, _, its, rfl, r, p.isList, ra⟩
          | fls ha ra =>
            cases h
            obtain ⟨its, r, p, _⟩ := I.list (hr.sub.sub.seqL ha)
            cases ru1
            exact ⟨_, _, its, rfl, r, p.isList, ra⟩
          | _ => cases h
        have hh : X.A.in1.handled = none := I.ok.hd o.calm
        cases hd : listOf d' with
        | none => rw [hd] at hp; exact hp.elim
        | some es =>
          rw [hd] at hp
          cases e with
          | lst ys =>
            simp only at hp
            obtain ⟨a, vs, its, rfl, rvs, hl, res⟩ := seq hd
            cases hx : lstsOf es with
            | none => rw [hx] at hp; exact hp.elim
            | some xss =>
              rw [hx] at hp
              simp only at hp
              cases hz : fits (ys.length + xss.flatten.length) && decide (xss.flatten ≠ []) with
              | false => rw [hz] at hp; exact hp.elim
              | true =>
                rw [hz] at hp
                rw [Bool.and_eq_true, decide_eq_true_eq] at hz
                obtain ⟨hz, hne⟩ := hz
                have hp := (show Post X.K X.mg E (M.pure (ys ++ xss.flatten) μ) F ι H _ from hp)
                obtain ⟨iss, ws, hl2, hi, hv, hws⟩ := items_lst I hr res hx rvs
                cases r2 with
                | lst hb rb =>
                  cases ru2
                  obtain ⟨z0, its0, n0, r0, e0⟩ := I.hok _ _ (hr.sub _ _ hb)
                  have sz : its.toArray.size = iss.length := by simp [hl2]
                  have hlen : its0.length + (accV iss its.toArray.size).length ≤ sizeLine := by
                    rw [sz, accV_all, ← r0.length, ← hv.length, hws.length, rb.length]
                    exact fits_le hz
                  refine call_sum2 hh hl (T := "list") ⟨_, e0, rfl⟩ sl_str sl_bytes sl_ba (sumL ⟨n0, e0⟩ (fun i v hiv => hi i v (by simpa using hiv)) hlen) (fun h' kp => ⟨⟨n0, by simpa [accV] using kp _ _ e0⟩, .inl ⟨rfl, rfl⟩⟩) fun h' q' kp ⟨⟨n, e⟩, hq⟩ => ?_
                  rw [sz, accV_all] at e hq
                  rcases hq with ⟨rfl, hq⟩ | hq
                  · refine ⟨.ref q', H, I.kept (t' := s.toks) kp, rfl, ?_⟩
                    have e1 : ws = [] := by
                      have := hv.length
                      rw [hq] at this
                      exact List.length_eq_zero_iff.mp this
                    have e2 : xss.flatten = [] := by
                      have := hws.length
                      rw [e1] at this
                      exact List.length_eq_zero_iff.mp this.symm
                    exact (hne e2).elim
                  · have nq : H q' = none := I.hok.fresh (by omega)
                    refine ⟨.ref q', upd H q' (.lst (_ ++ ws)), I.laid (t' := s.toks) (o := .lst (_ ++ ws)) kp (by omega) ?_, rfl, Post.pure (mg := X.mg) (E := E) (a := ys ++ xss.flatten) hp hr q' _ _ (fun a z => upd_ne z) nq upd_same (rb.append hws)⟩
                    rw [sz, accV_all, ← r0.length, ← hv.length] at hlen
                    exact ⟨by rw [List.length_append]; exact hlen, _, n, r0.append hv, e⟩
          | _ => exact hp.elim
  · exact hp.elim
end
end TL

/-! T layer 22: sorted of a list or tuple. -/
namespace TL
open PySem PySem.Spec PyProof.Rows PySem.W L2 StX
variable [Tb]

section
variable {prog : Program} {w : World} {A : Around} {E : Value → Shared → Prop} {s : Shared} {β : Type} {vs : List Value} {bs : List β} {enc : β → PyData} {R : Value → β → Prop}
/-- the items of a tuple, gathered into a list: where it lies -/
theorem collect_tup {l : Addr} {o : Obj} {n : Nat} {Q : List Value → Shared → Prop} (ho : s.heap.get? l = some o) (hc : o.cls = .type "tuple") (hd : o.data = .seq vs.toArray n)
    (h : Q vs { s with heap := (s.heap.push (seqObj "list" #[] 0)).update s.heap.objs.size (Obj.mapSeq (· ++ vs.toArray)) }) (hsz : vs.length ≤ sizeLine) :
    wpAny (model prog w) A (collect (.ref l)) Q E s := by
  unfold collect
  refine wpAny_bind (wpAny_runValue (codeAny_builtin PySem.F.entry_proto_collect ?_))
  rw [Around.under_plainId PySem.F.plain_proto_collect _]
  show wpAny _ A.in1 (newList [] >>= fun x => again (.builtin "list.__iadd__" ⟨[x, .ref l], []⟩)) _ _ s
  refine wpAny_bind (wpAny_newObj_type ?_)
  refine wpAny_pure ⟨plainId_quiet PySem.F.plain_list_iadd _, codeAny_builtin PySem.F.entry_list_iadd ?_⟩
  rw [Around.under_plainId PySem.F.plain_list_iadd _]
  have hp : (s.heap.push (seqObj "list" #[] 0)).get? s.heap.objs.size = some (seqObj "list" #[] 0) := Heap.get?_push_size _ rfl
  show wpAny _ A.in1 (Builtin.List.listExtendWith (.ref s.heap.objs.size) (.ref l) (.ref s.heap.objs.size)) _ _ _
  have fin : wpAny (model prog w) A (match Value.ref s.heap.objs.size with
      | Value.ref a => do
        match (← load a).data with
          | Data.seq xs _ => pure xs.toList
          | _ => unsupported "internal:collect"
      | _ => unsupported "internal:collect") Q E { s with heap := (s.heap.push (seqObj "list" #[] 0)).update s.heap.objs.size (Obj.mapSeq (· ++ vs.toArray)) } := by
    show wpAny _ A (load s.heap.objs.size >>= _) _ _ _
    refine wpAny_bind (wpAny_load (get?_update_seq hp _) ?_)
    have e : ((#[] : Array Value) ++ vs.toArray).toList = vs := by simp
    show wpAny _ _ (pure ((#[] : Array Value) ++ vs.toArray).toList) Q E _
    rw [e]
    exact wpAny_pure h
  refine wpAny_mono (wpAny_extend_seq (hsz := by simpa using hsz) (A := A) (R := fun r s' => r = .ok (.ret (.ref s.heap.objs.size)) ∧ s' = { s with heap := (s.heap.push (seqObj "list" #[] 0)).update s.heap.objs.size (Obj.mapSeq (· ++ vs.toArray)) })
    (s := { s with heap := s.heap.push (seqObj "list" #[] 0) }) s.heap.objs.size l _ 0 (.inr rfl) hp (Heap.get?_push_of_some _ ho) hc hd ⟨rfl, rfl⟩) (fun r s' q => ?_) (fun e s' q => nomatch q.1)
  cases r with
  | done f =>
    obtain ⟨e, rfl⟩ := q
    cases e
    exact fin
  | again c => exact ⟨q.1, codeAny_mono q.2 fun r s'' hr => by obtain ⟨rfl, rfl⟩ := hr; exact fin⟩
theorem sorted_seq_data {l : Addr} {T : String} {o : Obj} {n : Nat} {Q : Value → Shared → Prop} (hT : T = "tuple") (ho : s.heap.get? l = some o) (hc : o.cls = .type T) (hd : o.data = .seq vs.toArray n)
    (e : EachIs R vs bs) (er : EachIs (fun v b => ∃ as, Reads s.heap v (enc b) as) vs bs) (hal : AllAlike (bs.map enc)) (hk : Sortable2 (bs.map enc)) (hL : bs.length ≤ sizeLine)
    (hu : ∀ b, b ∈ bs → A.units + 2 + (enc b).depth < cLine)
    (h : ∀ (out : List Value) p h', out.length = bs.length → EachIs R out (bs.mergeSort (dataLe false enc)) → s.heap.objs.size ≤ p → (∀ b o, s.heap.get? b = some o → h'.get? b = some o) → (∃ c, h'.get? p = some (seqObj "list" out.toArray c)) → Q (.ref p) { s with heap := h' }) :
    wpAny (model prog w) A (call (.builtin "sorted") [.ref l]) Q E s := by
  have hLv : vs.length ≤ sizeLine := by rw [e.length]; exact hL
  refine call_function_entry_kw kind_sorted plain_sorted entry_sorted (args_sorted1 _) ?_
  unfold Builtin.«sorted»
  refine wpAny_bind (m := checkCount "sorted" 1 1 _) (wpAny_pure ?_)
  subst hT
  have k1 : ∀ b ob, s.heap.get? b = some ob → ((s.heap.push (seqObj "list" #[] 0)).update s.heap.objs.size (Obj.mapSeq (· ++ vs.toArray))).get? b = some ob := fun b ob eo =>
    (Heap.get?_update_ne _ _ _ _ (Nat.ne_of_lt (Heap.lt_size eo))).trans (Heap.get?_push_of_some _ eo)
  have sz : s.heap.objs.size ≤ ((s.heap.push (seqObj "list" #[] 0)).update s.heap.objs.size (Obj.mapSeq (· ++ vs.toArray))).objs.size := by
    rw [Heap.size_update, size_push']
    exact Nat.le_succ _
  refine wpAny_bind (collect_tup ho hc hd ?_ hLv)
  generalize (s.heap.push (seqObj "list" #[] 0)).update s.heap.objs.size (Obj.mapSeq (· ++ vs.toArray)) = h1 at k1 sz ⊢
  refine wpAny_bind (wpAny_newList ?_ hLv)
  have hp : (h1.push (seqObj "list" vs.toArray 0)).get? h1.objs.size = some (seqObj "list" vs.toArray 0) := Heap.get?_push_size _ rfl
  have old : ∀ b ob, s.heap.get? b = some ob → b ≠ h1.objs.size ∧ (h1.push (seqObj "list" vs.toArray 0)).get? b = some ob := fun b ob eo => ⟨Nat.ne_of_lt (Heap.lt_size (k1 _ _ eo)), Heap.get?_push_of_some _ (k1 _ _ eo)⟩
  have er' : EachIs (fun v b => ∃ as, Reads (sortingHeap (h1.push (seqObj "list" vs.toArray 0)) h1.objs.size vs) v (enc b) as) vs bs := er.mono fun _ _ ⟨as, r⟩ => ⟨as, PyProof.Rows.Reads.keeps (fun b ob eo => sortingHeap_old (old b ob eo).1 (old b ob eo).2) r⟩
  refine wpAny_bind (wpAny_holding (wpAny_call_entry_kw slot_list_sort ⟨_, hp, rfl⟩ entry_list_sort ?body (args_list_sort _)))
  case body =>
    show wpAny (model prog w) A.in1.in1 (Builtin.«list.sort» ⟨[.ref h1.objs.size], []⟩) _ _ { s with heap := h1.push (seqObj "list" vs.toArray 0) }
    refine list_sort_vals (s := { s with heap := h1.push (seqObj "list" vs.toArray 0) }) hp (sortsAt2 (s := { s with heap := sortingHeap (h1.push (seqObj "list" vs.toArray 0)) h1.objs.size vs }) (each_map (R := fun v d => ∃ as, Reads (sortingHeap (h1.push (seqObj "list" vs.toArray 0)) h1.objs.size vs) v d as) enc er') hal hk (bound_map hu)) hLv ?_
    refine ⟨_, rfl, wpAny_pure ⟨_, rfl, ?_⟩⟩
    refine h _ _ _ (by rw [sortVals_length false rfl]; exact e.length) (sortVals_data false e er' hal) sz (fun b ob eo => ?_) (sortedHeap_at hp)
    obtain ⟨h2, h3⟩ := old b ob eo
    exact (sortedHeap_old h2 (Heap.lt_size h3)).trans h3
end
end TL

/-! T layer 23: sorted of a tuple. -/
namespace TL
open PySem PySem.Spec PyProof.Rows L2 StX
variable [Tb]
def tupOf : T → Option (List T)
  | .tup xs => some xs
  | .ftp xs => some xs
  | _ => none
def gSortT : List T → M (List T)
  | [d] => M.bind (ld d) fun d => match tupOf d with
    | some ds => gSort ds
    | none => M.no
  | _ => M.no
section
variable {X : Cx} {E : XK} {k : Nat}
theorem c_sortT (o : XO X E k) : CallL X E (.builtin "sorted") gSortT := by
  intro pins s σ H xs us Q I rv ⟨F, ι, μ, ds, hr, rs, hp⟩
  unfold gSortT at hp
  split at hp
  · cases rs with
    | cons r1 t =>
      cases t
      obtain ⟨d', lx, hp⟩ := ld_post hr r1 hp
      obtain ⟨u1, rfl, ru1⟩ := vals1 rv
      cases hd : tupOf d' with
      | none => rw [hd] at hp; exact hp.elim
      | some es =>
        rw [hd] at hp
        simp only [gSort] at hp
        obtain ⟨a, vs, its, rfl, rvs, ⟨ob, ho1, ho2, n1, ho3⟩, res⟩ : ∃ a vs its, (u1 = Value.ref a) ∧ Vals vs its ∧ IsTup s.heap a its.toArray ∧ Rps X.K F ι vs es := by
          cases lx with
          | tup ha ra =>
            cases hd
            obtain ⟨its, r, p, _⟩ := I.tuple (SqT.of (hr.sub _ _ ha))
            cases ru1
            exact ⟨_, _, its, rfl, r, p, ra⟩
          | ftp ha ra =>
            cases hd
            obtain ⟨its, r, p, _⟩ := I.tuple (hr.sub.sub.seqT ha.t)
            cases ru1
            exact ⟨_, _, its, rfl, r, p, ra⟩
          | _ => cases hd
        cases hz : srtOk es with
        | false => rw [hz] at hp; exact hp.elim
        | true =>
          rw [hz] at hp
          have hp : Post X.K X.mg E (M.pure (es.mergeSort leT) μ) F ι H _ := hp
          unfold srtOk at hz
          rw [Bool.and_eq_true, Bool.and_eq_true, Bool.and_eq_true] at hz
          obtain ⟨⟨⟨h1, h2⟩, h3⟩, h4⟩ := hz
          have shp1 : ∀ d ∈ es, shp d = true := fun d hd => List.all_eq_true.mp h1 d hd
          have er : PySem.W.EachIs (fun u d => ∃ as, Reads s.heap u (toD d) as) its es := by
            have go : ∀ {vs : List V} {us : List Value} {ds : List T}, Vals vs us → Rps X.K F ι vs ds → (∀ d ∈ ds, shp d = true) → PySem.W.EachIs (fun u d => ∃ as, Reads s.heap u (toD d) as) us ds := by
              intro vs us ds a
              induction a generalizing ds with
              | nil => intro b _; cases b; exact .nil
              | cons r t ih =>
                intro b h
                cases b with
                | cons q s => exact .cons (Dp.reads I _ _ _ (q.dp hr.sub (shp_ok (h _ List.mem_cons_self))) r) (ih s fun d hd => h d (List.mem_cons_of_mem _ hd))
            exact go rvs res shp1
          refine sorted_seq_data (enc := toD) rfl ho1 ho2 ho3 (each_of rvs res) er ?_ ?_ (fits_le h4) ?_ ?_
          · intro x hx y hy
            obtain ⟨b, hb, rfl⟩ := List.mem_map.mp hx
            obtain ⟨c, hc, rfl⟩ := List.mem_map.mp hy
            exact List.all_eq_true.mp (List.all_eq_true.mp h2 b hb) c hc
          · rw [Bool.or_eq_true] at h3
            rcases h3 with h3 | h3
            · refine .inl fun d hd => ?_
              obtain ⟨b, hb, rfl⟩ := List.mem_map.mp hd
              have q := List.all_eq_true.mp h3 b hb
              unfold neTup at q
              split at q
              · exact ⟨_, by simp only [toD]; rfl⟩
              · exact ⟨_, by simp only [toD]; rfl⟩
              · cases q
            · refine .inr fun d hd => ?_
              obtain ⟨b, hb, rfl⟩ := List.mem_map.mp hd
              have q := List.all_eq_true.mp h3 b hb
              have ok := shp_ok (shp1 b hb)
              unfold noTup at q
              split at q
              · cases q
              · cases q
              · cases q
              · cases b <;> simp_all [toD, okT]
          · intro b hb
            have h := shp1 b hb
            unfold shp at h
            rw [Bool.and_eq_true] at h
            have h5 : (toD b).depth ≤ 64 := of_decide_eq_true h.2
            have := o.room.un
            omega
          · intro out p h' ho eo sz kp ⟨c, hc⟩
            obtain ⟨ws, rw1, rw2⟩ := each_back eo
            have nq : H p = none := I.hok.fresh sz
            have rw3 : Rps X.K F ι ws (es.mergeSort leT) := rw2
            refine ⟨.ref p, upd H p (.lst ws), I.laid (t' := s.toks) (o := .lst ws) kp sz ?_, rfl,
              hp F ι H (.refl ..) hr _ ws _ (fun a z => upd_ne z) nq upd_same rw3⟩
            exact ⟨by rw [rw1.length, ho]; exact fits_le h4, _, c, rw1, hc⟩
  · exact hp.elim
/-- sorted of a list or tuple -/
def gSortA : List T → M (List T)
  | [.tup ds] => gSortT [.tup ds]
  | [.ftp ds] => gSortT [.ftp ds]
  | ds => gSorted ds
theorem c_sortA (o : XO X E k) : CallL X E (.builtin "sorted") gSortA := by
  intro pins s σ H xs us Q I rv ⟨F, ι, μ, ds, hr, rs, hp⟩
  unfold gSortA at hp
  split at hp
  · exact c_sortT o pins s σ H xs us Q I rv ⟨F, ι, μ, _, hr, rs, hp⟩
  · exact c_sortT o pins s σ H xs us Q I rv ⟨F, ι, μ, _, hr, rs, hp⟩
  · exact c_sorted o pins s σ H xs us Q I rv ⟨F, ι, μ, _, hr, rs, hp⟩
end
end TL

/-! T layer 24: powers of great numbers. -/
namespace TL
open PySem PySem.Spec PyProof.Rows L2 StX
variable [Tb]
def gPowW : T → T → M T
  | .int i, .int j => bif decide (0 ≤ j) && decide ((Builtin.Int.intBits i : Int) * j ≤ 2 ^ 27) then M.pure (.int (i ^ j.toNat)) else M.no
  | _, _ => M.no
section
variable {X : Cx} {E : XK}
theorem o_powW : OpD X E (binaryOp .Pow) (ld2 gPowW) := by
  intro pins s σ H x y v u Q I rx ry ⟨F, ι, μ, d, e, hr, hx, hy, hp⟩
  obtain ⟨d', lx, hp⟩ := ld_post hr hx hp
  obtain ⟨e', ly, hp⟩ := ld_post hr hy hp
  cases lx with
  | int i => cases ly with
    | int j =>
      obtain ⟨t1, rfl⟩ := rx
      obtain ⟨t2, rfl⟩ := ry
      unfold gPowW at hp
      simp only at hp
      cases hb : decide (0 ≤ j) && decide ((Builtin.Int.intBits i : Int) * j ≤ 2 ^ 27) with
      | false => rw [hb] at hp; exact hp.elim
      | true =>
        rw [hb] at hp
        rw [Bool.and_eq_true, decide_eq_true_eq, decide_eq_true_eq] at hb
        exact pow_int hb.1 hb.2 ⟨V.int (i ^ j.toNat), H, I.kept (fun _ _ e => e), ⟨_, rfl⟩, Post.pure (mg := X.mg) (E := E) hp hr _ (.int _)⟩
    | _ => exact hp.elim
  | _ => exact hp.elim
end
end TL

/-! T layer 25: a call with no cells among its arguments is run apart: at the empty store; the caller's store stays as it was. -/
namespace TL
open PySem PySem.Spec PyProof.Rows L2
variable [Tb]

mutual
/-- no cells within -/
def pureT : T → Bool
  | .non => true
  | .bl _ => true
  | .int _ => true
  | .str _ => true
  | .lst xs => pureTs xs
  | .fls xs => pureTs xs
  | .tup xs => pureTs xs
  | .ftp xs => pureTs xs
  | .dic _ kvs => pureTk kvs
  | .cell _ => false
  | .ref _ => true
  | .ty _ => true
  | .exn _ _ _ => false
def pureTs : List T → Bool
  | [] => true
  | x :: xs => pureT x && pureTs xs
def pureTk : List (T × T) → Bool
  | [] => true
  | (_, b) :: r => pureT b && pureTk r
end
def pureO : Ob → Bool
  | .lst xs => pureTs xs
  | .dic _ kvs => pureTk kvs
def pureF : List (Str × T) → Bool
  | [] => true
  | (_, b) :: r => pureT b && pureF r
def pureX (e : Exn) : Bool := pureF e.fs
/-- what a call adds to the store and nobody has is dropped -/
def tidy (μ : Store) (r : R T) : R T := match r with
  | .ok d ν => bif pureT d && (ν.take μ.length).all (fun c => pureO c.o) then .ok d (ν.take μ.length) else .ok d ν
  | r => r
def callX (m : List T → M T) (ds : List T) : M T := fun μ => bif pureTs ds then (match m ds [] with
    | .ok d _ => bif pureT d then .ok d μ else tidy μ (m ds μ)
    | .err e _ => bif pureX e then .err e μ else m ds μ
    | .no => .no)
  else tidy μ (m ds μ)
def eCallX (n : Nat) (m : List T → M T) (fa : Env → M (List T)) : Env → M T := fun ρ => M.bind (fa ρ) fun ds => bif ds.length == n then callX m ds else M.no
section
variable {K : PySem.W.Frag} {F : Hp} {ι ι' : List Addr}
mutual
theorem Rp.clean {v : V} {d : T} : Rp K F ι v d → pureT d = true → Rp K F ι' v d
  | .non, _ => .non
  | .bl b, _ => .bl b
  | .int i, _ => .int i
  | .str x, _ => .str x
  | .lst s r, h => .lst s (Rps.clean r (by simpa only [pureT] using h))
  | .fls s r, h => .fls s (Rps.clean r (by simpa only [pureT] using h))
  | .tup s r, h => .tup s (Rps.clean r (by simpa only [pureT] using h))
  | .ftp s r, h => .ftp s (Rps.clean r (by simpa only [pureT] using h))
  | .dic s r, h => .dic s (Rpk.clean r (by simpa only [pureT] using h))
  | .dit s r, h => .dit s (Rpt.clean r (by simpa only [pureT] using h))
  | .cell e, h => by simp [pureT] at h
  | .ref a, _ => .ref a
  | .ty n, _ => .ty n
  | .exn _ _, h => by simp [pureT] at h
theorem Rps.clean {v : List V} {d : List T} : Rps K F ι v d → pureTs d = true → Rps K F ι' v d
  | .nil, _ => .nil
  | .cons r t, h => .cons (Rp.clean r (by simp only [pureTs, Bool.and_eq_true] at h; exact h.1)) (Rps.clean t (by simp only [pureTs, Bool.and_eq_true] at h; exact h.2))
theorem Rpk.clean {v : List (Key × V)} {d : List (T × T)} : Rpk K F ι v d → pureTk d = true → Rpk K F ι' v d
  | .nil, _ => .nil
  | .cons r t, h => .cons (Rp.clean r (by simp only [pureTk, Bool.and_eq_true] at h; exact h.1)) (Rpk.clean t (by simp only [pureTk, Bool.and_eq_true] at h; exact h.2))
theorem Rpt.clean {v : List (List Key × V)} {d : List (T × T)} : Rpt K F ι v d → pureTk d = true → Rpt K F ι' v d
  | .nil, _ => .nil
  | .cons r t, h => .cons (Rp.clean r (by simp only [pureTk, Bool.and_eq_true] at h; exact h.1)) (Rpt.clean t (by simp only [pureTk, Bool.and_eq_true] at h; exact h.2))
end
theorem Rpx.clean {K : PySem.W.Frag} {F : Hp} {ι ι' : List Addr} : ∀ {v : List (Str × V)} {d : List (Str × T)}, Rpx K F ι v d → pureF d = true → Rpx K F ι' v d
  | _, _, .nil, _ => .nil
  | _, _, .cons r t, h => by
    simp only [pureF, Bool.and_eq_true] at h
    exact .cons (Rp.clean r h.1) (Rpx.clean t h.2)
theorem RpO.clean {u : HO} {o : Ob} : RpO K F ι u o → pureO o = true → RpO K F ι' u o
  | .lst r, h => .lst (r.clean h)
  | .dic r, h => .dic (r.clean h)
  | .dit r, h => .dit (r.clean h)
  | .fdic r, h => .fdic (r.clean h)
  | .fdit r, h => .fdit (r.clean h)
theorem pureF_map : ∀ fs : List (Str × T), pureF fs = true → pureTs (fs.map (·.2)) = true
  | [], _ => rfl
  | (_, b) :: r, h => by
    simp only [pureF, Bool.and_eq_true] at h
    simp only [List.map_cons, pureTs, Bool.and_eq_true]
    exact ⟨h.1, pureF_map r h.2⟩
theorem XRp.clean {mg : Str → Option Value} {cls : Value} {dx : Option Addr} {H : Hp} {e : Exn} : XRp K mg F ι cls dx H e → pureX e = true → XRp K mg F ι' cls dx H e
  | ⟨h1, h2⟩, h => ⟨h1, h2.imp id fun ⟨d, fs, a, b, r⟩ => ⟨d, fs, a, b, r.clean h⟩⟩
theorem Rel.nil {μ : Store} {H : Hp} (r : Rel K F ι μ H) : Rel K F [] [] H := ⟨r.sub, .nil, rfl, fun k a c h => by simp at h, r.tab, r.nt⟩
theorem Ext.nil {F' : Hp} {H H' : Hp} {μ ν : Store} (r : Rel K F ι μ H) (x : Ext F [] H F' ι' H') (r' : Rel K F' ι' ν H') : Ext F ι H F' ι H' ∧ Rel K F' ι μ H' := by
  have hx : ∀ a o, H a = some o → (∀ ps, o ≠ .tbl ps) → H' a = some o := fun a o e nt => x.h a o e (by simp) nt
  refine ⟨⟨x.f, .refl _, fun a o e _ nt => hx a o e nt, fun a m => .inl m, fun a o e => (x.fnew a o e).imp id fun h => .inr (h.resolve_left (by simp))⟩,
    ⟨r'.sub, r.nd, r.len, fun k a c h1 h2 => ?_, r'.tab, r'.nt⟩⟩
  obtain ⟨u, e1, e2, e3, e4, e5, e6⟩ := r.cel k a c h1 h2
  refine ⟨u, hx a u e1 e2.plain.1, e2.mono x.f.sub (.refl _), fun hl => ?_, fun hl => x.f a u (e4 hl), e5, e6⟩
  cases z : F' a with
  | none => rfl
  | some o =>
    rcases x.fnew a o z with y | y | y | ⟨xs, rfl, y⟩ | ⟨ps, y⟩
    · rw [e3 hl] at y; cases y
    · simp at y
    · rw [y] at e1; cases e1
    · rw [y] at e1; cases e1; cases e2
    · exact (e2.plain.1 ps (by rw [y] at e1; exact (Option.some.inj e1).symm)).elim
theorem Rel.cut {F' : Hp} {H H' : Hp} {μ ν : Store} (r : Rel K F ι μ H) (x : Ext F ι H F' ι' H') (r' : Rel K F' ι' ν H') (h : (ν.take μ.length).all (fun c => pureO c.o) = true) : Ext F ι H F' ι H' ∧ Rel K F' ι (ν.take μ.length) H' := by
  obtain ⟨q, rfl⟩ := x.i
  have hl : μ.length ≤ ν.length := by have := r'.len; have := r.len; simp at *; omega
  refine ⟨⟨x.f, .refl _, x.h, fun a m => .inl m, x.fnew⟩, ⟨r'.sub, r.nd, by rw [List.length_take, r.len]; omega, fun k a c h1 h2 => ?_, r'.tab, r'.nt⟩⟩
  have hk : k < ι.length := (List.getElem?_eq_some_iff.mp h1).1
  have h3 : ν[k]? = some c := by
    rw [List.getElem?_take] at h2
    split at h2
    · exact h2
    · cases h2
  obtain ⟨u, e1, e2, e3⟩ := r'.cel k a c (by rw [List.getElem?_append_left hk]; exact h1) h3
  exact ⟨u, e1, e2.clean (List.all_eq_true.mp h c (List.mem_of_getElem? h2)), e3⟩
end
section
variable {K : PySem.W.Frag} {mg : Str → Option Value} {E : XK} {F : Hp} {ι : List Addr} {H : Hp} {μ : Store} {m : List T → M T} {ds : List T} {Q : VK}
theorem tidy_post (hr : Rel K F ι μ H) (hp : Post K mg E (tidy μ (m ds μ)) F ι H (wT K Q)) : Post K mg E (m ds μ) F ι H (wT K Q) := by
  cases e : m ds μ with
  | no => rw [e] at hp; exact hp
  | err x ν => rw [e] at hp; exact hp
  | ok d ν =>
    rw [e] at hp
    unfold tidy at hp
    simp only [] at hp
    cases hb : (pureT d && (ν.take μ.length).all (fun c => pureO c.o)) with
    | false => rw [hb] at hp; exact hp
    | true =>
      rw [hb] at hp
      rw [Bool.and_eq_true] at hb
      intro F' ι' H' x r' v rv
      obtain ⟨x2, r2⟩ := hr.cut x r' hb.2
      exact hp F' ι H' x2 r2 v (rv.clean hb.1)
theorem callX_post {vs : List V} (hr : Rel K F ι μ H) (rs : Rps K F ι vs ds) (hp : Post K mg E (callX m ds μ) F ι H (wT K Q)) : ∃ ι0 μ0, Rel K F ι0 μ0 H ∧ Rps K F ι0 vs ds ∧ Post K mg E (m ds μ0) F ι0 H (wT K Q) := by
  unfold callX at hp
  cases hd : pureTs ds with
  | false => rw [hd] at hp; exact ⟨ι, μ, hr, rs, tidy_post hr hp⟩
  | true =>
    rw [hd] at hp
    simp only [cond_true] at hp
    cases e : m ds [] with
    | no => rw [e] at hp; exact hp.elim
    | ok d ν =>
      rw [e] at hp
      simp only [] at hp
      cases hb : pureT d with
      | false => rw [hb] at hp; exact ⟨ι, μ, hr, rs, tidy_post hr hp⟩
      | true =>
        rw [hb] at hp
        refine ⟨[], [], hr.nil, rs.clean hd, ?_⟩
        rw [e]
        intro F' ι' H' x r' v rv
        obtain ⟨x2, r2⟩ := Ext.nil hr x r'
        exact hp F' ι H' x2 r2 v (rv.clean hb)
    | err z ν =>
      rw [e] at hp
      simp only [] at hp
      cases hb : pureX z with
      | false => rw [hb] at hp; exact ⟨ι, μ, hr, rs, hp⟩
      | true =>
        rw [hb] at hp
        refine ⟨[], [], hr.nil, rs.clean hd, ?_⟩
        rw [e]
        intro F' ι' H' cls dx x r' xr
        obtain ⟨x2, r2⟩ := Ext.nil hr x r'
        exact hp F' ι H' cls dx x2 r2 (xr.clean hb)
end
section
variable {X : Cx} {E : XK} {k k' : Nat} {x : Str} {p pos : Pos} {e : Expr} {es : List Expr} {fa : Env → M (List T)} {n : Nat} {m : List T → M T}
theorem d_callX (D : Def X.prog X.w X.K X.mg X.base x k n m) (o : XO X E k') (ha : DA X E (e :: es) fa) (hk : k ≤ k' := by decide) (hg : Gl X x := by rfl) (hdb : (x == ("__debug__" : Str)) = false := by decide)
    (he : starEach (e :: es) X.env = (false, eval e X.env) :: starEach es X.env := by rfl) (hpl : (backTo pos (starEach es X.env)).any (·.1) = false := by rfl) : DE X E (.Call (.Name x p) (e :: es) [] pos) (eCallX n m fa) := by
  obtain ⟨f, fd, ps, hm, kp, hb, hn, G⟩ := D
  refine ⟨fun pins s σ H Q I ⟨F, ι, μ, ρ, hr, hen, hp⟩ => wpAny_Call_Name_kw (ld_glob I hg hm ?_ hdb)⟩
  refine PySem.W.callWith_K (h₀ := X.base) I.ok.mod.kin kp (thn (ha.run pos pins s σ H (fun vs H1 => ∃ F1 ι1 μ1 ds, Rel X.K F1 ι1 μ1 H1 ∧ Rps X.K F1 ι1 vs ds ∧ vs.length = n ∧ Post X.K X.mg E (m ds μ1) F1 ι1 H1 (wT X.K Q)) I (At.a hr hen hp fun F1 ι1 μ1 H1 vs ds x1 r1 rs p1 => ?_)) fun us s1 hh => ?_) he hpl
  · cases hz : (ds.length == n) with
    | false => rw [hz] at p1; exact p1.elim
    | true =>
      rw [hz] at p1
      obtain ⟨ι0, μ0, r0, s0, p0⟩ := callX_post r1 rs p1
      exact ⟨F1, ι0, μ0, ds, r0, s0, by rw [rs.length]; exact beq_iff_eq.mp hz, p0⟩
  · obtain ⟨vs, H1, I1, r, F1, ι1, μ1, ds, r1, rs, hl, p1⟩ := hh
    exact ⟨I1.kIn, run_fnG G o hk hb I1 r (hl.trans hn.symm) r1 rs p1⟩
theorem d_callX0 (D : Def X.prog X.w X.K X.mg X.base x k 0 m) (o : XO X E k') (hk : k ≤ k' := by decide) (hg : Gl X x := by rfl) (hdb : (x == ("__debug__" : Str)) = false := by decide) : DE X E (.Call (.Name x p) [] [] pos) (eCallX 0 m aNil) := by
  obtain ⟨f, fd, ps, hm, kp, hb, hn, G⟩ := D
  refine ⟨fun pins s σ H Q I ⟨F, ι, μ, ρ, hr, hen, hp⟩ => wpAny_Call_Name_kw (ld_glob I hg hm ?_ hdb)⟩
  obtain ⟨ι0, μ0, r0, s0, p0⟩ := callX_post hr .nil hp
  exact PySem.W.callWith_K0 I.kIn kp (run_fnG (us := []) (vs := []) (ds := []) G o hk hb I .nil hn.symm r0 .nil p0)
end
end TL

/-! T layer 26: a def with a star parameter at its end: its tuple is laid at the call. -/
namespace TL
open PySem PySem.Spec PyProof.Rows L2
variable [Tb]

theorem ub_new {fs : List Addr} {H H' : Hp} {h h2 B h' : Heap} {p : Addr} {xs : List V} (kp : ∀ b o, h.get? b = some o → h2.get? b = some o) (hs : h.objs.size ≤ p) (hp : H p = none) (u : UB fs (upd H p (.tup xs)) H' h2 B h') : UB fs H H' h B h' := by
  have ne : ∀ b o, h.get? b = some o → b ≠ p := fun b o e z => Nat.lt_irrefl _ (Nat.lt_of_lt_of_le (z ▸ Heap.lt_size e) hs)
  have nh : ∀ b o, H b = some o → b ≠ p := fun b o e z => by rw [z, hp] at e; cases e
  exact ⟨fun b o e n nf => u.keep b o (kp b o e) (by rw [upd_ne (ne b o e)]; exact n) nf, fun b o e m => u.slot b o (kp b o e) m, fun b o e n => u.free b o (kp b o e) (by rw [upd_ne (ne b o e)]; exact n),
    fun b o e nf => u.there b o (kp b o e) nf, fun b ys e => u.tups b ys (by rw [upd_ne (nh b _ e)]; exact e), fun b o ys e => u.frzs b o ys (by rw [upd_ne (nh b _ e)]; exact e), fun b ps e => u.tbls b ps (by rw [upd_ne (nh b _ e)]; exact e)⟩
theorem cx_new {P : Program} {w : World} : CXNew (L2.CX P w) := by
  intro outer s H h2 p xs E e s' kp hs hp x
  obtain ⟨a, B, H', cls, d, h1, h3, h4, h5, h6⟩ := x
  exact ⟨a, B, H', cls, d, h1, h3, h4, ub_new kp hs hp h5, h6⟩
section
variable (P : Program) (w : World) (K : PySem.W.Frag) (mg : Str → Option Value) (base : Heap)
/-- a def does what m says of trees, called with lo to hi values -/
def FnGV (k : Nat) (f : Addr) (lo hi : Nat) (m : List T → M T) : Prop :=
  ∀ (A : Around) (outer : List PySem.Env) (s : Shared) (H : Hp) (us : List Value) (vs : List V) (Q : VK) (E : XK) (F : Hp) (ι : List Addr) (μ : Store) (ds : List T),
    Room k A → A.guards = some [] → L2.Env0 P w K mg base A outer s H → Vals vs us → lo ≤ vs.length → vs.length ≤ hi → Rel K F ι μ H → Rps K F ι vs ds → Post K mg E (m ds μ) F ι H (wT K Q) →
    codeAny (model P w) A (.call (.ref f) ⟨us, []⟩) (CR (L2.CX P w) outer P w H s Q E) s
def DefV (x : Str) (k lo hi : Nat) (m : List T → M T) : Prop :=
  ∃ f, mg x = some (.ref f) ∧ PySem.W.keepIn K (.ref f) = true ∧ FnGV P w K mg base k f lo hi m
end
/-- j plain parameters, then the star's -/
def mkFnV (j n : Nat) (g : Env → M Fl) : List T → M T := fun ds => mkFn n g (ds.take j ++ [T.tup (ds.drop j)])
def eCallV (lo hi : Nat) (m : List T → M T) (fa : Env → M (List T)) : Env → M T := fun ρ => M.bind (fa ρ) fun ds => bif decide (lo ≤ ds.length) && decide (ds.length ≤ hi) then callX m ds else M.no
theorem Vals.append1 {vs : List V} {us : List Value} {a : Addr} (r : Vals vs us) : Vals (vs ++ [.ref a]) (us ++ [.ref a]) := r.append (.cons rfl .nil)
section
variable {P : Program} {w : World} {K : PySem.W.Frag} {mg : Str → Option Value} {base : Heap}
theorem fnGV {x qual : Str} {st : Stmt} {f : Addr} {fd : FuncData} {N ps : List Str} {k j hi : Nat} {g : Env → M Fl} (Fu : Fun K x qual st f fd) (S : FnScope N ps (defScope st)) (hps : ps.length = j + 1) (hz : hi ≤ 1000)
    (hbi : ∀ (kV doc pm : Value) (an : Option Addr) (cdv ct : Value) (us : List Value), j ≤ us.length → us.length ≤ hi → bindArgs (PySem.W.fnOf x qual (defArgs st) (defBody st) (defScope st) .none kV doc pm an cdv ct) ⟨us, []⟩ = (newTuple (us.drop j) >>= fun t => pure (ps.zip (us.take j ++ [t]))))
    (hb : ∀ (cdv : Value) (A : Around) (outer : List PySem.Env) (s : Shared) (H : Hp) (E : XK), XO (cxOf (L2.CX P w) P w K mg base N qual (defScope st) f cdv A outer s H E) E k →
      DB (cxOf (L2.CX P w) P w K mg base N qual (defScope st) f cdv A outer s H E) E (defBody st) g) : FnGV P w K mg base (k + 1) f j hi (mkFnV j N.length g) := by
  obtain ⟨oc, od, kV, doc, pm, an, cdv, ct, osl, rfl, lk, hcd⟩ := Fu.ex
  intro A outer s H us vs Q E F ι μ ds hro hgu e0 rv hlo hhi hr rs hp
  have hlu := rv.length
  have sz : hi ≤ sizeLine := by rw [sizeLine_eq]; omega
  have kIn : K.In s.heap := e0.mod.kin.keeps (fun b o e => (e0.bs b o e).1)
  -- the star's tuple
  obtain ⟨p, hpe⟩ : ∃ p, p = s.heap.objs.size := ⟨_, rfl⟩
  obtain ⟨ob, hob⟩ : ∃ ob : Obj, ob = { cls := .type "tuple", data := .seq (us.drop j).toArray } := ⟨_, rfl⟩
  have hn : H p = none := by rw [hpe]; exact e0.hok.fresh (Nat.le_refl _)
  have kp : ∀ b o, s.heap.get? b = some o → (s.heap.push ob).get? b = some o := fun b o e => Heap.get?_push_of_some _ e
  have rd : Vals (vs.drop j) (us.drop j) := rv.drop j
  have ld : (vs.drop j).length ≤ sizeLine := by rw [List.length_drop]; omega
  have new : ObjOk P w (upd H p (.tup (vs.drop j))) (s.heap.push ob) p (.tup (vs.drop j)) := by
    refine ⟨ld, us.drop j, rd, ob, ?_, by rw [hob], _, by rw [hob]⟩
    rw [hpe]
    exact Heap.get?_push_size _ (by rw [hob]; rfl)
  have ok2 : HOk P w (upd H p (.tup (vs.drop j))) (s.heap.push ob) := e0.hok.laid kp (by rw [hpe]; exact Nat.le_refl _) new
  have un : Un (frs outer) [] H (upd H p (.tup (vs.drop j))) s.heap (s.heap.push ob) := Un.laid kp (by rw [hpe]; exact Nat.le_refl _) hn
  have lt : ∀ b o, s.heap.get? b = some o → b ≠ p := fun b o e => by rw [hpe]; exact Nat.ne_of_lt (Heap.lt_size e)
  have e2 : Env0 P w K mg base A outer { s with heap := s.heap.push ob } (upd H p (.tup (vs.drop j))) := by
    refine ⟨e0.frames, e0.mod, fun b o e => ?_, ?_, Heap.FunFrames.of_keeps (fun b o e _ => ⟨o, kp b o e, rfl⟩) e0.funs, fun b hb' => ?_, ok2, e0.bare⟩
    · obtain ⟨z1, z2⟩ := e0.bs b o e
      exact ⟨kp b o z1, by rw [upd_ne (lt b o z1)]; exact z2⟩
    · refine Nat.le_trans e0.bsz ?_
      rw [Heap.size_push]
      exact Nat.le_succ _
    · obtain ⟨_, o, ho, _⟩ := e0.funs.mem hb'
      rw [upd_ne (lt b o ho)]
      exact e0.frf b hb'
  have lim : (s.heap.push ob).NoLimit := e0.mod.nolimit.keeps fun b o e => (e2.bs b o e).1
  obtain ⟨x1, r1⟩ := hr.newF (u := .tup (vs.drop j)) hn (fun a z => upd_ne z) upd_same
  have rs1 : Rps K (upd F p (.tup (vs.drop j))) ι (vs.take j ++ [V.ref p]) (ds.take j ++ [T.tup (ds.drop j)]) := ((rs.ext x1).take j).append (.cons (.tup upd_same ((rs.ext x1).drop j)) .nil)
  have rv1 : Vals (vs.take j ++ [V.ref p]) (us.take j ++ [Value.ref p]) := Vals.append1 (rv.take j)
  have hl : (vs.take j ++ [V.ref p]).length = ps.length := by
    rw [hps, List.length_append, List.length_take]
    simp
    omega
  refine codeAny_call_function hro.depth (kIn _ _ lk) rfl S.co S.gen rfl (PySem.W.codeRec_of kIn hcd) ?_
  rw [hbi kV doc pm an cdv ct us (by omega) (by omega)]
  refine wpAny_bind (wpAny_newTuple (wpAny_pure ?_) (by rw [List.length_drop]; omega))
  rw [← hob, ← hpe]
  refine wpAny_newFunctionEnv_cells (s := { s with heap := s.heap.push ob }) S.kind (fun ⟨nm, vv⟩ hy => ?_) (fun env he s1 x => ?_)
  · rcases S.par nm (List.of_mem_zip hy).1 with q | q
    · exact .inl q
    · exact .inr ⟨q, PySem.W.cellsFrom_some _ _ _ (.inl q)⟩
  · subst he
    refine ⟨lim.keeps x.toInCall.keep, codeAny_func ?_⟩
    have I : Inv (cxOf (L2.CX P w) P w K mg base N qual (defScope st) f cdv A outer { s with heap := s.heap.push ob } (upd H p (.tup (vs.drop j))) E) [] (start N (vs.take j ++ [V.ref p])) (upd H p (.tup (vs.drop j))) s1 := inv_start S hro.hd e2 hl rv1 x
    have o : XO (cxOf (L2.CX P w) P w K mg base N qual (defScope st) f cdv A outer { s with heap := s.heap.push ob } (upd H p (.tup (vs.drop j))) E) E k := ⟨rfl, S.nd, hgu, hro.deeper _, takes_of rfl rfl rfl rfl, passes_of rfl⟩
    have fin : ∀ {σ' : L2.St} {H' : Hp} {s' : Shared} {v : V} {u : Value}, Inv (cxOf (L2.CX P w) P w K mg base N qual (defScope st) f cdv A outer { s with heap := s.heap.push ob } (upd H p (.tup (vs.drop j))) E) [] σ' H' s' → RelV v u → Q v H' → CE outer P w H s Q u s' :=
      fun {σ' H' s' v u} J rvu q => ⟨v, H', J.os, J.bare, un.trans J.base, J.hok, rvu, q⟩
    have hp1 : Post K mg E (M.bind (g (slots0 N.length (ds.take j ++ [T.tup (ds.drop j)]))) atEnd μ) (upd F p (.tup (vs.drop j))) ι (upd H p (.tup (vs.drop j))) (wT K Q) := Post.later x1 hp
    have hen : ERp K (upd F p (.tup (vs.drop j))) ι (L2.start N (vs.take j ++ [V.ref p])) (slots0 N.length (ds.take j ++ [T.tup (ds.drop j)])) := .begin rs1
    refine wpAny_mono ((hb cdv A outer _ _ E o).run [] s1 (start N (vs.take j ++ [V.ref p])) _ { nx := fun _ H' => Q .non H', rt := Q } I
      ⟨_, ι, μ, slots0 N.length (ds.take j ++ [T.tup (ds.drop j)]), r1, hen, hp1.bind fun F1 ι1 μ1 H1 fl x2 r2 p1 => ?_⟩) (fun fl s' hs => ?_) (fun e s' hs => ?_)
    · cases fl with
      | nx ρ' => exact fun _ _ => Post.pure (mg := mg) (E := E) (a := T.non) p1 r2 _ .non
      | rt d => exact Post.pure (mg := mg) (E := E) (a := d) p1 r2
      | bk ρ' => exact p1.elim
      | ct ρ' => exact p1.elim
    · cases fl with
      | ret u => obtain ⟨v, σ', H', J, q1, q2⟩ := hs; exact fin J q1 q2
      | next => obtain ⟨σ', H', J, q2⟩ := hs; exact fin (v := V.non) (u := Value.none) J rfl q2
      | brk => obtain ⟨_, _, _, q⟩ := hs; exact q.elim
      | cont => obtain ⟨_, _, _, q⟩ := hs; exact q.elim
    · have back : ∀ (e' : Value) (s'' : Shared), L2.CX P w outer (upd H p (.tup (vs.drop j))) { s with heap := s.heap.push ob } E e' s'' → L2.CX P w outer H s E e' s'' := fun e' s'' z => cx_new outer s H _ p (vs.drop j) E e' s'' kp (by rw [hpe]; exact Nat.le_refl _) hn z
      exact wpAny_mono hs (fun _ s'' z => back e s'' z) (fun e' s'' z => back e' s'' z)
theorem def_mkV {x : Str} {st : Stmt} {f : Addr} {fd : FuncData} {N ps : List Str} {k j hi : Nat} {g : Env → M Fl} {m : List T → M T} (gf : mg x = some (.ref f)) (Fu : Fun K x x st f fd) (S : FnScope N ps (defScope st)) (hps : ps.length = j + 1) (hz : hi ≤ 1000)
    (hbi : ∀ (kV doc pm : Value) (an : Option Addr) (cdv ct : Value) (us : List Value), j ≤ us.length → us.length ≤ hi → bindArgs (PySem.W.fnOf x x (defArgs st) (defBody st) (defScope st) .none kV doc pm an cdv ct) ⟨us, []⟩ = (newTuple (us.drop j) >>= fun t => pure (ps.zip (us.take j ++ [t]))))
    (hb : ∀ (cdv : Value) (A : Around) (outer : List PySem.Env) (s : Shared) (H : Hp) (E : XK), XO (cxOf (L2.CX P w) P w K mg base N x (defScope st) f cdv A outer s H E) E k →
      DB (cxOf (L2.CX P w) P w K mg base N x (defScope st) f cdv A outer s H E) E (defBody st) g) (hm : m = mkFnV j N.length g) : DefV P w K mg base x (k + 1) j hi m :=
  ⟨f, gf, Fu.kp, by rw [hm]; exact fnGV Fu S hps hz hbi hb⟩
end
section
variable {X : Cx} {E : XK} {k k' : Nat} {x : Str} {p pos : Pos} {e : Expr} {es : List Expr} {fa : Env → M (List T)} {lo hi : Nat} {m : List T → M T}
theorem d_callV (D : DefV X.prog X.w X.K X.mg X.base x k lo hi m) (o : XO X E k') (ha : DA X E (e :: es) fa) (hk : k ≤ k' := by decide) (hg : Gl X x := by rfl) (hdb : (x == ("__debug__" : Str)) = false := by decide)
    (he : starEach (e :: es) X.env = (false, eval e X.env) :: starEach es X.env := by rfl) (hpl : (backTo pos (starEach es X.env)).any (·.1) = false := by rfl) : DE X E (.Call (.Name x p) (e :: es) [] pos) (eCallV lo hi m fa) := by
  obtain ⟨f, hm, kp, G⟩ := D
  refine ⟨fun pins s σ H Q I ⟨F, ι, μ, ρ, hr, hen, hp⟩ => wpAny_Call_Name_kw (ld_glob I hg hm ?_ hdb)⟩
  refine PySem.W.callWith_K (h₀ := X.base) I.ok.mod.kin kp (thn (ha.run pos pins s σ H (fun vs H1 => ∃ F1 ι1 μ1 ds, Rel X.K F1 ι1 μ1 H1 ∧ Rps X.K F1 ι1 vs ds ∧ (lo ≤ vs.length ∧ vs.length ≤ hi) ∧ Post X.K X.mg E (m ds μ1) F1 ι1 H1 (wT X.K Q)) I (At.a hr hen hp fun F1 ι1 μ1 H1 vs ds x1 r1 rs p1 => ?_)) fun us s1 hh => ?_) he hpl
  · cases hz : (decide (lo ≤ ds.length) && decide (ds.length ≤ hi)) with
    | false => rw [hz] at p1; exact p1.elim
    | true =>
      rw [hz] at p1
      rw [Bool.and_eq_true, decide_eq_true_eq, decide_eq_true_eq, ← rs.length] at hz
      obtain ⟨ι0, μ0, r0, s0, p0⟩ := callX_post r1 rs p1
      exact ⟨F1, ι0, μ0, ds, r0, s0, hz, p0⟩
  · obtain ⟨vs, H1, I1, r, F1, ι1, μ1, ds, r1, rs, hl, p1⟩ := hh
    refine ⟨I1.kIn, wpAny_call (codeAny_mono (G X.A X.stack s1 H1 us vs Q E F1 ι1 μ1 ds (o.room.mono hk) o.gd I1.env0 r hl.1 hl.2 r1 rs p1) fun z s' hz => ?_)⟩
    rcases z with e | fl
    · exact passes_call o.tk (fun _ _ _ _ q => q) pins σ H1 s1 e s' I1 hz
    · cases fl with
      | ret u => exact I1.after hz
      | next => exact hz.elim
      | brk => exact hz.elim
      | cont => exact hz.elim
end
end TL

/-! T layer 27: tuples that are laid without a dict of their own; the module's tuples and dicts. -/
namespace TL
open PySem PySem.Spec PyProof.Rows L2
variable [Tb]

/-- a new tuple's object -/
def tupObj (its : List Value) : Obj := { cls := .type "tuple", data := .seq its.toArray }
def gTupleF : T → M T
  | .lst xs => M.pure (.ftp xs)
  | .fls xs => M.pure (.ftp xs)
  | .ftp xs => M.pure (.ftp xs)
  | .tup xs => M.pure (.tup xs)
  | _ => M.no
def eTupF (f : Env → M (List T)) : Env → M T := fun ρ => M.bind (f ρ) fun ds => bif fits ds.length then M.pure (.ftp ds) else M.no
section
variable {X : Cx} {E : XK} {k : Nat}
theorem frz_new {pins : List (Addr × Obj)} {σ : L2.St} {H : Hp} {s : Shared} {h' : Heap} {vs : List V} {its : List Value} (I : Inv X pins σ H s) (kp : ∀ b o, s.heap.get? b = some o → h'.get? b = some o) (r : Vals vs its) (hz : vs.length ≤ sizeLine) :
    H h'.objs.size = none ∧ Inv X pins σ (upd H h'.objs.size (.frz (tupObj its) (.tup vs))) { s with heap := h'.push (tupObj its) } := by
  have I1 : Inv X pins σ H { s with heap := h' } := I.kept (t' := s.toks) kp
  have hg : (h'.push (tupObj its)).get? h'.objs.size = some (tupObj its) := Heap.get?_push_size _ rfl
  exact ⟨I1.hok.fresh (Nat.le_refl _), I1.laid (t' := s.toks) (fun b o e => Heap.get?_push_of_some _ e) (Nat.le_refl _) ⟨hg, hz, its, r, _, hg, rfl, _, rfl⟩⟩
theorem c_tupleF : CallD X E (.type "tuple") (g1 gTupleF) := .one fun pins s σ H x us Q F ι μ d I rv hr lx hp => by
  have mk : ∀ {a : Addr} {vs : List V} {ds : List T}, x = .ref a → SqL X.K H a vs → Rps X.K F ι vs ds → Post X.K X.mg E (M.pure (T.ftp ds) μ) F ι H (wT X.K Q) → wpAny (model X.prog X.w) X.A (call (.type "tuple") us) (EP X pins σ Q) X.xe s := fun {a vs ds} hx sq ra hp => by
    subst hx
    obtain ⟨u, rfl, rx⟩ := vals1 rv
    cases rx
    obtain ⟨its, r', pl, hz⟩ := I.list sq
    have hlen := r'.length
    refine call_tuple_list pl.isList (fun h' kp => ?_) (by simp only [List.size_toArray] <;> omega)
    obtain ⟨hn, I2⟩ := frz_new I kp r' hz
    obtain ⟨x2, r2⟩ := hr.newF (u := .frz (tupObj its) (.tup vs)) hn (fun a z => upd_ne z) upd_same
    exact ⟨.ref _, _, I2, rfl, hp _ _ _ x2 r2 _ (.ftp (.inl ⟨_, upd_same, rfl⟩) (ra.ext x2))⟩
  cases lx with
  | lst ha ra => exact mk rfl (SqL.of ha) ra hp
  | fls ha ra => exact mk rfl (hr.sub.sub.seqL ha) ra hp
  | tup ha ra => exact call_tuple_of pins s σ H _ us Q I rv ⟨_, _, rfl, .inr ⟨SqT.of (hr.sub _ _ ha), Post.pure hp hr _ (.tup ha ra)⟩⟩
  | ftp ha ra => exact call_tuple_of pins s σ H _ us Q I rv ⟨_, _, rfl, .inr ⟨hr.sub.sub.seqT ha.t, Post.pure hp hr _ (.ftp ha ra)⟩⟩
  | _ => exact hp.elim
theorem d_tupF {es : List Expr} {g : Env → M (List T)} {x1} {pos : Pos} (h : DA X E es g) : DE X E (.Tuple es x1 pos) (eTupF g) := by
  refine ⟨fun pins s σ H Q I ⟨F, ι, μ, ρ, hr, he, hp⟩ => ?_⟩
  refine wpAny_Tuple_spliced (thn (h.run pos pins s σ H (fun vs H1 => ∃ F1 ι1 μ1 ds, Rel X.K F1 ι1 μ1 H1 ∧ Rps X.K F1 ι1 vs ds ∧ Post X.K X.mg E ((bif fits ds.length then M.pure (.ftp ds) else M.no : M T) μ1) F1 ι1 H1 (wT X.K Q)) I
    (At.a hr he hp fun F1 ι1 μ1 H1 vs ds x1 r1 rs p1 => ⟨F1, ι1, μ1, ds, r1, rs, p1⟩)) fun us s1 ⟨vs, H1, I1, r, F1, ι1, μ1, ds, r1, rs, p1⟩ => ?_)
  cases hz : fits ds.length with
  | false => rw [hz] at p1; exact p1.elim
  | true =>
    rw [hz] at p1
    have hl : vs.length ≤ sizeLine := by rw [rs.length]; exact fits_le hz
    refine ⟨by rw [← r.length]; exact hl, ?_⟩
    obtain ⟨hn, I2⟩ := frz_new I1 (h' := s1.heap) (fun _ _ e => e) r hl
    obtain ⟨x2, r2⟩ := r1.newF (u := .frz (tupObj us) (.tup vs)) hn (fun a z => upd_ne z) upd_same
    exact ⟨.ref _, _, I2, rfl, p1 _ _ _ x2 r2 _ (.ftp (.inl ⟨_, upd_same, rfl⟩) (rs.ext x2))⟩
end
/-! ### the module's tuples -/
theorem ftp_K {K : PySem.W.Frag} {a : Addr} {its : Array Value} {n : Nat} {sl : Array (Option Value)} {vs : List V} {ds : List T} (h : K.lookup a = some ⟨.type "tuple", none, .seq its n, sl⟩) (hz : its.size ≤ 1000) (hv : Vals vs its.toList)
    (r : ∀ F ι, Rps K F ι vs ds) : ∀ F ι, Rp K F ι (.ref a) (.ftp ds) := fun F ι => .ftp (.inr ⟨_, its, n, h, rfl, rfl, rfl, by rw [sizeLine_eq]; omega, hv⟩) (r F ι)
/-! ### the module's dicts with text keys -/
inductive KEnt : List DictEntry → List (Str × V) → Prop
  | nil : KEnt [] []
  | cons {e : DictEntry} {es : List DictEntry} {x : Str} {v : V} {ps : List (Str × V)} : (∃ t, e.key = .str x t) → RelV v e.val → KEnt es ps → KEnt (e :: es) ((x, v) :: ps)
/-- at a: a written dict with these entries -/
def KD (K : PySem.W.Frag) (w : World) (a : Addr) (ps : List (Str × V)) : Prop := ∃ es n, KDict K w a es n ∧ KEnt es.toList ps
theorem KEnt.look {es : List DictEntry} {ps : List (Str × V)} (h : KEnt es ps) (z : Str) : es.any (·.refKey) = false ∧ ((∃ v e, ps.lookup z = some v ∧ es.find? (·.key.isStr z) = some e ∧ RelV v e.val) ∨ (ps.lookup z = none ∧ es.find? (·.key.isStr z) = none)) := by
  induction h with
  | nil => exact ⟨rfl, .inr ⟨rfl, rfl⟩⟩
  | @cons e es x v ps he hv _ ih =>
    obtain ⟨t, he⟩ := he
    obtain ⟨ih1, ih2⟩ := ih
    have rk : e.refKey = false := by
      unfold DictEntry.refKey
      rw [he]
    have ks : e.key.isStr z = (z == x) := by
      rw [he]
      show (x == z) = (z == x)
      rw [Bool.eq_iff_iff, beq_iff_eq, beq_iff_eq]
      exact eq_comm
    refine ⟨by rw [List.any_cons, rk, ih1]; rfl, ?_⟩
    cases hz : (z == x) with
    | true =>
      refine .inl ⟨v, e, ?_, ?_, hv⟩
      · rw [List.lookup_cons, hz]
      · rw [List.find?_cons_of_pos (p := fun (x : DictEntry) => x.key.isStr z) (by rw [ks, hz])]
    | false =>
      have n : ¬ e.key.isStr z = true := by rw [ks, hz]; exact Bool.false_ne_true
      rw [List.lookup_cons, hz, List.find?_cons_of_neg (p := fun (x : DictEntry) => x.key.isStr z) n]
      exact ih2
theorem KEnt.ns {K : PySem.W.Frag} {w : World} {a : Addr} {es : Array DictEntry} {n : Nat} {ps : List (Str × V)} (D : KDict K w a es n) (he : KEnt es.toList ps) (z : Str) : (∃ v u, ps.lookup z = some v ∧ PySem.W.nsIn K a z = some (some u) ∧ RelV v u) ∨ (ps.lookup z = none ∧ PySem.W.nsIn K a z = some none) := by
  obtain ⟨h1, h2⟩ := he.look z
  unfold PySem.W.nsIn
  rw [D.at_]
  simp only []
  rcases h2 with ⟨v, e, l, f, r⟩ | ⟨l, f⟩
  · exact .inl ⟨v, e.val, l, by rw [f], r⟩
  · exact .inr ⟨l, by rw [f]; simp only [h1]; rfl⟩
/-- the entries as trees -/
def kdV : List (Str × Int) → List (Str × V) := List.map fun p => (p.1, V.int p.2)
theorem kdV_lookup (ps : List (Str × Int)) (z : Str) : (kdV ps).lookup z = (ps.lookup z).map V.int := by
  induction ps with
  | nil => rfl
  | cons p ps ih =>
    show ((p.1, V.int p.2) :: kdV ps).lookup z = _
    rw [List.lookup_cons, List.lookup_cons]
    cases z == p.1 with
    | true => rfl
    | false => exact ih
def gInK (neg : Bool) (ps : List (Str × Int)) : T → M T
  | .str z => M.pure (.bl ((ps.lookup z).isSome != neg))
  | _ => M.no
def gSubK (ps : List (Str × Int)) : T → M T
  | .str z => match ps.lookup z with
    | some i => M.pure (.int i)
    | none => M.no
  | _ => M.no
def eInK (neg : Bool) (ps : List (Str × Int)) (f : Env → M T) : Env → M T := fun ρ => M.bind (f ρ) fun d => M.bind (ld d) (gInK neg ps)
def eSubK (ps : List (Str × Int)) (f : Env → M T) : Env → M T := fun ρ => M.bind (f ρ) fun d => M.bind (ld d) (gSubK ps)
section
variable {X : Cx} {E : XK} {k : Nat} {a : Addr} {ps : List (Str × Int)} {e : Expr} {f : Env → M T} {x : Str} {p pos : Pos}
theorem kd_name (hm : X.mg x = some (.ref a)) (hg : Gl X x) (hd : (x == ("__debug__" : Str)) = false) : PE X (.Name x p) (tC (.ref a)) := pe_glob hg hm (by exact rfl) hd
theorem inK_core {neg : Bool} {es : Array DictEntry} {n : Nat} (D : KDict X.K X.w a es n) (hD : KEnt es.toList (kdV ps)) {σ : L2.St} {H : Hp} {Q : VK} (h : tE X.K X.mg E (eInK neg ps f) σ H Q) :
    tE X.K X.mg E f σ H (fun v H1 => ∃ (z : Str) (r : Option Value), v = .str z ∧ V.ref a = .ref a ∧ PySem.W.nsIn X.K a z = some r ∧ Q (.bl (r.isSome != neg)) H1) := by
  obtain ⟨F, ι, μ, ρ, hr, hen, hp⟩ := h
  refine At.e hr hen hp fun F1 ι1 μ1 H1 v d x1 r1 rv p1 => ?_
  obtain ⟨d', lx, p2⟩ := ld_post r1 rv p1
  unfold gInK at p2
  split at p2
  · cases lx
    rename_i z
    have q := Post.pure (a := T.bl (((ps.lookup z).isSome) != neg)) p2 r1 _ (.bl _)
    rcases hD.ns D z with ⟨v, u, e1, e2, _⟩ | ⟨e1, e2⟩
    · rw [kdV_lookup] at e1
      refine ⟨z, _, rfl, rfl, e2, ?_⟩
      cases hz : ps.lookup z with
      | none => rw [hz] at e1; cases e1
      | some i => rw [hz] at q; exact q
    · rw [kdV_lookup] at e1
      refine ⟨z, _, rfl, rfl, e2, ?_⟩
      cases hz : ps.lookup z with
      | none => rw [hz] at q; exact q
      | some i => rw [hz] at e1; cases e1
  · exact p2.elim
/-- e in D, D a dict of the module -/
theorem d_inK (he : DE X E e f) (D : KD X.K X.w a (kdV ps)) (hm : X.mg x = some (.ref a)) (hg : Gl X x := by rfl) (hd : (x == ("__debug__" : Str)) = false := by decide) (hb : behindInMarks .In (.Name x p) = false := by first | exact nobehind _ (by decide) (by decide) | rfl) : DE X E (.Compare e [.In] [.Name x p] pos) (eInK false ps f) := by
  obtain ⟨es, n, D, hD⟩ := D
  refine pe_imp (pe_cmpR (op_in_kd D) he (kd_name hm hg hd) hb) fun σ H Q h => ?_
  have q := inK_core D hD h
  obtain ⟨F, ι, μ, ρ, hr, hen, hp⟩ := q
  refine ⟨F, ι, μ, ρ, hr, hen, hp.imp fun F' ι' μ' H' d _ _ g v rv => ?_⟩
  obtain ⟨z, r, h1, h2, h3, h4⟩ := g v rv
  exact ⟨z, r, h1, h2, h3, by rw [Bool.bne_false] at h4; exact h4⟩
theorem d_ninK (he : DE X E e f) (D : KD X.K X.w a (kdV ps)) (hm : X.mg x = some (.ref a)) (hg : Gl X x := by rfl) (hd : (x == ("__debug__" : Str)) = false := by decide) (hb : behindInMarks .NotIn (.Name x p) = false := by first | exact nobehind _ (by decide) (by decide) | rfl) : DE X E (.Compare e [.NotIn] [.Name x p] pos) (eInK true ps f) := by
  obtain ⟨es, n, D, hD⟩ := D
  refine pe_imp (pe_cmpR (op_notIn_kd D) he (kd_name hm hg hd) hb) fun σ H Q h => ?_
  have q := inK_core D hD h
  obtain ⟨F, ι, μ, ρ, hr, hen, hp⟩ := q
  refine ⟨F, ι, μ, ρ, hr, hen, hp.imp fun F' ι' μ' H' d _ _ g v rv => ?_⟩
  obtain ⟨z, r, h1, h2, h3, h4⟩ := g v rv
  exact ⟨z, r, h1, h2, h3, by rw [Bool.bne_true] at h4; exact h4⟩
/-- .. as tests -/
theorem t_inK (he : DE X E e f) (D : KD X.K X.w a (kdV ps)) (hm : X.mg x = some (.ref a)) (hg : Gl X x := by rfl) (hd : (x == ("__debug__" : Str)) = false := by decide) (hb : behindInMarks .In (.Name x p) = false := by first | exact nobehind _ (by decide) (by decide) | rfl) : DT X E (.Compare e [.In] [.Name x p] pos) (bT (eInK false ps f)) := by
  obtain ⟨es, n, D, hD⟩ := D
  refine pt_imp (pt_cmpR (op_in_kd D) he (kd_name hm hg hd) hb) fun σ H Q h => ?_
  have q := inK_core (Q := fun v H' => ∃ k, v = .bl k ∧ Q k H') D hD (bT_core h)
  obtain ⟨F, ι, μ, ρ, hr, hen, hp⟩ := q
  refine ⟨F, ι, μ, ρ, hr, hen, hp.imp fun F' ι' μ' H' d _ _ g v rv => ?_⟩
  obtain ⟨z, r, h1, h2, h3, h4⟩ := g v rv
  exact ⟨z, r, h1, h2, h3, by rw [Bool.bne_false] at h4; exact h4⟩
theorem t_ninK (he : DE X E e f) (D : KD X.K X.w a (kdV ps)) (hm : X.mg x = some (.ref a)) (hg : Gl X x := by rfl) (hd : (x == ("__debug__" : Str)) = false := by decide) (hb : behindInMarks .NotIn (.Name x p) = false := by first | exact nobehind _ (by decide) (by decide) | rfl) : DT X E (.Compare e [.NotIn] [.Name x p] pos) (bT (eInK true ps f)) := by
  obtain ⟨es, n, D, hD⟩ := D
  refine pt_imp (pt_cmpR (op_notIn_kd D) he (kd_name hm hg hd) hb) fun σ H Q h => ?_
  have q := inK_core (Q := fun v H' => ∃ k, v = .bl k ∧ Q k H') D hD (bT_core h)
  obtain ⟨F, ι, μ, ρ, hr, hen, hp⟩ := q
  refine ⟨F, ι, μ, ρ, hr, hen, hp.imp fun F' ι' μ' H' d _ _ g v rv => ?_⟩
  obtain ⟨z, r, h1, h2, h3, h4⟩ := g v rv
  exact ⟨z, r, h1, h2, h3, by rw [Bool.bne_true] at h4; exact h4⟩
theorem ix_kd {es : Array DictEntry} {n : Nat} (D : KDict X.K X.w a es n) : IxR X (fun x y H Q => ∃ (z : Str) (u0 : Value) (v0 : V), x = .ref a ∧ y = .str z ∧ PySem.W.nsIn X.K a z = some (some u0) ∧ RelV v0 u0 ∧ Q v0 H) := by
  intro value slice pins s σ H x y v u Q I rx ry h hs
  have h0 := h
  obtain ⟨z, u0, v0, rfl, rfl, e, r, q⟩ := h
  have h1 := op_item_kd D pins s σ H _ _ v u Q I rx ry h0
  cases rx
  exact sub_any (kd_type D I) PySem.F.slot_dict_getitem.lookup h1 hs
/-- D[e] -/
theorem d_subK (he : DE X E e f) (D : KD X.K X.w a (kdV ps)) (hm : X.mg x = some (.ref a)) (hs : PlainIx e) (hg : Gl X x := by rfl) (hd : (x == ("__debug__" : Str)) = false := by decide) : DE X E (.Subscript (.Name x p) e pos) (eSubK ps f) := by
  obtain ⟨es, n, D, hD⟩ := D
  refine pe_imp (pe_ix (ix_kd D) (kd_name hm hg hd) he hs) fun σ H Q ⟨F, ι, μ, ρ, hr, hen, hp⟩ => ?_
  show tE X.K X.mg E f σ H _
  refine At.e hr hen hp fun F1 ι1 μ1 H1 v d x1 r1 rv p1 => ?_
  obtain ⟨d', lx, p2⟩ := ld_post r1 rv p1
  unfold gSubK at p2
  split at p2
  · cases lx
    rename_i z
    rcases hD.ns D z with ⟨v, u, e1, e2, e3⟩ | ⟨e1, e2⟩
    · rw [kdV_lookup] at e1
      cases hz : ps.lookup z with
      | none => rw [hz] at e1; cases e1
      | some i =>
        rw [hz] at e1 p2
        cases e1
        exact ⟨z, u, _, rfl, rfl, e2, e3, Post.pure p2 r1 _ (.int i)⟩
    · rw [kdV_lookup] at e1
      cases hz : ps.lookup z with
      | none => rw [hz] at p2; exact p2.elim
      | some i => rw [hz] at e1; cases e1
  · exact p2.elim
end
end TL

/-! T layer 28: dict(x) of a list or tuple of pairs. -/
namespace TL
open PySem PySem.Spec PyProof.Rows L2 StX
variable [Tb]

def pairsOf : List T → Option (List (T × T))
  | [] => some []
  | .tup [k, v] :: r => (pairsOf r).map ((k, v) :: ·)
  | .ftp [k, v] :: r => (pairsOf r).map ((k, v) :: ·)
  | _ => none
def putAllP (tk : Bool) : List (T × T) → List (T × T) → Option (List (T × T))
  | acc, [] => some acc
  | acc, (k, v) :: r => match tk, keyOf k with
    | false, some (.inl key) => putAllP tk (putP acc (.inl key) (keyT key) v) r
    | true, some (.inr ks) => putAllP tk (putP acc (.inr ks) (.tup (ks.map keyT)) v) r
    | _, _ => none
def seqD : T → Option (List T)
  | .lst xs => some xs
  | .fls xs => some xs
  | .ftp xs => some xs
  | _ => none
/-- dict(d): a new dict -/
def gDictOf (tk : Bool) (d : T) : M T := match seqD d with
  | some es => (match pairsOf es with
    | some ps => (match putAllP tk [] ps with
      | some acc => newC (.dic tk acc)
      | none => M.no)
    | none => M.no)
  | none => M.no
/-- .. as a tree that is not written -/
def gDictOfT (tk : Bool) (d : T) : M T := match seqD d with
  | some es => (match pairsOf es with
    | some ps => (match putAllP tk [] ps with
      | some acc => M.bind (newC (.dic tk acc)) frz
      | none => M.no)
    | none => M.no)
  | none => M.no
def mergeT (kvs more : List (List Key × V)) : List (List Key × V) := more.foldl (fun acc kv => putK acc kv.1 kv.2) kvs
section
variable {K : PySem.W.Frag} {F : Hp} {ι : List Addr}
theorem pairsOf_cons {e : T} {es : List T} {ps : List (T × T)} (h : pairsOf (e :: es) = some ps) : ∃ k v r, (e = .tup [k, v] ∨ e = .ftp [k, v]) ∧ pairsOf es = some r ∧ ps = (k, v) :: r := by
  unfold pairsOf at h
  split at h
  · rename_i hh; cases hh
  · rename_i k v r hh
    cases hh
    rw [Option.map_eq_some_iff] at h
    obtain ⟨q, h1, rfl⟩ := h
    exact ⟨k, v, q, .inl rfl, h1, rfl⟩
  · rename_i k v r hh
    cases hh
    rw [Option.map_eq_some_iff] at h
    obtain ⟨q, h1, rfl⟩ := h
    exact ⟨k, v, q, .inr rfl, h1, rfl⟩
  · cases h
/-- a pair's item -/
theorem pair_rp {e k v : T} {x : V} (h : e = .tup [k, v] ∨ e = .ftp [k, v]) (r : Rp K F ι x e) : ∃ t a b, x = .ref t ∧ SqT K F t [a, b] ∧ Rp K F ι a k ∧ Rp K F ι b v := by
  rcases h with rfl | rfl
  · cases r with
    | tup ha ra =>
      cases ra with
      | cons r1 t =>
        cases t with
        | cons r2 t => cases t; exact ⟨_, _, _, rfl, SqT.of ha, r1, r2⟩
  · cases r with
    | ftp ha ra =>
      cases ra with
      | cons r1 t =>
        cases t with
        | cons r2 t => cases t; exact ⟨_, _, _, rfl, ha.t, r1, r2⟩
theorem pairs_k : ∀ {es : List T} {vs : List V} {ps acc out : List (T × T)} {kv : List (Key × V)}, Rps K F ι vs es → pairsOf es = some ps → putAllP false acc ps = some out → Rpk K F ι kv acc →
    ∃ kvs : List (Key × V), Paired (fun v (q : Key × V) => ∃ t, v = V.ref t ∧ SqT K F t [kV q.1, q.2]) vs kvs ∧ Rpk K F ι (mergeK kv kvs) out
  | [], _, ps, acc, out, kv, .nil, hp, ho, ra => by
    cases hp
    cases ho
    exact ⟨[], .nil, ra⟩
  | e :: es, _, ps, acc, out, kv, .cons r t, hp, ho, ra => by
    obtain ⟨k, v, q, he, hq, rfl⟩ := pairsOf_cons hp
    obtain ⟨p, a, b, rfl, sq, ra1, rb⟩ := pair_rp he r
    rcases hk : keyOf k with _ | key | ks
    · simp only [putAllP, hk] at ho; cases ho
    · simp only [putAllP, hk] at ho
      have ea : a = kV key := by
        cases ra1 with
        | int i => cases hk; rfl
        | str x => cases hk; rfl
        | tup ha ra =>
          simp only [keyOf, Option.map_eq_some_iff] at hk
          obtain ⟨_, _, z⟩ := hk
          cases z
        | _ => cases hk
      subst ea
      obtain ⟨kvs, h1, h2⟩ := pairs_k t hq ho (ra.put rb)
      exact ⟨(key, b) :: kvs, .cons ⟨p, rfl, sq⟩ h1, h2⟩
    · simp only [putAllP, hk] at ho; cases ho
theorem pairs_t : ∀ {es : List T} {vs : List V} {ps acc out : List (T × T)} {kv : List (List Key × V)}, Rps K F ι vs es → pairsOf es = some ps → putAllP true acc ps = some out → Rpt K F ι kv acc →
    ∃ kvs : List (List Key × V), Paired (fun v (q : List Key × V) => ∃ t b, v = V.ref t ∧ SqT K F t [.ref b, q.2] ∧ F b = some (.tup (q.1.map kV))) vs kvs ∧ Rpt K F ι (mergeT kv kvs) out
  | [], _, ps, acc, out, kv, .nil, hp, ho, ra => by
    cases hp
    cases ho
    exact ⟨[], .nil, ra⟩
  | e :: es, _, ps, acc, out, kv, .cons r t, hp, ho, ra => by
    obtain ⟨k, v, q, he, hq, rfl⟩ := pairsOf_cons hp
    obtain ⟨p, a, b, rfl, sq, ra1, rb⟩ := pair_rp he r
    rcases hk : keyOf k with _ | key | ks
    · simp only [putAllP, hk] at ho; cases ho
    · simp only [putAllP, hk] at ho; cases ho
    · simp only [putAllP, hk] at ho
      cases ra1 with
      | @tup c vs ds hc rc =>
        simp only [keyOf, Option.map_eq_some_iff] at hk
        obtain ⟨q', h2, z⟩ := hk
        cases z
        have eds := keysOf_some h2
        subst eds
        have evs := rc.keys
        subst evs
        obtain ⟨kvs, h1, h2⟩ := pairs_t t hq ho (ra.put rb)
        exact ⟨(ks, b) :: kvs, .cons ⟨p, c, rfl, sq, hc⟩ h1, h2⟩
      | int i => cases hk
      | str x => cases hk
      | _ => cases hk
end
section
variable {X : Cx} {E : XK} {k : Nat} {pins : List (Addr × Obj)} {σ : L2.St} {H : Hp} {s : Shared}
/-- the items and what the dict is to hold, on the heap -/
theorem items_k (I : Inv X pins σ H s) : ∀ {vs : List V} {kvs : List (Key × V)} {its : List Value}, Paired (fun v (q : Key × V) => ∃ t, v = V.ref t ∧ SqT X.K H t [kV q.1, q.2]) vs kvs → Vals vs its →
    ∃ (Ts : List Addr) (cps : List (Value × Value)) (prs : List (Key × Value)), its = Ts.map Value.ref ∧ Ts.length = cps.length ∧ cps.length = prs.length ∧ KV kvs prs ∧ (∀ (j : Nat) (k v : Value), cps[j]? = some (k, v) → ∃ T key, Ts[j]? = some T ∧ s.heap.IsTuple T #[k, v] ∧ prs[j]? = some (key, v) ∧ (mixKind X.prog X.w).is key k = true)
  | _, _, _, .nil, .nil => ⟨[], [], [], rfl, rfl, rfl, .nil, fun j k v e => by simp at e⟩
  | _, _, _, .cons (a := _) (b := q) h t, .cons r rt => by
    obtain ⟨p, rfl, sq⟩ := h
    obtain ⟨Ts, cps, prs, h1, h2, h3, h4, h5⟩ := items_k I t rt
    obtain ⟨u2, rv, ht, _⟩ := I.tuple sq
    obtain ⟨u, y, ei, ru, ry⟩ := vals2 rv
    subst ei
    cases r
    refine ⟨p :: Ts, (u, y) :: cps, (q.1, y) :: prs, by rw [h1]; rfl, by simp [h2], by simp [h3], .cons ⟨rfl, ry⟩ h4, fun j k v e => ?_⟩
    cases j with
    | zero =>
      simp only [List.getElem?_cons_zero, Option.some.injEq, Prod.mk.injEq] at e
      obtain ⟨rfl, rfl⟩ := e
      exact ⟨p, q.1, rfl, ht, rfl, kV_is (P := X.prog) (w := X.w) ru⟩
    | succ j =>
      obtain ⟨T, key, e1, e2, e3, e4⟩ := h5 j k v (by simpa using e)
      exact ⟨T, key, by simpa using e1, e2, by simpa using e3, e4⟩
theorem items_t (I : Inv X pins σ H s) : ∀ {vs : List V} {kvs : List (List Key × V)} {its : List Value}, Paired (fun v (q : List Key × V) => ∃ t b, v = V.ref t ∧ SqT X.K H t [.ref b, q.2] ∧ H b = some (.tup (q.1.map kV))) vs kvs → Vals vs its →
    ∃ (Ts : List Addr) (cps : List (Value × Value)) (prs : List (List Key × Addr × Value)), its = Ts.map Value.ref ∧ Ts.length = cps.length ∧ cps.length = prs.length ∧ KT H kvs prs ∧ (∀ (j : Nat) (k v : Value), cps[j]? = some (k, v) → ∃ T key b, Ts[j]? = some T ∧ s.heap.IsTuple T #[k, v] ∧ prs[j]? = some (key, b, v) ∧ k = .ref b)
  | _, _, _, .nil, .nil => ⟨[], [], [], rfl, rfl, rfl, .nil, fun j k v e => by simp at e⟩
  | _, _, _, .cons (a := _) (b := q) h t, .cons r rt => by
    obtain ⟨p, b, rfl, sq, hb⟩ := h
    obtain ⟨Ts, cps, prs, h1, h2, h3, h4, h5⟩ := items_t I t rt
    obtain ⟨u2, rv, ht, _⟩ := I.tuple sq
    obtain ⟨u, y, ei, ru, ry⟩ := vals2 rv
    subst ei
    cases r
    cases ru
    refine ⟨p :: Ts, (.ref b, y) :: cps, (q.1, b, y) :: prs, by rw [h1]; rfl, by simp [h2], by simp [h3], .cons ⟨rfl, hb, ry⟩ h4, fun j k v e => ?_⟩
    cases j with
    | zero =>
      simp only [List.getElem?_cons_zero, Option.some.injEq, Prod.mk.injEq] at e
      obtain ⟨rfl, rfl⟩ := e
      exact ⟨p, q.1, b, rfl, ht, rfl, rfl⟩
    | succ j =>
      obtain ⟨T, key, c, e1, e2, e3, e4⟩ := h5 j k v (by simpa using e)
      exact ⟨T, key, c, by simpa using e1, e2, by simpa using e3, e4⟩
theorem KT_merge {H : Hp} : ∀ {more : List (List Key × V)} {rs : List (List Key × Addr × Value)} {kvs : List (List Key × V)} {xs : List (List Key × Addr × Value)}, KT H more rs → KT H kvs xs → KT H (mergeT kvs more) (storedAllH xs rs)
  | _, _, _, _, .nil, q => q
  | _, _, kvs, xs, .cons (a := p) (b := r) h t, q => by
    have q1 := KT.put q p.1 h.2.1 h.2.2
    have e : KT H (putK kvs p.1 p.2) (storedH xs r.1 r.2.1 r.2.2) := by
      have e0 : storedH xs p.1 r.2.1 r.2.2 = storedH xs r.1 r.2.1 r.2.2 := by rw [h.1]
      rw [← e0]
      exact q1
    show KT H (mergeT (putK kvs p.1 p.2) _) (storedAllH (storedH xs r.1 r.2.1 r.2.2) _)
    exact KT_merge t e
theorem length_mergeT : ∀ (more kvs : List (List Key × V)), (mergeT kvs more).length ≤ kvs.length + more.length
  | [], kvs => Nat.le_refl _
  | p :: more, kvs => by
    have a := length_mergeT more (putK kvs p.1 p.2)
    have b := length_putK kvs p.1 p.2
    show (mergeT (putK kvs p.1 p.2) more).length ≤ _
    simp only [List.length_cons]
    omega
/-- dict(x) by what may stand as its argument -/
theorem call_k (o : XO X E k) {a : Addr} {T : String} {fp : List Addr} {n : Nat} {kvs : List (Key × V)} {prs : List (Key × Value)} {Rel' : Nat → Value → Value → Prop} {OK : Heap → Prop} {Q : VK} (I : Inv X pins σ H s) (P : PairArg X.prog X.w T a fp [] n Rel' OK) (ok : OK s.heap)
    (hc : PairsHave (mixKind X.prog X.w) n Rel' prs) (hn : n ≤ sizeLine) (rel : KV kvs prs) (q : ∀ p, H p = none → Q (.ref p) (upd H p (.dK (mergeK [] kvs)))) : wpAny (model X.prog X.w) X.A (call (.type "dict") [.ref a]) (EP X pins σ Q) X.xe s := by
  refine PySem.call_dict_pairs (knd := mixKind X.prog X.w) P (I.ok.hd o.calm) ok hc hn fun h' tk hd' kp => ?_
  have hm : (s.heap.objs.size == sysModules) = false := beq_eq_false_iff_ne.mpr (Nat.ne_of_gt I.big)
  have hlen : (mergeK [] kvs).length ≤ sizeLine := by
    have h1 := length_mergeK kvs []
    have h2 : kvs.length = n := by rw [rel.length]; exact hc.1
    rw [List.length_nil] at h1
    omega
  exact ⟨.ref s.heap.objs.size, _, I.laid (t' := tk) (o := .dK (mergeK [] kvs)) (fun b o e => kp b o (by simp) e) (Nat.le_refl _) ⟨hlen, hm, merged [] prs, KV.merge rel .nil, hd'⟩, rfl, q _ (I.hok.fresh (Nat.le_refl _))⟩
theorem call_t (o : XO X E k) {a : Addr} {T : String} {fp : List Addr} {n : Nat} {kvs : List (List Key × V)} {prs : List (List Key × Addr × Value)} {Rel' : Nat → Value → Value → Prop} {OK : Heap → Prop} {Q : VK} (I : Inv X pins σ H s) (P : PairArg X.prog X.w T a fp [] n Rel' OK) (ok : OK s.heap)
    (hc : PairsHaveH (tupleKind (mixKind X.prog X.w)) n Rel' prs) (hn : n ≤ sizeLine) (rel : KT H kvs prs) (q : ∀ p, H p = none → Q (.ref p) (upd H p (.dT (mergeT [] kvs)))) : wpAny (model X.prog X.w) X.A (call (.type "dict") [.ref a]) (EP X pins σ Q) X.xe s := by
  have hu : X.A.units + 2 < cLine := Nat.lt_of_le_of_lt (Nat.add_le_add_left (by decide : 2 ≤ 64) _) o.room.units
  have keys : ∀ x ∈ prs, H x.2.1 = some (.tup (x.1.map kV)) := by
    have go : ∀ {l : List (List Key × V)} {m : List (List Key × Addr × Value)}, KT H l m → ∀ x ∈ m, H x.2.1 = some (.tup (x.1.map kV)) := by
      intro l m z
      induction z with
      | nil => intro x hx; cases hx
      | @cons p r ps qs hq t ih =>
        intro x hx
        rcases List.mem_cons.mp hx with e | hx
        · subst e; rw [← hq.1]; exact hq.2.1
        · exact ih x hx
    exact go rel
  have stay : KeysStay (tupleKind (mixKind X.prog X.w)) s.heap s.heap.objs.size [] prs := fun h' hk x hx => by
    obtain ⟨ob, items, nn, h1, h2, h3, h4⟩ := key_of (w := X.w) I.hok (keys x hx)
    exact ⟨ob, items, nn, hk _ _ (Nat.ne_of_lt (Heap.lt_size h1)) (by simp) h1, h2, h3, h4⟩
  refine PySem.call_dict_pairsH (knd := tupleKind (mixKind X.prog X.w)) P (I.ok.hd o.calm) hu ok hc stay hn fun h' tk hd' kp => ?_
  have hm : (s.heap.objs.size == sysModules) = false := beq_eq_false_iff_ne.mpr (Nat.ne_of_gt I.big)
  have hlen : (mergeT [] kvs).length ≤ sizeLine := by
    have h1 := length_mergeT kvs []
    have h2 : kvs.length = n := by rw [Paired.length rel]; exact hc.1
    rw [List.length_nil] at h1
    omega
  obtain ⟨ob, es, ep, hq, h2, h3, h4, _, h5⟩ := hd'
  have hf := I.hok.fresh (Nat.le_refl s.heap.objs.size)
  exact ⟨.ref s.heap.objs.size, _, I.laid (t' := tk) (o := .dT (mergeT [] kvs)) (fun b o e => kp b o (by simp) e) (Nat.le_refl _) ⟨hlen, hm, _, (KT_merge rel .nil).keeps fun c ys ec => by rw [upd_ne (ne_of_none ec hf)]; exact ec, ob, es, ep, hq, h2, h3, h4, h5⟩, rfl, q _ hf⟩
end
section
variable {X : Cx} {E : XK} {k : Nat}
theorem c_dict (o : XO X E k) {tk : Bool} : CallD X E (.type "dict") (g1 (gDictOf tk)) := .one fun pins s σ H x us Q F ι μ d I rv hr lx hp => by
  unfold gDictOf at hp
  cases hd : seqD d with
  | none => rw [hd] at hp; exact hp.elim
  | some es =>
    rw [hd] at hp
    simp only [] at hp
    cases hps : pairsOf es with
    | none => rw [hps] at hp; exact hp.elim
    | some ps =>
      rw [hps] at hp
      simp only [] at hp
      cases hac : putAllP tk [] ps with
      | none => rw [hac] at hp; exact hp.elim
      | some acc =>
        rw [hac] at hp
        simp only [] at hp
        -- the sequence
        obtain ⟨u, rfl, rx⟩ := vals1 rv
        have main : ∀ {a : Addr} {vs : List V} {its : List Value} {T : String}, u = .ref a → (T = "list" ∨ T = "tuple") → PlainSeq T s.heap a its.toArray → Vals vs its → its.length ≤ sizeLine → Rps X.K F ι vs es → wpAny (model X.prog X.w) X.A (call (.type "dict") [u]) (EP X pins σ Q) X.xe s := by
          intro a vs its T hu hT pl r hz ra
          subst hu
          have sub := hr.sub.sub
          cases tk with
          | false =>
            obtain ⟨kvs, h1, h2⟩ := pairs_k ra hps hac .nil
            have h1' : Paired (fun v (q : Key × V) => ∃ t, v = V.ref t ∧ SqT X.K H t [kV q.1, q.2]) vs kvs := Paired.mapP h1 fun _ _ ⟨t, e, q⟩ => ⟨t, e, sub.seqT q⟩
            obtain ⟨Ts, cps, prs, e1, e2, e3, rel, hj⟩ := items_k I h1' r
            have fin : ∀ p, H p = none → Q (.ref p) (upd H p (.dK (mergeK [] kvs))) := fun p hn => by
              obtain ⟨x2, r2⟩ := hr.newI (u := .dK (mergeK [] kvs)) (o := .dic false acc) hn (fun a z => upd_ne z) upd_same (.dic h2)
              exact hp _ _ _ x2 r2 _ (.cell (by rw [← hr.len]; simp))
            have pit : PairItems s.heap its.toArray (fun j => Ts.getD j 0) cps := by
              refine ⟨by rw [e1]; simp [e2], fun j k v e => ?_⟩
              obtain ⟨T, key, f1, f2, f3, f4⟩ := hj j k v e
              refine ⟨?_, ?_⟩
              · rw [e1]; simp [f1, List.getD]
              · simp only [List.getD, f1, Option.getD_some]
                exact .inl f2
            have hv : PairsHave (mixKind X.prog X.w) cps.length (PairRel cps) prs := ⟨e3.symm, fun i key v e => by
              obtain ⟨T, key', f1, f2, f3, f4⟩ := hj i key v e
              exact ⟨key', f3, f4⟩⟩
            have hn : cps.length ≤ sizeLine := by rw [← e2]; rw [e1, List.length_map] at hz; exact hz
            rcases hT with rfl | rfl
            · exact call_k o I (PairArg.list a its.toArray (fun j => Ts.getD j 0) cps) ⟨pl, pit⟩ hv hn rel fin
            · exact call_k o I (PairArg.tuple a its.toArray (fun j => Ts.getD j 0) cps) ⟨pl, pit⟩ hv hn rel fin
          | true =>
            obtain ⟨kvs, h1, h2⟩ := pairs_t ra hps hac .nil
            have h1' : Paired (fun v (q : List Key × V) => ∃ t b, v = V.ref t ∧ SqT X.K H t [.ref b, q.2] ∧ H b = some (.tup (q.1.map kV))) vs kvs := Paired.mapP h1 fun _ _ ⟨t, b, e, q, hb⟩ => ⟨t, b, e, sub.seqT q, hr.sub _ _ hb⟩
            obtain ⟨Ts, cps, prs, e1, e2, e3, rel, hj⟩ := items_t I h1' r
            have fin : ∀ p, H p = none → Q (.ref p) (upd H p (.dT (mergeT [] kvs))) := fun p hn => by
              obtain ⟨x2, r2⟩ := hr.newI (u := .dT (mergeT [] kvs)) (o := .dic true acc) hn (fun a z => upd_ne z) upd_same (.dit h2)
              exact hp _ _ _ x2 r2 _ (.cell (by rw [← hr.len]; simp))
            have pit : PairItems s.heap its.toArray (fun j => Ts.getD j 0) cps := by
              refine ⟨by rw [e1]; simp [e2], fun j k v e => ?_⟩
              obtain ⟨T, key, b, f1, f2, f3, f4⟩ := hj j k v e
              refine ⟨?_, ?_⟩
              · rw [e1]; simp [f1, List.getD]
              · simp only [List.getD, f1, Option.getD_some]
                exact .inl f2
            have hv : PairsHaveH (tupleKind (mixKind X.prog X.w)) cps.length (PairRel cps) prs := ⟨e3.symm, fun i key v e => by
              obtain ⟨T, key', b, f1, f2, f3, f4⟩ := hj i key v e
              exact ⟨key', b, f3, f4⟩⟩
            have hn : cps.length ≤ sizeLine := by rw [← e2]; rw [e1, List.length_map] at hz; exact hz
            rcases hT with rfl | rfl
            · exact call_t o I (PairArg.list a its.toArray (fun j => Ts.getD j 0) cps) ⟨pl, pit⟩ hv hn rel fin
            · exact call_t o I (PairArg.tuple a its.toArray (fun j => Ts.getD j 0) cps) ⟨pl, pit⟩ hv hn rel fin
        have lst : ∀ {a : Addr} {vs : List V}, u = .ref a → SqL X.K H a vs → Rps X.K F ι vs es → wpAny (model X.prog X.w) X.A (call (.type "dict") [u]) (EP X pins σ Q) X.xe s := fun {a vs} hu sq ra => by
          obtain ⟨its, r, ⟨ob, n, f1, f2, f3, f4⟩, hz⟩ := I.list sq
          exact main hu (.inl rfl) ⟨ob, n, f1, f2, f3, f4⟩ r (by rw [← r.length]; exact hz) ra
        cases lx with
        | lst ha ra => cases hd; cases rx; exact lst rfl (SqL.of ha) ra
        | fls ha ra => cases hd; cases rx; exact lst rfl (hr.sub.sub.seqL ha) ra
        | ftp ha ra =>
          cases hd
          cases rx
          rcases hr.sub.sub.seqTd ha with ⟨ob, e, hdn⟩ | ⟨ob, its, n, hk, hc, hdn, hdt, hz, r⟩
          · obtain ⟨g, z, its, r, ob2, g2, c2, n2, d2⟩ := I.hok _ _ e
            rw [g] at g2
            cases g2
            exact main rfl (.inr rfl) ⟨ob, n2, g, c2, hdn, d2⟩ r (by rw [← r.length]; exact z) ra
          · refine main (its := its.toList) rfl (.inr rfl) ⟨ob, n, I.kIn _ _ hk, hc, hdn, ?_⟩ r (by simpa using hz) ra
            simpa using hdt
        | _ => cases hd
end
end TL

/-! T layer 29: set(l) of a list of ints. -/
namespace TL
open PySem PySem.Spec PyProof.Rows L2 StX
variable [Tb]

/-- a new set's object -/
def setO (w : World) : Obj := { cls := .type "set", dict := none, data := .set #[] 0 (.fresh 0 0 (!w.params.followText "set-order")) }
section
variable {P : Program} {w : World} {A : Around} {E : Value → Shared → Prop} {s : Shared}
/-- set(l) of a list of ints -/
theorem set_of_list {l : Addr} {items : Array Value} (ns : List Int) {Q : Value → Shared → Prop} (hh : A.handled = none) (hl : s.heap.IsList l items) (hit : IntsAre items.toList ns) (hb : ns.length + 1 < scanBound)
    (fin : ∀ (h' : Heap) (tk c : Nat), SetR w h' s.heap.objs.size (fun j => decide (j ∈ ns)) c → c ≤ ns.length → (∀ b o, s.heap.get? b = some o → h'.get? b = some o) → Q (.ref s.heap.objs.size) { s with heap := h', toks := tk }) :
    wpAny (model P w) A (call (.type "set") [.ref l]) Q E s := by
  have isz : items.size = ns.length := by
    have q := IntsAre.length hit
    rwa [Array.length_toList] at q
  obtain ⟨n0, hn0⟩ : ∃ n0, n0 = s.heap.objs.size := ⟨_, rfl⟩
  obtain ⟨c, tl, hmro⟩ := F.called_set.mro
  have hmade := F.called_set.made; have hsub := F.called_set.sub
  refine wpAny_call (codeAny_of_tree ?_)
  show wpAny _ _ (callAny (.type "set") _) _ _ _
  refine wpAny_pure ⟨Code.quiet_builtin _ (by decide +kernel), codeAny_builtin F.entry_type_call ?_⟩
  rw [Around.under_plain (weight_type_call_type "set" [.ref l] []) rfl]
  have h1 := F.called_set.notType; have h2 := F.called_set.canCreate; have hct := F.typeCall_set_1 (.ref l)
  repeat (any_goals (first | assumption | wp_step))
  refine codeAny_mono (code_set_led1 (.ref l) (E := E) (Q₁ := fun obj s₁ => obj = .ref s.heap.objs.size ∧ s₁ = { s with heap := s.heap.push (setO w) }) ⟨rfl, rfl⟩) fun r s₁ hr => ?_
  rcases r with e | fl
  · exact hr
  · cases fl with
    | ret obj =>
      obtain ⟨rfl, rfl⟩ := hr
      have at0 : (s.heap.push (setO w)).get? s.heap.objs.size = some (setO w) := Heap.get?_push_size _ rfl
      have ty0 : Shared.TypeIs { s with heap := s.heap.push (setO w) } (.ref s.heap.objs.size) "set" := ⟨_, at0, rfl⟩
      have hli := F.called_set.init.lookup; have hbi := F.called_set.init.bind (.ref s.heap.objs.size)
      repeat (any_goals (first | assumption | wp_step))
      refine codeAny_mono (codeAny_call_builtin (R := wants (fun r s₂ => r = .none ∧ ∃ h' tk c, s₂ = { s with heap := h', toks := tk } ∧ SetR w h' s.heap.objs.size (fun j => decide (j ∈ ns)) c ∧ c ≤ ns.length ∧
        (∀ b o, s.heap.get? b = some o → h'.get? b = some o)) E) F.called_set.init.plain F.entry_set_init (check_set_init_1 ty0 ?_)) fun r₂ s₂ hr₂ => ?_
      · obtain ⟨ob, hob, hcl, nl, hdl⟩ := hl
        obtain ⟨cl0, dc0, da0, sl0⟩ := ob
        simp only at hcl hdl
        subst hcl; subst hdl
        have hob' : (s.heap.push (setO w)).get? l = some { cls := .type "list", dict := dc0, data := .seq items nl, slots := sl0 } := Heap.get?_push_of_some _ hob
        have hs1 := F.sub_list_set; have hs2 := F.sub_list_frozenset
        have hnd : (Value.type "list" == Value.type "dict") = false := by decide
        have isl : (s.heap.push (setO w)).IsList l items := ⟨_, hob', rfl, nl, rfl⟩
        unfold Builtin.«set.__init__» noKeywords Builtin.Frozenset.updateFrom
        generalize hPI : pyIter = PI
        wp_walk
        subst hPI
        refine wpAny_pyIter_list isl (wpAny_bind (wpAny_runValue ?_))
        have lt1 : l < s.heap.objs.size := Heap.lt_size hob
        have hd3 : A.in1.in1.in1.handled = none := by simp [hh]
        have ni : l ≠ (s.heap.push (setO w)).objs.size := by rw [Heap.size_push]; exact Nat.ne_of_lt (Nat.lt_succ_of_lt lt1)
        have nf : s.heap.objs.size ∉ [(s.heap.push (setO w)).objs.size, l] := by
          rw [Heap.size_push]
          simp only [List.mem_cons, List.not_mem_nil, or_false, not_or]
          exact ⟨Nat.ne_of_lt (Nat.lt_succ_self _), Nat.ne_of_gt lt1⟩
        have vals : ∀ (i : Nat) (v : Value), items[i]? = some v → ∃ k t, ns[i]? = some k ∧ v = .int k t := fun i v hv => by
          have hi : i < ns.length := by rw [← isz]; exact (Array.getElem?_eq_some_iff.mp hv).1
          obtain ⟨t, e⟩ := IntsAre.int_at hit i v (by rw [Array.getElem?_toList]; exact hv)
          refine ⟨ns[i], t, List.getElem?_eq_getElem hi, ?_⟩
          rw [e, List.getD_eq_getElem?_getD, List.getElem?_eq_getElem hi]
          rfl
        refine set_update_ints ((Walks.list hd3 _ l ni items).toS) s.heap.objs.size nf ns isz hb vals (items.size - 0) 0 _ (by omega) (Nat.zero_le _) ⟨⟨_, Heap.get?_push_size _ rfl, rfl, rfl⟩, (isl.push _)⟩ ?g1 ?g2
        case g1 => exact ⟨0, Nat.le_refl 0, setR_new_at (Heap.get?_push_of_some _ at0)⟩
        case g2 =>
          intro s' c' hm hc' hS'
          obtain ⟨h', gn, dr, tk', os'⟩ := s'
          have eg : gn = s.gens := hm.gens
          have ed : dr = s.drawn := hm.drawn
          have eo : os' = s.os := hm.os
          subst eg; subst ed; subst eo
          show wpAny _ _ _ _ _ _
          refine wpAny_pure ?_
          show wpAny _ _ (ret Value.none) _ _ _
          rw [isz] at hc'
          refine wpAny_pure ⟨rfl, h', tk', c', rfl, hS', hc', fun b o e => hm.heap b o ?_ (Heap.get?_push_of_some _ (Heap.get?_push_of_some _ e))⟩
          have lb : b < s.heap.objs.size := Heap.lt_size e
          simp only [List.mem_cons, List.not_mem_nil, or_false, not_or]
          rw [Heap.size_push]
          exact ⟨Nat.ne_of_lt lb, Nat.ne_of_lt (Nat.lt_succ_of_lt lb)⟩
      · rcases r₂ with e | fl₂
        · exact hr₂
        · cases fl₂ with
          | ret r =>
            obtain ⟨rfl, h', tk, c', rfl, hS', hc', hk'⟩ := hr₂
            repeat (any_goals (first | assumption | wp_step))
            exact fin _ _ _ hS' hc' hk'
          | _ => exact hr₂.elim
    | _ => exact hr.elim
end
end TL

/-! T layer 30: sorted(set(e)), len(set(e)) of ints. -/
namespace TL
open PySem PySem.Spec PyProof.Rows L2 StX
variable [Tb]

/-! ### ascending, each once -/
def insU (a : Int) : List Int → List Int
  | [] => [a]
  | b :: r => if a < b then a :: b :: r else if a = b then b :: r else b :: insU a r
def srtU : List Int → List Int
  | [] => []
  | a :: r => insU a (srtU r)
theorem mem_insU {a x : Int} : ∀ {l : List Int}, x ∈ insU a l ↔ x = a ∨ x ∈ l
  | [] => by simp [insU]
  | b :: r => by
    unfold insU
    split
    · simp
    · split
      · rename_i h; subst h; simp
      · rw [List.mem_cons, mem_insU (l := r), List.mem_cons]
        constructor
        · rintro (h | h | h)
          · exact .inr (.inl h)
          · exact .inl h
          · exact .inr (.inr h)
        · rintro (h | h | h)
          · exact .inr (.inl h)
          · exact .inl h
          · exact .inr (.inr h)
theorem mem_srtU {x : Int} : ∀ {l : List Int}, x ∈ srtU l ↔ x ∈ l
  | [] => by simp [srtU]
  | a :: r => by
    show x ∈ insU a (srtU r) ↔ _
    rw [mem_insU, mem_srtU (l := r), List.mem_cons]
theorem asc_insU {a : Int} : ∀ {l : List Int}, l.Pairwise (· < ·) → (insU a l).Pairwise (· < ·)
  | [], _ => by simp [insU]
  | b :: r, h => by
    obtain ⟨h1, h2⟩ := List.pairwise_cons.mp h
    unfold insU
    split
    · rename_i hab
      exact List.pairwise_cons.mpr ⟨fun c hc => by
        rcases List.mem_cons.mp hc with rfl | hc
        · exact hab
        · have := h1 c hc; omega, h⟩
    · split
      · exact h
      · exact List.pairwise_cons.mpr ⟨fun c hc => by
          rcases mem_insU.mp hc with rfl | hc
          · omega
          · exact h1 c hc, asc_insU h2⟩
theorem asc_srtU : ∀ l : List Int, (srtU l).Pairwise (· < ·)
  | [] => .nil
  | _ :: r => asc_insU (asc_srtU r)
theorem asc_uniq : ∀ {l k : List Int}, l.Pairwise (· < ·) → k.Pairwise (· < ·) → (∀ x, x ∈ l ↔ x ∈ k) → l = k
  | [], [], _, _, _ => rfl
  | [], b :: k, _, _, h => absurd ((h b).mpr List.mem_cons_self) (by simp)
  | a :: l, [], _, _, h => absurd ((h a).mp List.mem_cons_self) (by simp)
  | a :: l, b :: k, hl, hk, h => by
    obtain ⟨l1, l2⟩ := List.pairwise_cons.mp hl
    obtain ⟨k1, k2⟩ := List.pairwise_cons.mp hk
    have e : a = b := by
      rcases List.mem_cons.mp ((h a).mp List.mem_cons_self) with e | m1
      · exact e
      · rcases List.mem_cons.mp ((h b).mpr List.mem_cons_self) with e | m2
        · exact e.symm
        · have := k1 a m1; have := l1 b m2; omega
    subst e
    rw [asc_uniq l2 k2 fun x => ?_]
    constructor
    · intro hx
      rcases List.mem_cons.mp ((h x).mp (List.mem_cons_of_mem _ hx)) with rfl | m
      · have := l1 x hx; omega
      · exact m
    · intro hx
      rcases List.mem_cons.mp ((h x).mpr (List.mem_cons_of_mem _ hx)) with rfl | m
      · have := k1 x hx; omega
      · exact m
theorem intsOf_some : ∀ {ds : List T} {ns : List Int}, intsOf ds = some ns → ds = ns.map T.int
  | [], ns, h => by cases h; rfl
  | d :: ds, ns, h => by
    cases d with
    | int i =>
      simp only [intsOf] at h
      cases hq : intsOf ds with
      | none => rw [hq] at h; cases h
      | some q =>
        rw [hq] at h
        cases h
        rw [intsOf_some hq]
        rfl
    | _ => simp [intsOf] at h
theorem rps_ints_inv {K : PySem.W.Frag} {F : Hp} {ι : List Addr} : ∀ {ns : List Int} {vs : List V}, Rps K F ι vs (ns.map T.int) → vs = ns.map V.int
  | [], _, h => by cases h; rfl
  | n :: ns, _, h => by
    cases h with
    | cons r t =>
      cases r
      rw [rps_ints_inv t]
      rfl
def setK (d : T) : M (List Int) := match seqOf d with
  | some ds => (match intsOf ds with
    | some ns => bif decide (ns.length < 64) then M.pure ns else M.no
    | none => M.no)
  | none => M.no
def lSortSet (f : Env → M T) : Env → M (List T) := fun ρ => M.bind (f ρ) fun d => M.bind (ld d) fun d => M.bind (setK d) fun ns => M.pure ((srtU ns).map T.int)
def eLenSet (f : Env → M T) : Env → M T := fun ρ => M.bind (f ρ) fun d => M.bind (ld d) fun d => M.bind (setK d) fun ns => M.pure (.int (srtU ns).length)
section
variable {X : Cx} {E : XK} {k : Nat} {e : Expr} {f : Env → M T} {p p2 q pos : Pos}
/-- the set that set(v) lays -/
theorem set_made (o : XO X E k) {α : Type} {pins : List (Addr × Obj)} {σ : L2.St} {s : Shared} {H : Hp} {F : Hp} {ι : List Addr} {μ : Store} {v : V} {u : Value} {d : T} {c : List Int → M α} {rp : Hp → List Addr → Store → Hp → α → Prop} {A : Around} {E' : Value → Shared → Prop} {Q : Value → Shared → Prop} (hA : A.handled = none) (I : Inv X pins σ H s) (ru : RelV v u) (hr : Rel X.K F ι μ H) (lx : Lp X.K F ι H v d) (hp : Post X.K X.mg E (M.bind (setK d) c μ) F ι H rp)
    (fin : ∀ ns : List Int, ns.length < 64 → Post X.K X.mg E (c ns μ) F ι H rp → ∀ (h' : Heap) (tk n : Nat), SetR X.w h' s.heap.objs.size (fun j => decide (j ∈ ns)) n → n ≤ ns.length → (∀ b ob, s.heap.get? b = some ob → h'.get? b = some ob) → Q (.ref s.heap.objs.size) { s with heap := h', toks := tk }) :
    wpAny (model X.prog X.w) A (call (.type "set") [u]) Q E' s := by
  unfold M.bind setK at hp
  cases hs : seqOf d with
  | none => rw [hs] at hp; exact hp.elim
  | some ds =>
    rw [hs] at hp
    simp only [] at hp
    cases hn : intsOf ds with
    | none => rw [hn] at hp; exact hp.elim
    | some ns =>
      rw [hn] at hp
      simp only [] at hp
      cases hz : decide (ns.length < 64) with
      | false => rw [hz] at hp; exact hp.elim
      | true =>
        rw [hz] at hp
        have hl : ns.length < 64 := of_decide_eq_true hz
        have hb : ns.length + 1 < scanBound := by unfold scanBound; omega
        have e0 := intsOf_some hn
        have lst : ∀ {a : Addr} {vs : List V}, v = .ref a → SqL X.K H a vs → Rps X.K F ι vs ds → wpAny (model X.prog X.w) A (call (.type "set") [u]) Q E' s := fun {a vs} hv sq ra => by
          subst hv
          cases ru
          rw [e0] at ra
          have ev := rps_ints_inv ra
          subst ev
          obtain ⟨its, r, pl, _⟩ := I.list sq
          exact set_of_list ns hA pl.isList (by simpa using r.ints) hb fun h' tk n a b c => fin ns hl hp h' tk n a b c
        have tup : ∀ {a : Addr} {vs : List V}, v = .ref a → SqT X.K H a vs → Rps X.K F ι vs ds → wpAny (model X.prog X.w) A (call (.type "set") [u]) Q E' s := fun {a vs} hv sq ra => by
          subst hv
          cases ru
          rw [e0] at ra
          have ev := rps_ints_inv ra
          subst ev
          obtain ⟨its, r, pl, _⟩ := I.tuple sq
          exact call_set_tupI ns hA pl (by simpa using r.ints) hb fun h' tk n a b c => fin ns hl hp h' tk n a b c
        cases lx with
        | lst ha ra => cases hs; exact lst rfl (SqL.of ha) ra
        | fls ha ra => cases hs; exact lst rfl (hr.sub.sub.seqL ha) ra
        | tup ha ra => cases hs; exact tup rfl (SqT.of (hr.sub _ _ ha)) ra
        | ftp ha ra => cases hs; exact tup rfl (hr.sub.sub.seqT ha.t) ra
        | _ => cases hs
theorem l_sortSet (o : XO X E k) (he : DE X E e f) (hm : X.mg "sorted" = none) (hm2 : X.mg "set" = none) (hg : Gl X "sorted" := by rfl) (hg2 : Gl X "set" := by rfl)
    (na : starEach [e] X.env = (false, eval e X.env) :: starEach [] X.env := by rfl) : DL X E (.Call (.Name "sorted" p) [.Call (.Name "set" p2) [e] [] q] [] pos) (lSortSet f) := by
  refine ⟨fun pins s σ H Q I ⟨F, ι, μ, ρ, hr, hen, hp⟩ => ?_⟩
  refine Call_ (ld_blt I hg hm PyProof.Rows.boot_sorted ?_)
  refine PyProof.Rows.callWith_builtin1 (PyProof.Rows.args_cons ?_ rfl) rfl rfl
  refine Call_ (ld_blt I hg2 hm2 PyProof.Rows.boot_set ?_)
  refine PyProof.Rows.callWith_type1 (PyProof.Rows.args_cons (thn (he.run pins s σ H (fun v H1 => ∃ F1 ι1 μ1 d, Rel X.K F1 ι1 μ1 H1 ∧ Rp X.K F1 ι1 v d ∧ Post X.K X.mg E (M.bind (ld d) (fun d => M.bind (setK d) fun ns => M.pure ((srtU ns).map T.int)) μ1) F1 ι1 H1 _) I
    (At.e hr hen hp fun F1 ι1 μ1 H1 v d x1 r1 rv p1 => ⟨F1, ι1, μ1, d, r1, rv, p1⟩)) fun u s1 ⟨v, H1, I1, ru, F1, ι1, μ1, d, r1, rv, p1⟩ => PyProof.Rows.args_nil ?_) na) na rfl
  obtain ⟨d', lx, p2⟩ := ld_post r1 rv p1
  refine set_made o (I.ok.hd o.calm) I1 ru r1 lx p2 fun ns hn p3 h' tk n hS hc hk => ?_
  refine PyProof.Rows.args_nil ?_
  have I2 : Inv X pins σ H1 { s1 with heap := h', toks := tk } := I1.kept hk
  refine sorted_set hS (I.ok.hd o.calm) (by omega) fun s' p out c ns' kp eg eo hz hp' hit hpw hmem hlen => ?_
  have e1 : ns' = srtU ns := asc_uniq hpw (asc_srtU ns) fun x => by rw [hmem, mem_srtU]; simp
  subst e1
  have hln : (srtU ns).length < 64 := by rw [hlen]; omega
  have hlen2 : ((srtU ns).map V.int).length ≤ sizeLine := by rw [List.length_map, sizeLine_eq]; omega
  have hn0 : H1 p = none := I2.hok.fresh hz
  have J : Inv X pins σ (upd H1 p (.lst ((srtU ns).map V.int))) { s1 with heap := s'.heap, gens := s'.gens, drawn := s'.drawn, toks := s'.toks } :=
    Inv.call (s := { s1 with heap := h', toks := tk }) I2 (ch := []) (Un.laid kp hz hn0) (I2.hok.laid kp hz ⟨hlen2, out.toList, c, vals_of_ints hit, hp'⟩) (by rw [eg]; exact I2.bare) (fun _ z => nomatch z)
  have es : s' = { s1 with heap := s'.heap, gens := s'.gens, drawn := s'.drawn, toks := s'.toks } := by
    cases s'
    cases s1
    cases eo
    rfl
  rw [es]
  have fin := Post.pure (a := (srtU ns).map T.int) p3 r1
  exact ⟨.ref p, _, J, rfl, fin p _ _ (fun a z => upd_ne z) hn0 upd_same (rps_ints _)⟩
theorem d_lenSet (o : XO X E k) (he : DE X E e f) (hm : X.mg "len" = none) (hm2 : X.mg "set" = none) (hg : Gl X "len" := by rfl) (hg2 : Gl X "set" := by rfl)
    (na : starEach [e] X.env = (false, eval e X.env) :: starEach [] X.env := by rfl) : DE X E (.Call (.Name "len" p) [.Call (.Name "set" p2) [e] [] q] [] pos) (eLenSet f) := by
  refine ⟨fun pins s σ H Q I ⟨F, ι, μ, ρ, hr, hen, hp⟩ => ?_⟩
  refine Call_ (ld_blt I hg hm PySem.boot_len ?_)
  refine PyProof.Rows.callWith_builtin1 (PyProof.Rows.args_cons ?_ rfl) rfl rfl
  refine Call_ (ld_blt I hg2 hm2 PyProof.Rows.boot_set ?_)
  refine PyProof.Rows.callWith_type1 (PyProof.Rows.args_cons (thn (he.run pins s σ H (fun v H1 => ∃ F1 ι1 μ1 d, Rel X.K F1 ι1 μ1 H1 ∧ Rp X.K F1 ι1 v d ∧ Post X.K X.mg E (M.bind (ld d) (fun d => M.bind (setK d) fun ns => M.pure (T.int (srtU ns).length)) μ1) F1 ι1 H1 (wT X.K Q)) I
    (At.e hr hen hp fun F1 ι1 μ1 H1 v d x1 r1 rv p1 => ⟨F1, ι1, μ1, d, r1, rv, p1⟩)) fun u s1 ⟨v, H1, I1, ru, F1, ι1, μ1, d, r1, rv, p1⟩ => PyProof.Rows.args_nil ?_) na) na rfl
  obtain ⟨d', lx, p2⟩ := ld_post r1 rv p1
  refine set_made o (I.ok.hd o.calm) I1 ru r1 lx p2 fun ns hn p3 h' tk n hS hc hk => ?_
  refine PyProof.Rows.args_nil ?_
  have I2 : Inv X pins σ H1 { s1 with heap := h', toks := tk } := I1.kept hk
  obtain ⟨ob, es, ep, t, ho, hex, hd, _, nd, hmem, _, hf, hsz, _⟩ := hS
  have hl : es.size = (srtU ns).length := by
    have pm : (es.toList.map L2.keyOf).Perm (srtU ns) := (List.perm_ext_iff_of_nodup nd ((asc_srtU ns).imp fun h => Int.ne_of_lt h)).mpr fun x => by rw [← hmem x, mem_srtU]; simp
    have := pm.length_eq
    simpa using this
  refine call_len_set ho hex hd hf (by rw [hsz]; omega) ⟨.int (srtU ns).length, H1, I2.tok _, ⟨_, by rw [← hl]⟩, Post.pure p3 r1 _ (.int _)⟩
end
end TL

/-! T layer 31: sorted(d), list(d) of a dict. -/
namespace TL
open PySem PySem.Spec PyProof.Rows PySem.W L2 StX
variable [Tb]

section
variable {prog : Program} {w : World} {A : Around} {E : Value → Shared → Prop} {s : Shared} {β : Type} {bs : List β} {enc : β → PyData} {R : Value → β → Prop}
/-- sorted(x), x by what its items are when they are gathered -/
theorem sorted_coll {l : Addr} {Q : Value → Shared → Prop} (hc : ∀ (G : List Value → Shared → Prop) (E : Value → Shared → Prop), (∀ (h1 : Heap) (tk : Nat) (vs : List Value), (∀ b o, s.heap.get? b = some o → h1.get? b = some o) → EachIs R vs bs → G vs { s with heap := h1, toks := tk }) → wpAny (model prog w) A.in1 (collect (.ref l)) G E s)
    (er : ∀ {vs : List Value}, EachIs R vs bs → EachIs (fun v b => ∃ as, Reads s.heap v (enc b) as) vs bs) (hal : AllAlike (bs.map enc)) (hk : Sortable2 (bs.map enc)) (hL : bs.length ≤ sizeLine)
    (hu : ∀ b, b ∈ bs → A.units + 2 + (enc b).depth < cLine)
    (h : ∀ (h1 : Heap) (tk : Nat) (out : List Value) p h', (∀ b o, s.heap.get? b = some o → h1.get? b = some o) → out.length = bs.length → EachIs R out (bs.mergeSort (dataLe false enc)) → h1.objs.size ≤ p → (∀ b o, h1.get? b = some o → h'.get? b = some o) → (∃ c, h'.get? p = some (seqObj "list" out.toArray c)) → Q (.ref p) { s with heap := h', toks := tk }) :
    wpAny (model prog w) A (call (.builtin "sorted") [.ref l]) Q E s := by
  refine call_function_entry_kw kind_sorted plain_sorted entry_sorted (args_sorted1 _) ?_
  unfold Builtin.«sorted»
  refine wpAny_bind (m := checkCount "sorted" 1 1 _) (wpAny_pure ?_)
  refine wpAny_bind (hc _ _ fun h1 tk vs k1 e => ?_)
  have hLv : vs.length ≤ sizeLine := by rw [e.length]; exact hL
  refine wpAny_bind (wpAny_newList ?_ hLv)
  have hp : (h1.push (seqObj "list" vs.toArray 0)).get? h1.objs.size = some (seqObj "list" vs.toArray 0) := Heap.get?_push_size _ rfl
  have old : ∀ b ob, h1.get? b = some ob → b ≠ h1.objs.size ∧ (h1.push (seqObj "list" vs.toArray 0)).get? b = some ob := fun b ob eo => ⟨Nat.ne_of_lt (Heap.lt_size eo), Heap.get?_push_of_some _ eo⟩
  have e2 : EachIs (fun v b => ∃ as, Reads (sortingHeap (h1.push (seqObj "list" vs.toArray 0)) h1.objs.size vs) v (enc b) as) vs bs := (er e).mono fun _ _ ⟨as, r⟩ => ⟨as, PyProof.Rows.Reads.keeps (fun b ob eo => sortingHeap_old (old b ob (k1 _ _ eo)).1 (old b ob (k1 _ _ eo)).2) r⟩
  refine wpAny_bind (wpAny_holding (wpAny_call_entry_kw slot_list_sort ⟨_, hp, rfl⟩ entry_list_sort ?body (args_list_sort _)))
  case body =>
    show wpAny (model prog w) A.in1.in1 (Builtin.«list.sort» ⟨[.ref h1.objs.size], []⟩) _ _ { s with heap := h1.push (seqObj "list" vs.toArray 0), toks := tk }
    refine list_sort_vals (s := { s with heap := h1.push (seqObj "list" vs.toArray 0), toks := tk }) hp (sortsAt2 (s := { s with heap := sortingHeap (h1.push (seqObj "list" vs.toArray 0)) h1.objs.size vs, toks := tk }) (each_map (R := fun v d => ∃ as, Reads (sortingHeap (h1.push (seqObj "list" vs.toArray 0)) h1.objs.size vs) v d as) enc e2) hal hk (bound_map hu)) hLv ?_
    refine ⟨_, rfl, wpAny_pure ⟨_, rfl, ?_⟩⟩
    refine h h1 tk _ _ _ k1 (by rw [sortVals_length false rfl]; exact e.length) (sortVals_data false e e2 hal) (Nat.le_refl _) (fun b ob eo => ?_) (sortedHeap_at hp)
    obtain ⟨h2, h3⟩ := old b ob eo
    exact (sortedHeap_old h2 (Heap.lt_size h3)).trans h3
end
section
variable {X : Cx} {pins : List (Addr × Obj)} {σ : L2.St} {H : Hp} {s : Shared} {F : Hp} {ι : List Addr} {μ : Store}
theorem rpk_keys : ∀ {kvs : List (Key × V)} {ps : List (T × T)}, Rpk X.K F ι kvs ps → ps.map (·.1) = (kvs.map (·.1)).map keyT
  | _, _, .nil => rfl
  | _, _, .cons _ t => by rw [List.map_cons, List.map_cons, List.map_cons, rpk_keys t]
theorem rpt_keys : ∀ {kvs : List (List Key × V)} {ps : List (T × T)}, Rpt X.K F ι kvs ps → ps.map (·.1) = (kvs.map (·.1)).map fun ks => T.tup (ks.map keyT)
  | _, _, .nil => rfl
  | _, _, .cons _ t => by rw [List.map_cons, List.map_cons, List.map_cons, rpt_keys t]
/-- a dict's keys as they lie -/
theorem keys_raw {a : Addr} {tk : Bool} {ps : List (T × T)} (I : Inv X pins σ H s) (r : Rel X.K F ι μ H) (lx : Lp X.K F ι H (.ref a) (.dic tk ps)) : ∃ F' es ep vs, Ext F ι H F' ι H ∧ Rel X.K F' ι μ H ∧ s.heap.DictRaw a es ep ∧ (a == sysModules) = false ∧ es.size = ps.length ∧ es.size ≤ sizeLine ∧
    Rps X.K F' ι vs (ps.map (·.1)) ∧ ∀ (us : List Value), us.length = es.size → (∀ (j : Nat) (v : Value), us[j]? = some v → ∃ hj : j < es.size, v = es[j].key) → Vals vs us := by
  obtain ⟨F', x, r', lt⟩ := r.learn
  cases lx with
  | @dic _ kvs _ hd rk =>
    obtain ⟨z, sm, vs, kv, dd⟩ := dk_rd I.hok hd
    obtain ⟨es, ep, raw, sz, ent⟩ := dd.raw
    have hl : kvs.length = vs.length := Paired.length kv
    refine ⟨F', es, ep, kvs.map fun p => kV p.1, x, r', raw, sm, by rw [sz, ← hl, rk.length], by rw [sz, ← hl]; exact z, ?_, fun us hus hj => ?_⟩
    · have e0 : (kvs.map fun p => kV p.1) = (kvs.map (·.1)).map kV := by rw [List.map_map]; rfl
      rw [rpk_keys rk, e0]
      exact rps_keys _
    · have e : (kvs.map fun p => kV p.1) = vs.map fun p => kV p.1 := by
        have e := congrArg (List.map kV) kv.keys
        rw [List.map_map, List.map_map] at e
        exact e
      rw [e]
      refine keys_at (by rw [hus, sz]) fun j v hv => ?_
      obtain ⟨h1, rfl⟩ := hj j v hv
      have hjv : j < vs.length := by omega
      obtain ⟨q1, q2⟩ := ent j h1 vs[j].1 vs[j].2 (List.getElem?_eq_getElem hjv)
      exact ⟨_, _, List.getElem?_eq_getElem hjv, q1⟩
  | @dit _ kvs _ hd rk =>
    obtain ⟨z, sm, xs, rel, dd⟩ := dt_rd I.hok hd
    obtain ⟨es, ep, raw, sz, ent⟩ := dd.raw
    have hl : kvs.length = xs.length := Paired.length rel
    refine ⟨F', es, ep, xs.map fun y => V.ref y.2.1, x, r', raw, sm, by rw [sz, ← hl, rk.length], by rw [sz, ← hl]; exact z, ?_, fun us hus hj => ?_⟩
    · rw [rpt_keys rk]
      have go : ∀ {kvs : List (List Key × V)} {xs : List (List Key × Addr × Value)}, KT H kvs xs → Rps X.K F' ι (xs.map fun y => V.ref y.2.1) ((kvs.map (·.1)).map fun ks => T.tup (ks.map keyT)) := by
        intro kvs xs q
        induction q with
        | nil => exact .nil
        | @cons p y pr qs hq t ih => exact .cons (.tup (lt _ _ hq.2.1) (rps_keys _)) ih
      exact go rel
    · have go : ∀ {us : List Value} {xs : List (List Key × Addr × Value)}, us.length = xs.length → (∀ (j : Nat) (v : Value), us[j]? = some v → ∃ y : List Key × Addr × Value, xs[j]? = some y ∧ v = .ref y.2.1) → Vals (xs.map fun y => V.ref y.2.1) us := by
        intro us
        induction us with
        | nil => intro xs h _; cases xs with | nil => exact .nil | cons _ _ => simp at h
        | cons u us ih =>
          intro xs h g
          cases xs with
          | nil => simp at h
          | cons y xs =>
            obtain ⟨y', e1, e2⟩ := g 0 u rfl
            cases e1
            subst e2
            refine .cons rfl (ih (by simpa using h) fun j v e => ?_)
            obtain ⟨y', a, b⟩ := g (j + 1) v (by simpa using e)
            exact ⟨y', by simpa using a, b⟩
      refine go (by rw [hus, sz]) fun j v hv => ?_
      obtain ⟨h1, rfl⟩ := hj j v hv
      obtain ⟨y, hy, k1, k2, _⟩ := ent j h1
      exact ⟨y, hy, k1⟩
end
def gSortD (tk : Bool) (ps : List (T × T)) : M (List T) := gSort (ps.map (·.1))
/-- sorted of a list, a tuple, a dict -/
def gSortB : List T → M (List T)
  | [.cell k] => fun μ => match μ[k]? with
    | some ⟨_, .dic _ ps⟩ => gSort (ps.map (·.1)) μ
    | _ => gSortA [.cell k] μ
  | [.dic _ ps] => gSort (ps.map (·.1))
  | ds => gSortA ds
section
variable {X : Cx} {E : XK} {k : Nat}
theorem sort_dict (o : XO X E k) {pins : List (Addr × Obj)} {σ : L2.St} {H : Hp} {s : Shared} {F : Hp} {ι : List Addr} {μ : Store} {a : Addr} {tk : Bool} {ps : List (T × T)} {Q : VK} (I : Inv X pins σ H s) (hr : Rel X.K F ι μ H) (lx : Lp X.K F ι H (.ref a) (.dic tk ps))
    (hp : Post X.K X.mg E (gSort (ps.map (·.1)) μ) F ι H (fun F' ι' _ H' ds => ∀ p xs H'', (∀ a, a ≠ p → H'' a = H' a) → H' p = none → H'' p = some (.lst xs) → Rps X.K F' ι' xs ds → Q (.ref p) H'')) : wpAny (model X.prog X.w) X.A (call (.builtin "sorted") [.ref a]) (EP X pins σ Q) X.xe s := by
  obtain ⟨F', es, ep, vs, x, hr, raw, sm, sz, szl, rvs, back⟩ := keys_raw I hr lx
  have hp := hp.later x
  generalize hes : ps.map (·.1) = ks at hp rvs
  have hlk : ks.length = es.size := by rw [← hes, List.length_map, sz]
  simp only [gSort] at hp
  cases hz : srtOk ks with
  | false => rw [hz] at hp; exact hp.elim
  | true =>
    rw [hz] at hp
    have hp : Post X.K X.mg E (M.pure (ks.mergeSort leT) μ) F' ι H _ := hp
    unfold srtOk at hz
    rw [Bool.and_eq_true, Bool.and_eq_true, Bool.and_eq_true] at hz
    obtain ⟨⟨⟨h1, h2⟩, h3⟩, h4⟩ := hz
    have shp1 : ∀ d ∈ ks, shp d = true := fun d hd => List.all_eq_true.mp h1 d hd
    refine sorted_coll (enc := toD) (bs := ks) (R := fun u d => ∃ v, RelV v u ∧ Rp X.K F' ι v d) (fun G E' hG => ?_) (fun {us} ee => ?_) ?_ ?_ (fits_le h4) ?_ ?_
    · refine kdu_collect (A := X.A.in1) (KdlSrc.rawDict (ep := ep) sm) (I.ok.hd o.calm) raw szl fun h' tk acc hk hacc => hG h' tk acc.toList hk (each_of (back _ (by rw [Array.length_toList]; exact hacc.1) fun j v e => ?_) rvs)
      exact hacc.2 j v (by rw [← Array.getElem?_toList]; exact e)
    · obtain ⟨ws, q1, q2⟩ := each_back ee
      have go : ∀ {vs : List V} {us : List Value} {ds : List T}, Vals vs us → Rps X.K F' ι vs ds → (∀ d ∈ ds, shp d = true) → EachIs (fun u d => ∃ as, Reads s.heap u (toD d) as) us ds := by
        intro vs us ds a
        induction a generalizing ds with
        | nil => intro b _; cases b; exact .nil
        | cons r t ih =>
          intro b h
          cases b with
          | cons q s => exact .cons (Dp.reads I _ _ _ (q.dp hr.sub (shp_ok (h _ List.mem_cons_self))) r) (ih s fun d hd => h d (List.mem_cons_of_mem _ hd))
      exact go q1 q2 shp1
    · intro x hx y hy
      obtain ⟨b, hb, rfl⟩ := List.mem_map.mp hx
      obtain ⟨c, hc, rfl⟩ := List.mem_map.mp hy
      exact List.all_eq_true.mp (List.all_eq_true.mp h2 b hb) c hc
    · rw [Bool.or_eq_true] at h3
      rcases h3 with h3 | h3
      · refine .inl fun d hd => ?_
        obtain ⟨b, hb, rfl⟩ := List.mem_map.mp hd
        have q := List.all_eq_true.mp h3 b hb
        unfold neTup at q
        split at q
        · exact ⟨_, by simp only [toD]; rfl⟩
        · exact ⟨_, by simp only [toD]; rfl⟩
        · cases q
      · refine .inr fun d hd => ?_
        obtain ⟨b, hb, rfl⟩ := List.mem_map.mp hd
        have q := List.all_eq_true.mp h3 b hb
        have ok := shp_ok (shp1 b hb)
        unfold noTup at q
        split at q
        · cases q
        · cases q
        · cases q
        · cases b <;> simp_all [toD, okT]
    · intro b hb
      have h := shp1 b hb
      unfold shp at h
      rw [Bool.and_eq_true] at h
      have h5 : (toD b).depth ≤ 64 := of_decide_eq_true h.2
      have := o.room.un
      omega
    · intro h1 tk out p h' k1 ho eo sz2 kp ⟨c, hc⟩
      obtain ⟨ws, rw1, rw2⟩ := each_back eo
      have I1 : Inv X pins σ H { s with heap := h1, toks := tk } := I.kept k1
      have nq : H p = none := I1.hok.fresh sz2
      have rw3 : Rps X.K F' ι ws (ks.mergeSort leT) := rw2
      refine ⟨.ref p, upd H p (.lst ws), I1.laid (t' := tk) (o := .lst ws) kp sz2 ?_, rfl, hp F' ι H (.refl ..) hr _ ws _ (fun a z => upd_ne z) nq upd_same rw3⟩
      exact ⟨by rw [rw1.length, ho]; exact fits_le h4, _, c, rw1, hc⟩
theorem c_sortB (o : XO X E k) : CallL X E (.builtin "sorted") gSortB := by
  intro pins s σ H xs us Q I rv ⟨F, ι, μ, ds, hr, rs, hp⟩
  unfold gSortB at hp
  split at hp
  · rename_i n
    split at hp
    · rename_i lv tk ps hμ
      cases rs with
      | cons r1 t =>
        cases t
        cases r1 with
        | cell e =>
          obtain ⟨u1, rfl, ru1⟩ := vals1 rv
          cases ru1
          obtain ⟨u, hu, ro, _⟩ := hr.cel _ _ _ e hμ
          cases ro with
          | dic rk => exact sort_dict o I hr (.dic (.inl hu) rk) hp
          | dit rk => exact sort_dict o I hr (.dit (.inl hu) rk) hp
          | fdic rk => exact sort_dict o I hr (.dic (.inr ⟨_, hu⟩) rk) hp
          | fdit rk => exact sort_dict o I hr (.dit (.inr ⟨_, hu⟩) rk) hp
    · exact c_sortA o pins s σ H xs us Q I rv ⟨F, ι, μ, _, hr, rs, hp⟩
  · cases rs with
    | cons r1 t =>
      cases t
      obtain ⟨u1, rfl, ru1⟩ := vals1 rv
      cases r1 with
      | dic ha rk => cases ru1; exact sort_dict o I hr (.dic (.inr ⟨_, hr.sub _ _ ha⟩) rk) hp
      | dit ha rk => cases ru1; exact sort_dict o I hr (.dit (.inr ⟨_, hr.sub _ _ ha⟩) rk) hp
  · exact c_sortA o pins s σ H xs us Q I rv ⟨F, ι, μ, _, hr, rs, hp⟩
end
end TL

/-! T layer 32: min, max of alike data: the item itself. -/
namespace TL
open PySem PySem.Spec PyProof.Rows PySem.W L2 StX
variable [Tb]
open PySem.SeqAt

section
variable {prog : Program} {w : World} {A : Around} {E : Value → Shared → Prop} {s : Shared}
theorem dpAll_rps {X : Cx} {F : Hp} {ι : List Addr} {H : Hp} (hF : All F H) : ∀ {vs : List V} {ds : List T}, Rps X.K F ι vs ds → (∀ d ∈ ds, shp d = true) → DpAll X.K H vs (ds.map toD)
  | _, _, .nil, _ => .nil
  | _, _, .cons q t, h => .cons (q.dp hF (shp_ok (h _ List.mem_cons_self))) (dpAll_rps hF t fun d hd => h d (List.mem_cons_of_mem _ hd))
theorem toD_getD (x : T) (xs : List T) (i : Nat) (h : i < (x :: xs).length) : ((x :: xs).map toD).getD i PyData.none = toD ((x :: xs).getD i x) := by
  rw [List.getD_eq_getElem?_getD, List.getD_eq_getElem?_getD, List.getElem?_map, List.getElem?_eq_getElem h]
  rfl
/-- min of a list or a tuple of alike data -/
theorem min_seq_item {l : Addr} {vs : Array Value} {x : T} {xs : List T} {as : List Addr} {Q : Value → Shared → Prop} (hh : A.handled = none) (hl : s.heap.IsList l vs ∨ s.heap.IsTuple l vs) (hr : ReadsAll s.heap vs.toList ((x :: xs).map toD) as) (ha : AlikeAll ((x :: xs).map toD)) (hu : A.units + 1 + PyData.depthAll ((x :: xs).map toD) < cLine)
    (h : ∀ (i : Nat) v h' tk, vs[i]? = some v → (x :: xs)[i]? = some (xs.foldl (fun a y => if dataLt (toD y) (toD a) then y else a) x) → (∀ b o, s.heap.get? b = some o → h'.get? b = some o) → Q v { s with heap := h', toks := tk }) :
    wpAny (model prog w) A (call (.builtin "min") [.ref l]) Q E s := by
  have hn : vs.size = xs.length + 1 := by have := readsAll_len hr; simpa using this
  have hcmp : CmpIn prog w A.in1 .Lt s.heap (fun i v => vs[i]? = some v) (fun i j => dataLt (toD ((x :: xs).getD i x)) (toD ((x :: xs).getD j x))) := fun i j vi vj s' Q E hk hi hj hq => by
    have li : i < (x :: xs).length := by have := (Array.getElem?_eq_some_iff.mp hi).1; simp only [List.length_cons]; omega
    have lj : j < (x :: xs).length := by have := (Array.getElem?_eq_some_iff.mp hj).1; simp only [List.length_cons]; omega
    refine cmpIn_lt (A := A.in1) hr ha (by show A.units + 1 + _ < _; exact hu) i j vi vj s' Q E hk hi hj ?_
    show Q (Value.bool (dataLt (((x :: xs).map toD).getD i PyData.none) (((x :: xs).map toD).getD j PyData.none))) s'
    rw [toD_getD _ _ _ li, toD_getD _ _ _ lj]
    exact hq
  have fin : ∀ (s₂ : Shared) v s', s₂ = { s with heap := s.heap.push s₂.heap.objs.back! } ∨ True → vs[argBest (fun i j => dataLt (toD ((x :: xs).getD i x)) (toD ((x :: xs).getD j x))) (vs.size - 1)]? = some v → (∃ h' tk, s' = { s with heap := h', toks := tk } ∧ ∀ b o, s.heap.get? b = some o → h'.get? b = some o) → Q v s' := by
    intro s₂ v s' _ hP ⟨h', tk, e, hk'⟩
    subst e
    have e1 : vs.size - 1 = xs.length := by omega
    rw [e1] at hP
    obtain ⟨e2, e3⟩ := argBest_fold (fun a b => dataLt (toD a) (toD b)) x x xs xs.length (Nat.le_refl _)
    rw [List.take_length] at e3
    refine h _ v h' tk hP ?_ hk'
    rw [← e3, List.getD_eq_getElem?_getD, List.getElem?_eq_getElem (by simp only [List.length_cons]; omega)]
    rfl
  rcases hl with hl | hl
  · refine call_min_walkH (iter_listW (A := A.in1) hh hl fun s₂ e W st hfp hw hk => ?_)
    exact ⟨_, _, _, _, _, _, _, s.heap, _, rfl, W, st, hfp, by omega, hw, hk, hcmp, fun v s' hP m => fin s₂ v s' (.inr trivial) hP (moved_old e rfl m)⟩
  · refine call_min_walkH (iter_tupleW (A := A.in1) hh hl fun s₂ e W st hfp hw hk => ?_)
    exact ⟨_, _, _, _, _, _, _, s.heap, _, rfl, W, st, hfp, by omega, hw, hk, hcmp, fun v s' hP m => fin s₂ v s' (.inr trivial) hP (moved_old e rfl m)⟩
theorem max_seq_item {l : Addr} {vs : Array Value} {x : T} {xs : List T} {as : List Addr} {Q : Value → Shared → Prop} (hh : A.handled = none) (hl : s.heap.IsList l vs ∨ s.heap.IsTuple l vs) (hr : ReadsAll s.heap vs.toList ((x :: xs).map toD) as) (ha : AlikeAll ((x :: xs).map toD)) (hu : A.units + 1 + PyData.depthAll ((x :: xs).map toD) < cLine)
    (h : ∀ (i : Nat) v h' tk, vs[i]? = some v → (x :: xs)[i]? = some (xs.foldl (fun a y => if dataLt (toD a) (toD y) then y else a) x) → (∀ b o, s.heap.get? b = some o → h'.get? b = some o) → Q v { s with heap := h', toks := tk }) :
    wpAny (model prog w) A (call (.builtin "max") [.ref l]) Q E s := by
  have hn : vs.size = xs.length + 1 := by have := readsAll_len hr; simpa using this
  have hcmp : CmpIn prog w A.in1 .Gt s.heap (fun i v => vs[i]? = some v) (fun i j => dataLt (toD ((x :: xs).getD j x)) (toD ((x :: xs).getD i x))) := fun i j vi vj s' Q E hk hi hj hq => by
    have li : i < (x :: xs).length := by have := (Array.getElem?_eq_some_iff.mp hi).1; simp only [List.length_cons]; omega
    have lj : j < (x :: xs).length := by have := (Array.getElem?_eq_some_iff.mp hj).1; simp only [List.length_cons]; omega
    refine cmpIn_gt (A := A.in1) hr ha (by show A.units + 1 + _ < _; exact hu) i j vi vj s' Q E hk hi hj ?_
    show Q (Value.bool (dataLt (((x :: xs).map toD).getD j PyData.none) (((x :: xs).map toD).getD i PyData.none))) s'
    rw [toD_getD _ _ _ li, toD_getD _ _ _ lj]
    exact hq
  have fin : ∀ v s', vs[argBest (fun i j => dataLt (toD ((x :: xs).getD j x)) (toD ((x :: xs).getD i x))) (vs.size - 1)]? = some v → (∃ h' tk, s' = { s with heap := h', toks := tk } ∧ ∀ b o, s.heap.get? b = some o → h'.get? b = some o) → Q v s' := by
    intro v s' hP ⟨h', tk, e, hk'⟩
    subst e
    have e1 : vs.size - 1 = xs.length := by omega
    rw [e1] at hP
    obtain ⟨e2, e3⟩ := argBest_fold (fun a b => dataLt (toD b) (toD a)) x x xs xs.length (Nat.le_refl _)
    rw [List.take_length] at e3
    refine h _ v h' tk hP ?_ hk'
    rw [← e3, List.getD_eq_getElem?_getD, List.getElem?_eq_getElem (by simp only [List.length_cons]; omega)]
    rfl
  rcases hl with hl | hl
  · refine call_max_walkH (iter_listW (A := A.in1) hh hl fun s₂ e W st hfp hw hk => ?_)
    exact ⟨_, _, _, _, _, _, _, s.heap, _, rfl, W, st, hfp, by omega, hw, hk, hcmp, fun v s' hP m => fin v s' hP (moved_old e rfl m)⟩
  · refine call_max_walkH (iter_tupleW (A := A.in1) hh hl fun s₂ e W st hfp hw hk => ?_)
    exact ⟨_, _, _, _, _, _, _, s.heap, _, rfl, W, st, hfp, by omega, hw, hk, hcmp, fun v s' hP m => fin v s' hP (moved_old e rfl m)⟩
end

def noNon (d : T) : Bool := match d with | .non => false | _ => true
def mmOk (ds : List T) : Bool := ds.all (fun d => shp d) && alikeTs ds && ds.all noNon
def minTs (x : T) (r : List T) : T := r.foldl (fun a y => bif dataLt (toD y) (toD a) then y else a) x
def maxTs (x : T) (r : List T) : T := r.foldl (fun a y => bif dataLt (toD a) (toD y) then y else a) x
def gMinL (d : T) : M T := match seqOf d with
  | some (x :: r) => bif mmOk (x :: r) then M.pure (minTs x r) else M.no
  | _ => M.no
def gMaxL (d : T) : M T := match seqOf d with
  | some (x :: r) => bif mmOk (x :: r) then M.pure (maxTs x r) else M.no
  | _ => M.no
def gMinB (d : T) : M T := match (listOf d).bind intsOf with
  | some _ => gMin d
  | none => gMinL d
def gMaxB (d : T) : M T := match (listOf d).bind intsOf with
  | some _ => gMax d
  | none => gMaxL d
section
variable {X : Cx} {E : XK} {k : Nat}
theorem mm_ok {pins : List (Addr × Obj)} {σ : L2.St} {H : Hp} {s : Shared} {F : Hp} {ι : List Addr} {μ : Store} {x : V} {u : Value} {d : T} {es : List T} (o : XO X E k) (I : Inv X pins σ H s) (hr : Rel X.K F ι μ H) (lx : Lp X.K F ι H x d) (ru : RelV x u) (hd : seqOf d = some es) (hz : mmOk es = true) :
    ∃ a vs its as, u = .ref a ∧ Vals vs its ∧ Rps X.K F ι vs es ∧ (s.heap.IsList a its.toArray ∨ s.heap.IsTuple a its.toArray) ∧ ReadsAll s.heap its (es.map toD) as ∧ AlikeAll (es.map toD) ∧ X.A.units + 1 + PyData.depthAll (es.map toD) < cLine := by
  unfold mmOk at hz
  rw [Bool.and_eq_true, Bool.and_eq_true] at hz
  obtain ⟨⟨h1, h2⟩, h3⟩ := hz
  have shp1 : ∀ d ∈ es, shp d = true := fun d hd => List.all_eq_true.mp h1 d hd
  obtain ⟨a, vs, rfl, hseq, rs⟩ := seqOf_lp hr.sub lx hd
  have hal : AlikeAll (es.map toD) := by
    constructor
    · intro x hx y hy
      obtain ⟨b, hb, rfl⟩ := List.mem_map.mp hx
      obtain ⟨c, hc, rfl⟩ := List.mem_map.mp hy
      exact List.all_eq_true.mp (List.all_eq_true.mp h2 b hb) c hc
    · intro x hx
      obtain ⟨b, hb, rfl⟩ := List.mem_map.mp hx
      have q := List.all_eq_true.mp h3 b hb
      have ok := shp_ok (shp1 b hb)
      cases b <;> simp_all [toD, okT, noNon]
  have hdp : ∀ es : List T, (∀ d ∈ es, shp d = true) → PyData.depthAll (es.map toD) ≤ 64 := by
    intro es
    induction es with
    | nil => intro _; simp [PyData.depthAll]
    | cons e es ih =>
      intro h
      have h0 := h e List.mem_cons_self
      unfold shp at h0
      rw [Bool.and_eq_true] at h0
      have h5 : (toD e).depth ≤ 64 := of_decide_eq_true h0.2
      have h6 := ih fun d hd => h d (List.mem_cons_of_mem _ hd)
      rw [List.map_cons]
      exact Nat.max_le.mpr ⟨h5, h6⟩
  have hu : X.A.units + 1 + PyData.depthAll (es.map toD) < cLine := by
    have := hdp es shp1
    have := o.room.un
    omega
  have hdpA : DpAll X.K H vs (es.map toD) := dpAll_rps hr.sub rs shp1
  rcases hseq with hq | hq
  · obtain ⟨its, rv, hl, _⟩ := I.list hq
    obtain ⟨as, hR⟩ := Dp.readsAll I _ _ its hdpA rv
    cases ru
    exact ⟨a, vs, its, as, rfl, rv, rs, .inl hl.isList, hR, hal, hu⟩
  · obtain ⟨its, rv, hl, _⟩ := I.tuple hq
    obtain ⟨as, hR⟩ := Dp.readsAll I _ _ its hdpA rv
    cases ru
    obtain ⟨ob, ho1, ho2, n1, ho3⟩ := hl
    exact ⟨a, vs, its, as, rfl, rv, rs, .inr ⟨ob, ho1, ho2, n1, ho3⟩, hR, hal, hu⟩
theorem c_minL (o : XO X E k) {pins : List (Addr × Obj)} {σ : L2.St} {H : Hp} {s : Shared} {F : Hp} {ι : List Addr} {μ : Store} {x : V} {u : Value} {d : T} {Q : VK} (I : Inv X pins σ H s) (hr : Rel X.K F ι μ H) (lx : Lp X.K F ι H x d) (ru : RelV x u)
    (hp : Post X.K X.mg E (gMinL d μ) F ι H (wT X.K Q)) : wpAny (model X.prog X.w) X.A (call (.builtin "min") [u]) (EP X pins σ Q) X.xe s := by
  unfold gMinL at hp
  cases hd : seqOf d with
  | none => rw [hd] at hp; exact hp.elim
  | some es =>
    rw [hd] at hp
    cases es with
    | nil => exact hp.elim
    | cons t ts =>
      cases hz : mmOk (t :: ts) with
      | false => simp only [hz] at hp; exact hp.elim
      | true =>
        simp only [hz] at hp
        obtain ⟨a, vs, its, as, rfl, rv, rs, hl, hR, hal, hu⟩ := mm_ok o I hr lx ru hd hz
        refine min_seq_item (A := X.A) (I.ok.hd o.calm) hl (by simpa using hR) hal hu fun i v h' tk hv hi hk => ?_
        obtain ⟨y, hy, ry⟩ := rs.get hi
        obtain ⟨u', hu', ru'⟩ := rv.get hy
        have : v = u' := by
          have e : its[i]? = some v := by simpa using hv
          rw [hu'] at e
          exact (Option.some.inj e).symm
        subst this
        refine ⟨y, H, I.kept hk, ru', Post.pure hp hr _ ?_⟩
        have e : minTs t ts = List.foldl (fun a y => if dataLt (toD y) (toD a) = true then y else a) t ts := by
          unfold minTs
          congr 1
          funext a y
          cases dataLt (toD y) (toD a) <;> rfl
        rw [e]
        exact ry
theorem c_maxL (o : XO X E k) {pins : List (Addr × Obj)} {σ : L2.St} {H : Hp} {s : Shared} {F : Hp} {ι : List Addr} {μ : Store} {x : V} {u : Value} {d : T} {Q : VK} (I : Inv X pins σ H s) (hr : Rel X.K F ι μ H) (lx : Lp X.K F ι H x d) (ru : RelV x u)
    (hp : Post X.K X.mg E (gMaxL d μ) F ι H (wT X.K Q)) : wpAny (model X.prog X.w) X.A (call (.builtin "max") [u]) (EP X pins σ Q) X.xe s := by
  unfold gMaxL at hp
  cases hd : seqOf d with
  | none => rw [hd] at hp; exact hp.elim
  | some es =>
    rw [hd] at hp
    cases es with
    | nil => exact hp.elim
    | cons t ts =>
      cases hz : mmOk (t :: ts) with
      | false => simp only [hz] at hp; exact hp.elim
      | true =>
        simp only [hz] at hp
        obtain ⟨a, vs, its, as, rfl, rv, rs, hl, hR, hal, hu⟩ := mm_ok o I hr lx ru hd hz
        refine max_seq_item (A := X.A) (I.ok.hd o.calm) hl (by simpa using hR) hal hu fun i v h' tk hv hi hk => ?_
        obtain ⟨y, hy, ry⟩ := rs.get hi
        obtain ⟨u', hu', ru'⟩ := rv.get hy
        have : v = u' := by
          have e : its[i]? = some v := by simpa using hv
          rw [hu'] at e
          exact (Option.some.inj e).symm
        subst this
        refine ⟨y, H, I.kept hk, ru', Post.pure hp hr _ ?_⟩
        have e : maxTs t ts = List.foldl (fun a y => if dataLt (toD a) (toD y) = true then y else a) t ts := by
          unfold maxTs
          congr 1
          funext a y
          cases dataLt (toD a) (toD y) <;> rfl
        rw [e]
        exact ry
theorem c_minB (o : XO X E k) : CallD X E (.builtin "min") (g1 gMinB) := .one fun pins s σ H x us Q F ι μ d I rv hr lx hp => by
  obtain ⟨u1, rfl, ru1⟩ := vals1 rv
  unfold gMinB at hp
  cases hz : (listOf d).bind intsOf with
  | some ns0 =>
    rw [hz] at hp
    obtain ⟨a, ns, rfl, hs, hp⟩ := onInts_lp hr.sub lx hp
    cases ns with
    | nil => exact hp.elim
    | cons n r =>
      refine cr_min o.calm pins s σ H _ _ Q I rv ⟨a, n :: r, rfl, hs, by simp, fun m hm h => ?_⟩
      have q := Post.pure hp hr _ (.int _)
      rw [foldl_min_spec r n m hm h] at q
      exact q
  | none =>
    rw [hz] at hp
    exact c_minL o I hr lx ru1 hp
theorem c_maxB (o : XO X E k) : CallD X E (.builtin "max") (g1 gMaxB) := .one fun pins s σ H x us Q F ι μ d I rv hr lx hp => by
  obtain ⟨u1, rfl, ru1⟩ := vals1 rv
  unfold gMaxB at hp
  cases hz : (listOf d).bind intsOf with
  | some ns0 =>
    rw [hz] at hp
    obtain ⟨a, ns, rfl, hs, hp⟩ := onInts_lp hr.sub lx hp
    cases ns with
    | nil => exact hp.elim
    | cons n r =>
      refine cr_max o.calm pins s σ H _ _ Q I rv ⟨a, n :: r, rfl, hs, by simp, fun m hm h => ?_⟩
      have q := Post.pure hp hr _ (.int _)
      rw [foldl_max_spec r n m hm h] at q
      exact q
  | none =>
    rw [hz] at hp
    exact c_maxL o I hr lx ru1 hp
end
end TL

/-! T layer 33: list(range(..)), tuple(range(..)), *range(..); list.index. -/
namespace TL
open PySem PySem.Spec PyProof.Rows L2 StX
variable [Tb]
def gRg1 : T → M (Int × Int)
  | .int j => M.pure (0, j)
  | _ => M.no
def gRg2 : T → T → M (Int × Int)
  | .int i, .int j => M.pure (i, j)
  | _, _ => M.no
def rRg1 (f : Env → M T) : Env → M (Int × Int) := fun ρ => M.bind (f ρ) gRg1
def rRg2 (f g : Env → M T) : Env → M (Int × Int) := fun ρ => M.bind (f ρ) fun x => M.bind (g ρ) fun y => gRg2 x y
def rgOk (p : Int × Int) : Bool := sm62 p.1 && sm62 p.2 && fits (p.2 - p.1).toNat
def rgT (p : Int × Int) : M (List T) := bif rgOk p then M.pure (rangeT p.1 (p.2 - p.1).toNat) else M.no
def lRg (r : Env → M (Int × Int)) : Env → M (List T) := fun ρ => M.bind (r ρ) rgT
def eTupRg (r : Env → M (Int × Int)) : Env → M T := fun ρ => M.bind (r ρ) fun p => M.bind (rgT p) fun ds => M.pure (.tup ds)
def aStarRg (r : Env → M (Int × Int)) (g : Env → M (List T)) : Env → M (List T) := fun ρ => M.bind (r ρ) fun p => M.bind (rgT p) fun xs => M.bind (g ρ) fun ys => M.pure (xs ++ ys)
def tRgT (K : PySem.W.Frag) (mg : Str → Option Value) (E : XK) (r : Env → M (Int × Int)) : L2.St → Hp → (Int → Int → Hp → Prop) → Prop := fun σ H Q => ∃ F ι μ ρ, Rel K F ι μ H ∧ ERp K F ι σ ρ ∧ Post K mg E (r ρ μ) F ι H (fun _ _ _ H' p => Q p.1 p.2 H')
abbrev DRg (X : Cx) (E : XK) (e : Expr) (r : Env → M (Int × Int)) : Prop := PRg X e (tRgT X.K X.mg E r)
section
variable {X : Cx} {E : XK} {k : Nat} {a b e : Expr} {es : List Expr} {f g : Env → M T} {r : Env → M (Int × Int)} {ga : Env → M (List T)} {p pos : Pos}
theorem prg_imp {t u : L2.St → Hp → (Int → Int → Hp → Prop) → Prop} (h : PRg X e t) (q : ∀ σ H Q, u σ H Q → t σ H Q) : PRg X e u := fun pins s σ H Q I z => h pins s σ H Q I (q σ H Q z)
theorem d_rg1 (ha : DE X E a f) (hm : X.mg "range" = none) (hg : Gl X "range" := by rfl) (na : starEach [a] X.env = (false, eval a X.env) :: starEach [] X.env := by rfl) : DRg X E (.Call (.Name "range" p) [a] [] pos) (rRg1 f) :=
  prg_imp (prg_1 hg hm ha na) fun σ H Q ⟨F, ι, μ, ρ, hr, he, hp⟩ => At.e hr he hp fun F1 ι1 μ1 H1 v d x1 r1 rv p1 => by
    unfold gRg1 at p1
    split at p1
    · rename_i j
      cases rv
      exact ⟨j, rfl, Post.pure (mg := X.mg) (E := E) (a := ((0 : Int), j)) p1 r1⟩
    · exact p1.elim
theorem d_rg2 (ha : DE X E a f) (hb : DE X E b g) (hm : X.mg "range" = none) (hg : Gl X "range" := by rfl) (na : starEach [a, b] X.env = (false, eval a X.env) :: starEach [b] X.env := by rfl)
    (nb : starEach [b] X.env = (false, eval b X.env) :: starEach [] X.env := by rfl) (hp : (backTo pos (starEach [b] X.env)).any (·.1) = false := by rfl) : DRg X E (.Call (.Name "range" p) [a, b] [] pos) (rRg2 f g) :=
  prg_imp (prg_2 hg hm ha hb na nb hp) fun σ H Q ⟨F, ι, μ, ρ, hr, he, hp⟩ => At.e hr he hp fun F1 ι1 μ1 H1 v d x1 r1 rv p1 => At.e r1 (he.ext x1) p1 fun F2 ι2 μ2 H2 u d2 x2 r2 ru p2 => by
    unfold gRg2 at p2
    split at p2
    · rename_i i j
      cases rv
      cases ru
      exact ⟨i, j, rfl, rfl, Post.pure (mg := X.mg) (E := E) (a := (i, j)) p2 r2⟩
    · exact p2.elim
theorem rps_rg {K : PySem.W.Frag} {F : Hp} {ι : List Addr} (a b : Int) : Rps K F ι (rgV a b) (rangeT a (b - a).toNat) := by
  have go : ∀ ns : List Nat, Rps K F ι (ns.map fun (i : Nat) => V.int (a + (i : Nat))) (ns.map fun (i : Nat) => T.int (a + (i : Int))) := by
    intro ns
    induction ns with
    | nil => exact .nil
    | cons n ns ih => exact .cons (.int _) ih
  exact go _
theorem rgOk_of {p : Int × Int} (h : rgOk p = true) : RgOk p.1 p.2 := by
  unfold rgOk at h
  rw [Bool.and_eq_true, Bool.and_eq_true] at h
  have h1 := sm62_of h.1.1
  have h2 := sm62_of h.1.2
  have h3 := fits_le h.2
  rw [sizeLine_eq] at h3
  exact ⟨h1.1, h1.2, h2.1, h2.2, by omega⟩
theorem l_listRg (o : XO X E k) (he : DRg X E e r) (hm : X.mg "list" = none) (hg : Gl X "list" := by rfl) (na : starEach [e] X.env = (false, eval e X.env) :: starEach [] X.env := by rfl) : DL X E (.Call (.Name "list" p) [e] [] pos) (lRg r) :=
  pe_imp (pe_listRg o.calm hg hm he na) fun σ H Q ⟨F, ι, μ, ρ, hr, hen, hp⟩ => ⟨F, ι, μ, ρ, hr, hen, hp.bind fun F1 ι1 μ1 H1 q x1 r1 p1 => by
    unfold rgT at p1
    cases hz : rgOk q with
    | false => rw [hz] at p1; exact p1.elim
    | true =>
      rw [hz] at p1
      refine ⟨rgOk_of hz, fun pp np => ?_⟩
      exact p1 _ _ _ (.refl ..) r1 pp _ _ (fun a z => upd_ne z) np upd_same (rps_rg q.1 q.2)⟩
theorem d_tupRg (o : XO X E k) (he : DRg X E e r) (hm : X.mg "tuple" = none) (hg : Gl X "tuple" := by rfl) (na : starEach [e] X.env = (false, eval e X.env) :: starEach [] X.env := by rfl) : DE X E (.Call (.Name "tuple" p) [e] [] pos) (eTupRg r) :=
  pe_imp (pe_tupRg o.calm hg hm he na) fun σ H Q ⟨F, ι, μ, ρ, hr, hen, hp⟩ => ⟨F, ι, μ, ρ, hr, hen, hp.bind fun F1 ι1 μ1 H1 q x1 r1 p1 => by
    unfold rgT at p1
    cases hz : rgOk q with
    | false => rw [hz] at p1; exact p1.elim
    | true =>
      rw [hz] at p1
      refine ⟨rgOk_of hz, fun pp np => ?_⟩
      obtain ⟨x2, r2⟩ := r1.newF (u := .tup (rgV q.1 q.2)) np (fun a z => upd_ne z) upd_same
      have rs : Rps X.K (upd F1 pp (.tup (rgV q.1 q.2))) ι1 (rgV q.1 q.2) (rangeT q.1 (q.2 - q.1).toNat) := rps_rg q.1 q.2
      exact p1 _ _ _ x2 r2 _ (.tup upd_same rs)⟩
theorem star_rg {pins : List (Addr × Obj)} {σ : L2.St} {H : Hp} {s : Shared} {c : Addr} {i j : Int} {t u v : Tok} {E' : Value → Shared → Prop} {Q : List Value → Shared → Prop} (hh : X.A.handled = none) (I : Inv X pins σ H s) (hr : IsRange s.heap c i j 1 t u v) (ok : RgOk i j)
    (hQ : ∀ us s', Inv X pins σ H s' → Vals (rgV i j) us → Q us s') : PySem.W.StarOf (model X.prog X.w) X.A E' (.ref c) Q s := by
  obtain ⟨b1, b2, b3, b4, b5⟩ := ok
  have hT : s.TypeIs (.ref c) "range" := by
    first
    | exact hr.type
    | exact hr.typeIs
    | exact ⟨_, hr, rfl⟩
    | exact ⟨_, hr.1, hr.2.1⟩
  have z : wpAny (model X.prog X.w) X.A (collect (.ref c)) Q E' s := by
    refine collect_range (n := (j - i).toNat) hh hr (small_one b1 b2 b3 b4) (rangeSize_nat i j) b5 fun h' tk acc hk hi => ?_
    exact hQ _ _ (I.kept hk) (vals_rg hi)
  unfold PySem.W.StarOf notIterableAtAll
  exact wpAny_bind (wpAny_specialOf hT F.slot_range_iter.lookup (wpAny_pure ⟨rfl, z⟩))
theorem a_starRg (o : XO X E k) (he : DRg X E e r) (hr : DA X E es ga) (hs : starEach (.Starred e p :: es) X.env = (true, eval e X.env) :: starEach es X.env := by rfl) : DA X E (.Starred e p :: es) (aStarRg r ga) := by
  refine ⟨fun pos pins s σ H Q I ⟨F, ι, μ, ρ, hR, hen, hp⟩ => ?_⟩
  refine PySem.W.items_star (thn (he pins s σ H (fun i j H1 => RgOk i j ∧ tA X.K X.mg E ga σ H1 fun ys H2 => Q (rgV i j ++ ys) H2) I ⟨F, ι, μ, ρ, hR, hen, hp.bind fun F1 ι1 μ1 H1 q x1 r1 p1 => ?_⟩) fun v s1 ⟨c, i, j, t, u, w, H1, ev, hrg, I1, ok, q⟩ => ?_) hs
  · unfold rgT at p1
    cases hz : rgOk q with
    | false => rw [hz] at p1; exact p1.elim
    | true =>
      rw [hz] at p1
      have p1 : Post X.K X.mg E (M.bind (ga ρ) (fun ys => M.pure (rangeT q.1 (q.2 - q.1).toNat ++ ys)) μ1) F1 ι1 H1 _ := p1
      refine ⟨rgOk_of hz, At.a r1 (hen.ext x1) p1 fun F2 ι2 μ2 H2 vs ds x2 r2 rs p2 => ?_⟩
      exact Post.pure (mg := X.mg) (E := E) p2 r2 _ ((rps_rg q.1 q.2).append rs)
  · subst ev
    refine star_rg (I1.ok.hd o.calm) I1 hrg ok fun us s2 I2 rv => ?_
    exact thn (hr.run pos pins s2 σ H1 _ I2 q) fun ws s3 ⟨vs, H3, I3, r3, q3⟩ => ⟨rgV i j ++ vs, H3, I3, rv.append r3, q3⟩
end
end TL

/-! T layer 34: list.index, list.count. -/
namespace TL
open PySem PySem.Spec PyProof.Rows L2 StX
variable [Tb]
def gIndex : T → List T → M T := fun d ds => match ds with
  | [y] => M.bind (ld d) fun d => M.bind (ld y) fun y => match listOf d with
    | some xs => bif shp (.lst xs) && shp y then (match xs.findIdx? fun z => PyData.eqv (toD z) (toD y) with
      | some j => M.pure (.int (j : Nat))
      | none => M.no) else M.no
    | none => M.no
  | _ => M.no
def gCountI : T → List T → M T := fun d ds => match ds with
  | [y] => M.bind (ld d) fun d => M.bind (ld y) fun y => match (listOf d).bind intsOf, y with
    | some ns, .int k => M.pure (.int (ns.count k : Nat))
    | _, _ => M.no
  | _ => M.no
section
variable {X : Cx} {E : XK} {k : Nat}
theorem m_index (o : XO X E k) : MtD X E "list.index" gIndex := by
  intro pins s σ H x xs v us Q I rx rxs ⟨F, ι, μ, d, ds, hr, rd, rs, hp⟩
  unfold gIndex at hp
  split at hp
  · cases rs with
    | cons r1 t =>
      cases t
      obtain ⟨d', lx, hp⟩ := ld_post hr rd hp
      obtain ⟨y', ly, hp⟩ := ld_post hr r1 hp
      cases hl : listOf d' with
      | none => rw [hl] at hp; exact hp.elim
      | some es =>
        rw [hl] at hp
        simp only at hp
        cases hz : shp (.lst es) && shp y' with
        | false => rw [hz] at hp; exact hp.elim
        | true =>
          rw [hz] at hp
          simp only [cond_true] at hp
          rw [Bool.and_eq_true] at hz
          cases hi : es.findIdx? (fun z => PyData.eqv (toD z) (toD y')) with
          | none => rw [hi] at hp; exact hp.elim
          | some j =>
            rw [hi] at hp
            have sd : okT d' = true := by
              have := shp_ok hz.1
              cases d' <;> first | (cases hl; done) | skip
              all_goals first | (cases hl; simpa only [okT] using this) | (simp [listOf] at hl)
            have dp := lx.dp hr.sub sd
            have e : toD d' = .list (es.map toD) := by
              cases d' <;> first | (cases hl; done) | skip
              all_goals first | (cases hl; simp only [toD]; congr 1; exact go es) | (simp [listOf] at hl)
            obtain ⟨a, rfl⟩ : ∃ a, x = .ref a := by
              cases lx <;> first | exact ⟨_, rfl⟩ | (simp [listOf] at hl)
            rw [e] at dp
            have sl : SeqAt.shaped (.list (es.map toD)) = true := by
              have := shp_shaped hz.1
              simp only [toD] at this
              rw [go es] at this
              exact this
            obtain ⟨hj, h1, h2⟩ := List.findIdx?_eq_some_iff_getElem.mp hi
            refine mt_indexD (by have := o.room.un; omega) pins s σ H _ _ v us Q I rx rxs ⟨a, _, toD y', es.map toD, j, toD es[j], rfl, rfl, dp, ly.dp hr.sub (shp_ok hz.2), sl, shp_shaped hz.2, by rw [List.getElem?_map, List.getElem?_eq_getElem hj]; rfl, h1, fun m z' hm hz' => ?_, ?_⟩
            · rw [List.getElem?_map] at hz'
              obtain ⟨z, hz1, rfl⟩ := Option.map_eq_some_iff.mp hz'
              have hml : m < es.length := by omega
              rw [List.getElem?_eq_getElem hml] at hz1
              cases hz1
              have := h2 m hm
              simpa using this
            · exact Post.pure (mg := X.mg) (E := E) (a := T.int (j : Nat)) hp hr _ (.int _)
  · exact hp.elim
where go : ∀ es : List T, toDs es = es.map toD
  | [] => by simp only [toDs, List.map_nil]
  | x :: xs => by simp only [toDs, List.map_cons, go xs]
theorem m_countI : MtD X E "list.count" gCountI := by
  intro pins s σ H x xs v us Q I rx rxs ⟨F, ι, μ, d, ds, hr, rd, rs, hp⟩
  unfold gCountI at hp
  split at hp
  · cases rs with
    | cons r1 t =>
      cases t
      obtain ⟨d', lx, hp⟩ := ld_post hr rd hp
      obtain ⟨y', ly, hp⟩ := ld_post hr r1 hp
      cases hns : (listOf d').bind intsOf with
      | none => rw [hns] at hp; exact hp.elim
      | some ns =>
        rw [hns] at hp
        cases y' with
        | int kk =>
          have q : onInts d' (fun ns => M.pure (.int (ns.count kk : Nat))) μ = M.pure (.int (ns.count kk : Nat)) μ := by
            unfold onInts
            rw [hns]
          have hp : Post X.K X.mg E (M.pure (T.int (ns.count kk : Nat)) μ) F ι H (wT X.K Q) := hp
          rw [← q] at hp
          obtain ⟨a, ns, rfl, hs, hp⟩ := onInts_lp hr.sub lx hp
          cases ly
          exact mt_lcount pins s σ H _ _ v us Q I rx rxs ⟨a, ns, kk, rfl, rfl, hs, Post.pure (mg := X.mg) (E := E) hp hr _ (.int _)⟩
        | _ => exact hp.elim
  · exact hp.elim
end
end TL

/-! T layer 35: tuple.index of ints, for tuples known to be without a dict. -/
namespace TL
open PySem PySem.Spec PyProof.Rows L2 StX
variable [Tb]
def gTIndex : T → List T → M T := fun d ds => match d, ds with
  | .ftp xs, [.int k] => match intsOf xs with
    | some ns => bif ns.contains k then M.pure (.int (ns.idxOf k : Nat)) else M.no
    | none => M.no
  | _, _ => M.no
def isTf : T → M Unit
  | .ftp _ => M.pure ()
  | _ => M.no
section
variable {X : Cx} {E : XK} {k : Nat} {o e : Expr} {es : List Expr} {fo : Env → M T} {fa : Env → M (List T)} {name : Str} {apos cpos : Pos} {id : String} {g : T → List T → M T}
theorem ftp_is {pins : List (Addr × Obj)} {σ : L2.St} {H : Hp} {s : Shared} {F : Hp} {a : Addr} {xs : List V} {v : Value} (I : Inv X pins σ H s) (r : RelV (.ref a) v) (sub : Sub F H) (h : SqTd X.K F a xs) :
    s.TypeIs v "tuple" ∧ ∀ b, v = .ref b → ∃ ob, s.heap.get? b = some ob ∧ ob.dict = none := by
  cases r
  have h' := sub.seqTd h
  have ty : s.TypeIs (.ref a) "tuple" := by
    obtain ⟨its, _, pl, _⟩ := I.tuple h'.t
    obtain ⟨ob, ho, hc, _⟩ := pl
    exact ⟨ob, ho, hc⟩
  refine ⟨ty, fun b e => ?_⟩
  cases e
  rcases h' with ⟨ob, h, hd⟩ | ⟨ob, its, n, hk, hc, hd, _⟩
  · obtain ⟨hg, _⟩ := I.hok a _ h
    exact ⟨ob, hg, hd⟩
  · exact ⟨ob, I.kIn _ ob hk, hd⟩
def tBT (X : Cx) (E : XK) (g : T → List T → M T) : V → List V → Hp → VK → Prop := rM X E g
theorem d_methT (slot : Slot "tuple" name id) (hty : typeOf (.builtin id) = pure (.type "method_descriptor")) (hm : MtD X E id g) (ho : DE X E o fo) (ha : DA X E (e :: es) fa) (hbase : attributeBase o name X.env (eval o X.env) = eval o X.env := by rfl)
    (hfew : ((backTo cpos (starEach (e :: es) X.env)).all (fun x => !x.1) && (backToKw cpos (keywordEach [] X.env)).all (fun x => x.1.isSome)
      && decide ((e :: es).length + ([] : List Keyword).length + (if ([] : List Keyword).isEmpty then 0 else 1) < 30)) = true := by rfl)
    (hline : (apos.endLine == cpos.line) = true := by rfl) (hs : starEach (e :: es) X.env = (false, eval e X.env) :: starEach es X.env := by rfl) (hplain : (backTo cpos (starEach es X.env)).any (·.1) = false := by rfl) :
    DE X E (.Call (.Attribute o name apos) (e :: es) [] cpos) (eMeth isTf g fo fa) := by
  refine ⟨fun pins s σ H Q I ⟨F, ι, μ, ρ, hr, he, hp⟩ => ?_⟩
  refine wpAny_Call_method_late hbase hfew hline rfl (thn (ho.run pins s σ H (fun v H1 => ∃ F1 ι1 μ1 d, Rel X.K F1 ι1 μ1 H1 ∧ ERp X.K F1 ι1 σ ρ ∧ Rp X.K F1 ι1 v d ∧ Post X.K X.mg E (M.bind (isTf d) (fun _ => M.bind (fa ρ) fun ds => g d ds) μ1) F1 ι1 H1 (wT X.K Q)) I
    (At.e hr he hp fun F1 ι1 μ1 H1 v d x1 r1 rv p1 => ⟨F1, ι1, μ1, d, r1, he.ext x1, rv, p1⟩)) fun v s1 ⟨x, H1, I1, r1, F1, ι1, μ1, d, rr, ee, rv, p1⟩ => ?_)
  cases rv with
  | ftp ha' ra =>
    obtain ⟨h1, h2⟩ := ftp_is I1 r1 rr.sub.sub ha'
    refine ⟨"tuple", id, PySem.F.plainAttrs_tuple, slot, hty, h1, h2, ?_⟩
    have hA := ha.run cpos pins s1 σ H1 (fun xs H2 => rM X E g _ xs H2 Q) I1 (At.a rr ee p1 fun F2 ι2 μ2 H2 vs ds x2 r2 rs p3 => ⟨F2, ι2, μ2, _, ds, r2, (Rp.ftp ha' ra).ext x2, rs, p3⟩)
    rw [hs] at hA ⊢
    refine Calls.callWith_builtin (by show (false || (backTo cpos (starEach es X.env)).any (·.1)) = false; rw [hplain] <;> rfl) (Calls.evalArgs_plain ?_)
    exact thn hA fun us s2 ⟨vs, H2, I2, r2, q2⟩ => hm pins s2 σ H2 _ vs v us Q I2 r1 r2 q2
  | _ => exact p1.elim
theorem m_tindex : MtD X E "tuple.index" gTIndex := by
  intro pins s σ H x xs v us Q I rx rxs ⟨F, ι, μ, d, ds, hr, rd, rs, hp⟩
  unfold gTIndex at hp
  split at hp
  · rename_i es kk
    cases hns : intsOf es with
    | none => rw [hns] at hp; exact hp.elim
    | some ns =>
      rw [hns] at hp
      simp only at hp
      cases hc : ns.contains kk with
      | false => rw [hc] at hp; exact hp.elim
      | true =>
        rw [hc] at hp
        simp only [cond_true] at hp
        have hk : kk ∈ ns := by simpa using hc
        cases rd with
        | ftp ha ra =>
          cases rx
          obtain ⟨its, r1, pl, hz⟩ := I.tuple (hr.sub.sub.seqTd ha).t
          rw [ra.ints hns] at r1
          cases rs with
          | cons ry t =>
            cases t
            cases ry
            obtain ⟨u, rfl, t, rfl⟩ := vals1 rxs
            refine PySem.SeqAt.tuple_index_ints (vs := its) pl (intsAre_of r1) hk ?_
            exact ⟨.int (ns.idxOf kk : Nat), H, I.tok _, ⟨_, rfl⟩, Post.pure (mg := X.mg) (E := E) (a := T.int (ns.idxOf kk : Nat)) hp hr _ (.int _)⟩
  · exact hp.elim
end
end TL

/-! T layer 36: o[i] op= e, o a list among the cells. -/
namespace TL
open PySem PySem.Spec PyProof.Rows L2 StX
variable [Tb]
def gGetN : T → T → M T := fun o i => M.bind (ld o) fun d => match d, i with
  | .lst xs, .int i => bif decide (0 ≤ i) then ofO xs[i.toNat]? else M.no
  | _, _ => M.no
def sAugS (fo fi : Env → M T) (g : T → T → M T) (fe : Env → M T) : Env → M Fl := fun ρ => M.bind (fo ρ) fun o => M.bind (fi ρ) fun i => M.bind (gGetN o i) fun x => M.bind (fe ρ) fun y => M.bind (g x y) fun z => M.bind (gSetI o i z) fun _ => M.pure (.nx ρ)
section
variable {X : Cx} {E : XK} {k : Nat} {a b e : Expr} {fa fb fe : Env → M T} {g : T → T → M T} {op : Operator} {p pos : Pos}
theorem get_ix (o : XO X E k) : PGet X (rT X E gGetN) := by
  intro pins s σ H x y v u Q I rx ry ⟨F, ι, μ, d0, e0, hr, hx, hy, hp⟩
  unfold gGetN at hp
  obtain ⟨d, lx, hp⟩ := ld_post hr hx hp
  cases lx with
  | @lst aa vs ds ha ra =>
    cases hy with
    | int i =>
      simp only at hp
      cases hi : decide (0 ≤ i) with
      | false => rw [hi] at hp; exact hp.elim
      | true =>
        rw [hi] at hp
        simp only [cond_true] at hp
        have h0 : 0 ≤ i := of_decide_eq_true hi
        cases hd : ds[i.toNat]? with
        | none => rw [hd] at hp; exact hp.elim
        | some d' =>
          rw [hd] at hp
          obtain ⟨z, ez, rz⟩ := ra.get hd
          cases rx
          obtain ⟨t, rfl⟩ := ry
          obtain ⟨its, r, pl, hz⟩ := I.list (SqL.of ha)
          obtain ⟨w, ew, rw'⟩ := r.get ez
          have hl := r.length
          have hlt : i.toNat < its.length := (List.getElem?_eq_some_iff.mp ew).1
          have hn := line63
          exact getItem_listL pl.isList h0 (by omega) ew ⟨z, H, I, rw', Post.pure hp hr _ rz⟩
    | _ => exact hp.elim
  | _ => exact hp.elim
theorem s_augS (o : XO X E k) (ha : DE X E a fa) (hb : DE X E b fb) (he : DE X E e fe) (ho : OpD X E (inplaceOp op) g)
    (hw : ∀ ov iv new, augStore b ov iv new = (do holding [new, ov, iv] (setItem ov iv new); release [new, ov, iv] []; pure .next) := by intros; rfl) : DS X E (.AugAssign (.Subscript a b p) op e pos) (sAugS fa fb g fe) :=
  ps_imp (ps_augS ha hb (get_ix o) he ho set_ix hw) fun D σ H ⟨F, ι, μ, ρ, hr, hen, hp⟩ => At.e hr hen hp fun F1 ι1 μ1 H1 ov d x1 r1 rv p1 => At.e r1 (hen.ext x1) p1 fun F2 ι2 μ2 H2 iv di x2 r2 ri p2 =>
    ⟨F2, ι2, μ2, d, di, r2, rv.ext x2, ri, p2.bind fun F3 ι3 μ3 H3 x x3 r3 p3 xv rx => At.e r3 (((hen.ext x1).ext x2).ext x3) p3 fun F4 ι4 μ4 H4 yv y x4 r4 ry p4 =>
      ⟨F4, ι4, μ4, x, y, r4, rx.ext x4, ry, p4.bind fun F5 ι5 μ5 H5 z x5 r5 p5 zv rz =>
        ⟨F5, ι5, μ5, d, di, z, r5, (((rv.ext x2).ext x3).ext x4).ext x5, ((ri.ext x3).ext x4).ext x5, rz, p5.bind fun F6 ι6 μ6 H6 _ x6 r6 p6 => Post.pure (mg := X.mg) (E := E) (a := Fl.nx ρ) p6 r6 σ ((((((hen.ext x1).ext x2).ext x3).ext x4).ext x5).ext x6)⟩⟩⟩
end
end TL

/-! T layer 37: a list so many times, laid anew. -/
namespace TL
open PySem PySem.Spec PyProof.Rows L2 StX
variable [Tb]
def gRepL : T → T → M (List T)
  | .lst xs, .int k => bif decide (-(2 ^ 63) ≤ k) && decide (k < 2 ^ 63) && fits (xs.length * k.toNat) then M.pure (List.replicate k.toNat xs).flatten else M.no
  | _, _ => M.no
def lRep (fa fb : Env → M T) : Env → M (List T) := fun ρ => M.bind (fa ρ) fun d => M.bind (fb ρ) fun e => M.bind (ld d) fun d => gRepL d e
section
variable {X : Cx} {E : XK} {k : Nat} {a b : Expr} {fa fb : Env → M T} {pos : Pos}
theorem l_rep (ha : DE X E a fa) (hb : DE X E b fb) : DL X E (.BinOp a .Mult b pos) (lRep fa fb) :=
  pe_imp (pe_op op_rep ha hb) fun σ H Q ⟨F, ι, μ, ρ, hr, he, hp⟩ => At.e hr he hp fun F1 ι1 μ1 H1 v d x1 r1 rv p1 => At.e r1 (he.ext x1) p1 fun F2 ι2 μ2 H2 u e x2 r2 ru p2 => by
    obtain ⟨d', lx, p3⟩ := ld_post r2 (rv.ext x2) p2
    unfold gRepL at p3
    split at p3
    · rename_i xs n
      cases lx with
      | lst hq ra =>
        cases ru
        cases hz : (decide (-(2 ^ 63) ≤ n) && decide (n < 2 ^ 63) && fits (xs.length * n.toNat)) with
        | false => rw [hz] at p3; exact p3.elim
        | true =>
          rw [hz] at p3
          simp only [Bool.and_eq_true, decide_eq_true_eq] at hz
          refine ⟨_, _, _, rfl, rfl, hq, hz.1.1, hz.1.2, by rw [ra.length]; exact fits_le hz.2, fun p np => ?_⟩
          exact p3 _ _ _ (.refl ..) r2 p _ _ (fun a z => upd_ne z) np upd_same (ra.rep _)
    · exact p3.elim
end
end TL

/-! T layer 38: own exceptions made: a class with a text; a class over any built-in one whose __init__ calls super's and keeps what it got. -/
namespace TL
open PySem PySem.Spec PyProof.Rows L2
variable [Tb]

/-! ### the text of __init__ -/
def xiArgs (f : Str) (p1 p2 : Pos) : Arguments := { posonlyargs := [], args := [{ arg := "self", annotation := none, pos := p1 }, { arg := f, annotation := none, pos := p2 }], vararg := none, kwonlyargs := [], kw_defaults := [], kwarg := none, defaults := [] }
def xiBody (f : Str) (p0 p1 p2 p3 p4 p5 p6 p7 p8 p9 : Pos) : List Stmt :=
  [.Expr (.Call (.Attribute (.Call (.Name "super" p0) [] [] p1) "__init__" p2) [.Name f p3] [] p4) p5, .Assign [.Attribute (.Name "self" p6) f p7] (.Name f p8) p9]
def xiScope (f : Str) : Scope := { kind := .function, names := [(PySem.Str.ofString "self", .local), (f, .local), (PySem.Str.ofString "__class__", .free), (PySem.Str.ofString "super", .globalImplicit)], isGenerator := false, isCoroutine := false, more := [] }
/-- what the written part says of such a class, at C, with its __init__ at fI; B its built-in base -/
structure XcT (K : PySem.W.Frag) (mg : Str → Option Value) (P : Program) (B newId initId : String) (bmB : List Value) (cn f : Str) (C : Addr) : Prop where
  gC : mg cn = some (.ref C)
  FB : ExcBaseFacts B newId initId bmB
  KF : PySem.W.KxsFacts B initId
  SF : StoreFacts B bmB "object.__setattr__" "object"
  xI : PySem.W.excInitIn K C bmB newId = true
  ov : PySem.W.excOver K C bmB = true
  hd : PySem.W.hasDictIn K C = true
  sa : PySem.W.findIn K (.ref C) "__setattr__" = some (some (.builtin "object.__setattr__"))
  ga : PySem.W.findIn K (.ref C) "__getattribute__" = some (some (.builtin "BaseException.__getattribute__"))
  gg : PySem.W.findIn K (.ref C) "__getattr__" = some none
  nf : PySem.W.findIn K (.ref C) f = some none
  exC : PySem.W.subIn K (.ref C) (.type "BaseException") = some true
  tyC : PySem.W.typeIn K (.ref C) = some (.type "type")
  kC : PySem.W.keepIn K (.ref C) = true
  op : PySem.W.nsIn K cStatics "thirdparty.any" = some none
  sB : PySem.W.subIn K (.ref C) (.type B) = some true
  sm : PySem.W.ks_superIn K C C "__init__" = some (some (.builtin initId))
  sC : PySem.W.mroIn K C (.ref C) = some true
  su : mg "super" = none
  ini : ∃ (fI cda cc : Addr) (qual : Str) (oc doc pm ct cl ccl : Value) (od an cld cdd : Option Addr) (osl csl ccs : Array (Option Value)) (vs : Array Value) (file : Str) (tf : Tok) (q1 q2 p0 p1 p2 p3 p4 p5 p6 p7 p8 p9 : Pos),
    PySem.W.findIn K (.ref C) "__init__" = some (some (.ref fI)) ∧ PySem.W.typeIn K (.ref fI) = some (.type "function") ∧
    K.lookup fI = some ⟨oc, od, .func (PySem.W.ksFn "__init__" qual (xiArgs f q1 q2) (xiBody f p0 p1 p2 p3 p4 p5 p6 p7 p8 p9) (xiScope f) .none .none doc pm an (.ref cda) ct cc), osl⟩ ∧
    PySem.W.codeIn K (.ref cda) qual = true ∧ K.lookup cc = some ⟨cl, cld, .cell (some (.ref C)), csl⟩ ∧ K.lookup cda = some ⟨ccl, cdd, .fields vs, ccs⟩ ∧ vs[2]? = some (.str file tf) ∧ ((P.main.file : Str) == file) = true ∧ (P.main.scope.names.lookup ("super" : Str)).isSome = false ∧ (p2.endLine == p4.line) = true
/-- the names of the field: not the four others -/
structure XfN (f : Str) : Prop where
  lk : (xiScope f).names.lookup f = some .local
  s1 : (f == ("self" : Str)) = false
  dbg : (f == ("__debug__" : Str)) = false
  lc : (xiScope f).names.lookup ("__class__" : Str) = some .free
  ls : (xiScope f).names.lookup ("super" : Str) = some .globalImplicit
  bd : ∀ (qual : Str) (q1 q2 : Pos) (body : List Stmt) (doc pm : Value) (an : Option Addr) (cdv ct : Value) (cc : Addr) (x v : Value), bindArgs (PySem.W.ksFn "__init__" qual (xiArgs f q1 q2) body (xiScope f) .none .none doc pm an cdv ct cc) ⟨[x, v], []⟩ = pure [(PySem.Str.ofString "self", x), (f, v)]
/-- a made exception -/
structure XMade (h h' : Heap) (e C d : Addr) (f : Str) (v : Value) : Prop where
  keep : ∀ b o, h.get? b = some o → h'.get? b = some o
  new : h.objs.size ≤ e
  obj : ∃ oe vs, h'.get? e = some oe ∧ oe.cls = .ref C ∧ oe.dict = some d ∧ oe.data = .fields vs ∧ vs[1]? = some .none
  dbig : h.objs.size ≤ d
  dne : d ≠ e
  ns : h'.Ns1 d (fun y => if y = f then some v else none)
/-- behind __init__ -/
structure XInit (h h' : Heap) (x C dx : Addr) (f : Str) (v : Value) : Prop where
  keep : ∀ b o, b ≠ x → h.get? b = some o → h'.get? b = some o
  obj : ∃ t1 : Addr, h'.get? x = some (PySem.W.excObj C t1 (some dx) .none)
  dbig : h.objs.size ≤ dx
  dne : dx ≠ x
  ns : h'.Ns1 dx (fun y => if y = f then some v else none)
section
open PySem.W PySem.Calls PySem.HandSPX
variable {prog : Program} {w : World} {A : Around} {E : Value → Shared → Prop} {R : Result → Shared → Prop} {s : Shared} {K : Frag} {mg mb : Str → Option Value} {C : Addr} {B newId initId : String} {bmB : List Value} {cn f : Str}
theorem ldK {M : Model} {name : Str} {scope : Scope} {L a cc : Addr} {cd : Value} {m : Str → Option Value} {x : Str} {pos : Pos} {v : Value} {Q : Value → Shared → Prop} (hn : s.heap.Ns L m) (hv : m x = some v) (h : Q v s)
    (hk : scope.kind = .function) (hl : scope.names.lookup x = some .local) (hd : (x == ("__debug__" : Str)) = false) :
    wpAny M A (eval (.Name x pos) (ksEnv name scope L a cd cc)) Q E s := wpAny_Name (wpAny_loadName_local (env := ksEnv name scope L a cd cc) hk hl hn hv h) hd
theorem x_store {x t : Addr} {v : Value} {tk : Tok} (T : XcT K mg prog B newId initId bmB cn f C) (X : K.In s.heap) (hx : s.heap.get? x = some (excObj C t none .none))
    (hq : ∀ h' tk' dx, (∀ b o, b ≠ x → s.heap.get? b = some o → h'.get? b = some o) → h'.get? x = some (excObj C t (some dx) .none) → s.heap.objs.size ≤ dx → dx ≠ x → h'.Ns1 dx (fun y => if y = f then some v else none) → R (.ok (.ret .none)) { s with heap := h', toks := tk' }) :
    codeAny (model prog w) A (.call (.builtin "object.__setattr__") ⟨[.ref x, .str f tk, v], []⟩) R s := by
  have ht : takerIn K C f = some none := by unfold takerIn; rw [T.nf]; rfl
  refine osa_openX (od := none) T.SF X ⟨hx, rfl, rfl, trivial⟩ T.ov ht fun b => ?_
  obtain ⟨cd, hc, hd'⟩ := any_some T.hd
  obtain ⟨hp, g, d, tk0, os⟩ := s
  have hxs : x ≠ hp.objs.size := Nat.ne_of_lt (Heap.lt_size hx)
  refine wpAny_bind (wpAny_pure (wpAny_bind (instanceDict_exc hx (looks_clsIn X hc) hd' ?_)))
  show wpAny _ _ (Builtin.ObjectAttr.storeInDict hp.objs.size (.str f tk) f v) _ _ _
  refine store_in_new ?_ fun h' tk' hn' hs => ?_
  · exact ⟨_, #[], _, (Heap.get?_update_ne _ _ _ _ hxs.symm).trans (Heap.get?_push_at rfl rfl), rfl, fun e he => absurd he (by simp), fun _ => rfl⟩
  · have hx₁ : (hp.push (dictOf [] 0)).get? x = some (excObj C t none .none) := Heap.get?_push_of_some _ hx
    refine hq h' tk' hp.objs.size (fun b o hb ho => ?_) ?_ (Nat.le_refl _) hxs.symm hn'
    · exact (hs.2 b (Nat.ne_of_lt (Heap.lt_size ho))).trans ((Heap.get?_update_ne _ _ _ _ hb).trans (Heap.get?_push_of_some _ ho))
    · exact (hs.2 x hxs).trans (Heap.get?_update_self _ hx₁ rfl)
theorem x_init (T : XcT K mg prog B newId initId bmB cn f C) (N : XfN f) {x t0 fI : Addr} {v : Value} (iC : findIn K (.ref C) "__init__" = some (some (.ref fI))) (X : K.In s.heap) (hlim : s.heap.NoLimit) (hg : s.heap.Ns mainGlobals mg) (hb : s.heap.Ns builtinsNs mb) (hbs : mb "super" = some (.type "super"))
    (hx : s.heap.get? x = some (excObj C t0 none .none)) (hnx : K.lookup x = none) (hroom : A.depth < recursionLimit)
    (hq : ∀ h' tk dx, XInit s.heap h' x C dx f v → R (.ok (.ret .none)) { s with heap := h', toks := tk }) :
    codeAny (model prog w) A (.call (.ref fI) ⟨[.ref x, v], []⟩) R s := by
  obtain ⟨fI', cda, cc, qual, oc, doc, pm, ct, cl, ccl, od, an, cld, cdd, osl, csl, ccs, vs, file, tf, q1, q2, p0, p1, p2, p3, p4, p5, p6, p7, p8, p9, iC', tI, ho, hcd, hcell, hcode, hvs, hfile, htop, hpos⟩ := T.ini
  rw [iC] at iC'
  cases iC'
  obtain ⟨cdD, hD, hD'⟩ := any_some T.hd
  have XL : ∀ b o, K.lookup b = some o → s.heap.get? b = some o := fun b o e => X b o e
  refine ks_codeAny_call_defAt (fd := ksFn "__init__" qual (xiArgs f q1 q2) (xiBody f p0 p1 p2 p3 p4 p5 p6 p7 p8 p9) (xiScope f) .none .none doc pm an (.ref cda) ct cc) (body := xiBody f p0 p1 p2 p3 p4 p5 p6 p7 p8 p9) (binds := [(PySem.Str.ofString "self", .ref x), (f, v)]) hroom (XL _ _ ho) rfl hlim (codeRec_of X hcd) rfl ?bind ?cell ?loc (fun h₁ hns hk₁ => ?_)
  case bind => exact .of_eq (N.bd ..)
  case cell => intro y hy; simp [xiScope] at hy; rcases hy with rfl | rfl | rfl | rfl <;> simp
  case loc =>
    intro y hy
    simp at hy
    rcases hy with rfl | rfl
    · rfl
    · exact N.lk
  obtain ⟨hh, gg, dd, tk, os⟩ := s
  have hself : (List.lookup (PySem.Str.ofString "self") [(f, v), (PySem.Str.ofString "self", Value.ref x)]) = some (.ref x) := by
    have e : (PySem.Str.ofString "self" == f) = false := by
      have := N.s1
      rw [beq_eq_false_iff_ne] at this ⊢
      exact fun z => this z.symm
    simp only [List.lookup, e, beq_self_eq_true]
  have hfv : (List.lookup f [(f, v), (PySem.Str.ofString "self", Value.ref x)]) = some v := by simp only [List.lookup, beq_self_eq_true]
  have F : Fr (hideAll hh [x]) hh.objs.size h₁ (fun y => List.lookup y [(f, v), (PySem.Str.ofString "self", Value.ref x)]) := ⟨hns, fun b o e => hk₁ b o (of_hideAll _ e), Nat.le_of_eq (hideAll_size _ _)⟩
  have N0 : News (hideAll hh [x]) hh.objs.size h₁ [(x, excObj C t0 none .none)] := fun p hp => by
    obtain rfl : p = (x, excObj C t0 none .none) := by simpa using hp
    exact ⟨hk₁ _ _ hx, Nat.ne_of_lt (Heap.lt_size hx), hideAll_none _ (by simp)⟩
  have X₀ : K.In (hideAll hh [x]) := fun a o e => hideAll_get _ (X a o e) (fun hm => by
    obtain rfl : a = x := by simpa using hm
    rw [hnx] at e; cases e)
  have X1 : K.In h₁ := X.keeps hk₁
  obtain ⟨oD, hD1, hD2⟩ : ∃ oD, hh.get? C = some oD ∧ oD.data = .cls cdD := by
    unfold clsIn at hD
    split at hD
    · rename_i c d cd' sl hl
      cases hD
      exact ⟨_, X _ _ hl, rfl⟩
    · cases hD
  show _root_.PySem.wpAt _ _ (.func _ (ksEnv qual (xiScope f) hh.objs.size fI (.ref cda) cc)) (execs _ (ksEnv qual (xiScope f) hh.objs.size fI (.ref cda) cc)) _ _ _
  have hm : ∀ env : PySem.Env, methodCallPos true (.Call (.Name "super" p0) [] [] p1) env p2 p4 = pure p4 := fun env => by
    unfold methodCallPos
    rw [hpos]
    rfl
  have he : ∀ env : PySem.Env, eval (.Call (.Attribute (.Call (.Name "super" p0) [] [] p1) "__init__" p2) [.Name f p3] [] p4) env = (do
      let ov ← attributeBase (.Call (.Name "super" p0) [] [] p1) "__init__" env (eval (.Call (.Name "super" p0) [] [] p1) env)
      standAt p2.atName
      let (g, first) ← holding [ov] (getMethod ov "__init__" (do return (← importBound (.Call (.Name "super" p0) [] [] p1) env).getD true))
      callWith p4 g first (backTo p4 (starEach [.Name f p3] env)) []) := fun env =>
    congrArg (fun k : Sem Pos => attributeBase (.Call (.Name "super" p0) [] [] p1) "__init__" env (eval (.Call (.Name "super" p0) [] [] p1) env) >>= fun ov => standAt p2.atName >>= fun _ =>
      holding [ov] (getMethod ov "__init__" (do return (← importBound (.Call (.Name "super" p0) [] [] p1) env).getD true)) >>= fun x => k >>= fun cp => callWith cp x.1 x.2 (backTo p4 (starEach [.Name f p3] env)) []) (hm env)
  refine ks_wpAt_execs_cons (ks_wpAt_Expr_any (ks_wpAt_MethodCall (he := he _) (ks_wpAt_super_base (env := ksEnv qual (xiScope f) hh.objs.size fI (.ref cda) cc) N.ls N.lc (by decide) rfl (hk₁ _ _ (XL _ _ ho)) rfl rfl rfl (hk₁ _ _ (XL _ _ hcode)) rfl hvs hfile htop ?_)))
  refine ks_loadName_global rfl N.ls (loadGlobal_builtin (env := ksEnv qual (xiScope f) hh.objs.size fI (.ref cda) cc) (hg.keeps hk₁) T.su (hb.keeps hk₁) hbs ⟨rfl, ?_⟩)
  refine wpAny_loadName_free rfl N.lc rfl ⟨_, hk₁ _ _ (XL _ _ hcell), rfl⟩ ?_
  refine wpAny_loadName_local rfl rfl hns hself ?_
  refine ks_wpAny_isType_cls (hk₁ _ _ hD1) hD2 ⟨rfl, ?_⟩
  refine ks_wpAny_call_super (hk₁ _ _ hD1) hD2 (hk₁ _ _ hx) rfl (fun c e => by cases e) (looks_mroIn X1 T.sC) (fun h2 e2 k2 => ?_)
  obtain ⟨F2, N2, l2⟩ := ks_newsPush (s := ⟨h₁, gg, dd, tk, os⟩) F N0 rfl e2 k2
  refine kxs_method (odx := none) T.KF F2 X₀ N2 (.head _) ⟨k2 _ _ (hk₁ _ _ hx), rfl, rfl, trivial⟩ T.op T.sm T.sB (by decide) (fun q h3 F3 N3 l3 => ?_)
  refine kxs_callWith1 N3 (.head _) ?_
  show wpAny _ _ (spliced ((false, eval (.Name f p3) (ksEnv qual (xiScope f) hh.objs.size fI (.ref cda) cc)) :: backTo p4 (starEach [] (ksEnv qual (xiScope f) hh.objs.size fI (.ref cda) cc)))) _ _ _
  refine Calls.spliced_cons (ldK F3.ns hfv ?_ rfl N.lk N.dbg)
  refine Calls.spliced_nil ⟨kxs_at N3 (.head _), ?_⟩
  have nq : q ≠ x := Nat.ne_of_gt (l3 (x, excObj C t0 none .none) (by simp))
  have nso : h₁.objs.size ≠ x := Nat.ne_of_gt (l2 (x, excObj C t0 none .none) (by simp))
  refine kxs_call F3 X₀ N3 T.FB T.xI (.head _) (UpdF.tail nq (UpdF.tail nso (UpdF.head (fun _ h => nomatch h)))) (by show 1 ≤ sizeLine; rw [sizeLine_eq]; omega) (fun t' h4 F4 N4 l4 => ?_)
  have X4 : K.In h4 := X₀.keeps F4.keep
  have hx4 : h4.get? x = some (excObj C t' none .none) := (N4 (x, excObj C t' none .none) (by simp)).1
  show _root_.PySem.wpAt _ _ _ (execs [_] _) _ _ _
  refine wpAt_of_wpAny (wpAny_execs_cons (plainObj_wpAny_Assign_Attribute ?_))
  refine ldK F4.ns hfv (ldK F4.ns hself ?_ rfl rfl (by decide)) rfl N.lk N.dbg
  refine set_plain X4 (ox := excObj C t' none .none) (od := none) ⟨hx4, rfl, rfl, trivial⟩ T.sa ?_
  refine x_store T X4 hx4 (fun h5 tk5 dx k5 e5 b5 n5 ns5 => ?_)
  show wpAny _ _ (execs _ _) _ _ _
  have z : hh.objs.size < h4.objs.size := F4.ns.lt
  exact wpAny_execs_nil (hq h5 tk5 dx ⟨fun b o hb e => k5 b o hb (F4.keep b o (hideAll_get _ e (by simpa using hb))), ⟨t', e5⟩, Nat.le_of_lt (Nat.lt_of_lt_of_le z b5), n5, ns5⟩)
theorem x_made (T : XcT K mg prog B newId initId bmB cn f C) (N : XfN f) {v : Value} (X : K.In s.heap) (hlim : s.heap.NoLimit) (hg : s.heap.Ns mainGlobals mg) (hb : s.heap.Ns builtinsNs mb) (hbs : mb "super" = some (.type "super")) (hroom : A.depth + 1 < recursionLimit)
    (hq : ∀ h' tk e d, XMade s.heap h' e C d f v → R (.ok (.ret (.ref e))) { s with heap := h', toks := tk }) :
    codeAny (model prog w) A (.call (.ref C) ⟨[v], []⟩) R s := by
  obtain ⟨fI, cda, cc, qual, _, _, _, _, _, _, _, _, _, _, _, _, _, _, _, _, _, _, _, _, _, _, _, _, _, _, _, _, iC, tI, _⟩ := T.ini
  obtain ⟨nm, N', qn, bs, bm, hdct, sn, sub, ab, col, dd, k0, k1, k2, k3, k5, hC, hT⟩ := excInit_of X T.xI
  obtain ⟨hp, g, dr, tk, os⟩ := s
  have k : ∀ b o, hp.get? b = some o → ((hp.push (kdv_tup [v])).push (excO C hp.objs.size)).get? b = some o := fun b o e => Heap.get?_push_of_some _ (Heap.get?_push_of_some _ e)
  have hget : ((hp.push (kdv_tup [v])).push (excO C hp.objs.size)).get? (hp.objs.size + 1) = some (excO C hp.objs.size) := by heap_get
  have hnx : K.lookup (hp.objs.size + 1) = none := by
    cases e : K.lookup (hp.objs.size + 1) with
    | none => rfl
    | some o =>
      have z : hp.get? (hp.objs.size + 1) = some o := X _ _ e
      exact absurd (Nat.lt_of_succ_lt (Heap.lt_size z)) (Nat.lt_irrefl _)
  refine HandSPX.call_own T.FB hT hC (looks_findIn X iC) (fun self => bind_fn X self tI) (by show 1 ≤ sizeLine; rw [sizeLine_eq]; omega) ?_
  refine x_init (s := ⟨(hp.push (kdv_tup [v])).push (excO C hp.objs.size), g, dr, tk, os⟩) T N iC (X.keeps k) (hlim.keeps k) (hg.keeps k) (hb.keeps k) hbs hget hnx ?_ fun h' tk' dx ⟨k', ⟨t1, hx⟩, dn, dne, hns⟩ => ?_
  · show A.depth + 1 < recursionLimit
    exact hroom
  · have old : ∀ b o, hp.get? b = some o → h'.get? b = some o := fun b o e => k' b o (Nat.ne_of_lt (Nat.lt_succ_of_lt (Heap.lt_size e))) (k b o e)
    have z : hp.objs.size + 1 + 1 ≤ dx := by
      first
        | (simpa only [Heap.size_push] using dn)
        | exact dn
        | (have q := dn; rw [Heap.size_push, Heap.size_push] at q; exact q)
    exact ⟨rfl, hq h' tk' (hp.objs.size + 1) dx ⟨old, Nat.le_succ _, ⟨_, _, hx, rfl, rfl, rfl, rfl⟩, Nat.le_trans (Nat.le_trans (Nat.le_succ _) (Nat.le_succ _)) z, dne, hns⟩⟩
end
theorem relO_one {v : V} {v' : Value} (f : Str) (r : RelV v v') (y : Str) : RelO (List.lookup y [(f, v)]) (if y = f then some v' else none) := by
  by_cases hw : y = f
  · subst hw
    rw [if_pos rfl]
    have q : List.lookup y [(y, v)] = some v := by simp [List.lookup]
    rw [q]
    exact r
  · rw [if_neg hw]
    have qw : (y == f) = false := by simpa using hw
    have q2 : List.lookup y [(f, v)] = none := by simp [List.lookup, qw]
    rw [q2]
    trivial
section
variable {X : Cx} {C : Addr} {B newId initId : String} {bmB : List Value} {cn f : Str}
/-- C(e) -/
def tMkX (C : Addr) (f : Str) (ta : TA) : L2.St → Hp → XK → Prop := fun σ H Q => ta σ H fun vs H1 => ∃ v, vs = [v] ∧ ∀ d, H1 d = none → Q (.ref C) (some d) (upd H1 d (.xd [(f, v)]))
theorem pmk_x {a : Expr} {ta : TA} {p pos : Pos} {k : Nat} (T : XcT X.K X.mg X.prog B newId initId bmB cn f C) (N : XfN f) (hr : Room k X.A) (ha : PA X [a] ta) (hg : Gl X cn) (hdb : (cn == ("__debug__" : Str)) = false)
    (he : starEach (a :: []) X.env = (false, eval a X.env) :: starEach [] X.env := by rfl) (hpl : (backTo pos (starEach [] X.env)).any (·.1) = false := by rfl) :
    PMk X (.Call (.Name cn p) [a] [] pos) (tMkX C f ta) := by
  intro pins s σ H Q I h
  refine wpAny_Call_Name_kw (ld_glob I hg T.gC ?_ hdb)
  refine PySem.W.callWith_K (h₀ := X.base) I.ok.mod.kin T.kC (thn (ha.run pos pins s σ H _ I h) fun us s1 hh => ?_) he hpl
  obtain ⟨vs, H1, I1, r1, v, ev, q1⟩ := hh
  subst ev
  refine ⟨I1.kIn, ?_⟩
  cases r1 with
  | cons rv rn =>
    rename_i v' us'
    cases rn
    show wpAny _ _ (call (.ref C) [v']) _ _ _
    have hlim := I1.nolimit
    obtain ⟨mb, nb, bb⟩ := I1.ok.mod.blt
    have gl := I1.ok.mod.glob.keeps I1.bk
    have nb := nb.keeps I1.bk
    obtain ⟨hp, g, dr, tk, os⟩ := s1
    refine wpAny_call (x_made T N I1.kIn hlim gl nb ((bb _ (by decide)).trans (by decide +kernel)) (by have := hr.dp; omega) fun h' tk' e d M => ?_)
    show MkP X pins σ Q (.ref e) ⟨h', g, dr, tk', os⟩
    obtain ⟨oe, fv, hoe, hc, hd, hdat, h1⟩ := M.obj
    have hns := M.ns
    obtain ⟨G', g1, g2⟩ := restrict h' fun b => decide (b ≠ e)
    have gk : ∀ b, b ≠ e → G'.get? b = h'.get? b := fun b hb => g1 b (decide_eq_true hb)
    have ge : G'.get? e = none := g2 e (by simp)
    have old : ∀ b o, hp.get? b = some o → G'.get? b = some o := fun b o q => (gk b (Nat.ne_of_lt (Nat.lt_of_lt_of_le (Heap.lt_size q) M.new))).trans (M.keep b o q)
    have ob : ObjOk X.prog X.w (upd H1 d (.xd [(f, v)])) G' d (.xd [(f, v)]) :=
      ⟨_, hns.at (fun o q => (gk d M.dne).trans q), fun y => relO_one f rv y⟩
    have J : Inv X pins σ (upd H1 d (.xd [(f, v)])) ⟨G', g, dr, tk', os⟩ := I1.laid (t' := tk') old M.dbig ob
    refine ⟨e, oe, fv, ⟨G', g, dr, tk', os⟩, _, .ref C, some d, rfl, J, fun b o q => ?_, ge, hoe, ⟨hc, hd⟩, hdat, h1, ?_, rfl, I1.bare, raises_own T.exC T.tyC, q1 d (I1.hok.fresh M.dbig)⟩
    · by_cases hb : b = e
      · have q' : G'.get? b = some o := q
        rw [hb, ge] at q'; cases q'
      · exact (gk b hb).symm.trans q
    · rw [upd_ne (Ne.symm M.dne)]
      exact I1.hok.fresh M.new
end
end TL

/-! T layer 39: raise; a try with many clauses, some of which name the exception. -/
namespace TL
open PySem PySem.Spec PyProof.Rows L2
variable [Tb]

/-! ### raise -/
def sRaise0 (cn : Str) : Env → M Fl := fun _ μ => .err ⟨cn, []⟩ μ
def sRaise1 (cn f : Str) (fa : Env → M T) : Env → M Fl := fun ρ => M.bind (aCons fa aNil ρ) fun ds => match ds with
  | [d] => fun μ => .err ⟨cn, [(f, d)]⟩ μ
  | _ => M.no
/-- what the written part says of a class without own __init__ -/
structure X0T (K : PySem.W.Frag) (mg : Str → Option Value) (B newId initId : String) (bmB : List Value) (cn : Str) (C : Addr) : Prop where
  gC : mg cn = some (.ref C)
  FB : ExcBaseFacts B newId initId bmB
  xI : PySem.W.excIn K C bmB newId = true
  exC : PySem.W.subIn K (.ref C) (.type "BaseException") = some true
  tyC : PySem.W.typeIn K (.ref C) = some (.type "type")
  kC : PySem.W.keepIn K (.ref C) = true
section
variable {X : Cx} {E : XK} {k : Nat} {C : Addr} {B newId initId : String} {bmB : List Value} {cn f m : Str} {j : Nat} {p p2 pos pos2 : Pos} {a : Expr} {fa : Env → M T}
theorem s_raise0 (o : XO X E k) (T : X0T X.K X.mg B newId initId bmB cn C) (hg : Gl X cn := by rfl) (hdb : (cn == ("__debug__" : Str)) = false := by decide) : DS X E (.Raise (some (.Call (.Name cn p) [.Constant (.str m) j p2] [] pos)) none pos2) (sRaise0 cn) :=
  ps_imp (ps_raise o.calm o.tk (pmk_own T.FB T.xI T.gC T.kC (raises_own T.exC T.tyC) hg hdb)) fun D σ H ⟨F, ι, μ, ρ, hr, he, hp⟩ => hp F ι H (.ref C) none (.refl ..) hr ⟨T.gC, .inl ⟨rfl, rfl⟩⟩
theorem s_raise1 (o : XO X E k) (T : XcT X.K X.mg X.prog B newId initId bmB cn f C) (N : XfN f) (ha : DE X E a fa) (hg : Gl X cn := by rfl) (hdb : (cn == ("__debug__" : Str)) = false := by decide)
    (he : starEach (a :: []) X.env = (false, eval a X.env) :: starEach [] X.env := by rfl) (hpl : (backTo pos (starEach [] X.env)).any (·.1) = false := by rfl) : DS X E (.Raise (some (.Call (.Name cn p) [a] [] pos)) none pos2) (sRaise1 cn f fa) :=
  ps_imp (ps_raise o.calm o.tk (pmk_x T N o.room (a_cons ha a_nil he) hg hdb he hpl)) fun D σ H ⟨F, ι, μ, ρ, hr, hen, hp⟩ => At.a hr hen hp fun F1 ι1 μ1 H1 vs ds x1 r1 rs p1 => by
    cases rs with
    | nil => exact p1.elim
    | cons rv t =>
      cases t with
      | cons _ _ => exact p1.elim
      | nil =>
        refine ⟨_, rfl, fun d hd => ?_⟩
        obtain ⟨x2, r2⟩ := r1.newF (u := .xd [(f, _)]) hd (fun b z => upd_ne z) upd_same
        exact p1 _ _ _ (.ref C) (some d) x2 r2 ⟨T.gC, .inr ⟨d, _, rfl, upd_same, .cons (rv.ext x2) .nil⟩⟩
end

/-! ### try: many clauses -/
/-- what the clauses wish of an exception of the body: each its class, its slot where it names the exception, its suite -/
def wMix (K : PySem.W.Frag) (Wout : WX) (D : Ends) : List (Value × Option Nat × (Addr → Value → Option Addr → TS)) → WX
  | [] => Wout
  | (c, oi, ts) :: r => fun cls d σ H => ∃ b, PySem.W.exmOne K cls c = some b ∧ (b = false → wMix K Wout D r cls d σ H) ∧ (b = true → ∀ a, H a = none → match oi with
    | none => ts a cls d D σ H
    | some i => ts a cls d { nx := fun σ' H' => D.nx (σ'.set i none) H', rt := D.rt, bk := fun σ' H' => D.bk (σ'.set i none) H', ct := fun σ' H' => D.ct (σ'.set i none) H' } (σ.set i (some (.ref a))) H)
def SuiteOk (X : Cx) (suite : List Stmt) (ts : Addr → Value → Option Addr → TS) : Prop := ∀ (a : Addr) (oe : Obj) (cls : Value) (d : Option Addr) (pn : List (Addr × Obj)), Zc cls d oe → (∃ vs, oe.data = .fields vs) → PSs (X.suite a ((a, oe) :: pn)) suite (ts a cls d)
inductive Hds (X : Cx) : List ExceptHandler → List (Value × Option Nat × (Addr → Value → Option Addr → TS)) → Prop
  | nil : Hds X [] []
  | bare {x : Str} {c : Value} {ts : Addr → Value → Option Addr → TS} {b₀ : Stmt} {suite : List Stmt} {np pos : Pos} {hds : List ExceptHandler} {l : List (Value × Option Nat × (Addr → Value → Option Addr → TS))} (hc : Names X x c) (hs : SuiteOk X (b₀ :: suite) ts) (r : Hds X hds l) :
      Hds X (.ExceptHandler (some (.Name x np)) none (b₀ :: suite) pos :: hds) ((c, none, ts) :: l)
  | named {x n : Str} {c : Value} {i : Nat} {ts : Addr → Value → Option Addr → TS} {b₀ : Stmt} {suite : List Stmt} {np pos : Pos} {hds : List ExceptHandler} {l : List (Value × Option Nat × (Addr → Value → Option Addr → TS))} (hc : Names X x c) (hi : X.N[i]? = some n) (hl : X.env.kindOf n = some .local)
      (hs : SuiteOk X (b₀ :: suite) ts) (r : Hds X hds l) : Hds X (.ExceptHandler (some (.Name x np)) (some n) (b₀ :: suite) pos :: hds) ((c, some i, ts) :: l)
section
variable {X : Cx} {pins : List (Addr × Obj)} {σ : L2.St} {H : Hp} {B : Heap} {sI s : Shared} {D : Ends} {Wout : WX} {a : Addr} {cls : Value} {d : Option Addr}
/-- an exception on the ground of this frame, its clauses looked at one after the other -/
theorem clauses_run (hs : X.stack = X.env :: X.outer) (hf : X.env.frame = some X.env.locals) (hN : X.N.Nodup) (ok : X.Ok) (tk : Takes X Wout) (J : Inv X pins σ H sI) (nb : ∀ b o, sI.heap.get? b = some o → b ∉ frs X.stack → B.get? b = some o) (up : sI.heap.UpToSlots s.heap)
    (fl : HandSPX.FlyingZ B (X.env :: X.outer) a (Zc cls d) s.heap) (na : H a = none) (os : s.os = sI.os) (ag : AllBare s.gens) :
    ∀ {hds : List ExceptHandler} {l : List (Value × Option Nat × (Addr → Value → Option Addr → TS))}, Hds X hds l → wMix X.K Wout D l cls d σ H → wpAny (model X.prog X.w) X.A (handleBy (.ref a) X.env hds) (SP X pins D) X.xe s := by
  have J1 : Inv X pins σ H s := J.landed nb fl.1 up os ag
  obtain ⟨oe, vs, he, hz, hd⟩ := fl.there
  have far : ∀ {h : Heap} {o : Obj} {vs : Array Value}, h.FunFrames B (X.env :: X.outer) → h.get? a = some o → o.data = .fields vs → a ∉ frs (X.env :: X.outer) := fun ff e dd hm => by
    obtain ⟨_, o', e', hnf⟩ := ff.mem hm
    rw [e] at e'; cases e'
    exact hnf _ dd
  have nfr := far fl.2.2.1 he hd
  have nL : a ≠ X.env.locals := fun z => nfr (List.mem_filterMap.mpr ⟨X.env, List.mem_cons_self, by rw [hf, z]⟩)
  have nF : a ∉ X.fs := fun hm => by
    obtain ⟨e, he, q⟩ := List.mem_filterMap.mp hm
    exact nfr (List.mem_filterMap.mpr ⟨e, List.mem_cons_of_mem _ he, q⟩)
  have S1 := J1.suite he hd na nL nF
  have LT : PySem.W.Looks (model X.prog X.w) s.heap (typeOf (.ref a)) cls := fun A Q E s k q => wpAny_typeOf_ref (k _ _ he) (by rw [hz.1]; exact q)
  have test : ∀ {x : Str} {c : Value} {np : Pos} {Q : Value → Shared → Prop} {E : Value → Shared → Prop}, Names X x c → Q c s → wpAny (model X.prog X.w) (X.A.mark (some (.ref a))) (eval (.Name x np) X.env) Q E s := fun hc q => by
    obtain ⟨hg, hdbg, hm | ⟨hm, hv, hnn⟩⟩ := hc
    · exact ld_glob (X := X.suite a ((a, oe) :: (X.pn ++ pins))) S1 hg hm q hdbg
    · exact ld_blt (X := X.suite a ((a, oe) :: (X.pn ++ pins))) S1 hg hm hv q hnn hdbg
  have again : ∀ {h4 : Heap}, HandSPX.FlyingZ B (X.env :: X.outer) a (Zc cls d) h4 → s.heap.UpToSlots h4 → ∃ oe4, Zc cls d oe4 ∧ (∃ vs, oe4.data = .fields vs) ∧ Inv (X.suite a ((a, oe4) :: (X.pn ++ pins))) [] σ H { s with heap := h4 } := fun {h4} fl4 up4 => by
    have J4 : Inv X pins σ H { s with heap := h4 } := J.landed nb fl4.1 (up.trans up4) os ag
    obtain ⟨oe4, vs4, he4, hz4, hd4⟩ := fl4.there
    exact ⟨oe4, hz4, ⟨_, hd4⟩, J4.suite he4 hd4 na nL nF⟩
  intro hds l hk
  induction hk with
  | nil =>
    intro w
    refine wpAny_handleBy_nil ?_
    obtain ⟨k1, k2, k3, oe, vs, T, oT, ts', he, hz, hd, h1, hr⟩ := id fl
    unfold PySem.passOn
    refine wpAny_bind (wpAny_field he hd h1 ?_)
    rw [if_neg (show ¬ ((Value.ref T == Value.none) = true) from by simp)]
    have fin : wpAny (model X.prog X.w) X.A (setFlight (.ref a) X.env.frame) (fun _ s4 => wpAny (model X.prog X.w) X.A (throw (.ref a) : Sem Flow) (SP X pins D) X.xe s4) X.xe s := by
      rw [hf]
      refine HandSPX.setFlight_upZ fl fun h4 hh4 up4 => wpAny_throw (tk _ _ ?_)
      exact ⟨a, B, sI, pins, σ, H, cls, d, rfl, J, nb, up.trans up4, .inr (.inr (by rw [hs]; exact hh4)), na, os, ag, w⟩
    first
      | exact wpAny_bind (wpAny_pure (wpAny_bind fin))
      | exact wpAny_bind fin
  | @bare x c ts b₀ suite np pos hds2 l2 hc hsu r ih =>
    intro w
    obtain ⟨b, hb1, hno, hyes⟩ := w
    refine wpAny_handleBy_cons (codeAny_handlers_test ?_) (by intro q; cases q)
    refine test hc ((PySem.W.exm_one (M := model X.prog X.w) (J1.kIn) LT hb1).here ?_)
    cases b with
    | false => exact ih (hno rfl)
    | true =>
      refine codeAny_handlers_suite (HandSPX.lands_againZ fl fun h4 fl4 up4 => ?_)
      obtain ⟨oe4, hz4, hd4, S4⟩ := again fl4 up4
      refine wpAny_mono ((hsu a oe4 cls d (X.pn ++ pins) hz4 hd4).run [] _ _ H _ S4 (hyes rfl a na)) (fun f s6 hsp => ?_) (fun _ _ z => False.elim z)
      cases f with
      | next => obtain ⟨σ6, H6, S6, q6⟩ := hsp; exact ⟨_, _, S6.unsuite ok, q6⟩
      | brk => obtain ⟨σ6, H6, S6, q6⟩ := hsp; exact ⟨_, _, S6.unsuite ok, q6⟩
      | cont => obtain ⟨σ6, H6, S6, q6⟩ := hsp; exact ⟨_, _, S6.unsuite ok, q6⟩
      | ret u => obtain ⟨v6, σ6, H6, S6, r6, q6⟩ := hsp; exact ⟨_, _, _, S6.unsuite ok, r6, q6⟩
  | @named x n c i ts b₀ suite np pos hds2 l2 hc hi hln hsu r ih =>
    intro w
    obtain ⟨b, hb1, hno, hyes⟩ := w
    refine wpAny_handleBy_cons (codeAny_handlers_test ?_) (by intro q; cases q)
    refine test hc ((PySem.W.exm_one (M := model X.prog X.w) (J1.kIn) LT hb1).here ?_)
    cases b with
    | false => exact ih (hno rfl)
    | true =>
      refine codeAny_handlers_suite_as (HandSPX.lands_againZ fl fun h4 fl4 up4 => ?_)
      obtain ⟨oe4, hz4, hd4, S4⟩ := again fl4 up4
      refine store_ok (X := X.suite a ((a, oe4) :: (X.pn ++ pins))) (v := .ref a) S4 hN hi (.inl hln) rfl (fun s5 S5 => ?_) (.inr hln)
      refine wpAny_mono ((hsu a oe4 cls d (X.pn ++ pins) hz4 hd4).run [] s5 _ H _ S5 (hyes rfl a na)) (fun f s6 hsp => ?_) (fun _ _ z => False.elim z)
      have fin : ∀ {σ6 : L2.St} {H6 : Hp} {Q : Shared → Prop}, Inv (X.suite a ((a, oe4) :: (X.pn ++ pins))) [] σ6 H6 s6 → (∀ s7, Inv X pins (σ6.set i none) H6 s7 → Q s7) →
          wpAny (model X.prog X.w) X.A (do bindName X.env n .none; unbindBehindTheSuite X.env n pos) (fun _ s7 => Q s7) X.xe s6 := fun S6 hq => gone_ok (S6.unsuite ok) hN hi hln hq
      cases f with
      | next => obtain ⟨σ6, H6, S6, q6⟩ := hsp; exact fin S6 fun s7 J7 => ⟨_, _, J7, q6⟩
      | brk => obtain ⟨σ6, H6, S6, q6⟩ := hsp; exact fin S6 fun s7 J7 => ⟨_, _, J7, q6⟩
      | cont => obtain ⟨σ6, H6, S6, q6⟩ := hsp; exact fin S6 fun s7 J7 => ⟨_, _, J7, q6⟩
      | ret u => obtain ⟨v6, σ6, H6, S6, r6, q6⟩ := hsp; exact fin S6 fun s7 J7 => ⟨_, _, _, J7, r6, q6⟩
end
section
variable {X : Cx} {body : List Stmt} {h₀ : ExceptHandler} {hds : List ExceptHandler} {l : List (Value × Option Nat × (Addr → Value → Option Addr → TS))} {pos : Pos} {tb : WX → TS} {Wout : WX}
theorem ps_try_mix (hs : X.stack = X.env :: X.outer) (hf : X.env.frame = some X.env.locals) (hN : X.N.Nodup) (tk : Takes X Wout)
    (hb : ∀ (W : WX) (pn : List (Addr × Obj)) (xe : Value → Shared → Prop), Takes (X.tr pn xe) W → PassesOwn (model X.prog X.w) X.A X.env xe → PSs (X.tr pn xe) body (tb W))
    (hh : Hds X (h₀ :: hds) l) : PS X (.Try body (h₀ :: hds) [] [] pos) (fun D σ H => tb (wMix X.K Wout D l) D σ H) := by
  refine ⟨fun pins s σ H D I h => ?_⟩
  have ok := I.ok
  have hfr : X.A.frames = some (X.env :: X.outer) := by rw [ok.frames, hs]
  refine wpAny_Try_except (wpAny_mono ((hb (wMix X.K Wout D l) (X.pn ++ pins) (fun e s₁ => wpAny (model X.prog X.w) X.A (noteFrame e X.env) (fun _ s₂ => wpAny (model X.prog X.w) X.A (setFlight e none) (fun _ s₃ =>
    wpAny (model X.prog X.w) X.A (handleBy e X.env (h₀ :: hds)) (SP X pins D) X.xe s₃) X.xe s₂) X.xe s₁) (fun u s' xx => ?_) PassesOwn.looking).run [] s σ H D (I.toTry _) h) (fun f s1 hsp => ?_) (fun e s1 he => he))
  · obtain ⟨a, B, sI, pins', σ', H', cls, d, rfl, J', nb, up, sky, na, os, ag, w⟩ := xx
    have sky' : Sky B (X.env :: X.outer) a (Zc cls d) X.env.locals s'.heap := by rw [← hs]; exact sky
    show wpAny (model X.prog X.w) X.A (noteFrame (.ref a) X.env) _ _ _
    exact Sky.land Zc.steady hfr hf sky' fun h3 fl3 up3 => clauses_run (s := { s' with heap := h3 }) hs hf hN ok tk (J'.ofTry ok) nb (up.trans up3) fl3 na os ag hh w
  · cases f with
    | next => obtain ⟨σ', H', J', q⟩ := hsp; exact wpAny_execs_nil ⟨σ', H', J'.ofTry ok, q⟩
    | brk => obtain ⟨σ', H', J', q⟩ := hsp; exact ⟨σ', H', J'.ofTry ok, q⟩
    | cont => obtain ⟨σ', H', J', q⟩ := hsp; exact ⟨σ', H', J'.ofTry ok, q⟩
    | ret u => obtain ⟨v, σ', H', J', r, q⟩ := hsp; exact ⟨v, σ', H', J'.ofTry ok, r, q⟩
end
end TL

/-! T layer 40: a def that tries what it got, a lambda; the fields of what it caught; lambdas handed on. -/
namespace TL
open PySem PySem.Spec PyProof.Rows L2 LamX
variable [Tb]

/-! ### the caught exception's field -/
def eFld (a dd : Addr) (i : Nat) (f : Str) : Env → M T := fun ρ => match ρ[i]? with
  | some (some (.exn a' dd' fs)) => bif a' == a && dd' == dd then ofO (fs.lookup f) else M.no
  | _ => M.no
theorem Rpx.look {K : PySem.W.Frag} {F : Hp} {ι : List Addr} {f : Str} {d : T} : ∀ {vs : List (Str × V)} {fs : List (Str × T)}, Rpx K F ι vs fs → fs.lookup f = some d → ∃ v, vs.lookup f = some v ∧ Rp K F ι v d
  | _, _, .nil, h => by cases h
  | _, _, @Rpx.cons _ _ _ k v vs d' ds r t, h => by
    cases e : f == k with
    | true =>
      simp only [List.lookup, e] at h ⊢
      cases h
      exact ⟨_, rfl, r⟩
    | false =>
      simp only [List.lookup, e] at h ⊢
      exact Rpx.look t h
section
variable {X : Cx} {E : XK} {C a dd : Addr} {oe : Obj} {d : Option Addr} {pn : List (Addr × Obj)} {n f : Str} {i : Nat} {p pos : Pos}
theorem d_fld (T : XfC X.K C) (hno : PySem.W.findIn X.K (.ref C) f = some none) (hz : Zc (.ref C) d oe) (hf : ∃ vs, oe.data = .fields vs) (hd : d = some dd) (hN : X.N[i]? = some n := by rfl) (hv : Vis X.env.scope n := by first | exact Or.inl rfl | exact Or.inr (Or.inl rfl) | exact Or.inr (Or.inr rfl)) (hdb : (n == ("__debug__" : Str)) = false := by decide)
    (hcd : (n == ("__classdict__" : Str)) = false := by decide) (hb : attributeBase (.Name n p) f X.env (eval (.Name n p) X.env) = eval (.Name n p) X.env := by rfl) :
    DE (X.suite a ((a, oe) :: pn)) E (.Attribute (.Name n p) f pos) (eFld a dd i f) :=
  pe_imp (pe_xf T hno hz hf (pe_var (X := X.suite a ((a, oe) :: pn)) (i := i) hN hv hdb hcd) hb) fun σ H Q ⟨F, ι, μ, ρ, hr, he, hp⟩ => by
    have q : ∀ o, ρ[i]? = o → Post X.K X.mg E ((match o with
      | some (some (.exn a' dd' fs)) => bif a' == a && dd' == dd then ofO (fs.lookup f) else M.no
      | _ => M.no) μ) F ι H (wT X.K Q) := fun o e => by rw [← e]; exact hp
    rcases e : ρ[i]? with _ | _ | t
    · exact (q _ e).elim
    · exact (q _ e).elim
    · obtain ⟨v, hσ, r⟩ := he.at_ i t e
      have q1 := q _ e
      clear q hp
      cases r with
      | @exn a' dd' vs fs hF rx =>
        have q2 : Post X.K X.mg E ((bif a' == a && dd' == dd then ofO (fs.lookup f) else M.no) μ) F ι H (wT X.K Q) := q1
        cases hb2 : (a' == a && dd' == dd) with
        | false => rw [hb2] at q2; exact q2.elim
        | true =>
          rw [hb2] at q2
          rw [Bool.and_eq_true, beq_iff_eq, beq_iff_eq] at hb2
          cases hl : fs.lookup f with
          | none => rw [hl] at q2; exact q2.elim
          | some t =>
            rw [hl] at q2
            obtain ⟨v, hv2, rv⟩ := rx.look hl
            exact ⟨.ref a', hσ, by rw [hb2.1], rfl, dd', vs, v, by rw [hb2.2]; exact hd, hr.sub _ _ hF, hv2, Post.pure (mg := X.mg) (E := E) q2 hr v rv⟩
      | _ => exact q1.elim
end

/-! ### the clauses -/
abbrev Cls := Str × Option Nat × (Addr → Addr → Env → M Fl)
def rtOf : Fl → M T
  | .rt d => M.pure d
  | _ => M.no
def noEnv (n : Nat) : Env := List.replicate n none
def catchC (n : Nat) : List Cls → Exn → M T
  | [], _ => M.no
  | (nm, oi, g) :: r, e => bif e.cls == nm then (match oi with
      | none => M.bind (g 0 0 (noEnv n)) rtOf
      | some i => bif e.fs.isEmpty then M.no else M.bind (g 0 0 ((noEnv n).set i (some (.exn 0 0 e.fs)))) rtOf)
    else catchC n r e
/-- what the written part says of the exceptions' classes -/
structure XCs (K : PySem.W.Frag) (mg : Str → Option Value) (cs : List (Str × Addr)) : Prop where
  at_ : ∀ p ∈ cs, mg p.1 = some (.ref p.2)
  is_ : ∀ p ∈ cs, ∀ q ∈ cs, PySem.W.exmOne K (.ref p.2) (.ref q.2) = some (p.1 == q.1)
def tsC (K : PySem.W.Frag) (mg : Str → Option Value) (n : Nat) (nb : Bool) (C : Addr) (g : Addr → Addr → Env → M Fl) : Addr → Value → Option Addr → TS := fun a cls d D σ H =>
  σ.length = n → ∃ dd, (nb = true → d = some dd) ∧ cls = .ref C ∧ tS K mg EF (g a dd) D σ H
def SuiteT (Y : Cx) (nb : Bool) (C : Addr) (suite : List Stmt) (g : Addr → Addr → Env → M Fl) : Prop := ∀ (a : Addr) (oe : Obj) (d : Option Addr) (dd : Addr) (pn : List (Addr × Obj)), Zc (.ref C) d oe → (∃ vs, oe.data = .fields vs) → (nb = true → d = some dd) → DB (Y.suite a ((a, oe) :: pn)) EF suite (g a dd)
theorem suiteT_ok {Y : Cx} {C : Addr} {suite : List Stmt} {g : Addr → Addr → Env → M Fl} {n : Nat} {nb : Bool} (h : SuiteT Y nb C suite g) (hn : Y.N.length = n) : SuiteOk Y suite (tsC Y.K Y.mg n nb C g) := fun a oe cls d pn hz hf =>
  ⟨fun pins s σ H D I q => by
    obtain ⟨dd, hd, rfl, q2⟩ := q (by rw [← hn]; exact I.len)
    exact (h a oe d dd pn hz hf hd).run pins s σ H D I q2⟩
/-- clauses, their trees, their wishes -/
inductive ClsOk (Y : Cx) (n : Nat) (cs : List (Str × Addr)) : List ExceptHandler → List Cls → List (Value × Option Nat × (Addr → Value → Option Addr → TS)) → Prop
  | nil : ClsOk Y n cs [] [] []
  | bare {x : Str} {C : Addr} {g : Addr → Addr → Env → M Fl} {b₀ : Stmt} {suite : List Stmt} {np pos : Pos} {hds : List ExceptHandler} {hs : List Cls} {l : List (Value × Option Nat × (Addr → Value → Option Addr → TS))} (hm : (x, C) ∈ cs) (hg : Gl Y x) (hdb : (x == ("__debug__" : Str)) = false)
      (hs' : SuiteT Y false C (b₀ :: suite) g) (hi : ∀ a dd, g a dd = g 0 0) (r : ClsOk Y n cs hds hs l) : ClsOk Y n cs (.ExceptHandler (some (.Name x np)) none (b₀ :: suite) pos :: hds) ((x, none, g) :: hs) ((.ref C, none, tsC Y.K Y.mg n false C g) :: l)
  | named {x m : Str} {C : Addr} {i : Nat} {g : Addr → Addr → Env → M Fl} {b₀ : Stmt} {suite : List Stmt} {np pos : Pos} {hds : List ExceptHandler} {hs : List Cls} {l : List (Value × Option Nat × (Addr → Value → Option Addr → TS))} (hm : (x, C) ∈ cs) (hg : Gl Y x) (hdb : (x == ("__debug__" : Str)) = false)
      (hN : Y.N[i]? = some m) (hl : Y.env.kindOf m = some .local) (hs' : SuiteT Y true C (b₀ :: suite) g) (hi : ∀ a dd fs μ, g a dd ((noEnv n).set i (some (.exn a dd fs))) μ = g 0 0 ((noEnv n).set i (some (.exn 0 0 fs))) μ) (r : ClsOk Y n cs hds hs l) :
      ClsOk Y n cs (.ExceptHandler (some (.Name x np)) (some m) (b₀ :: suite) pos :: hds) ((x, some i, g) :: hs) ((.ref C, some i, tsC Y.K Y.mg n true C g) :: l)
section
variable {Y : Cx} {n : Nat} {cs : List (Str × Addr)}
theorem ClsOk.hds (hn : Y.N.length = n) (Mx : XCs Y.K Y.mg cs) : ∀ {hds : List ExceptHandler} {hs : List Cls} {l : List (Value × Option Nat × (Addr → Value → Option Addr → TS))}, ClsOk Y n cs hds hs l → Hds Y hds l := fun {hds hs l} h => by
  induction h with
  | nil => exact .nil
  | bare hm hg hdb hs' hi r ih => exact .bare ⟨hg, hdb, .inl (Mx.at_ _ hm)⟩ (suiteT_ok hs' hn) ih
  | named hm hg hdb hN hl hs' hi r ih => exact .named ⟨hg, hdb, .inl (Mx.at_ _ hm)⟩ hN hl (suiteT_ok hs' hn) ih
theorem erp_none {K : PySem.W.Frag} {F : Hp} {ι : List Addr} {σ : L2.St} (h : σ.length = n) : ERp K F ι σ (noEnv n) := ⟨by simp [noEnv, h], fun i d e => by
  unfold noEnv at e
  rw [List.getElem?_replicate] at e
  split at e
  · cases e
  · cases e⟩
theorem wF_rt {K : PySem.W.Frag} {mg : Str → Option Value} {E : XK} {g : Env → M Fl} {ρ : Env} {μ : Store} {F : Hp} {ι : List Addr} {H : Hp} {Q : VK} {D : Ends} (hD : D.rt = Q) (hp : Post K mg E (M.bind (g ρ) rtOf μ) F ι H (wT K Q)) : Post K mg E (g ρ μ) F ι H (wF K D) :=
  hp.bind fun F1 ι1 μ1 H1 fl x1 r1 p1 => by
    cases fl with
    | rt d => exact fun v rv => by rw [hD]; exact Post.pure (mg := mg) (E := E) (a := d) p1 r1 v rv
    | nx ρ' => exact p1.elim
    | bk ρ' => exact p1.elim
    | ct ρ' => exact p1.elim
theorem catch_ok (Mx : XCs Y.K Y.mg cs) {e : Exn} {cls : Value} {dx : Option Addr} {F : Hp} {ι : List Addr} {μ : Store} {H : Hp} {Q : VK} {D : Ends} (hD : D.rt = Q) (hr : Rel Y.K F ι μ H) (hx : XRp Y.K Y.mg F ι cls dx H e) (hin : ∃ C, (e.cls, C) ∈ cs) (σ : L2.St) :
    ∀ {hds : List ExceptHandler} {hs : List Cls} {l : List (Value × Option Nat × (Addr → Value → Option Addr → TS))}, ClsOk Y n cs hds hs l → Post Y.K Y.mg EF (catchC n hs e μ) F ι H (wT Y.K Q) → wMix Y.K (fun _ _ _ _ => False) D l cls dx σ H := fun {hds hs l} h => by
  obtain ⟨hc, hfs⟩ := hx
  obtain ⟨C0, h0⟩ := hin
  have e0 : cls = .ref C0 := by
    have z := Mx.at_ _ h0
    simp only at z
    rw [hc] at z
    exact Option.some.inj z
  subst e0
  induction h with
  | nil => exact fun hp => hp.elim
  | @bare x C g b₀ suite np pos hds hs l hm hg hdb hs' hi r ih =>
    intro hp
    unfold catchC at hp
    refine ⟨e.cls == x, Mx.is_ _ h0 _ hm, fun hb => ?_, fun hb a na hlen => ?_⟩
    · rw [hb] at hp
      exact ih hp
    · rw [hb] at hp
      have ex : e.cls = x := beq_iff_eq.mp hb
      have eC : C0 = C := by
        have z1 := Mx.at_ _ h0
        have z2 := Mx.at_ _ hm
        simp only at z1 z2
        rw [ex, z2] at z1
        cases z1; rfl
      subst eC
      have hp : Post Y.K Y.mg EF (M.bind (g 0 0 (noEnv n)) rtOf μ) F ι H (wT Y.K Q) := hp
      rcases hfs with ⟨_, rfl⟩ | ⟨d, fs, rfl, hF, rx⟩
      · exact ⟨0, (fun z => by cases z), rfl, F, ι, μ, noEnv n, hr, erp_none hlen, by rw [hi]; exact wF_rt hD hp⟩
      · exact ⟨d, (fun z => by cases z), rfl, F, ι, μ, noEnv n, hr, erp_none hlen, by rw [hi]; exact wF_rt hD hp⟩
  | @named x m C i g b₀ suite np pos hds hs l hm hg hdb hN hl hs' hi r ih =>
    intro hp
    unfold catchC at hp
    refine ⟨e.cls == x, Mx.is_ _ h0 _ hm, fun hb => ?_, fun hb a na hlen => ?_⟩
    · rw [hb] at hp
      exact ih hp
    · rw [hb] at hp
      have ex : e.cls = x := beq_iff_eq.mp hb
      have eC : C0 = C := by
        have z1 := Mx.at_ _ h0
        have z2 := Mx.at_ _ hm
        simp only at z1 z2
        rw [ex, z2] at z1
        cases z1; rfl
      subst eC
      have hp : Post Y.K Y.mg EF ((bif e.fs.isEmpty then M.no else M.bind (g 0 0 ((noEnv n).set i (some (.exn 0 0 e.fs)))) rtOf) μ) F ι H (wT Y.K Q) := hp
      rcases hfs with ⟨hz, rfl⟩ | ⟨d, fs, rfl, hF, rx⟩
      · rw [hz] at hp; exact hp.elim
      · cases hz : e.fs.isEmpty with
        | true => rw [hz] at hp; exact hp.elim
        | false =>
          rw [hz] at hp
          have hlen' : σ.length = n := by simpa using hlen
          refine ⟨d, (fun _ => rfl), rfl, F, ι, μ, (noEnv n).set i (some (.exn a d e.fs)), hr, (erp_none hlen').set (.exn hF rx) i, ?_⟩
          have hp : Post Y.K Y.mg EF (M.bind (g 0 0 ((noEnv n).set i (some (.exn 0 0 e.fs)))) rtOf μ) F ι H (wT Y.K Q) := hp
          have q := wF_rt (D := { nx := fun σ' H' => D.nx (σ'.set i none) H', rt := D.rt, bk := fun σ' H' => D.bk (σ'.set i none) H', ct := fun σ' H' => D.ct (σ'.set i none) H' }) hD hp
          rw [hi]
          exact q
end

/-! ### the def that tries what it got -/
inductive TryK where
  | drop
  | ret
  | told (w : Str)
def finB (k : TryK) : V → Hp → Ends → L2.St → Prop := fun v H D σ => match k with
  | .drop => D.nx σ H
  | .ret => D.rt v H
  | .told w => 2 ≤ sizeLine ∧ ∀ p, H p = none → D.rt (.ref p) (upd H p (.tup [.str w, v]))
/-- the body's one statement: it reads the call and does what k says -/
def TryBody (a : Str) (st : Stmt) (k : TryK) : Prop := ∀ (Y : Cx) (tc : TE), (∀ p1 p2 : Pos, PE Y (.Call (.Name a p1) [] [] p2) tc) → Y.env.scope.kind = .function → PS Y st (fun D σ H => tc σ H fun v H1 => finB k v H1 D σ)
def metM (n : Nat) (names : List Str) (k : TryK) (hs : List Cls) (rest : Env → M Fl) (th : M T) : M T := fun μ => match th μ with
  | .ok d μ' => match k with
    | .drop => M.bind (rest (noEnv n)) rtOf μ'
    | .ret => .ok d μ'
    | .told w => .ok (.tup [.str w, d]) μ'
  | .err e μ' => bif names.contains e.cls then catchC n hs e μ' else .no
  | .no => .no
/-- what a def makes of a lambda's reading -/
def TTm (X : Cx) (m : M T → M T) : (XK → Hp → VK → Prop) → Hp → VK → Prop := fun tl H Q => ∃ (th : M T) (F : Hp) (ι : List Addr) (μ : Store), Rel X.K F ι μ H ∧
  (∀ E' F' ι' μ' H' Q', Ext F ι H F' ι' H' → Rel X.K F' ι' μ' H' → Post X.K X.mg E' (th μ') F' ι' H' (wT X.K Q') → tl E' H' Q') ∧ Post X.K X.mg EF (m th μ) F ι H (wT X.K Q)
section
variable {X : Cx} {Ng : List Str} {x a q : Str} {sg : Scope} {g : Addr} {cdg : Value} {st : Stmt} {k : TryK} {cs : List (Str × Addr)} {hds : List ExceptHandler} {h₀ : ExceptHandler} {hs : List Cls} {rest : List Stmt} {gr : Env → M Fl} {pos : Pos}
theorem met_gives (Mx : XCs X.K X.mg cs) (hN : Ng.Nodup) (hb : TryBody a st k) (hk : sg.kind = .function) (h0 : ∀ f : Addr, (L2.start Ng [V.ref f])[0]? = some (some (V.ref f))) (hlen : ∀ f : Addr, (L2.start Ng [V.ref f]).length = Ng.length)
    (hc : ∀ s H, ∃ l, ClsOk (cxOf C8.CX0 X.prog X.w X.K X.mg X.base Ng x sg g cdg X.A X.stack s H C8.E0).nox Ng.length cs (h₀ :: hds) hs l)
    (hr : ∀ s H, DB (cxOf C8.CX0 X.prog X.w X.K X.mg X.base Ng x sg g cdg X.A X.stack s H C8.E0).nox EF rest gr) :
    GivesTo X Ng x sg g cdg (.Try [st] (h₀ :: hds) [] [] pos :: rest) a q (TTm X (metM Ng.length (cs.map (·.1)) k hs gr)) := by
  intro f c' s H Q tl act hcd ⟨th, F, ι, μ, hrel, htl, hp⟩
  obtain ⟨l, hl⟩ := hc s H
  have hds' := ClsOk.hds (Y := (cxOf C8.CX0 X.prog X.w X.K X.mg X.base Ng x sg g cdg X.A X.stack s H C8.E0).nox) rfl Mx hl
  refine ⟨_, pss_cons (ps_try_mix (X := (cxOf C8.CX0 X.prog X.w X.K X.mg X.base Ng x sg g cdg X.A X.stack s H C8.E0).nox)
    (tb := fun W D σ H => ∃ Ech : XK, (∀ cls d σ' H', Ech cls d H' → W cls d σ' H') ∧ σ[0]? = some (some (.ref f)) ∧ H c' = some (CodeO c' q) ∧ tl Ech H fun v H1 => finB k v H1 D σ)
    rfl rfl hN takes0 (fun W pn xe tk _ => ?_) hds') (hr s H), ?_⟩
  · refine ⟨fun pins s' σ H' D I h' => ?_⟩
    obtain ⟨Ech, hW, h1, h2, h3⟩ := h'
    exact (pss_one (hb _ _ (fun p1 p2 => act W pn xe Ech p1 p2 tk hW) hk)).run pins s' σ H' D I ⟨h1, h2, h3⟩
  · refine ⟨fun cls d H' => ∀ σ', wMix X.K (fun _ _ _ _ => False) _ l cls d σ' H', fun cls d σ' H' h' => h' σ', h0 f, hcd, htl _ F ι μ H _ (.refl ..) hrel ?_⟩
    unfold metM at hp
    cases e : th μ with
    | no => rw [e] at hp; exact hp.elim
    | err ex μ' =>
      rw [e] at hp
      intro F' ι' H' cls dx x1 r1 hx σ'
      have hp : Post X.K X.mg EF ((bif (cs.map (·.1)).contains ex.cls then catchC Ng.length hs ex μ' else .no)) F ι H (wT X.K Q) := hp
      cases hz : (cs.map (·.1)).contains ex.cls with
      | false => rw [hz] at hp; exact hp.elim
      | true =>
        rw [hz] at hp
        have hin : ∃ C, (ex.cls, C) ∈ cs := by
          have z := List.contains_iff_mem.mp hz
          obtain ⟨p, hp1, hp2⟩ := List.mem_map.mp z
          exact ⟨p.2, by rw [← hp2]; exact hp1⟩
        exact catch_ok (Y := (cxOf C8.CX0 X.prog X.w X.K X.mg X.base Ng x sg g cdg X.A X.stack s H C8.E0).nox) Mx (Q := Q) rfl r1 hx hin σ' hl (Post.later x1 hp)
    | ok d μ' =>
      rw [e] at hp
      intro F' ι' H' x1 r1 v rv
      cases k with
      | drop =>
        have hp : Post X.K X.mg EF (TL.M.bind (gr (noEnv Ng.length)) rtOf μ') F ι H (wT X.K Q) := hp
        exact ⟨F', ι', μ', noEnv Ng.length, r1, erp_none (hlen f), wF_rt rfl (Post.later x1 hp)⟩
      | ret => exact hp F' ι' H' x1 r1 v rv
      | told w =>
        refine ⟨by rw [sizeLine_eq]; decide, fun p hp' => ?_⟩
        obtain ⟨x2, r2⟩ := r1.newF (u := .tup [.str w, v]) hp' (fun b z => upd_ne z) upd_same
        exact hp _ _ _ (x1.trans x2) r2 _ (.tup upd_same (.cons (.str w) (.cons (rv.ext x2) .nil)))
end
theorem body_drop {a : Str} {p1 p2 p3 : Pos} : TryBody a (.Expr (.Call (.Name a p1) [] [] p2) p3) .drop := fun Y tc hc _ => ps_imp (ps_expr (hc p1 p2)) fun _ _ _ h => h
theorem body_ret {a : Str} {p1 p2 p3 : Pos} : TryBody a (.Return (some (.Call (.Name a p1) [] [] p2)) p3) .ret := fun Y tc hc _ => ps_imp (ps_ret (hc p1 p2)) fun _ _ _ h => h
theorem body_told {a w : Str} {j n : Nat} {p0 p1 p2 p3 p4 : Pos} : TryBody a (.Return (some (.Tuple [.Constant (.str w) j p0, .Call (.Name a p1) [] [] p2] n p3)) p4) (.told w) := fun Y tc hc _ =>
  ps_imp (ps_ret (pe_tup (pa_cons pe_str (pa_cons (hc p1 p2) pa_nil)))) fun D σ H h => h
end TL

/-! T layer 41: a lambda handed to a def that tries it; the law's end with tables of code objects. -/
namespace TL
open PySem PySem.Spec PyProof.Rows L2 LamX
variable [Tb]

section
variable {X : Cx} {pins : List (Addr × Obj)} {σ : L2.St} {H : Hp} {s : Shared}
/-- the call of the lambda in the def that got it; its body is walked in that def's surroundings -/
theorem act_gd {Eg : XK} {Ng : List Str} {qg : Str} {sg : Scope} {g f c' : Addr} {cdg pm ctv : Value} {params : Arguments} {body : Expr} {scope : Scope} {k i : Nat} {a : Str} {pn : List (Addr × Obj)} {xe : Value → Shared → Prop} {W : WX} {E : XK} {tb : TE} {p1 p2 : Pos}
    (I : Inv X pins σ H s) (L : LamS X.env.scope scope) (hf : s.heap.get? f = some (PySem.W.kla_obj "<lambda>" (X.env.qual ++ "<lambda>") params body scope (cloFrom X.env.cells scope.names []) pm c' ctv)) (hfn : H f = none) (hfr : f ∉ frs X.stack)
    (hbind : bindArgs (PySem.W.kla_fn "<lambda>" (X.env.qual ++ "<lambda>") params body scope (cloFrom X.env.cells scope.names []) pm (.ref c') ctv) ⟨[], []⟩ = pure [])
    (tk : Takes ((cxOf C8.CX0 X.prog X.w X.K X.mg X.base Ng qg sg g cdg X.A X.stack s H Eg).tr pn xe) W) (hW : ∀ cls d σ' H', E cls d H' → W cls d σ' H') (hr : Room (k + 1) (X.A.deeper (envOfC qg sg s.heap.objs.size g cdg)))
    (hbody : ∀ (outer : List PySem.Env) (s1 : Shared) (H1 : Hp), Room k ((X.A.deeper (envOfC qg sg s.heap.objs.size g cdg)).deeper (lamEnv X scope s1.heap.objs.size f c')) → PE (lamCx X (X.A.deeper (envOfC qg sg s.heap.objs.size g cdg)) outer s1 H1 E scope f c') body tb)
    (hN : Ng[i]? = some a) (hv : Vis sg a) (hd : (a == ("__debug__" : Str)) = false) (hcd : (a == ("__classdict__" : Str)) = false) :
    PE ((cxOf C8.CX0 X.prog X.w X.K X.mg X.base Ng qg sg g cdg X.A X.stack s H Eg).tr pn xe) (.Call (.Name a p1) [] [] p2)
      (fun σZ HZ Q => σZ[i]? = some (some (.ref f)) ∧ HZ c' = some (CodeO c' (X.env.qual ++ "<lambda>")) ∧ tb σ HZ Q) := by
  refine ⟨fun pinsZ sZ σZ HZ Q IZ ⟨hs, hc, ht⟩ => wpAny_Call_Name_kw (thn ((pe_var (pos := p1) (i := i) hN hv hd hcd).run pinsZ sZ σZ HZ (fun v H1 => v = .ref f ∧ H1 = HZ) IZ ⟨.ref f, hs, rfl, rfl⟩) fun u s1 hx => ?_)⟩
  obtain ⟨v, H1, I1, r1, rfl, rfl⟩ := hx
  obtain rfl : u = Value.ref f := r1
  have of1 : s1.heap.get? f = some (PySem.W.kla_obj "<lambda>" (X.env.qual ++ "<lambda>") params body scope (cloFrom X.env.cells scope.names []) pm c' ctv) := I1.base.keep f _ hf hfn hfr (fun z => nomatch (show f ∈ ([] : List Addr) from z))
  refine PySem.W.callWith_F0 ⟨_, _, _, _, of1⟩ ?_
  have un : Un (frs X.stack) [] H H1 s.heap s1.heap := I1.base
  obtain ⟨⟨oc, vs, t, hoc, hdc, hvc⟩, _, _⟩ := I1.hok c' _ hc
  refine wpAny_call (codeAny_mono (R := CR (L2.CX X.prog X.w) (envOfC qg sg s.heap.objs.size g cdg :: X.stack) X.prog X.w H1 s1 Q E) (PySem.W.kla_callFunE hr.depth of1 rfl L.co L.gen rfl ⟨c', oc, vs, t, rfl, hoc, hdc, hvc⟩ ?_) fun r s' hq => ?_)
  · show wpAny _ _ (bindArgs (PySem.W.kla_fn "<lambda>" (X.env.qual ++ "<lambda>") params body scope (cloFrom X.env.cells scope.names []) pm (.ref c') ctv) ⟨[], []⟩) _ _ _
    rw [hbind]
    refine wpAny_pure (wpAny_newFunctionEnv (fun y hy => (L.own y hy).2) (fun y hy => absurd hy (by simp)) (fun h₁ hns hsb => ⟨I1.nolimit.fresh _ hsb, ?_⟩) L.kind)
    show codeAny _ _ (.expr body (lamEnv X scope s1.heap.objs.size f c')) _ _
    have kp : ∀ b o, s1.heap.get? b = some o → h₁.get? b = some o := fun b o e => hsb.extBut b o (Nat.ne_of_lt (Heap.lt_size e)) (Heap.get?_push_of_some _ e)
    have J := lam_start2 (c' := c') (f := f) (E := E) (tk := s1.toks + ([] : List (Str × Value)).length) I L I1.env0 hr.hd un hns kp
    refine PySem.W.kla_codeExpr (wpAny_mono ((hbody _ s1 H1 (hr.deeper _)).run [] _ _ H1 Q J ht) (fun v s' hq => ?_) fun e s' hq => hq)
    obtain ⟨w', H', J', rv, q⟩ := hq
    exact ⟨w', H', J'.os, J'.bare, J'.base, J'.hok, rv, q⟩
  · cases r with
    | error e => exact passes_call tk hW pinsZ σZ H1 s1 e s' I1 hq
    | ok fl =>
      cases fl with
      | ret u => exact I1.after hq
      | next => exact False.elim hq
      | brk => exact False.elim hq
      | cont => exact False.elim hq
end
/-- a lambda's reading, tried by a def -/
def eLam (m : M T → M T) (f : Env → M T) : Env → M T := fun ρ => noErr (m (f ρ))
/-- such a def at its name -/
def LamDef (P : Program) (w : World) (K : PySem.W.Frag) (mg : Str → Option Value) (x : Str) (m : M T → M T) : Prop :=
  ∃ (g : Addr) (st : Stmt) (fd : FuncData) (N : List Str) (a : Str), mg x = some (.ref g) ∧ Fun K x x st g fd ∧ Binds K fd [a] [] ∧ FnScope N [a] (defScope st) ∧ N[0]? = some a ∧ Vis (defScope st) a ∧ (a == ("__debug__" : Str)) = false ∧ (a == ("__classdict__" : Str)) = false ∧
    ∀ (X : Cx), X.prog = P → X.w = w → X.K = K → X.mg = mg → X.A.guards = some [] → X.A.units + 220 < cLine → ∀ (cdv : Value) (q : Str), GivesTo X N x (defScope st) g cdv (defBody st) a q (TTm X m)
section
variable {X : Cx} {E : XK} {k : Nat}
theorem ext_n {F : Hp} {ι : List Addr} {μ : Store} {H H1 : Hp} (r : Rel X.K F ι μ H) (eN : ExtN H H1) (t : Tabs Tb.T H1) : Ext F ι H F ι H1 ∧ Rel X.K F ι μ H1 :=
  ⟨⟨fun _ _ e => e, .refl _, fun b o e _ nt => eN b o e nt, fun b m => .inl m, fun b o e => .inl e⟩,
    ⟨fun b o e => eN b o (r.sub b o e) fun ps z => r.nt b ps (by rw [← z]; exact e), r.nd, r.len, fun j b c h1 h2 => by
      obtain ⟨u, e1, e2, e3⟩ := r.cel j b c h1 h2
      exact ⟨u, eN b u e1 e2.plain.1, e2, e3⟩, t, r.nt⟩⟩
theorem d_lam {m : M T → M T} {x : Str} {c P : Addr} {params : Arguments} {body : Expr} {scope : Scope} {f : Env → M T} {p lpos pos : Pos} (D : LamDef X.prog X.w X.K X.mg x m) (o : XO X E (k + 2)) (TB : TabB X.base X.mg c P) (hcode : X.env.code = .ref c) (hmT : (P, X.env.qual ++ "<lambda>") ∈ Tb.T) (hu : ∀ p ∈ Tb.T, p.1 = P → p.2 = X.env.qual ++ "<lambda>")
    (L : LamS X.env.scope scope) (hbody : ∀ (A : Around) (outer : List PySem.Env) (s : Shared) (H : Hp) (E' : XK) (fa c' : Addr), XO (lamCx X A outer s H E' scope fa c') E' k → DE (lamCx X A outer s H E' scope fa c') E' body f)
    (hdef : defaultsOf params X.env = ([], []) := by rfl) (hbind : ∀ (q : Str) (cl : List (Str × Addr)) (pm cv ctv : Value), bindArgs (PySem.W.kla_fn "<lambda>" q params body scope cl pm cv ctv) ⟨[], []⟩ = pure [] := by intros; rfl) (hg : Gl X x := by rfl) (hdb : (x == ("__debug__" : Str)) = false := by decide) :
    DE X E (.Call (.Name x p) [.Lambda params body scope lpos] [] pos) (eLam m f) := by
  obtain ⟨g, st, fd, N, a, hm, Fu, hb, Sg, hNg, hva, ha1, ha2, hG⟩ := D
  obtain ⟨oc, od, kV, doc, pm, an, cdv, ct, osl, rfl, lk, hcd⟩ := Fu.ex
  refine ⟨fun pins s σ H Q I ⟨F, ι, μ, ρ, hr, hen, hp⟩ => wpAny_Call_Name_kw (ld_glob I hg hm ?_ hdb)⟩
  refine PySem.W.callWith_K (h₀ := X.base) I.ok.mod.kin Fu.kp ?_ (by rfl) (by rfl)
  show wpAny _ _ (spliced ((false, eval (.Lambda params body scope lpos) X.env) :: backTo pos (starEach [] X.env))) _ _ s
  refine Calls.spliced_cons (lam_make2 I TB hcode hmT hu hr.tab hdef (L.has I.ok) fun f' c' pm' ctv H1 s' I1 eN T1 hf hfn hfr hco => ?_)
  refine Calls.spliced_nil ⟨I1.kIn, ?_⟩
  obtain ⟨x1, r1⟩ := ext_n hr eN T1
  refine wpAny_call (codeAny_mono (R := CR C8.CX0 X.stack X.prog X.w H1 s' Q C8.E0) (run_ofS (N := N) (ps := [a]) (us := [.ref f']) (vs := [.ref f']) lk hcd Sg (k := k + 1) o.room I1.env0 (hb s' [.ref f'] I1.kIn rfl) (.cons rfl .nil) rfl fun hr' => ?_) fun r s2 hq => ?_)
  · have hun : X.A.units + 220 < cLine := by have := o.room.un; omega
    have hpost : Post X.K X.mg EF (m (f ρ) μ) F ι H1 (wT X.K Q) := by
      have q := Post.later x1 hp
      unfold eLam noErr at q
      cases e : m (f ρ) μ with
      | ok d μ' => simp only [e] at q; exact q
      | err _ _ => simp only [e] at q; exact q.elim
      | no => simp only [e] at q; exact q.elim
    obtain ⟨t', ht', hq'⟩ := hG X rfl rfl rfl rfl o.gd hun cdv (X.env.qual ++ "<lambda>") f' c' s' H1 Q (fun E' H' Q' => tE X.K X.mg E' f σ H' Q')
      (fun W pn xe E' p1 p2 tk hW => act_gd (i := 0) (k := k) I1 L hf hfn hfr (hbind _ _ _ _ _) tk hW hr' (fun outer s1 H2 hr2 => hbody _ outer s1 H2 E' f' c' ⟨rfl, o.nd, o.gd, hr2, takes_of rfl rfl rfl rfl, passes_of rfl⟩) hNg hva ha1 ha2) hco
      ⟨f ρ, F, ι, μ, r1, fun E' F' ι' μ' H' Q' y r p => ⟨F', ι', μ', ρ, r, hen.mono y.sub y.i, p⟩, hpost⟩
    exact ⟨t', ht'.nox, hq'⟩
  · cases r with
    | error e => exact (show False from hq).elim
    | ok fl =>
      cases fl with
      | ret u => exact I1.after hq
      | next => exact False.elim hq
      | brk => exact False.elim hq
      | cont => exact False.elim hq
end
end TL

/-! T layer 42: the law's end where defs make lambdas: tables of code objects that grow. -/
namespace TL
open PySem PySem.Spec PyProof.Rows L2 LamX

section
variable [Tb] {P : Program} {w : World} {K : PySem.W.Frag} {mg mb : Str → Option Value} {k : Nat} {fa a : Addr} {cs : List (Addr × Addr)} {fd : FuncData} {x : Str} {t : Shared} {vs : List Value} {ns : List Int} {m : List T → M T} {G : Hp}
theorem top_callT (kin : K.In t.heap) (gl : t.heap.Ns mainGlobals mg) (bl : t.heap.Ns builtinsNs mb) (bb : ∀ y : Str, y ≠ "__name__" → mb y = bootBuiltins y) (nl : t.heap.NoLimit) (g0 : t.gens = #[])
    (hT : ∀ p ∈ cs, t.heap.get? p.2 = some { cls := .none, data := .fields #[] }) (nT : ∀ p ∈ cs, K.lookup p.2 = none) (C : ∀ p ∈ cs, PySem.W.CodeHd t.heap p.1 p.2)
    (hbm : ∃ (bm : Addr) (ob : Obj), mg "__builtins__" = some (.ref bm) ∧ bm ≠ builtinsNs ∧ t.heap.get? bm = some ob ∧ ob.cls = .type "module" ∧ ob.dict = some builtinsNs ∧ ob.data = .plain)
    (obj : t.heap.get? a = some { cls := .type "list", data := .seq vs.toArray }) (rm : Room k callerA) (D : ∀ b : Heap, K.In b → b.Ns mainGlobals mg → (∀ p ∈ cs, TabB b mg p.1 p.2) → FnG P w K mg b k fa fd [x] m)
    (hTb : ∀ q ∈ Tb.T, q.1 ∈ cs.map (·.2)) (bi : ∀ (s : Shared) (u : Value), BindsTo s fd ⟨[u], []⟩ [(x, u)]) (ans : ∃ μ, m [scriptT ns] [] = .ok (.bl true) μ)
    (gok : HOk P w G t.heap) (gT : ∀ b, b ∈ cs.map (·.2) → G b = some (.tbl #[])) (gO : ∀ b u, G b = some u → (b = a ∧ K.lookup b = none ∧ ∃ o xs, u = .frz o (.lst xs)) ∨ b ∈ cs.map (·.2)) (gs : SqL K G a (ns.map V.int)) :
    codeAny (model P w) callerA (.call (.ref fa) ⟨[.ref a], []⟩) (fun r z => r = .ok (.ret (.bool true)) ∧ PySem.OldK t.heap z.heap ∧ z.os = t.os ∧ AllBare z.gens) t := by
  have isT : ∀ b : Addr, b ∈ cs.map (·.2) → t.heap.get? b = some { cls := .none, data := .fields #[] } := fun b hb => by
    obtain ⟨p, hp, e⟩ := List.mem_map.mp hb
    rw [← e]
    exact hT p hp
  have aT : a ∉ cs.map (·.2) := fun z => by
    have q := isT a z
    rw [obj] at q
    cases (show Data.seq vs.toArray _ = Data.fields #[] from congrArg Obj.data (Option.some.inj q))
  have free : ∀ {b : Addr} {o : Obj}, t.heap.get? b = some o → G b = none → (hidT t.heap G).get? b = some o := fun e n => hidT_get e n
  have noG : ∀ {b : Addr} {o : Obj}, t.heap.get? b = some o → (∀ vs n, o.data ≠ .seq vs n) → o.data ≠ .fields #[] → G b = none := fun {b o} e h1 h2 => by
    cases q : G b with
    | none => rfl
    | some u =>
      rcases gO b u q with ⟨rfl, _⟩ | z
      · rw [obj] at e; cases e; exact (h1 _ _ rfl).elim
      · rw [isT b z] at e; cases e; exact (h2 rfl).elim
  have ns1 : ∀ {b : Addr} {q : Str → Option Value}, t.heap.Ns b q → (hidT t.heap G).Ns b q := fun {b q} ⟨o, es, ep, e, d, r⟩ =>
    ⟨o, es, ep, free e (noG e (fun vs n z => by rw [d] at z; cases z) fun z => by rw [d] at z; cases z), d, r⟩
  have kin1 : K.In (hidT t.heap G) := fun b o e => free (kin b o e) (by
    cases q : G b with
    | none => rfl
    | some u =>
      rcases gO b u q with ⟨_, z, _⟩ | z
      · rw [z] at e; cases e
      · obtain ⟨p, hp, ep⟩ := List.mem_map.mp z
        rw [← ep, nT p hp] at e; cases e)
  have mc := nl
  obtain ⟨mc, l1, l2⟩ := mc
  have TB : ∀ p ∈ cs, TabB (hidT t.heap G) mg p.1 p.2 := fun p hp => by
    have hTp := hT p hp
    refine ⟨?_, ?_, fun z => ?_⟩
    · obtain ⟨o, us, file, tf, flags, tg, inF, text, tt, e1, r1, r2, r3, r4⟩ := C p hp
      refine ⟨o, us, file, tf, flags, tg, inF, text, tt, free e1 (noG e1 (fun vs n z => by rw [r2] at z; cases z) fun z => ?_), r1, r2, r3, r4⟩
      rw [r2] at z
      cases z
      simp at r3
    · obtain ⟨bm, ob, b1, b2, b3, b4, b5, b6⟩ := hbm
      refine ⟨bm, ob, b1, b2, fun q => ?_, fun q => ?_, free b3 (noG b3 (fun vs n z => by rw [b6] at z; cases z) fun z => by rw [b6] at z; cases z), b4, b5, b6⟩
      · obtain ⟨o, es, ep, e, hd, _⟩ := gl
        rw [q, e] at b3
        cases b3
        rw [hd] at b6
        cases b6
      · rw [q, hTp] at b3
        cases b3
        cases b6
    · obtain ⟨o, es, ep, e, hd, _⟩ := gl
      rw [z, hTp] at e
      cases e
      cases hd
  have e0 : Env0 P w K mg (hidT t.heap G) callerA [] t G := ⟨rfl, ⟨kin1, ns1 gl, ⟨mb, ns1 bl, bb⟩, ⟨mc, ns1 l1, l2⟩⟩, fun b o e => of_hidT e, Nat.le_of_eq (hidT_size _ _), trivial, fun b hb => (nomatch hb), gok, .of_eq g0⟩
  obtain ⟨μ, ans⟩ := ans
  -- what is known: the script
  have hF : ∃ F : Hp, F a = G a ∧ ∀ b, b ≠ a → F b = none := ⟨fun b => if b = a then G b else none, if_pos rfl, fun b h => if_neg h⟩
  obtain ⟨F, Fa, Fn⟩ := hF
  have sub : ∀ b u, F b = some u → G b = some u ∧ b = a := fun b u e => by
    by_cases z : b = a
    · subst z; rw [Fa] at e; exact ⟨e, rfl⟩
    · rw [Fn b z] at e; cases e
  have gsF : SqL K F a (ns.map V.int) := by
    rcases gs with (e | ⟨o, e⟩) | z
    · exact .inl (.inl (Fa.trans e))
    · exact .inl (.inr ⟨o, Fa.trans e⟩)
    · exact .inr z
  have rel : Rel K F [] [] G := ⟨fun b u e => (sub b u e).1, List.nodup_nil, rfl, fun k a c e _ => by simp at e, fun q hq => TabS.nil (gT _ (hTb q hq)), fun b ps z => by
    obtain ⟨e, rfl⟩ := sub b _ z
    rcases gO _ _ e with ⟨_, _, o, xs, q⟩ | q
    · cases q
    · exact aT q⟩
  refine codeAny_mono (D _ kin1 (ns1 gl) TB callerA [] t G ⟨[.ref a], []⟩ [.ref a] [.ref a] (fun v _ => v = .bl true) EF F [] [] [scriptT ns] rm rfl e0 (bi t (.ref a)) (.cons rfl .nil) rfl rel (.cons (.fls gsF (rps_ints ns)) .nil) ?_) fun r z h => ?_
  · rw [ans]
    exact fun F' ι' H' _ _ v rv => by cases rv; rfl
  · rcases r with e | fl
    · obtain ⟨_, _, _, _, _, _, _, _, _, _, _, _, z⟩ := h
      exact False.elim z
    · cases fl with
      | next => exact False.elim h
      | brk => exact False.elim h
      | cont => exact False.elim h
      | ret u =>
        obtain ⟨v, G', os, bare, un, gok', rv, rfl⟩ := h
        obtain rfl : u = Value.bool true := rv
        have key : ∀ b o, b ∉ cs.map (·.2) → t.heap.get? b = some o → z.heap.get? b = some o := fun b o nb e => by
          cases q : G b with
          | none => exact un.keep b o e q (fun z => nomatch z) (by simp)
          | some u =>
            rcases gO b u q with ⟨_, _, ob, xs, rfl⟩ | y
            · have g2 := un.frzs b ob _ q
              obtain ⟨e1, _⟩ := gok b _ q
              obtain ⟨e2, _⟩ := gok' b _ g2
              rw [e] at e1
              cases e1
              exact e2
            · exact absurd y nb
        have grown : ∀ p ∈ cs, ∃ more : Array Value, z.heap.get? p.2 = some { cls := .none, data := .fields more } := fun p hp => by
          obtain ⟨more, y⟩ := un.tbls p.2 #[] (gT _ (List.mem_map.mpr ⟨p, hp, rfl⟩))
          exact ⟨_, gok' p.2 _ y⟩
        refine ⟨rfl, ⟨fun b o e => ?_, fun b o e => ?_⟩, os, bare⟩
        · by_cases hb : b ∈ cs.map (·.2)
          · obtain ⟨p, hp, ep⟩ := List.mem_map.mp hb
            obtain ⟨more, hm⟩ := grown p hp
            rw [← ep] at e ⊢
            rw [hT p hp] at e
            cases e
            exact .inr (.inl ⟨((C p hp).tab (hT p hp)).isCodeTable, rfl, #[], more, rfl, by rw [Array.empty_append]; exact hm⟩)
          · exact .inl (key b o hb e)
        · by_cases hb : b ∈ cs.map (·.2)
          · obtain ⟨p, hp, ep⟩ := List.mem_map.mp hb
            obtain ⟨more, hm⟩ := grown p hp
            rw [← ep]
            exact ⟨_, hm⟩
          · exact ⟨o, key b o hb e⟩
theorem top_anyT (kin : K.In t.heap) (gl : t.heap.Ns mainGlobals mg) (bl : t.heap.Ns builtinsNs mb) (bb : ∀ y : Str, y ≠ "__name__" → mb y = bootBuiltins y) (nl : t.heap.NoLimit) (g0 : t.gens = #[])
    (hT : ∀ p ∈ cs, t.heap.get? p.2 = some { cls := .none, data := .fields #[] }) (nT : ∀ p ∈ cs, K.lookup p.2 = none) (C : ∀ p ∈ cs, PySem.W.CodeHd t.heap p.1 p.2)
    (hbm : ∃ (bm : Addr) (ob : Obj), mg "__builtins__" = some (.ref bm) ∧ bm ≠ builtinsNs ∧ t.heap.get? bm = some ob ∧ ob.cls = .type "module" ∧ ob.dict = some builtinsNs ∧ ob.data = .plain)
    (obj : t.heap.get? a = some { cls := .type "list", data := .seq vs.toArray }) (ia : IntsAre vs ns) (sz : ns.length ≤ sizeLine) (rm : Room k callerA) (D : ∀ b : Heap, K.In b → b.Ns mainGlobals mg → (∀ p ∈ cs, TabB b mg p.1 p.2) → FnG P w K mg b k fa fd [x] m)
    (hTb : ∀ q ∈ Tb.T, q.1 ∈ cs.map (·.2)) (bi : ∀ (s : Shared) (u : Value), BindsTo s fd ⟨[u], []⟩ [(x, u)]) (ans : ∃ μ, m [scriptT ns] [] = .ok (.bl true) μ) :
    codeAny (model P w) callerA (.call (.ref fa) ⟨[.ref a], []⟩) (fun r z => r = .ok (.ret (.bool true)) ∧ PySem.OldK t.heap z.heap ∧ z.os = t.os ∧ AllBare z.gens) t := by
  have rv := vals_ints ia
  have nl2 : ns.length = vs.length := by simpa using rv.length
  have isT : ∀ b : Addr, b ∈ cs.map (·.2) → t.heap.get? b = some { cls := .none, data := .fields #[] } := fun b hb => by
    obtain ⟨p, hp, e⟩ := List.mem_map.mp hb
    rw [← e]
    exact hT p hp
  have aT : a ∉ cs.map (·.2) := fun z => by
    have q := isT a z
    rw [obj] at q
    cases (show Data.seq vs.toArray _ = Data.fields #[] from congrArg Obj.data (Option.some.inj q))
  cases hk : K.lookup a with
  | some o =>
    have e := kin a o hk
    rw [obj] at e
    cases e
    have hG : ∃ G : Hp, (∀ b, b ∈ cs.map (·.2) → G b = some (.tbl #[])) ∧ ∀ b, b ∉ cs.map (·.2) → G b = none := ⟨fun b => if b ∈ cs.map (·.2) then some (.tbl #[]) else none, fun b h => if_pos h, fun b h => if_neg h⟩
    obtain ⟨G, gT, gN⟩ := hG
    refine top_callT (G := G) kin gl bl bb nl g0 hT nT C hbm obj rm D hTb bi ans (fun b u z => ?_) gT (fun b u z => .inr ?_) (.inr ⟨_, vs.toArray, _, hk, rfl, rfl, rfl, by rw [List.size_toArray, ← nl2]; exact sz, by simpa using rv⟩)
    · by_cases hb : b ∈ cs.map (·.2)
      · rw [gT b hb] at z; cases z; exact isT b hb
      · rw [gN b hb] at z; cases z
    · by_cases hb : b ∈ cs.map (·.2)
      · exact hb
      · rw [gN b hb] at z; cases z
  | none =>
    have hG : ∃ G : Hp, G a = some (.frz { cls := .type "list", data := .seq vs.toArray } (.lst (ns.map V.int))) ∧ (∀ b, b ∈ cs.map (·.2) → G b = some (.tbl #[])) ∧ ∀ b, b ≠ a → b ∉ cs.map (·.2) → G b = none :=
      ⟨fun b => if b = a then some (.frz { cls := .type "list", data := .seq vs.toArray } (.lst (ns.map V.int))) else if b ∈ cs.map (·.2) then some (.tbl #[]) else none, if_pos rfl, fun b h => (if_neg (fun z => aT (by rw [← z]; exact h))).trans (if_pos h), fun b h1 h2 => (if_neg h1).trans (if_neg h2)⟩
    obtain ⟨G, gA, gT, gN⟩ := hG
    refine top_callT (G := G) kin gl bl bb nl g0 hT nT C hbm obj rm D hTb bi ans (fun b u z => ?_) gT (fun b u z => ?_) (.inl (.inr ⟨_, gA⟩))
    · by_cases hb : b = a
      · subst hb
        rw [gA] at z
        cases z
        exact ⟨obj, by rw [List.length_map]; exact sz, vs, _, rv, obj⟩
      · by_cases hb2 : b ∈ cs.map (·.2)
        · rw [gT b hb2] at z; cases z; exact isT b hb2
        · rw [gN b hb hb2] at z; cases z
    · by_cases hb : b = a
      · subst hb
        rw [gA] at z
        cases z
        exact .inl ⟨rfl, hk, _, _, rfl⟩
      · by_cases hb2 : b ∈ cs.map (·.2)
        · exact .inr hb2
        · rw [gN b hb hb2] at z; cases z
end
/-- what is known of the law at the head's heap -/
def TopT (P : Program) (w : World) (K : PySem.W.Frag) (mg : Str → Option Value) (fa : Addr) (h : Heap) (k : Nat) (x : Str) (m : List T → M T) : Prop :=
  ∃ (fd : FuncData) (tb : Tb) (cs : List (Addr × Addr)), (∀ p ∈ cs, h.get? p.2 = some { cls := .none, data := .fields #[] }) ∧ (∀ p ∈ cs, K.lookup p.2 = none) ∧ (∀ p ∈ cs, PySem.W.codeHdIn K p.1 p.2 = true) ∧ (∀ q ∈ tb.T, q.1 ∈ cs.map (·.2)) ∧
    (∀ (s : Shared) (u : Value), BindsTo s fd ⟨[u], []⟩ [(x, u)]) ∧ ∀ b : Heap, K.In b → b.Ns mainGlobals mg → (∀ p ∈ cs, TabB b mg p.1 p.2) → FnG P w K mg b k fa fd [x] m
theorem walk_TT {l : PySem.W.OpenLaw} {n k : Nat} {q : Program} {loose : List Str} {XP : (Str → Option Value) → Heap → Prop} {YP : World → Heap → Prop} {d : DefRec} {K : Params → PySem.W.Frag} {x : Str} {m : List T → M T}
    (hn : l.most = some n) (hn2 : n ≤ sizeLine) (hdf : d.params.defaults = []) (rm : Room k callerA) (hY : ∀ (w : World) (h : Heap), YP w h → (K w.params).In h)
    (D : ∀ (w : World) (mg : Str → Option Value) (fa : Addr) (h : Heap), YP w h → (K w.params).In h → h.Ns mainGlobals mg → mg d.name = some (.ref fa) → TopT l.prog w (K w.params) mg fa h k x m)
    (ans : ∀ ns : List Int, ns.length ≤ n → (∀ z ∈ ns, Builtin.Int.intBits z ≤ 1048576) → ∃ μ, m [scriptT ns] [] = .ok (.bl true) μ) : PySem.W.WalkO q loose XP YP l.row.toRowW d [] (fun f vs => PySem.call f vs) := by
  refine Att.attach_callB hn hdf fun w s₀ s₁ mg mb fa o pm cd doc a vs ns G Y ho hd hcd hmg obj ia len bits g0 => ?_
  have KX := hY w _ Y
  obtain ⟨fd, tb, cs, hT, nT, C, hTb, bi, D'⟩ := D w mg fa _ Y KX G.T.g hmg
  letI : Tb := tb
  exact top_anyT KX G.T.g G.T.b G.T.builtins G.T.nolimit g0 hT nT (fun p hp => PySem.W.codeHd_of_K KX (C p hp)) G.T.bmain obj ia (Nat.le_trans len hn2) rm D' hTb bi (ans ns len bits)
/-! facts from the written part -/
theorem al_nil {α : Type} {Q : α → Prop} : ∀ p ∈ ([] : List α), Q p := fun _ h => nomatch h
theorem al_cons {α : Type} {Q : α → Prop} {a : α} {l : List α} (h : Q a) (r : ∀ p ∈ l, Q p) : ∀ p ∈ a :: l, Q p := fun p hp => by
  rcases List.mem_cons.mp hp with e | e
  · rw [e]; exact h
  · exact r p e
theorem exm_pair {K : PySem.W.Frag} {C D : Addr} {b : Bool} (h1 : PySem.W.subIn K (.ref D) (.type "BaseException") = some true) (h2 : PySem.W.isClsIn K D = true) (h3 : PySem.W.typeIn K (.ref D) = some (.type "type")) (h4 : PySem.W.subIn K (.ref C) (.ref D) = some b) :
    PySem.W.exmOne K (.ref C) (.ref D) = some b := by
  have e1 : (PySem.W.subIn K (.ref D) (.type "BaseException") == some true) = true := by rw [h1] <;> rfl
  have e2 : ((PySem.W.clsIn K D).isSome && PySem.W.typeIn K (.ref D) == some (.type "type")) = true := by
    have h2' : (PySem.W.clsIn K D).isSome = true := h2
    rw [h2', h3] <;> rfl
  show (if (PySem.W.subIn K (.ref D) (.type "BaseException") == some true) = true then (if ((PySem.W.clsIn K D).isSome && PySem.W.typeIn K (.ref D) == some (.type "type")) = true then PySem.W.subIn K (.ref C) (.ref D) else none) else none) = some b
  rw [if_pos e1, if_pos e2]
  exact h4
theorem XCs.of {K : PySem.W.Frag} {mg : Str → Option Value} {cs : List (Str × Addr)} (h1 : ∀ p ∈ cs, mg p.1 = some (.ref p.2) ∧ PySem.W.subIn K (.ref p.2) (.type "BaseException") = some true ∧ PySem.W.isClsIn K p.2 = true ∧ PySem.W.typeIn K (.ref p.2) = some (.type "type"))
    (h2 : ∀ p ∈ cs, ∀ q ∈ cs, PySem.W.subIn K (.ref p.2) (.ref q.2) = some (p.1 == q.1)) : XCs K mg cs :=
  ⟨fun p hp => (h1 p hp).1, fun p hp q hq => exm_pair (h1 q hq).2.1 (h1 q hq).2.2.1 (h1 q hq).2.2.2 (h2 p hp q hq)⟩
theorem XcT.xf {K : PySem.W.Frag} {mg : Str → Option Value} {P : Program} {B newId initId : String} {bmB : List Value} {cn f : Str} {C : Addr} (T : XcT K mg P B newId initId bmB cn f C) : XfC K C := ⟨T.ga, T.gg, T.exC, T.hd⟩
theorem eFld_at {a dd : Addr} {i n : Nat} {f : Str} {fs : List (Str × T)} (h : i < n := by decide) : eFld a dd i f ((noEnv n).set i (some (.exn a dd fs))) = ofO (fs.lookup f) := by
  have e : ((noEnv n).set i (some (.exn a dd fs)))[i]? = some (some (.exn a dd fs)) := by
    rw [List.getElem?_set_self (by simpa [noEnv] using h)]
  unfold eFld
  rw [e]
  simp
end TL
namespace TL
open PySem PySem.Spec PyProof.Rows L2
/-- {} as a value -/
def eD0 : Env → M T := fun _ μ => .ok (.dic false []) (μ ++ [⟨false, .dic false []⟩])
theorem eD0_eq : eFrz (fun _ => newC (.dic false [])) = eD0 := by
  funext ρ μ
  have e : (μ ++ [(⟨true, .dic false []⟩ : Cel)])[μ.length]? = some ⟨true, .dic false []⟩ := by simp
  show (match (μ ++ [(⟨true, .dic false []⟩ : Cel)])[μ.length]? with
    | some c => R.ok (obT c.o) ((μ ++ [(⟨true, .dic false []⟩ : Cel)]).set μ.length ⟨false, c.o⟩)
    | none => .no) = _
  rw [e]
  show R.ok (T.dic false []) ((μ ++ [(⟨true, .dic false []⟩ : Cel)]).set μ.length ⟨false, .dic false []⟩) = _
  rw [List.set_append_right _ _ (Nat.le_refl _)]
  simp [eD0]
theorem d_d0 [Tb] {X : Cx} {E : XK} {pos : Pos} : DE X E (.Dict [] [] pos) eD0 := by
  rw [← eD0_eq]
  exact d_frz d_dict0
end TL

/-! T layer 43: list.count of data. -/
namespace TL
open PySem PySem.Spec PyProof.Rows L2 StX
variable [Tb]
def gCountD : T → List T → M T := fun d ds => match ds with
  | [y] => M.bind (ld d) fun d => M.bind (ld y) fun y => match listOf d with
    | some xs => bif shp (.lst xs) && shp y then M.pure (.int (xs.countP fun z => PyData.eqv (toD z) (toD y) : Nat)) else M.no
    | none => M.no
  | _ => M.no
section
variable {X : Cx} {E : XK} {k : Nat}
def rCntD (K : PySem.W.Frag) : V → List V → Hp → VK → Prop := fun x xs H Q => ∃ (a : Addr) (y : V) (d : PyData) (ds : List PyData), x = V.ref a ∧ xs = [y] ∧ Dp K H (V.ref a) (.list ds) ∧ Dp K H y d ∧ SeqAt.shaped (.list ds) = true ∧ SeqAt.shaped d = true ∧ Q (.int (ds.countP fun z => PyData.eqv z d : Nat)) H
theorem mt_cntD (hu : X.A.units + 65 < cLine) : MtR X "list.count" (rCntD X.K) := by
  intro pins s σ H x xs v us Q I rx rxs ⟨a, y, d, ds, e1, e2, hl, hy, sl, sd, q⟩
  subst e1 e2
  cases rx
  obtain ⟨uy, rfl, ry⟩ := rxs.one
  obtain ⟨bs, r1⟩ := Dp.reads I d y uy hy ry
  have hxs : PyData.canLayAll0 ds = true := SeqAt.canLay_of_shaped sl
  cases hl with
  | lst hs ha =>
    obtain ⟨its, rv, ⟨⟨cls, dd, data, sls⟩, n, ho, hc, hdn, hdt⟩, hlen⟩ := I.list hs
    simp only at hc hdt
    subst hc hdt
    obtain ⟨as, h4⟩ := Dp.readsAll I ds _ its ha rv
    have hmap : its.map (SeqAt.readOf s.heap) = ds := SeqAt.readsAll_map ds its as hxs h4
    refine call_meets PySem.F.slot_list_count ⟨_, ho, rfl⟩ PySem.F.entry_list_count (PySem.F.args_list_count_2 _ _)
      (SeqAt.list_countAt a its.toArray n dd sls uy (fun u => PyData.eqv (SeqAt.readOf s.heap u) d)) ⟨ho, SeqAt.items_eqAt (vs := its.toArray) (show ReadsAll s.heap its.toArray.toList ds as from h4) r1 hxs (SeqAt.canLay_of_shaped sd) (room_in_shaped sd hu), ?_⟩
    have ec : its.toArray.toList.countP (fun u => PyData.eqv (SeqAt.readOf s.heap u) d) = ds.countP fun z => PyData.eqv z d := by
      rw [← hmap, List.countP_map]
      rfl
    rw [ec]
    exact ⟨.int _, H, I.tok _, ⟨_, rfl⟩, q⟩
theorem m_countD (o : XO X E k) : MtD X E "list.count" gCountD := by
  intro pins s σ H x xs v us Q I rx rxs ⟨F, ι, μ, d, ds, hr, rd, rs, hp⟩
  unfold gCountD at hp
  split at hp
  · cases rs with
    | cons r1 t =>
      cases t
      obtain ⟨d', lx, hp⟩ := ld_post hr rd hp
      obtain ⟨y', ly, hp⟩ := ld_post hr r1 hp
      cases hl : listOf d' with
      | none => rw [hl] at hp; exact hp.elim
      | some es =>
        rw [hl] at hp
        simp only at hp
        cases hz : shp (.lst es) && shp y' with
        | false => rw [hz] at hp; exact hp.elim
        | true =>
          rw [hz] at hp
          simp only [cond_true] at hp
          rw [Bool.and_eq_true] at hz
          have go : ∀ es : List T, toDs es = es.map toD := fun es => by
            induction es with
            | nil => simp only [toDs, List.map_nil]
            | cons x xs ih => simp only [toDs, List.map_cons, ih]
          have sd : okT d' = true := by
            have := shp_ok hz.1
            cases d' <;> first | (cases hl; done) | skip
            all_goals first | (cases hl; simpa only [okT] using this) | (simp [listOf] at hl)
          have dp := lx.dp hr.sub sd
          have e : toD d' = .list (es.map toD) := by
            cases d' <;> first | (cases hl; done) | skip
            all_goals first | (cases hl; simp only [toD]; congr 1; exact go es) | (simp [listOf] at hl)
          obtain ⟨a, rfl⟩ : ∃ a, x = .ref a := by
            cases lx <;> first | exact ⟨_, rfl⟩ | (simp [listOf] at hl)
          rw [e] at dp
          have sl : SeqAt.shaped (.list (es.map toD)) = true := by
            have := shp_shaped hz.1
            simp only [toD] at this
            rw [go es] at this
            exact this
          have ec : (es.map toD).countP (fun z => PyData.eqv z (toD y')) = es.countP fun z => PyData.eqv (toD z) (toD y') := by
            rw [List.countP_map]
            rfl
          refine mt_cntD (by have := o.room.un; omega) pins s σ H _ _ v us Q I rx rxs ⟨a, _, toD y', es.map toD, rfl, rfl, dp, ly.dp hr.sub (shp_ok hz.2), sl, shp_shaped hz.2, ?_⟩
          rw [ec]
          exact Post.pure (mg := X.mg) (E := E) hp hr _ (.int _)
  · exact hp.elim
end
end TL

/-! Plain layer 1: how a mirror is run. -/
namespace TL
open PySem PySem.Spec PyProof.Rows L2 StX

def R.bind {α β : Type} (r : R α) (k : α → M β) : R β := match r with
  | .ok a μ => k a μ
  | .err e μ => .err e μ
  | .no => .no
section
variable {α β : Type} {μ : Store} {ρ : Env} {a b c d : T} {ds es : List T} {i j : Int}
theorem x_bind (m : M α) (k : α → M β) : M.bind m k μ = (m μ).bind k := Eq.trans rfl rfl
theorem x_ok (a : α) (k : α → M β) : (R.ok a μ).bind k = k a μ := Eq.trans rfl rfl
theorem x_pure (a : α) : M.pure a μ = .ok a μ := Eq.trans rfl rfl
theorem x_no : (M.no : M α) μ = .no := Eq.trans rfl rfl
theorem x_nob (k : α → M β) : (R.no : R α).bind k = .no := Eq.trans rfl rfl
theorem x_mkFn (n : Nat) (g : Env → M Fl) : mkFn n g ds μ = (g (slots0 n ds) μ).bind atEnd := Eq.trans rfl rfl
theorem x_endr : atEnd (.rt d) μ = .ok d μ := Eq.trans rfl rfl
theorem x_endn : atEnd (.nx ρ) μ = .ok .non μ := Eq.trans rfl rfl
theorem x_sl0 : slots0 0 [] = [] := Eq.trans rfl rfl
theorem x_sl1 (n : Nat) : slots0 (n + 1) [] = none :: slots0 n [] := Eq.trans rfl rfl
theorem x_sl2 (n : Nat) : slots0 (n + 1) (d :: ds) = some d :: slots0 n ds := by simp [slots0, Nat.add_sub_add_right]
def seqK (h : Env → M Fl) : Fl → M Fl := fun fl => match fl with
  | .nx ρ' => h ρ'
  | o => M.pure o
theorem x_seq (g h : Env → M Fl) : sSeq g h ρ μ = (g ρ μ).bind (seqK h) := Eq.trans rfl rfl
theorem x_seqn (h : Env → M Fl) : seqK h (.nx ρ) μ = h ρ μ := Eq.trans rfl rfl
theorem x_seqr (h : Env → M Fl) : seqK h (.rt d) μ = .ok (.rt d) μ := Eq.trans rfl rfl
theorem x_seqb (h : Env → M Fl) : seqK h (.bk ρ) μ = .ok (.bk ρ) μ := Eq.trans rfl rfl
theorem x_seqc (h : Env → M Fl) : seqK h (.ct ρ) μ = .ok (.ct ρ) μ := Eq.trans rfl rfl
theorem x_nil : sNil ρ μ = .ok (.nx ρ) μ := Eq.trans rfl rfl
theorem x_ret (f : Env → M T) : sRet f ρ μ = (f ρ μ).bind fun d => M.pure (.rt d) := Eq.trans rfl rfl
theorem x_exp (f : Env → M T) : sExp f ρ μ = (f ρ μ).bind fun _ => M.pure (.nx ρ) := Eq.trans rfl rfl
theorem x_if (t : Env → M Bool) (g h : Env → M Fl) : sIf t g h ρ μ = (t ρ μ).bind fun b => bif b then g ρ else h ρ := Eq.trans rfl rfl
theorem x_set (n : Nat) (f : Env → M T) : sSet n f ρ μ = (f ρ μ).bind fun d => M.pure (.nx (ρ.set n (some d))) := Eq.trans rfl rfl
theorem x_tgt (h : T → Env → M Env) (f : Env → M T) : sTgt h f ρ μ = (f ρ μ).bind fun d => M.bind (h d ρ) fun ρ' => M.pure (.nx ρ') := Eq.trans rfl rfl
theorem x_par (p q : Nat) (fa : Env → M (List T)) : sPar p q fa ρ μ = (fa ρ μ).bind fun ds => match ds with
  | [x, y] => M.pure (.nx ((ρ.set p (some x)).set q (some y)))
  | _ => M.no := Eq.trans rfl rfl
theorem x_for (fi : Env → M (List T)) (h : T → Env → M Env) (g : Env → M Fl) : sFor fi h g ρ μ = (fi ρ μ).bind fun ds => forL (fun d ρ => M.bind (h d ρ) g) ds ρ := Eq.trans rfl rfl
def varR (o : Option (Option T)) : M T := match o with
  | some (some d) => M.pure d
  | _ => M.no
theorem x_var (n : Nat) : eVar n ρ μ = varR ρ[n]? μ := by
  unfold eVar varR
  rfl
theorem x_varR : varR (some (some d)) μ = .ok d μ := Eq.trans rfl rfl
theorem x_c : eC d ρ μ = .ok d μ := Eq.trans rfl rfl
theorem x_op (g : T → T → M T) (fa fb : Env → M T) : eOp g fa fb ρ μ = (fa ρ μ).bind fun x => M.bind (fb ρ) fun y => g x y := Eq.trans rfl rfl
theorem x_un (g : T → M T) (fa : Env → M T) : eUn g fa ρ μ = (fa ρ μ).bind g := Eq.trans rfl rfl
theorem x_ld2 (g : T → T → M T) : ld2 g a b μ = (ld a μ).bind fun x => M.bind (ld b) fun y => g x y := Eq.trans rfl rfl
theorem x_ldi : ld (.int i) μ = .ok (.int i) μ := Eq.trans rfl rfl
theorem x_ldb (k : Bool) : ld (.bl k) μ = .ok (.bl k) μ := Eq.trans rfl rfl
theorem x_lds (k : Str) : ld (.str k) μ = .ok (.str k) μ := Eq.trans rfl rfl
theorem x_ldn : ld .non μ = .ok .non μ := Eq.trans rfl rfl
theorem x_ldl : ld (.lst ds) μ = .ok (.lst ds) μ := Eq.trans rfl rfl
theorem x_ldf : ld (.fls ds) μ = .ok (.fls ds) μ := Eq.trans rfl rfl
theorem x_ldt : ld (.tup ds) μ = .ok (.tup ds) μ := Eq.trans rfl rfl
theorem x_ldy (n : String) : ld (.ty n) μ = .ok (.ty n) μ := Eq.trans rfl rfl
def andK (f : M T) : T → M T := fun x => match x with
  | .bl true => f
  | .bl false => M.pure (.bl false)
  | _ => M.no
def orK (f : M T) : T → M T := fun x => match x with
  | .bl true => M.pure (.bl true)
  | .bl false => f
  | _ => M.no
theorem x_and (fa fb : Env → M T) : eAnd fa fb ρ μ = (fa ρ μ).bind (andK (fb ρ)) := Eq.trans rfl rfl
theorem x_andt (f : M T) : andK f (.bl true) μ = f μ := Eq.trans rfl rfl
theorem x_andf (f : M T) : andK f (.bl false) μ = .ok (.bl false) μ := Eq.trans rfl rfl
theorem x_or (fa fb : Env → M T) : eOr fa fb ρ μ = (fa ρ μ).bind (orK (fb ρ)) := Eq.trans rfl rfl
theorem x_ort (f : M T) : orK f (.bl true) μ = .ok (.bl true) μ := Eq.trans rfl rfl
theorem x_orf (f : M T) : orK f (.bl false) μ = f μ := Eq.trans rfl rfl
theorem x_not (fa : Env → M Bool) : eNot fa ρ μ = (fa ρ μ).bind fun b => M.pure (.bl (!b)) := Eq.trans rfl rfl
theorem x_bT (fa : Env → M T) : bT fa ρ μ = (fa ρ μ).bind asB := Eq.trans rfl rfl
theorem x_asB (k : Bool) : asB (.bl k) μ = .ok k μ := Eq.trans rfl rfl
theorem x_band (fa fb : Env → M Bool) : bAnd fa fb ρ μ = (fa ρ μ).bind fun x => bif x then fb ρ else M.pure false := Eq.trans rfl rfl
theorem x_bor (fa fb : Env → M Bool) : bOr fa fb ρ μ = (fa ρ μ).bind fun x => bif x then M.pure true else fb ρ := Eq.trans rfl rfl
theorem x_bnot (fa : Env → M Bool) : bNot fa ρ μ = (fa ρ μ).bind fun b => M.pure (!b) := Eq.trans rfl rfl
theorem x_eif (t : Env → M Bool) (fa fb : Env → M T) : eIf t fa fb ρ μ = (t ρ μ).bind fun b => bif b then fa ρ else fb ρ := Eq.trans rfl rfl
theorem x_ct {f g : M α} : (bif true then f else g) μ = f μ := Eq.trans rfl rfl
theorem x_cf {f g : M α} : (bif false then f else g) μ = g μ := Eq.trans rfl rfl
theorem x_echain (g g' : T → T → M T) (fa fb fc : Env → M T) : eChain g g' fa fb fc ρ μ = (fa ρ μ).bind fun x => M.bind (fb ρ) fun y => M.bind (g x y) fun b => M.bind (asB b) fun b => bif b then M.bind (fc ρ) fun z => g' y z else M.pure (.bl false) := Eq.trans rfl rfl
theorem x_bchain (g g' : T → T → M T) (fa fb fc : Env → M T) : bChain g g' fa fb fc ρ μ = (fa ρ μ).bind fun x => M.bind (fb ρ) fun y => M.bind (g x y) fun b => M.bind (asB b) fun b => bif b then M.bind (fc ρ) fun z => M.bind (g' y z) asB else M.pure false := Eq.trans rfl rfl
theorem x_anil : aNil ρ μ = .ok [] μ := Eq.trans rfl rfl
theorem x_acons (f : Env → M T) (g : Env → M (List T)) : aCons f g ρ μ = (f ρ μ).bind fun x => M.bind (g ρ) fun xs => M.pure (x :: xs) := Eq.trans rfl rfl
theorem x_astar (f : Env → M T) (g : Env → M (List T)) : aStar f g ρ μ = (f ρ μ).bind fun d => M.bind (ld d) fun d => M.bind (gIter d) fun xs => M.bind (g ρ) fun ys => M.pure (xs ++ ys) := Eq.trans rfl rfl
theorem x_itl : gIter (.lst ds) μ = .ok ds μ := Eq.trans rfl rfl
theorem x_itf : gIter (.fls ds) μ = .ok ds μ := Eq.trans rfl rfl
theorem x_itt : gIter (.tup ds) μ = .ok ds μ := Eq.trans rfl rfl
theorem x_tup (f : Env → M (List T)) : eTup f ρ μ = (f ρ μ).bind fun ds => bif fits ds.length then M.pure (.tup ds) else M.no := Eq.trans rfl rfl
theorem x_lst (f : Env → M (List T)) : lLst f ρ μ = (f ρ μ).bind okL := Eq.trans rfl rfl
theorem x_okL : okL ds μ = (bif fits ds.length then M.pure ds else M.no) μ := Eq.trans rfl rfl
theorem x_tree (f : Env → M (List T)) : eTree f ρ μ = (f ρ μ).bind fun ds => M.pure (.lst ds) := Eq.trans rfl rfl
theorem x_cell (f : Env → M (List T)) : eCell f ρ μ = (f ρ μ).bind fun ds => newC (.lst ds) := Eq.trans rfl rfl
theorem x_newC (o : Ob) : newC o μ = .ok (.cell μ.length) (μ ++ [⟨true, o⟩]) := Eq.trans rfl rfl
theorem x_eB (g : List T → M T) (fa : Env → M (List T)) : eB g fa ρ μ = (fa ρ μ).bind g := Eq.trans rfl rfl
theorem x_lB (g : List T → M (List T)) (fa : Env → M (List T)) : lB g fa ρ μ = (fa ρ μ).bind g := Eq.trans rfl rfl
theorem x_iB (g : List T → M (List T)) (fa : Env → M (List T)) : iB g fa ρ μ = (fa ρ μ).bind g := Eq.trans rfl rfl
theorem x_iSeq (f : Env → M T) : iSeq f ρ μ = (f ρ μ).bind gIter := Eq.trans rfl rfl
theorem x_g1 (g : T → M T) : g1 g [a] μ = (ld a μ).bind g := Eq.trans rfl rfl
theorem x_g2 (g : T → T → M T) : g2 g [a, b] μ = (ld a μ).bind fun x => M.bind (ld b) fun y => g x y := Eq.trans rfl rfl
theorem x_call (n : Nat) (m : List T → M T) (fa : Env → M (List T)) : eCall n m fa ρ μ = (fa ρ μ).bind fun ds => bif ds.length == n then m ds else M.no := Eq.trans rfl rfl
theorem x_sl (f : Env → M T) (l h : Env → M (Option Int)) : eSl f l h ρ μ = (f ρ μ).bind fun d => M.bind (l ρ) fun lo => M.bind (h ρ) fun hi => M.bind (ld d) (gSl lo hi) := Eq.trans rfl rfl
theorem x_onone : oNone ρ μ = .ok none μ := Eq.trans rfl rfl
theorem x_osome (f : Env → M T) : oSome f ρ μ = (f ρ μ).bind asO := Eq.trans rfl rfl
theorem x_asO : asO (.int i) μ = .ok (some i) μ := Eq.trans rfl rfl
theorem x_name (n : Nat) : hName n d ρ μ = .ok (ρ.set n (some d)) μ := Eq.trans rfl rfl
theorem x_hnil : hsNil [] ρ μ = .ok ρ μ := Eq.trans rfl rfl
theorem x_hcons (h : T → Env → M Env) (hs : List T → Env → M Env) : hsCons h hs (d :: ds) ρ μ = (h d ρ μ).bind fun ρ' => hs ds ρ' := Eq.trans rfl rfl
theorem x_htup (n : Nat) (hs : List T → Env → M Env) : hTup n hs (.tup ds) ρ μ = (bif ds.length == n then hs ds ρ else M.no) μ := Eq.trans rfl rfl
theorem x_hsub (fa fb : Env → M T) (g : T → T → T → M Unit) : hSub fa fb g d ρ μ = (fa ρ μ).bind fun o => M.bind (fb ρ) fun i => M.bind (g o i d) fun _ => M.pure ρ := Eq.trans rfl rfl
theorem x_comp (vs : List Nat) (fi : Env → M (List T)) (h : T → Env → M Env) (t : Env → M Bool) (f : Env → M T) : lComp vs fi h t f ρ μ = (fi ρ μ).bind fun ds => M.bind (lcL (lcTurn h t f (wipeE ρ vs)) ds) okL := Eq.trans rfl rfl
theorem x_turn (h : T → Env → M Env) (t : Env → M Bool) (f : Env → M T) : lcTurn h t f ρ d μ = (h d ρ μ).bind fun ρ2 => M.bind (t ρ2) fun b => bif b then M.bind (f ρ2) fun y => M.pure (some y) else M.pure none := Eq.trans rfl rfl
theorem x_yes : bYes ρ μ = .ok true μ := Eq.trans rfl rfl
theorem x_w0 : wipeE ρ [] = ρ := Eq.trans rfl rfl
theorem x_w1 (n : Nat) (r : List Nat) : wipeE ρ (n :: r) = (wipeE ρ r).set n none := Eq.trans rfl rfl
/-! ints -/
theorem x_add : gAdd (.int i) (.int j) μ = .ok (.int (i + j)) μ := Eq.trans rfl rfl
theorem x_sub : gSub (.int i) (.int j) μ = .ok (.int (i - j)) μ := Eq.trans rfl rfl
theorem x_mul : gMulA (.int i) (.int j) μ = (bif decide (lgs i j < 1000000) then M.pure (.int (i * j)) else M.no) μ := Eq.trans rfl rfl
theorem x_fdiv : gFdiv (.int i) (.int j) μ = (bif decide (0 < j) && decide (j.natAbs.log2 < 9000) then M.pure (.int (i / j)) else M.no) μ := Eq.trans rfl rfl
theorem x_mod : gMod (.int i) (.int j) μ = (bif decide (0 < j) then M.pure (.int (i % j)) else M.no) μ := Eq.trans rfl rfl
theorem x_pow : gPow (.int i) (.int j) μ = (bif decide (0 ≤ j) && decide (j ≤ 1000000) && decide (i.natAbs < 2 ^ 64) then M.pure (.int (i ^ j.toNat)) else M.no) μ := Eq.trans rfl rfl
theorem x_shl : gShl (.int i) (.int j) μ = (bif decide (0 ≤ j) && decide ((Builtin.Int.intBits i : Int) + j ≤ 2 ^ 27) then M.pure (.int (i * 2 ^ j.toNat)) else M.no) μ := Eq.trans rfl rfl
theorem x_shr : gShr (.int i) (.int j) μ = (bif decide (0 ≤ j) then M.pure (.int (i / 2 ^ j.toNat)) else M.no) μ := Eq.trans rfl rfl
theorem x_bit (f : Int → Int → Int) : gBit f (.int i) (.int j) μ = .ok (.int (f i j)) μ := Eq.trans rfl rfl
theorem x_cmp (p : Int → Int → Bool) : gCmp p (.int i) (.int j) μ = .ok (.bl (p i j)) μ := Eq.trans rfl rfl
theorem x_lt : gLt (.int i) (.int j) μ = .ok (.bl (decide (i < j))) μ := Eq.trans rfl rfl
theorem x_neg : gNeg (.int i) μ = .ok (.int (-i)) μ := Eq.trans rfl rfl
theorem shp_int : shp (.int i) = true := by simp [shp, okT, toD, PyData.depth]
theorem x_eqi : gEq (.int i) (.int j) μ = .ok (.bl (decide (i = j))) μ := by
  show gEqD _ _ μ = _
  unfold gEqD
  rw [shp_int, shp_int]
  have e : PyData.eqv (toD (.int i)) (toD (.int j)) = decide (i = j) := by simp only [toD, PyData.eqv]; by_cases h : i = j <;> simp [h]
  rw [e]
  rfl
theorem x_ess (x y : Str) : gEq (.str x) (.str y) μ = .ok (.bl (decide (x = y))) μ := Eq.trans rfl rfl
theorem x_nss (x y : Str) : gNe (.str x) (.str y) μ = .ok (.bl (!decide (x = y))) μ := Eq.trans rfl rfl
theorem x_nei : gNe (.int i) (.int j) μ = .ok (.bl (!decide (i = j))) μ := by
  show gNeD _ _ μ = _
  unfold gNeD
  rw [shp_int, shp_int]
  have e : PyData.eqv (toD (.int i)) (toD (.int j)) = decide (i = j) := by simp only [toD, PyData.eqv]; by_cases h : i = j <;> simp [h]
  rw [e]
  rfl
theorem x_abs : gAbs (.int i) μ = .ok (.int (i.natAbs : Int)) μ := by
  have e : (if i < 0 then -i else i) = (i.natAbs : Int) := by split <;> omega
  rw [← e]
  rfl
theorem x_lenl : gLen (.lst ds) μ = .ok (.int ds.length) μ := Eq.trans rfl rfl
theorem x_lenf : gLen (.fls ds) μ = .ok (.int ds.length) μ := Eq.trans rfl rfl
theorem x_lent : gLen (.tup ds) μ = .ok (.int ds.length) μ := Eq.trans rfl rfl
theorem x_int : gInt (.int i) μ = .ok (.int i) μ := Eq.trans rfl rfl
theorem x_intb (k : Bool) : gInt (.bl k) μ = .ok (.int (bif k then 1 else 0)) μ := Eq.trans rfl rfl
theorem x_max2 : gMax2 (.int i) (.int j) μ = .ok (.int (if j > i then j else i)) μ := Eq.trans rfl rfl
theorem x_min2 : gMin2 (.int i) (.int j) μ = .ok (.int (if j < i then j else i)) μ := Eq.trans rfl rfl
theorem x_tupl : gTuple (.lst ds) μ = .ok (.tup ds) μ := Eq.trans rfl rfl
theorem x_r1 : gRange1 [.int j] μ = (bif sm62 j then M.pure (rangeT 0 j.toNat) else M.no) μ := Eq.trans rfl rfl
theorem x_r2 : gRange2 [.int i, .int j] μ = (bif sm62 i && sm62 j then M.pure (rangeT i (j - i).toNat) else M.no) μ := Eq.trans rfl rfl
theorem x_revl : gRev (.lst ds) μ = .ok (.lst ds.reverse) μ := Eq.trans rfl rfl
theorem x_revt : gRev (.tup ds) μ = .ok (.tup ds.reverse) μ := Eq.trans rfl rfl
theorem x_ixt : gIx (.tup ds) (.int i) μ = ofO (atI ds i) μ := Eq.trans rfl rfl
theorem x_ixl : gIx (.lst ds) (.int i) μ = ofO (atI ds i) μ := Eq.trans rfl rfl
theorem x_ixf : gIx (.fls ds) (.int i) μ = ofO (atI ds i) μ := Eq.trans rfl rfl
theorem x_ofO : ofO (some d) μ = .ok d μ := Eq.trans rfl rfl
theorem x_slt (lo hi : Option Int) : gSl lo hi (.tup ds) μ = .ok (.tup (cutT ds lo hi)) μ := Eq.trans rfl rfl
theorem x_sll (lo hi : Option Int) : gSl lo hi (.lst ds) μ = .ok (.lst (cutT ds lo hi)) μ := Eq.trans rfl rfl
theorem x_isi (n : String) : gIsi (.int i) (.ty n) μ = (bif clsNames.contains n then M.pure (.bl (isiP "int" n)) else M.no) μ := Eq.trans rfl rfl
theorem x_ist (n : String) : gIsi (.tup ds) (.ty n) μ = (bif clsNames.contains n then M.pure (.bl (isiP "tuple" n)) else M.no) μ := Eq.trans rfl rfl
theorem fits_of {n : Nat} (h : n ≤ 16777216) : fits n = true := decide_eq_true h
end

/-! ### loops -/
theorem forL_ints {α : Type} {step : T → Env → M Fl} (P : α → Option T → Env) (f : α → Int → α) (I : α → List Int → Prop) {μ : Store} (h : ∀ a o x r, I a (x :: r) → step (.int x) (P a o) μ = .ok (.nx (P (f a x) (some (.int x)))) μ ∧ I (f a x) r) :
    ∀ (xs : List Int) (a : α) (o : Option T), I a xs → ∃ o', forL step (xs.map T.int) (P a o) μ = .ok (.nx (P (xs.foldl f a) o')) μ ∧ I (xs.foldl f a) []
  | [], a, o, hi => ⟨o, rfl, hi⟩
  | x :: xs, a, o, hi => by
    obtain ⟨h1, h2⟩ := h a o x xs hi
    obtain ⟨o', h3, h4⟩ := forL_ints P f I h xs (f a x) (some (.int x)) h2
    refine ⟨o', ?_, h4⟩
    show M.bind (step (.int x) (P a o)) _ μ = _
    rw [x_bind, h1]
    exact h3
theorem lcL_map {β : Type} {step : T → M (Option T)} {e : β → T} {g : β → T} {μ : Store} : ∀ {xs : List β}, (∀ x ∈ xs, step (e x) μ = .ok (some (g x)) μ) → lcL step (xs.map e) μ = .ok (xs.map g) μ
  | [], _ => rfl
  | x :: xs, h => by
    show M.bind (noErr (step (e x))) _ μ = _
    rw [x_bind]
    unfold noErr
    rw [h x List.mem_cons_self]
    show M.bind (lcL step (xs.map e)) _ μ = _
    rw [x_bind, lcL_map fun y hy => h y (List.mem_cons_of_mem _ hy)]
    rfl

/-! ### guards -/
theorem log2_le {n k : Nat} (h : n < 2 ^ k) : n.log2 ≤ k := by
  by_cases h0 : n = 0
  · subst h0; simp
  · exact Nat.le_of_lt ((Nat.log2_lt h0).mpr h)
theorem x_mulh {i j : Int} {μ : Store} (p q : Nat) (h1 : i.natAbs < 2 ^ p) (h2 : j.natAbs < 2 ^ q) (h3 : p + q < 1000000) : gMulA (.int i) (.int j) μ = .ok (.int (i * j)) μ := by
  rw [x_mul]
  have e : decide (lgs i j < 1000000) = true := decide_eq_true (by
    have a := log2_le h1
    have b := log2_le h2
    unfold lgs
    omega)
  rw [e]
  rfl
theorem x_all {β : Type} (p : β → Bool) (xs : List β) {μ : Store} : gAll (.lst (xs.map fun x => T.bl (p x))) μ = .ok (.bl (xs.all p)) μ := by
  have e : boolsOf (xs.map fun x => T.bl (p x)) = some (xs.map p) := by
    induction xs with
    | nil => rfl
    | cons x xs ih => simp only [List.map_cons, boolsOf, ih]; rfl
  unfold gAll onBools listOf
  simp only [Option.bind_some, e]
  show M.pure _ μ = _
  rw [x_pure, List.all_map]
  rfl
theorem intsOf_map (xs : List Int) : intsOf (xs.map T.int) = some xs := by
  induction xs with
  | nil => rfl
  | cons x xs ih => simp only [List.map_cons, intsOf, ih]; rfl
theorem x_sum (xs : List Int) {μ : Store} : gSum (.lst (xs.map T.int)) μ = .ok (.int xs.sum) μ := by
  unfold gSum onInts listOf
  simp only [Option.bind_some, intsOf_map]
  rfl
/-! ### == of data -/
mutual
theorem eqv_self : ∀ d : T, okT d = true → PyData.eqv (toD d) (toD d) = true
  | .non, _ => by simp [toD, PyData.eqv]
  | .bl _, _ => by simp [toD, PyData.eqv]
  | .int _, _ => by simp [toD, PyData.eqv]
  | .str _, _ => by simp [toD, PyData.eqv]
  | .lst xs, h => by simp only [toD, PyData.eqv]; exact eqvs_self xs (by simpa [okT] using h)
  | .fls xs, h => by simp only [toD, PyData.eqv]; exact eqvs_self xs (by simpa [okT] using h)
  | .tup xs, h => by simp only [toD, PyData.eqv]; exact eqvs_self xs (by simpa [okT] using h)
  | .ftp xs, h => by simp only [toD, PyData.eqv]; exact eqvs_self xs (by simpa [okT] using h)
  | .dic _ _, h => by simp [okT] at h
  | .cell _, h => by simp [okT] at h
  | .ref _, h => by simp [okT] at h
  | .ty _, h => by simp [okT] at h
theorem eqvs_self : ∀ ds : List T, okTs ds = true → PyData.eqvAll (toDs ds) (toDs ds) = true
  | [], _ => by simp [toDs, PyData.eqvAll]
  | x :: xs, h => by
    have h' : okT x = true ∧ okTs xs = true := by simpa [okTs] using h
    simp only [toDs, PyData.eqvAll, Bool.and_eq_true]
    exact ⟨eqv_self x h'.1, eqvs_self xs h'.2⟩
end
theorem x_eqs {d : T} {μ : Store} (h : shp d = true) : gEq d d μ = .ok (.bl true) μ := by
  have e : gEqD d d μ = .ok (.bl true) μ := by
    unfold gEqD
    rw [h, eqv_self d (shp_ok h)]
    rfl
  cases d with
  | str x => rw [x_ess, decide_eq_true rfl]
  | _ => exact e
theorem x_nes {d : T} {μ : Store} (h : shp d = true) : gNe d d μ = .ok (.bl false) μ := by
  have e : gNeD d d μ = .ok (.bl false) μ := by
    unfold gNeD
    rw [h, eqv_self d (shp_ok h)]
    rfl
  cases d with
  | str x => rw [x_nss, decide_eq_true rfl]; rfl
  | _ => exact e
/-! ### sorting: one's own insertion, to reckon with -/
def insT (a : T) : List T → List T
  | [] => [a]
  | b :: r => if leT a b then a :: b :: r else b :: insT a r
def isort : List T → List T
  | [] => []
  | a :: r => insT a (isort r)
theorem leT_total (a b : T) : (leT a b || leT b a) = true := by
  unfold leT
  cases h : PySem.W.dataLt (toD b) (toD a) with
  | false => rfl
  | true =>
    cases h2 : PySem.W.dataLt (toD a) (toD b) with
    | false => rfl
    | true => exact absurd (lex_trans _ _ _ h h2) (by rw [lex_irrefl]; exact Bool.false_ne_true)
theorem leT_trans (a b c : T) (h1 : leT a b = true) (h2 : leT b c = true) : leT a c = true := by
  unfold leT at *
  simp only [Bool.not_eq_true'] at *
  cases h : PySem.W.dataLt (toD c) (toD a) with
  | false => rfl
  | true =>
    exfalso
    unfold PySem.W.dataLt at *
    by_cases e1 : PyProof.Rows.lexLt itemOrd (PySem.W.keyToks (toD a)) (PySem.W.keyToks (toD b)) = true
    · have := lex_trans _ _ _ h e1
      rw [h2] at this
      cases this
    · have e2 := lex_total _ _ (by simpa using e1) h1
      rw [e2] at h
      rw [h] at h2
      cases h2
theorem insT_mid (a : T) : ∀ (l1 l2 : List T), (∀ b ∈ l1, leT a b = false) → (∀ c, l2.head? = some c → leT a c = true) → insT a (l1 ++ l2) = l1 ++ a :: l2
  | [], [], _, _ => rfl
  | [], c :: r, _, h => by
    show (if leT a c then _ else _) = _
    rw [h c rfl, if_pos rfl]
    rfl
  | b :: r, l2, h, h2 => by
    show (if leT a b then _ else b :: insT a (r ++ l2)) = _
    rw [h b List.mem_cons_self, if_neg Bool.false_ne_true, insT_mid a r l2 (fun c hc => h c (List.mem_cons_of_mem _ hc)) h2]
    rfl
theorem sort_is : ∀ l : List T, l.mergeSort leT = isort l
  | [] => by simp [isort]
  | a :: r => by
    obtain ⟨l1, l2, e1, e2, h⟩ := List.mergeSort_cons (le := leT) leT_trans leT_total a r
    have s := List.pairwise_mergeSort (le := leT) leT_trans leT_total (a :: r)
    rw [e1] at s ⊢
    show _ = insT a (isort r)
    rw [← sort_is r, e2, insT_mid a l1 l2 (fun b hb => by simpa using h b hb) fun c hc => ?_]
    cases l2 with
    | nil => cases hc
    | cons d l2 =>
      cases hc
      exact (List.pairwise_cons.mp (List.pairwise_append.mp s).2.1).1 _ List.mem_cons_self
theorem x_sort {ds : List T} {μ : Store} : gSorted [.lst ds] μ = (bif srtOk ds then M.pure (isort ds) else M.no) μ := by
  rw [← sort_is]
  rfl

/-! ### what repr is ready for -/
mutual
def rdy : T → Bool
  | .non => true
  | .bl _ => true
  | .int i => decide (i.natAbs < 2 ^ 1000)
  | .str x => PyData.strOk x
  | .lst xs => rdys xs
  | .fls xs => rdys xs
  | .tup xs => rdys xs
  | .ftp xs => rdys xs
  | _ => false
def rdys : List T → Bool
  | [] => true
  | x :: xs => rdy x && rdys xs
end
mutual
/-- at most so many signs -/
def shw : T → Nat
  | .int i => i.natAbs.log2 + 2
  | .str x => 10 * x.cps.size + 8
  | .lst xs => shws xs + 3
  | .fls xs => shws xs + 3
  | .tup xs => shws xs + 3
  | .ftp xs => shws xs + 3
  | _ => 8
def shws : List T → Nat
  | [] => 0
  | x :: xs => shw x + 2 + shws xs
end
mutual
def dep : T → Nat
  | .lst xs => deps xs + 1
  | .fls xs => deps xs + 1
  | .tup xs => deps xs + 1
  | .ftp xs => deps xs + 1
  | _ => 0
def deps : List T → Nat
  | [] => 0
  | x :: xs => max (dep x) (deps xs)
end
mutual
theorem rdy_ok : ∀ d : T, rdy d = true → okT d = true ∧ (toD d).showable = true ∧ (toD d).depth = dep d
  | .non, _ => by simp [okT, toD, PyData.showable, PyData.depth, dep]
  | .bl _, _ => by simp [okT, toD, PyData.showable, PyData.depth, dep]
  | .int i, h => by
    refine ⟨by simp [okT], ?_, by simp [toD, PyData.depth, dep]⟩
    have h' : i.natAbs < 2 ^ 1000 := by simpa only [rdy, decide_eq_true_eq] using h
    have := log2_le h'
    simp only [toD, PyData.showable, decide_eq_true_eq]
    omega
  | .str x, h => ⟨by simpa only [okT, rdy] using h, by simp [toD, PyData.showable], by simp [toD, PyData.depth, dep]⟩
  | .lst xs, h => by simpa only [okT, toD, PyData.showable, PyData.depth, dep, Nat.add_right_cancel_iff] using rdys_ok xs (by simpa only [rdy] using h)
  | .fls xs, h => by simpa only [okT, toD, PyData.showable, PyData.depth, dep, Nat.add_right_cancel_iff] using rdys_ok xs (by simpa only [rdy] using h)
  | .tup xs, h => by simpa only [okT, toD, PyData.showable, PyData.depth, dep, Nat.add_right_cancel_iff] using rdys_ok xs (by simpa only [rdy] using h)
  | .ftp xs, h => by simpa only [okT, toD, PyData.showable, PyData.depth, dep, Nat.add_right_cancel_iff] using rdys_ok xs (by simpa only [rdy] using h)
  | .dic _ _, h => by simp [rdy] at h
  | .cell _, h => by simp [rdy] at h
  | .ref _, h => by simp [rdy] at h
  | .ty _, h => by simp [rdy] at h
theorem rdys_ok : ∀ ds : List T, rdys ds = true → okTs ds = true ∧ PyData.showableAll (toDs ds) = true ∧ PyData.depthAll (toDs ds) = deps ds
  | [], _ => by simp [okTs, toDs, PyData.showableAll, PyData.depthAll, deps]
  | x :: xs, h => by
    have h' : rdy x = true ∧ rdys xs = true := by simpa [rdys] using h
    obtain ⟨a1, a2, a3⟩ := rdy_ok x h'.1
    obtain ⟨b1, b2, b3⟩ := rdys_ok xs h'.2
    simp only [okTs, toDs, PyData.showableAll, PyData.depthAll, deps, a1, a2, a3, b1, b2, b3, Bool.and_self, and_self]
end
theorem lst_len (ds : List PyData) : (PyData.shownAll ds).length = ds.length := by
  induction ds with
  | nil => rfl
  | cons d ds ih => simp only [PyData.shownAll, List.length_cons, ih]
mutual
theorem shown_shw : ∀ d : T, rdy d = true → (toD d).shown.length ≤ shw d
  | .non, _ => by simp only [toD, PyData.shown, shw]; decide
  | .bl b, _ => by simp only [toD, PyData.shown, shw]; cases b <;> decide
  | .int i, _ => by
    have e := int_text_length_le (a := i) (k := i.natAbs.log2 + 1) (Nat.succ_pos _) (Nat.lt_succ_self _)
    simp only [toD, PyData.shown, shw]
    rw [PySem.ofString_length]
    exact e
  | .str x, h => by
    have h1 : PyData.canLay0 (.str x) = true := by simpa only [rdy, PyData.canLay0] using h
    have e := PyData.shown_le 8 (Nat.le_refl _) (.str x) (PyData.leavesShort_of_canLay0 8 (.str x) h1 (by simp only [PyData.intsShort]))
    simpa only [toD, shw, PyData.weight] using e
  | .lst xs, h => by
    have e := showns_shw xs (by simpa only [rdy] using h)
    simp only [toD, PyData.shown, shw]
    exact Nat.le_trans (listText_len_le _) (by rw [lst_len]; omega)
  | .fls xs, h => by
    have e := showns_shw xs (by simpa only [rdy] using h)
    simp only [toD, PyData.shown, shw]
    exact Nat.le_trans (listText_len_le _) (by rw [lst_len]; omega)
  | .tup xs, h => by
    have e := showns_shw xs (by simpa only [rdy] using h)
    simp only [toD, PyData.shown, shw]
    exact Nat.le_trans (tupleText_len_le _) (by rw [lst_len]; omega)
  | .ftp xs, h => by
    have e := showns_shw xs (by simpa only [rdy] using h)
    simp only [toD, PyData.shown, shw]
    exact Nat.le_trans (tupleText_len_le _) (by rw [lst_len]; omega)
  | .dic _ _, h => by simp [rdy] at h
  | .cell _, h => by simp [rdy] at h
  | .ref _, h => by simp [rdy] at h
  | .ty _, h => by simp [rdy] at h
theorem showns_shw : ∀ ds : List T, rdys ds = true → ((PyData.shownAll (toDs ds)).map (·.length)).sum + 2 * (toDs ds).length ≤ shws ds
  | [], _ => by simp [toDs, PyData.shownAll, shws]
  | x :: xs, h => by
    have h' : rdy x = true ∧ rdys xs = true := by simpa [rdys] using h
    have a := shown_shw x h'.1
    have b := showns_shw xs h'.2
    simp only [toDs, PyData.shownAll, List.map_cons, List.sum_cons, List.length_cons, shws]
    omega
end
theorem reprOk_of {d : T} (h : rdy d = true) (hd : dep d ≤ 64) (hw : shw d ≤ 16777216) : reprOk d = true := by
  obtain ⟨a, b, c⟩ := rdy_ok d h
  have e := shown_shw d h
  unfold reprOk shp
  rw [a, b, c, decide_eq_true hd, fits_of (Nat.le_trans e hw)]
  rfl
theorem shp_of {d : T} (h : rdy d = true) (hd : dep d ≤ 64) : shp d = true := by
  obtain ⟨a, b, c⟩ := rdy_ok d h
  unfold shp
  rw [a, c, decide_eq_true hd]
  rfl
theorem x_repr {d : T} {μ : Store} (h : reprOk d = true) : gRepr d μ = .ok (.str (toD d).shown) μ := by
  unfold gRepr
  rw [h]
  rfl
theorem rdys_ints (xs : List Int) (h : ∀ x ∈ xs, x.natAbs < 2 ^ 1000) : rdys (xs.map T.int) = true := by
  induction xs with
  | nil => rfl
  | cons x xs ih =>
    simp only [List.map_cons, rdys, rdy]
    rw [decide_eq_true (h x List.mem_cons_self), ih fun y hy => h y (List.mem_cons_of_mem _ hy)]
    rfl
theorem deps_ints (xs : List Int) : deps (xs.map T.int) = 0 := by
  induction xs with
  | nil => rfl
  | cons x xs ih => simp only [List.map_cons, deps, dep, ih]; rfl
theorem shws_ints (k : Nat) (xs : List Int) (h : ∀ x ∈ xs, x.natAbs < 2 ^ k) : shws (xs.map T.int) ≤ xs.length * (k + 4) := by
  induction xs with
  | nil => simp [shws]
  | cons x xs ih =>
    have a := log2_le (h x List.mem_cons_self)
    have b := ih fun y hy => h y (List.mem_cons_of_mem _ hy)
    simp only [List.map_cons, shws, shw, List.length_cons]
    rw [Nat.add_one_mul]
    omega

/-! ### cells -/
theorem x_ldc {b : Nat} {μ : Store} {xs : List T} (h : μ[b]? = some ⟨true, .lst xs⟩) : ld (.cell b) μ = .ok (.lst xs) μ := by
  simp only [ld, h, obT]
theorem x_setc {b j : Nat} {μ : Store} {xs : List T} {i : Int} {v : T} (h : μ[b]? = some ⟨true, .lst xs⟩) (hj : ixN xs.length i = some j) : gSetI (.cell b) (.int i) v μ = .ok () (μ.set b ⟨true, .lst (xs.set j v)⟩) := by
  simp only [gSetI, onCell, h, hj]
theorem set_at {b : Nat} {μ : Store} {c d : Cel} (h : μ[b]? = some c) : (μ.set b d)[b]? = some d := by
  obtain ⟨hb, _⟩ := List.getElem?_eq_some_iff.mp h
  rw [List.getElem?_set_self hb]
/-- a bag: three numbers; n bounds the last -/
def Bag (b n : Nat) (μ : Store) : Prop := ∃ x y z : Int, μ[b]? = some ⟨true, .lst [.int x, .int y, .int z]⟩ ∧ 0 ≤ x ∧ 0 ≤ y ∧ y < 2 ^ 100 ∧ 0 ≤ z ∧ z ≤ n
theorem Bag.new {μ : Store} {x y : Int} (hx : 0 ≤ x) (hy : 0 ≤ y) (hy2 : y < 2 ^ 100) : Bag μ.length 0 (μ ++ [⟨true, .lst [.int x, .int y, .int 0]⟩]) :=
  ⟨x, y, 0, by simp, hx, hy, hy2, by decide, by decide⟩
theorem lcL_st {step : T → M (Option T)} {J : Nat → Store → Prop} {N : Nat} {Q : T → Prop} : ∀ {xs : List T}, (∀ x ∈ xs, ∀ n μ, J n μ → n < N → ∃ y μ', step x μ = .ok (some y) μ' ∧ J (n + 1) μ' ∧ Q y) → ∀ n μ, J n μ → n + xs.length ≤ N →
    ∃ ys μ', lcL step xs μ = .ok ys μ' ∧ J (n + xs.length) μ' ∧ ys.length = xs.length ∧ ∀ y ∈ ys, Q y
  | [], _, n, μ, hj, _ => ⟨[], μ, rfl, hj, rfl, fun y hy => nomatch hy⟩
  | x :: xs, h, n, μ, hj, hn => by
    simp only [List.length_cons] at hn
    obtain ⟨y, μ1, e1, j1, q1⟩ := h x List.mem_cons_self n μ hj (by omega)
    obtain ⟨ys, μ2, e2, j2, l2, q2⟩ := lcL_st (fun z hz => h z (List.mem_cons_of_mem _ hz)) (n + 1) μ1 j1 (by omega)
    refine ⟨y :: ys, μ2, ?_, by rw [List.length_cons, show n + (xs.length + 1) = n + 1 + xs.length by omega]; exact j2, by simp [l2], fun z hz => ?_⟩
    · show M.bind (noErr (step x)) _ μ = _
      rw [x_bind]
      unfold noErr
      rw [e1]
      show M.bind (lcL step xs) _ μ1 = _
      rw [x_bind, e2]
      rfl
    · rcases List.mem_cons.mp hz with rfl | hz
      · exact q1
      · exact q2 z hz
/-- turns that add nothing -/
theorem lcL_none {step : T → M (Option T)} {J : Nat → Store → Prop} {k N : Nat} : ∀ {xs : List T}, (∀ x ∈ xs, ∀ n μ, J n μ → n + k ≤ N → ∃ μ', step x μ = .ok none μ' ∧ J (n + k) μ') → ∀ n μ, J n μ → n + xs.length * k ≤ N →
    ∃ μ', lcL step xs μ = .ok [] μ' ∧ J (n + xs.length * k) μ'
  | [], _, n, μ, hj, _ => ⟨μ, rfl, by simpa using hj⟩
  | x :: xs, h, n, μ, hj, hn => by
    have e : (xs.length + 1) * k = k + xs.length * k := by rw [Nat.add_one_mul]; omega
    simp only [List.length_cons] at hn ⊢
    rw [e] at hn ⊢
    obtain ⟨μ1, e1, j1⟩ := h x List.mem_cons_self n μ hj (by omega)
    obtain ⟨μ2, e2, j2⟩ := lcL_none (fun z hz => h z (List.mem_cons_of_mem _ hz)) (n + k) μ1 j1 (by omega)
    refine ⟨μ2, ?_, by rw [← Nat.add_assoc]; exact j2⟩
    show M.bind (noErr (step x)) _ μ = _
    rw [x_bind]
    unfold noErr
    rw [e1]
    show M.bind (lcL step xs) _ μ1 = _
    rw [x_bind, e2]
    rfl
theorem ints_of {ys : List T} {Q : Int → Prop} (h : ∀ y ∈ ys, ∃ b, y = .int b ∧ Q b) : ∃ bs : List Int, ys = bs.map T.int ∧ ∀ b ∈ bs, Q b := by
  induction ys with
  | nil => exact ⟨[], rfl, fun b hb => nomatch hb⟩
  | cons y ys ih =>
    obtain ⟨bs, e, q⟩ := ih fun z hz => h z (List.mem_cons_of_mem _ hz)
    obtain ⟨b, rfl, qb⟩ := h y List.mem_cons_self
    refine ⟨b :: bs, by rw [e]; rfl, fun c hc => ?_⟩
    rcases List.mem_cons.mp hc with rfl | hc
    · exact qb
    · exact q c hc
theorem cut_to (ds : List T) (m : Nat) : cutT ds none (some (m : Int)) = ds.take m := by
  unfold cutT
  rw [HT.sIx_nat]
  show (ds.drop 0).take (min m ds.length - 0) = _
  rw [List.drop_zero, Nat.sub_zero]
  by_cases h : m ≤ ds.length
  · rw [Nat.min_eq_left h]
  · rw [Nat.min_eq_right (by omega), List.take_length, List.take_of_length_le (by omega)]
theorem flat_rep {α : Type} (x : α) (k : Nat) : (List.replicate k [x]).flatten = List.replicate k x := by
  induction k with
  | zero => rfl
  | succ k ih => rw [List.replicate_succ, List.flatten_cons, ih, List.replicate_succ]; rfl
theorem x_repl {d : T} {k : Nat} {μ : Store} (h : k ≤ 1000) : gMulA (.lst [d]) (.int (k : Int)) μ = .ok (.lst (List.replicate k d)) μ := by
  have a : decide (-(2 ^ 63) ≤ (k : Int)) = true := decide_eq_true (by omega)
  have b : decide ((k : Int) < 2 ^ 63) = true := decide_eq_true (by omega)
  have c : fits ([d].length * k) = true := fits_of (by simp; omega)
  simp only [gMulA, a, b, Int.toNat_natCast, c, Bool.and_self, Bool.and_true, x_ct, x_pure, flat_rep]
theorem x_rept {d : T} {k : Nat} {μ : Store} (h : k ≤ 1000) : gMulA (.tup [d]) (.int (k : Int)) μ = .ok (.tup (List.replicate k d)) μ := by
  have a : decide (-(2 ^ 63) ≤ (k : Int)) = true := decide_eq_true (by omega)
  have b : decide ((k : Int) < 2 ^ 63) = true := decide_eq_true (by omega)
  have c : fits ([d].length * k) = true := fits_of (by simp; omega)
  have e : (bif [d].isEmpty || (k : Int) == 1 then [d] else (List.replicate k [d]).flatten) = List.replicate k d := by
    rw [flat_rep]
    by_cases e : k = 1
    · subst e; rfl
    · have z : ((k : Int) == 1) = false := by simp; omega
      rw [z]
      rfl
  simp only [gMulA, a, b, Int.toNat_natCast, c, Bool.and_self, Bool.and_true, x_ct, x_pure, e]
theorem x_addt {xs ys : List T} {μ : Store} (h : xs.length + ys.length ≤ 16777216) : gAdd (.tup xs) (.tup ys) μ = .ok (.tup (xs ++ ys)) μ := by
  have e := congrFun (congrArg (fun b => (bif b then M.pure (T.tup (xs ++ ys)) else M.no : M T)) (fits_of h)) μ
  exact e
theorem x_addl {xs ys : List T} {μ : Store} (h : xs.length + ys.length ≤ 16777216) : gAdd (.lst xs) (.lst ys) μ = .ok (.lst (xs ++ ys)) μ := by
  have e := congrFun (congrArg (fun b => (bif b then M.pure (T.lst (xs ++ ys)) else M.no : M T)) (fits_of h)) μ
  exact e
end TL

/-! T layer 44: sorted, by an insertion that the kernel reckons. -/
namespace TL
open PySem PySem.Spec PyProof.Rows L2 StX
def gSk (ds : List T) : M (List T) := bif srtOk ds then M.pure (isort ds) else M.no
theorem gSk_eq : gSort = gSk := by
  funext ds
  unfold gSort gSk
  rw [sort_is]
def sortW (s : List T → M (List T)) : List T → M (List T)
  | [.cell k] => fun μ => match μ[k]? with
    | some ⟨_, .dic _ ps⟩ => s (ps.map (·.1)) μ
    | _ => M.bind (ld (.cell k)) (fun d => match listOf d with
      | some ds => s ds
      | none => M.no) μ
  | [.dic _ ps] => s (ps.map (·.1))
  | [.tup ds] => M.bind (ld (.tup ds)) fun d => match tupOf d with
    | some ds => s ds
    | none => M.no
  | [.ftp ds] => M.bind (ld (.ftp ds)) fun d => match tupOf d with
    | some ds => s ds
    | none => M.no
  | [d] => M.bind (ld d) fun d => match listOf d with
    | some ds => s ds
    | none => M.no
  | _ => M.no
def gSortK : List T → M (List T) := sortW gSk
theorem gSortK_eq : gSortB = gSortK := by
  unfold gSortK
  rw [← gSk_eq]
  funext ds
  match ds with
  | [] => rfl
  | [d] => cases d <;> rfl
  | a :: b :: r => cases a <;> rfl
theorem c_sortK [Tb] {X : Cx} {E : XK} {k : Nat} (o : XO X E k) : CallL X E (.builtin "sorted") gSortK := by
  rw [← gSortK_eq]
  exact c_sortB o
end TL

/-! Plain layer 2: how the mirrors of TL9 to TL20 are run. -/
namespace TL
open PySem PySem.Spec PyProof.Rows L2 StX
section
variable {α β : Type} {μ : Store} {ρ : Env} {a b c d v : T} {ds es xs ys : List T} {i j : Int} {k n : Nat} {tk : Bool} {kvs : List (T × T)}
theorem x_iAny (f : Env → M T) : iAny f ρ μ = ((f ρ μ).bind frz).bind gEach := Eq.trans rfl rfl
theorem x_eFrz (f : Env → M T) : eFrz f ρ μ = (f ρ μ).bind frz := Eq.trans rfl rfl
theorem x_frzl : frz (.lst ds) μ = .ok (.lst ds) μ := Eq.trans rfl rfl
theorem x_frzf : frz (.fls ds) μ = .ok (.fls ds) μ := Eq.trans rfl rfl
theorem x_frzt : frz (.tup ds) μ = .ok (.tup ds) μ := Eq.trans rfl rfl
theorem x_frzp : frz (.ftp ds) μ = .ok (.ftp ds) μ := Eq.trans rfl rfl
theorem x_frzi : frz (.int i) μ = .ok (.int i) μ := Eq.trans rfl rfl
theorem x_frzd : frz (.dic tk kvs) μ = .ok (.dic tk kvs) μ := Eq.trans rfl rfl
theorem x_frzc {c : Cel} (h : μ[k]? = some c) : frz (.cell k) μ = .ok (obT c.o) (μ.set k ⟨false, c.o⟩) := by
  simp only [frz, h]
theorem x_eachl : gEach (.lst ds) μ = .ok ds μ := Eq.trans rfl rfl
theorem x_eacht : gEach (.tup ds) μ = .ok ds μ := Eq.trans rfl rfl
theorem x_meth (cc : T → M Unit) (g : T → List T → M T) (fo : Env → M T) (fa : Env → M (List T)) : eMeth cc g fo fa ρ μ = (fo ρ μ).bind fun d => M.bind (cc d) fun _ => M.bind (fa ρ) fun ds => g d ds := Eq.trans rfl rfl
theorem x_isL {lv : Bool} (h : μ[k]? = some ⟨lv, .lst xs⟩) : isL (.cell k) μ = .ok () μ := by
  simp only [isL, h]
theorem x_on {f : List T → Option (α × List T)} {y : α} (h : μ[k]? = some ⟨true, .lst xs⟩) (hf : f xs = some (y, ys)) : onCell k f μ = .ok y (μ.set k ⟨true, .lst ys⟩) := by
  simp only [onCell, h, hf]
theorem x_append (h : μ[k]? = some ⟨true, .lst xs⟩) (hz : xs.length + 1 ≤ sizeLine) : gAppend (.cell k) [v] μ = .ok .non (μ.set k ⟨true, .lst (xs ++ [v])⟩) := by
  unfold gAppend
  exact x_on h (by rw [fits_of hz]; rfl)
theorem x_extend (h : μ[k]? = some ⟨true, .lst xs⟩) (hz : xs.length + ys.length ≤ sizeLine) : gExtend (.cell k) [.lst ys] μ = .ok .non (μ.set k ⟨true, .lst (xs ++ ys)⟩) := by
  unfold gExtend
  exact x_on h (by rw [fits_of hz]; rfl)
theorem x_pop (h : μ[k]? = some ⟨true, .lst (xs ++ [v])⟩) : gPop (.cell k) [] μ = .ok v (μ.set k ⟨true, .lst xs⟩) := by
  unfold gPop
  refine x_on h ?_
  simp
theorem x_popAt (h : μ[k]? = some ⟨true, .lst xs⟩) (h1 : -(2 ^ 63) ≤ i) (h2 : i < 2 ^ 63) (hj : seqIndex? i xs.length = some n) (hy : xs[n]? = some v) : gPopAt (.cell k) [.int i] μ = .ok v (μ.set k ⟨true, .lst (xs.eraseIdx n)⟩) := by
  unfold gPopAt
  simp only [decide_eq_true h1, decide_eq_true h2, Bool.and_self, cond_true]
  exact x_on h (by simp only [hj, hy]; rfl)
theorem x_gset (h : μ[k]? = some ⟨true, .lst xs⟩) (hi : ixN xs.length i = some n) : gSet (.cell k) (.int i) v μ = .ok () (μ.set k ⟨true, .lst (xs.set n v)⟩) := by
  simp only [gSet, h, gSetI]
  exact x_on h (by simp only [hi])
theorem x_aug {g : T → T → M T} {f : Env → M T} (h : ρ[n]? = some (some d)) : sAug n g f ρ μ = (f ρ μ).bind fun y => M.bind (g d y) fun z => M.pure (.nx (ρ.set n (some z))) := by
  simp only [sAug, M.bind, sAug.varOf, h]
  rfl
theorem x_comp2 (vs vs1 : List Nat) (fi : Env → M (List T)) (h : T → Env → M Env) (t : Env → M Bool) (fi1 : Env → M (List T)) (h1 : T → Env → M Env) (t1 : Env → M Bool) (f : Env → M T) :
    lComp2 vs vs1 fi h t fi1 h1 t1 f ρ μ = (fi ρ μ).bind fun ds => M.bind (lc2L (lc2Turn h t vs1 fi1 h1 t1 f (wipeE ρ vs)) ds) okL := Eq.trans rfl rfl
/-- a loop of turns that change nothing: the lists one behind the other -/
theorem lc2L_map {step : T → M (List T)} {g : T → List T} : ∀ (xs : List T), (∀ x ∈ xs, step x μ = .ok (g x) μ) → lc2L step xs μ = .ok (xs.flatMap g) μ
  | [], _ => rfl
  | x :: xs, h => by
    simp only [lc2L, M.bind, noErr, h x (by simp), lc2L_map xs fun y hy => h y (by simp [hy])]
    simp [M.pure, List.flatMap_cons]
end
end TL

/-! Plain layer 3: calls that are run apart. -/
namespace TL
open PySem PySem.Spec PyProof.Rows L2 StX
section
variable {m : List T → M T} {ds : List T} {d : T} {μ ν ν0 : Store} {ρ : Env} {e : Exn} {n : Nat}
/-- m answers d, nothing else is touched -/
def Does (m : List T → M T) (ds : List T) (d : T) : Prop := pureTs ds = true ∧ pureT d = true ∧ ∃ ν, m ds [] = .ok d ν
def Errs (m : List T → M T) (ds : List T) (e : Exn) : Prop := pureTs ds = true ∧ pureX e = true ∧ ∃ ν, m ds [] = .err e ν
theorem x_callX (n : Nat) (m : List T → M T) (fa : Env → M (List T)) : eCallX n m fa ρ μ = (fa ρ μ).bind fun ds => bif ds.length == n then callX m ds else M.no := Eq.trans rfl rfl
theorem Does.x (h : Does m ds d) : callX m ds μ = .ok d μ := by
  obtain ⟨h1, h2, ν, h3⟩ := h
  unfold callX
  rw [h1, h3]
  simp only [cond_true, h2]
theorem Errs.x (h : Errs m ds e) : callX m ds μ = .err e μ := by
  obtain ⟨h1, h2, ν, h3⟩ := h
  unfold callX
  rw [h1, h3]
  simp only [cond_true, h2]
/-- with a cell among the arguments, nothing added -/
theorem tidy_len (h : ν.length = μ.length) : tidy μ (.ok d ν) = .ok d ν := by
  have e : ν.take μ.length = ν := by rw [← h]; exact List.take_length
  unfold tidy
  simp only [e]
  cases (pureT d && ν.all fun c => pureO c.o) <;> rfl
theorem callX_box (hd : pureTs ds = false) (h : m ds μ = .ok d ν) (hl : ν.length = μ.length) : callX m ds μ = .ok d ν := by
  unfold callX
  rw [hd, h]
  exact tidy_len hl
theorem callX_cut (hd : pureTs ds = false) (h : m ds μ = .ok d ν) (hp : pureT d = true) (hc : (ν.take μ.length).all (fun c => pureO c.o) = true) : callX m ds μ = .ok d (ν.take μ.length) := by
  unfold callX
  rw [hd, h]
  simp only [cond_false, tidy, hp, hc, Bool.and_self, cond_true]
/-- a new cell is answered -/
theorem callX_new (h0 : m ds [] = .ok (.cell n) ν0) (h : m ds μ = .ok (.cell k) ν) : callX m ds μ = .ok (.cell k) ν := by
  have hk : ∀ j, pureT (.cell j) = false := fun _ => by simp only [pureT]
  unfold callX
  rw [h0, h]
  simp only [hk, tidy, Bool.false_and, cond_false]
  cases pureTs ds <;> rfl
theorem p_int (i : Int) : pureT (.int i) = true := by simp only [pureT]
theorem p_bl (b : Bool) : pureT (.bl b) = true := by simp only [pureT]
theorem p_str (x : Str) : pureT (.str x) = true := by simp only [pureT]
theorem p_non : pureT .non = true := by simp only [pureT]
theorem p_tup (xs : List T) : pureT (.tup xs) = pureTs xs := by simp only [pureT]
theorem p_lst (xs : List T) : pureT (.lst xs) = pureTs xs := by simp only [pureT]
theorem p_fls (xs : List T) : pureT (.fls xs) = pureTs xs := by simp only [pureT]
theorem p_ftp (xs : List T) : pureT (.ftp xs) = pureTs xs := by simp only [pureT]
theorem p_dic (tk : Bool) (xs : List (T × T)) : pureT (.dic tk xs) = pureTk xs := by simp only [pureT]
theorem p_cell (k : Nat) : pureT (.cell k) = false := by simp only [pureT]
theorem p_nil : pureTs [] = true := by simp only [pureTs]
theorem p_cons (x : T) (xs : List T) : pureTs (x :: xs) = (pureT x && pureTs xs) := by simp only [pureTs]
theorem p_app (xs ys : List T) : pureTs (xs ++ ys) = (pureTs xs && pureTs ys) := by
  induction xs with
  | nil => rfl
  | cons x xs ih => rw [List.cons_append, p_cons, p_cons, ih, Bool.and_assoc]
theorem p_map {α : Type} {f : α → T} (xs : List α) (h : ∀ x ∈ xs, pureT (f x) = true) : pureTs (xs.map f) = true := by
  induction xs with
  | nil => rfl
  | cons x xs ih => rw [List.map_cons, p_cons, h x List.mem_cons_self, ih fun y hy => h y (List.mem_cons_of_mem _ hy)]; rfl
theorem p_all {xs : List T} (h : ∀ x ∈ xs, pureT x = true) : pureTs xs = true := by
  have := p_map (f := id) xs h
  rwa [List.map_id] at this
theorem p_of {xs : List T} (h : pureTs xs = true) : ∀ x ∈ xs, pureT x = true := by
  induction xs with
  | nil => intro x hx; cases hx
  | cons y ys ih =>
    rw [p_cons, Bool.and_eq_true] at h
    intro x hx
    rcases List.mem_cons.mp hx with rfl | hx
    · exact h.1
    · exact ih h.2 x hx
end
end TL

namespace Z43
/-! ### exchanges -/
def cx (l : List Int) (p : Nat × Nat) : List Int := (l.set p.1 (min (l.getD p.1 0) (l.getD p.2 0))).set p.2 (max (l.getD p.1 0) (l.getD p.2 0))
def thr (l : List Int) (e : List (Nat × Nat)) : List Int := e.foldl cx l
def okE (n : Nat) (e : List (Nat × Nat)) : Prop := ∀ p ∈ e, p.1 < p.2 ∧ p.2 < n
def asc : List Int → Bool
  | [] => true
  | a :: r => r.all (fun b => decide (a ≤ b)) && asc r
def insI (a : Int) : List Int → List Int
  | [] => [a]
  | b :: r => bif decide (a ≤ b) then a :: b :: r else b :: insI a r
def srt : List Int → List Int
  | [] => []
  | a :: r => insI a (srt r)
theorem cx_length (l : List Int) (p : Nat × Nat) : (cx l p).length = l.length := by simp [cx]
theorem thr_length (e : List (Nat × Nat)) : ∀ l : List Int, (thr l e).length = l.length := by
  induction e with
  | nil => intro l; rfl
  | cons p e ih => intro l; exact (ih (cx l p)).trans (cx_length l p)
theorem okE.tail {n : Nat} {p : Nat × Nat} {e : List (Nat × Nat)} (h : okE n (p :: e)) : okE n e := fun q hq => h q (List.mem_cons_of_mem _ hq)
/-- a monotone map goes through -/
theorem cx_map {f : Int → Int} (hf : ∀ a b, a ≤ b → f a ≤ f b) {l : List Int} {p : Nat × Nat} (h1 : p.1 < p.2) (h2 : p.2 < l.length) : cx (l.map f) p = (cx l p).map f := by
  have g1 : (l.map f).getD p.1 0 = f (l.getD p.1 0) := by
    simp [List.getD, List.getElem?_eq_getElem (show p.1 < l.length by omega)]
  have g2 : (l.map f).getD p.2 0 = f (l.getD p.2 0) := by
    simp [List.getD, List.getElem?_eq_getElem h2]
  unfold cx
  rw [g1, g2, List.map_set, List.map_set]
  generalize l.getD p.1 0 = a
  generalize l.getD p.2 0 = b
  rcases Int.le_total a b with h | h
  · rw [Int.min_eq_left h, Int.min_eq_left (hf _ _ h), Int.max_eq_right h, Int.max_eq_right (hf _ _ h)]
  · rw [Int.min_eq_right h, Int.min_eq_right (hf _ _ h), Int.max_eq_left h, Int.max_eq_left (hf _ _ h)]
theorem thr_map {f : Int → Int} (hf : ∀ a b, a ≤ b → f a ≤ f b) (e : List (Nat × Nat)) : ∀ {l : List Int}, okE l.length e → thr (l.map f) e = (thr l e).map f := by
  induction e with
  | nil => intro l _; rfl
  | cons p e ih =>
    intro l h
    have h0 := h p List.mem_cons_self
    show thr (cx (l.map f) p) e = (thr (cx l p) e).map f
    rw [cx_map hf h0.1 h0.2]
    exact ih (by rw [cx_length]; exact h.tail)
/-- sums over places of a list: what an exchange keeps -/
theorem count_set {l : List Int} {i : Nat} {v x : Int} (h : i < l.length) : (l.set i v).count x + (if l[i] = x then 1 else 0) = l.count x + (if v = x then 1 else 0) := by
  induction l generalizing i with
  | nil => simp at h
  | cons a l ih =>
    cases i with
    | zero =>
      simp only [List.set_cons_zero, List.count_cons, List.getElem_cons_zero, beq_iff_eq]
      omega
    | succ i =>
      have := ih (i := i) (by simpa using h)
      simp only [List.set_cons_succ, List.count_cons, List.getElem_cons_succ]
      omega
theorem cx_perm {l : List Int} {p : Nat × Nat} (h1 : p.1 < p.2) (h2 : p.2 < l.length) : (cx l p).Perm l := by
  rw [List.perm_iff_count]
  intro x
  have h3 : p.1 < l.length := by omega
  unfold cx
  have g1 : l.getD p.1 0 = l[p.1] := by simp [List.getD, List.getElem?_eq_getElem h3]
  have g2 : l.getD p.2 0 = l[p.2] := by simp [List.getD, List.getElem?_eq_getElem h2]
  rw [g1, g2]
  have a1 := count_set (l := l) (i := p.1) (v := min l[p.1] l[p.2]) (x := x) h3
  have a2 := count_set (l := l.set p.1 (min l[p.1] l[p.2])) (i := p.2) (v := max l[p.1] l[p.2]) (x := x) (by simpa using h2)
  rw [List.getElem_set_ne (by omega)] at a2
  rcases Int.le_total l[p.1] l[p.2] with h | h
  · rw [Int.min_eq_left h, Int.max_eq_right h] at *
    omega
  · rw [Int.min_eq_right h, Int.max_eq_left h] at *
    omega
theorem thr_perm (e : List (Nat × Nat)) : ∀ {l : List Int}, okE l.length e → (thr l e).Perm l := by
  induction e with
  | nil => intro l _; exact .refl _
  | cons p e ih =>
    intro l h
    have h0 := h p List.mem_cons_self
    exact (ih (l := cx l p) (by rw [cx_length]; exact h.tail)).trans (cx_perm h0.1 h0.2)
/-! ### sorting -/
theorem insI_perm (a : Int) : ∀ l : List Int, (insI a l).Perm (a :: l)
  | [] => .refl _
  | b :: r => by
    unfold insI
    cases decide (a ≤ b) with
    | true => exact .refl _
    | false => exact ((insI_perm a r).cons b).trans (.swap a b r)
theorem srt_perm : ∀ l : List Int, (srt l).Perm l
  | [] => .refl _
  | a :: r => (insI_perm a (srt r)).trans ((srt_perm r).cons a)
theorem asc_cons {a : Int} {r : List Int} : asc (a :: r) = true ↔ (∀ b ∈ r, a ≤ b) ∧ asc r = true := by simp [asc]
theorem asc_ins {a : Int} : ∀ {l : List Int}, asc l = true → asc (insI a l) = true
  | [], _ => rfl
  | b :: r, h => by
    rw [asc_cons] at h
    unfold insI
    by_cases hab : a ≤ b
    · rw [decide_eq_true hab]
      show asc (a :: b :: r) = true
      rw [asc_cons, asc_cons]
      exact ⟨fun c hc => by
        rcases List.mem_cons.mp hc with rfl | hc
        · exact hab
        · exact Int.le_trans hab (h.1 c hc), h⟩
    · rw [decide_eq_false hab]
      show asc (b :: insI a r) = true
      rw [asc_cons]
      refine ⟨fun c hc => ?_, asc_ins h.2⟩
      rcases List.mem_cons.mp ((insI_perm a r).mem_iff.mp hc) with rfl | hc
      · omega
      · exact h.1 c hc
theorem asc_srt : ∀ l : List Int, asc (srt l) = true
  | [] => rfl
  | a :: r => asc_ins (asc_srt r)
theorem asc_perm : ∀ {l k : List Int}, asc l = true → asc k = true → l.Perm k → l = k
  | [], k, _, _, p => p.nil_eq.symm ▸ rfl
  | a :: r, [], _, _, p => absurd p.length_eq (by simp)
  | a :: r, b :: q, h, g, p => by
    rw [asc_cons] at h g
    have e : a = b := by
      have m1 : a ∈ b :: q := p.mem_iff.mp List.mem_cons_self
      have m2 : b ∈ a :: r := p.mem_iff.mpr List.mem_cons_self
      rcases List.mem_cons.mp m1 with e | m1
      · exact e
      · rcases List.mem_cons.mp m2 with e | m2
        · exact e.symm
        · have := h.1 b m2; have := g.1 a m1; omega
    subst e
    rw [asc_perm h.2 g.2 ((List.perm_cons a).mp p)]
theorem srt_of {l k : List Int} (p : l.Perm k) : srt l = srt k := asc_perm (asc_srt l) (asc_srt k) (((srt_perm l).trans p).trans (srt_perm k).symm)
theorem srt_id {l : List Int} (h : asc l = true) : srt l = l := asc_perm (asc_srt l) h (srt_perm l)
/-! ### the principle of bits -/
def over (s : Int) (a : Int) : Int := if s < a then 1 else 0
theorem over_mono (s a b : Int) (h : a ≤ b) : over s a ≤ over s b := by unfold over; split <;> split <;> omega
theorem asc_over : ∀ {l : List Int}, (∀ s ∈ l, asc (l.map (over s)) = true) → asc l = true
  | l, h => by
    suffices H : ∀ k : List Int, (∀ x ∈ k, x ∈ l) → (∀ s ∈ l, asc (k.map (over s)) = true) → asc k = true from H l (fun _ h => h) h
    intro k
    induction k with
    | nil => intros; rfl
    | cons a r ih =>
      intro hk hs
      rw [asc_cons]
      refine ⟨fun b hb => ?_, ih (fun x hx => hk x (List.mem_cons_of_mem _ hx)) fun s hs' => ?_⟩
      · have h1 := hs b (hk b (List.mem_cons_of_mem _ hb))
        rw [List.map_cons, asc_cons] at h1
        have h2 := h1.1 (over b b) (List.mem_map.mpr ⟨b, hb, rfl⟩)
        unfold over at h2
        split at h2 <;> split at h2 <;> omega
      · have h1 := hs s hs'
        rw [List.map_cons, asc_cons] at h1
        exact h1.2
def bits : Nat → List (List Int)
  | 0 => [[]]
  | n + 1 => (bits n).flatMap fun r => [r ++ [0], r ++ [1]]
theorem mem_bits : ∀ {n : Nat} {r : List Int}, r ∈ bits n ↔ r.length = n ∧ ∀ b ∈ r, b = 0 ∨ b = 1
  | 0, r => by
    simp only [bits, List.mem_singleton]
    constructor
    · rintro rfl; simp
    · rintro ⟨h, _⟩; exact List.length_eq_zero_iff.mp h
  | n + 1, r => by
    simp only [bits, List.mem_flatMap, List.mem_cons, List.not_mem_nil, or_false]
    constructor
    · rintro ⟨q, hq, h⟩
      obtain ⟨h1, h2⟩ := mem_bits.mp hq
      rcases h with rfl | rfl
      · refine ⟨by simp [h1], fun b hb => ?_⟩
        rcases List.mem_append.mp hb with hb | hb
        · exact h2 b hb
        · exact .inl (by simpa using hb)
      · refine ⟨by simp [h1], fun b hb => ?_⟩
        rcases List.mem_append.mp hb with hb | hb
        · exact h2 b hb
        · exact .inr (by simpa using hb)
    · rintro ⟨h1, h2⟩
      have hne : r ≠ [] := fun z => by rw [z] at h1; simp at h1
      have e := (List.dropLast_concat_getLast hne).symm
      refine ⟨r.dropLast, mem_bits.mpr ⟨by simp [h1], fun b hb => h2 b (List.dropLast_subset _ hb)⟩, ?_⟩
      rcases h2 _ (List.getLast_mem hne) with h3 | h3
      · left; rw [h3] at e; exact e
      · right; rw [h3] at e; exact e
/-- sorted at all bits: sorted -/
theorem zero_one {n : Nat} {e : List (Nat × Nat)} {l : List Int} (he : okE n e) (hl : l.length = n) (hb : ∀ r ∈ bits n, thr r e = srt r) : thr l e = srt l := by
  subst hl
  have p := thr_perm e (l := l) he
  refine asc_perm (asc_over fun s _ => ?_) (asc_srt l) (p.trans (srt_perm l).symm)
  rw [← thr_map (over_mono s) e he, hb (l.map (over s)) (mem_bits.mpr ⟨by simp, fun b hb => ?_⟩)]
  · exact asc_srt _
  · obtain ⟨x, _, rfl⟩ := List.mem_map.mp hb
    unfold over
    split <;> simp
def bad (e : List (Nat × Nat)) (r : List Int) : Bool := !decide (thr r e = srt r)
def bars (n : Nat) (e : List (Nat × Nat)) : List (List Int) := (bits n).filter (bad e)
theorem bars_nil {n : Nat} {e : List (Nat × Nat)} (h : bars n e = []) : ∀ r ∈ bits n, thr r e = srt r := by
  intro r hr
  unfold bars at h
  rw [List.filter_eq_nil_iff] at h
  have := h r hr
  simpa [bad] using this
end Z43

/-! Plain layer 4: loops with a state, equality and sorting of ints, the draws' box. -/
namespace TL
open PySem PySem.Spec PyProof.Rows L2 StX
/-! ### loops -/
/-- a loop over items enc x: slots P a o, store M a -/
theorem forL_st {α β : Type} {step : T → Env → M Fl} {enc : β → T} (P : α → Env → Prop) (S : α → Store) (f : α → β → α) (I : α → List β → Prop)
    (h : ∀ a ρ x r, P a ρ → I a (x :: r) → ∃ ρ', step (enc x) ρ (S a) = .ok (.nx ρ') (S (f a x)) ∧ P (f a x) ρ' ∧ I (f a x) r) :
    ∀ (xs : List β) (a : α) (ρ : Env), P a ρ → I a xs → ∃ ρ', forL step (xs.map enc) ρ (S a) = .ok (.nx ρ') (S (xs.foldl f a)) ∧ P (xs.foldl f a) ρ' ∧ I (xs.foldl f a) []
  | [], a, ρ, hp, hi => ⟨ρ, rfl, hp, hi⟩
  | x :: xs, a, ρ, hp, hi => by
    obtain ⟨ρ1, h1, h2, h3⟩ := h a ρ x xs hp hi
    obtain ⟨ρ2, h4, h5⟩ := forL_st P S f I h xs (f a x) ρ1 h2 h3
    refine ⟨ρ2, ?_, h5⟩
    show M.bind (step (enc x) ρ) _ _ = _
    rw [x_bind, h1]
    exact h4
/-- a loop that changes nothing but slots -/
theorem forL_go {β : Type} {step : T → Env → M Fl} {enc : β → T} (P : Env → Prop) {μ : Store} : ∀ (xs : List β) (ρ : Env), (∀ x ∈ xs, ∀ ρ, P ρ → ∃ ρ', step (enc x) ρ μ = .ok (.nx ρ') μ ∧ P ρ') → P ρ → ∃ ρ', forL step (xs.map enc) ρ μ = .ok (.nx ρ') μ ∧ P ρ'
  | [], ρ, h, hp => ⟨ρ, rfl, hp⟩
  | x :: xs, ρ, h, hp => by
    obtain ⟨ρ1, h1, h2⟩ := h x List.mem_cons_self ρ hp
    obtain ⟨ρ2, h4, h5⟩ := forL_go P xs ρ1 (fun y hy => h y (List.mem_cons_of_mem _ hy)) h2
    refine ⟨ρ2, ?_, h5⟩
    show M.bind (step (enc x) ρ) _ _ = _
    rw [x_bind, h1]
    exact h4
/-- a loop that answers at the first item that p tells -/
theorem forL_find {β : Type} {step : T → Env → M Fl} {enc : β → T} (P : Env → Prop) (p : β → Bool) (g : β → T) {μ : Store} : ∀ (xs : List β) (ρ : Env), (∀ x ∈ xs, ∀ ρ, P ρ → (p x = true → step (enc x) ρ μ = .ok (.rt (g x)) μ) ∧ (p x = false → ∃ ρ', step (enc x) ρ μ = .ok (.nx ρ') μ ∧ P ρ')) → P ρ →
    (∀ x, xs.find? p = some x → forL step (xs.map enc) ρ μ = .ok (.rt (g x)) μ) ∧ (xs.find? p = none → ∃ ρ', forL step (xs.map enc) ρ μ = .ok (.nx ρ') μ ∧ P ρ')
  | [], ρ, h, hp => ⟨fun x hx => (nomatch hx), fun _ => ⟨ρ, rfl, hp⟩⟩
  | x :: xs, ρ, h, hp => by
    have hx := h x List.mem_cons_self ρ hp
    cases e : p x with
    | true =>
      have h1 := hx.1 e
      refine ⟨fun y hy => ?_, fun hn => ?_⟩
      · rw [List.find?_cons_of_pos e] at hy
        cases hy
        show M.bind (step (enc x) ρ) _ _ = _
        rw [x_bind, h1]
        rfl
      · rw [List.find?_cons_of_pos e] at hn
        cases hn
    | false =>
      obtain ⟨ρ1, h1, h2⟩ := hx.2 e
      have r := forL_find P p g xs ρ1 (fun y hy => h y (List.mem_cons_of_mem _ hy)) h2
      have e' : ¬ p x = true := by rw [e]; exact Bool.false_ne_true
      refine ⟨fun y hy => ?_, fun hn => ?_⟩
      · rw [List.find?_cons_of_neg e'] at hy
        show M.bind (step (enc x) ρ) _ _ = _
        rw [x_bind, h1]
        exact r.1 y hy
      · rw [List.find?_cons_of_neg e'] at hn
        obtain ⟨ρ2, h3⟩ := r.2 hn
        refine ⟨ρ2, ?_, h3.2⟩
        show M.bind (step (enc x) ρ) _ _ = _
        rw [x_bind, h1]
        exact h3.1
/-- a comprehension with a condition -/
theorem lcL_filter {β : Type} {step : T → M (Option T)} {e : β → T} {p : β → Bool} {g : β → T} {μ : Store} : ∀ {xs : List β}, (∀ x ∈ xs, step (e x) μ = .ok (bif p x then some (g x) else none) μ) → lcL step (xs.map e) μ = .ok ((xs.filter p).map g) μ
  | [], _ => rfl
  | x :: xs, h => by
    show M.bind (noErr (step (e x))) _ μ = _
    rw [x_bind]
    unfold noErr
    rw [h x List.mem_cons_self]
    show M.bind (lcL step (xs.map e)) _ μ = _
    rw [x_bind, lcL_filter fun y hy => h y (List.mem_cons_of_mem _ hy)]
    cases hp : p x with
    | true => rw [List.filter_cons_of_pos hp]; rfl
    | false => rw [List.filter_cons_of_neg (by rw [hp]; exact Bool.false_ne_true)]; rfl
theorem x_lc0 {step : T → M (Option T)} {μ : Store} : lcL step [] μ = .ok [] μ := rfl
theorem x_lc1 {step : T → M (Option T)} {x : T} {xs : List T} {μ : Store} : lcL step (x :: xs) μ = (noErr (step x) μ).bind fun o => M.bind (lcL step xs) fun r => M.pure (o.toList ++ r) := Eq.trans rfl rfl
def noErrR {α : Type} : R α → R α
  | .err _ _ => .no
  | r => r
theorem x_noErr {α : Type} {m : M α} {μ : Store} : noErr m μ = noErrR (m μ) := by
  unfold noErr noErrR
  cases m μ <;> rfl
theorem x_noErrR {α : Type} {a : α} {μ : Store} : noErrR (.ok a μ) = .ok a μ := Eq.trans rfl rfl
theorem x_lcs {α : Type} {x : α} {xs : List α} : (some x).toList ++ xs = x :: xs := rfl
theorem x_lcn {α : Type} {xs : List α} : (none : Option α).toList ++ xs = xs := rfl
theorem lcL_go {step : T → M (Option T)} {g : T → T} {μ : Store} {xs : List T} (h : ∀ x ∈ xs, step x μ = .ok (some (g x)) μ) : lcL step xs μ = .ok (xs.map g) μ := by
  have := lcL_map (e := id) (g := g) (xs := xs) h
  rwa [List.map_id] at this
/-! ### == -/
mutual
/-- data without bools and dicts, of the plain kinds -/
def nb : T → Bool
  | .non => true
  | .int _ => true
  | .str _ => true
  | .lst xs => nbs xs
  | .tup xs => nbs xs
  | _ => false
def nbs : List T → Bool
  | [] => true
  | x :: xs => nb x && nbs xs
end
mutual
theorem eqv_nb : ∀ d e : T, nb d = true → nb e = true → (PyData.eqv (toD d) (toD e) = true ↔ d = e)
  | .non, e, _, he => by cases e <;> simp_all [toD, PyData.eqv, nb]
  | .int i, e, _, he => by cases e <;> simp_all [toD, PyData.eqv, nb]
  | .str x, e, _, he => by cases e <;> simp_all [toD, PyData.eqv, nb]
  | .lst xs, e, hd, he => by
    cases e with
    | lst ys =>
      simp only [toD, PyData.eqv, T.lst.injEq]
      exact eqvs_nb xs ys (by simpa only [nb] using hd) (by simpa only [nb] using he)
    | _ => simp_all [toD, PyData.eqv, nb]
  | .tup xs, e, hd, he => by
    cases e with
    | tup ys =>
      simp only [toD, PyData.eqv, T.tup.injEq]
      exact eqvs_nb xs ys (by simpa only [nb] using hd) (by simpa only [nb] using he)
    | _ => simp_all [toD, PyData.eqv, nb]
  | .bl _, _, h, _ => by simp [nb] at h
  | .fls _, _, h, _ => by simp [nb] at h
  | .ftp _, _, h, _ => by simp [nb] at h
  | .dic _ _, _, h, _ => by simp [nb] at h
  | .cell _, _, h, _ => by simp [nb] at h
  | .ref _, _, h, _ => by simp [nb] at h
  | .ty _, _, h, _ => by simp [nb] at h
theorem eqvs_nb : ∀ ds es : List T, nbs ds = true → nbs es = true → (PyData.eqvAll (toDs ds) (toDs es) = true ↔ ds = es)
  | [], [], _, _ => by simp [toDs, PyData.eqvAll]
  | [], _ :: _, _, _ => by simp [toDs, PyData.eqvAll]
  | _ :: _, [], _, _ => by simp [toDs, PyData.eqvAll]
  | x :: xs, y :: ys, hd, he => by
    simp only [nbs, Bool.and_eq_true] at hd he
    simp only [toDs, PyData.eqvAll, Bool.and_eq_true, List.cons.injEq, eqv_nb x y hd.1 he.1, eqvs_nb xs ys hd.2 he.2]
end
theorem eqvb {d e : T} (P : Prop) [Decidable P] (hd : nb d = true) (he : nb e = true) (h : d = e ↔ P) : PyData.eqv (toD d) (toD e) = decide P := by
  rw [Bool.eq_iff_iff, eqv_nb d e hd he, h, decide_eq_true_eq]
theorem x_eqP {d e : T} {μ : Store} (P : Prop) [Decidable P] (hd : nb d = true) (he : nb e = true) (sd : shp d = true) (se : shp e = true) (h : d = e ↔ P) : gEq d e μ = .ok (.bl (decide P)) μ := by
  have q : gEqD d e μ = .ok (.bl (decide P)) μ := by
    unfold gEqD
    rw [sd, se, eqvb P hd he h]
    rfl
  cases d with
  | str x =>
    cases e with
    | str y =>
      rw [x_ess]
      have : (x = y) ↔ P := by rw [← h]; simp
      rw [decide_eq_decide.mpr this]
    | _ => exact q
  | _ => exact q
theorem x_neP {d e : T} {μ : Store} (P : Prop) [Decidable P] (hd : nb d = true) (he : nb e = true) (sd : shp d = true) (se : shp e = true) (h : d = e ↔ P) : gNe d e μ = .ok (.bl (!decide P)) μ := by
  have q : gNeD d e μ = .ok (.bl (!decide P)) μ := by
    unfold gNeD
    rw [sd, se, eqvb P hd he h]
    rfl
  cases d with
  | str x =>
    cases e with
    | str y =>
      rw [x_nss]
      have : (x = y) ↔ P := by rw [← h]; simp
      rw [decide_eq_decide.mpr this]
    | _ => exact q
  | _ => exact q
/-! ### lists and tuples of ints -/
theorem ixN_nat {n i : Nat} (h : i < n) : ixN n (i : Int) = some i := by
  unfold ixN
  simp [h]
abbrev lsI (xs : List Int) : T := .lst (xs.map T.int)
abbrev tpI (xs : List Int) : T := .tup (xs.map T.int)
theorem map_int_inj {xs ys : List Int} : xs.map T.int = ys.map T.int ↔ xs = ys := ⟨fun h => List.map_inj_right (fun _ _ e => T.int.inj e) |>.mp h, fun h => by rw [h]⟩
theorem nbs_ints (xs : List Int) : nbs (xs.map T.int) = true := by
  induction xs with
  | nil => simp only [List.map_nil, nbs]
  | cons x xs ih => simp only [List.map_cons, nbs, nb, ih, Bool.and_self]
theorem okTs_ints (xs : List Int) : okTs (xs.map T.int) = true := by
  induction xs with
  | nil => simp only [List.map_nil, okTs]
  | cons x xs ih => simp only [List.map_cons, okTs, okT, ih, Bool.and_self]
theorem dep_ints (xs : List Int) : PyData.depthAll (toDs (xs.map T.int)) = 0 := by
  induction xs with
  | nil => simp only [List.map_nil, toDs, PyData.depthAll]
  | cons x xs ih => simp only [List.map_cons, toDs, toD, PyData.depthAll, PyData.depth, ih]; rfl
theorem shp_lsI (xs : List Int) : shp (lsI xs) = true := by
  unfold shp
  simp only [okT, toD, PyData.depth, okTs_ints, dep_ints]
  rfl
theorem shp_tpI (xs : List Int) : shp (tpI xs) = true := by
  unfold shp
  simp only [okT, toD, PyData.depth, okTs_ints, dep_ints]
  rfl
theorem x_eqlI (xs ys : List Int) {μ : Store} : gEq (lsI xs) (lsI ys) μ = .ok (.bl (decide (xs = ys))) μ :=
  x_eqP _ (by simp only [nb, nbs_ints]) (by simp only [nb, nbs_ints]) (shp_lsI _) (shp_lsI _) (by rw [T.lst.injEq, map_int_inj])
theorem x_nelI (xs ys : List Int) {μ : Store} : gNe (lsI xs) (lsI ys) μ = .ok (.bl (!decide (xs = ys))) μ :=
  x_neP _ (by simp only [nb, nbs_ints]) (by simp only [nb, nbs_ints]) (shp_lsI _) (shp_lsI _) (by rw [T.lst.injEq, map_int_inj])
theorem x_netI (xs ys : List Int) {μ : Store} : gNe (tpI xs) (tpI ys) μ = .ok (.bl (!decide (xs = ys))) μ :=
  x_neP _ (by simp only [nb, nbs_ints]) (by simp only [nb, nbs_ints]) (shp_tpI _) (shp_tpI _) (by rw [T.tup.injEq, map_int_inj])
theorem x_eqtI (xs ys : List Int) {μ : Store} : gEq (tpI xs) (tpI ys) μ = .ok (.bl (decide (xs = ys))) μ :=
  x_eqP _ (by simp only [nb, nbs_ints]) (by simp only [nb, nbs_ints]) (shp_tpI _) (shp_tpI _) (by rw [T.tup.injEq, map_int_inj])
theorem p_ints (xs : List Int) : pureTs (xs.map T.int) = true := p_map xs fun x _ => p_int x
theorem at_0 {d : T} {ds : List T} : atI (d :: ds) 0 = some d := by
  have e : ixN (d :: ds).length 0 = some 0 := ixN_nat (i := 0) (by simp)
  unfold atI
  rw [e]
  rfl
theorem at_1 {d d' : T} {ds : List T} : atI (d :: d' :: ds) 1 = some d' := by
  have e : ixN (d :: d' :: ds).length 1 = some 1 := ixN_nat (i := 1) (by simp)
  unfold atI
  rw [e]
  rfl
theorem p_lsI (xs : List Int) : pureT (lsI xs) = true := by rw [p_lst]; exact p_map xs fun x _ => p_int x
theorem p_tpI (xs : List Int) : pureT (tpI xs) = true := by rw [p_tup]; exact p_map xs fun x _ => p_int x
/-! ### sorting ints -/
theorem leT_int (a b : Int) : leT (.int a) (.int b) = decide (a ≤ b) := by
  have e : PySem.W.dataLt (toD (.int b)) (toD (.int a)) = decide (b < a) := by
    simp only [toD, PySem.W.dataLt, PySem.W.keyToks]
    show (decide (b < a) || (!decide (a < b) && false)) = _
    simp
  unfold leT
  rw [e]
  by_cases h : a ≤ b
  · rw [decide_eq_true h, decide_eq_false (by omega)]; rfl
  · rw [decide_eq_false h, decide_eq_true (by omega)]; rfl
theorem isort_ints (xs : List Int) : isort (xs.map T.int) = (Z43.srt xs).map T.int := by
  induction xs with
  | nil => rfl
  | cons x xs ih =>
    show insT (.int x) (isort (xs.map T.int)) = _
    rw [ih]
    show _ = (Z43.insI x (Z43.srt xs)).map T.int
    generalize Z43.srt xs = ys
    induction ys with
    | nil => rfl
    | cons y ys ih2 =>
      show (if leT (.int x) (.int y) = true then _ else _) = _
      rw [leT_int]
      unfold Z43.insI
      cases decide (x ≤ y) with
      | true => rfl
      | false =>
        rw [if_neg Bool.false_ne_true, ih2]
        rfl
theorem srtOk_ints {xs : List Int} (h : xs.length ≤ 16777216) : srtOk (xs.map T.int) = true := by
  have a : (xs.map T.int).all (fun d => shp d) = true := by
    rw [List.all_eq_true]
    intro x hx
    obtain ⟨i, _, rfl⟩ := List.mem_map.mp hx
    exact shp_int
  have b : alikeTs (xs.map T.int) = true := by
    unfold alikeTs
    rw [List.all_eq_true]
    intro x hx
    obtain ⟨i, _, rfl⟩ := List.mem_map.mp hx
    rw [List.all_eq_true]
    intro y hy
    obtain ⟨j, _, rfl⟩ := List.mem_map.mp hy
    simp only [toD, PySem.W.alike]
  have c : (xs.map T.int).all noTup = true := by
    rw [List.all_eq_true]
    intro x hx
    obtain ⟨i, _, rfl⟩ := List.mem_map.mp hx
    rfl
  unfold srtOk
  rw [a, b, c, fits_of (by simpa using h)]
  simp
theorem x_srtl {xs : List Int} {μ : Store} (h : xs.length ≤ 16777216) : gSortA [lsI xs] μ = .ok ((Z43.srt xs).map T.int) μ := by
  show gSorted [.lst (xs.map T.int)] μ = _
  rw [x_sort, srtOk_ints h, isort_ints]
  rfl
theorem x_srtt {xs : List Int} {μ : Store} (h : xs.length ≤ 16777216) : gSortA [tpI xs] μ = .ok ((Z43.srt xs).map T.int) μ := by
  rw [← x_srtl h]
  rfl
/-! ### bounds that loops need -/
theorem okL_of {ds : List T} {μ : Store} (h : ds.length ≤ 16777216) : okL ds μ = .ok ds μ := by
  rw [x_okL, fits_of h]
  rfl
theorem atI_int {xs : List Int} {i : Nat} (h : i < xs.length) : atI (xs.map T.int) (i : Int) = some (.int (xs.getD i 0)) := by
  unfold atI ixN
  simp [h, List.getD]
/-! ### isinstance, small numbers -/
section
variable {i : Int} {b : Bool} {s : Str} {ds : List T} {μ : Store}
theorem is_i_int : gIsi (.int i) (.ty "int") μ = .ok (.bl true) μ := by
  have e : clsNames.contains "int" = true := by decide +kernel
  have f : isiP "int" "int" = true := by decide +kernel
  unfold gIsi
  show (bif clsNames.contains "int" then M.pure (T.bl (isiP "int" "int")) else M.no) μ = _
  rw [e, f]
  rfl
theorem is_i_bool : gIsi (.int i) (.ty "bool") μ = .ok (.bl false) μ := by
  have e : clsNames.contains "bool" = true := by decide +kernel
  have f : isiP "int" "bool" = false := by decide +kernel
  unfold gIsi
  show (bif clsNames.contains "bool" then M.pure (T.bl (isiP "int" "bool")) else M.no) μ = _
  rw [e, f]
  rfl
theorem is_i_str : gIsi (.int i) (.ty "str") μ = .ok (.bl false) μ := by
  have e : clsNames.contains "str" = true := by decide +kernel
  have f : isiP "int" "str" = false := by decide +kernel
  unfold gIsi
  show (bif clsNames.contains "str" then M.pure (T.bl (isiP "int" "str")) else M.no) μ = _
  rw [e, f]
  rfl
theorem is_i_tuple : gIsi (.int i) (.ty "tuple") μ = .ok (.bl false) μ := by
  have e : clsNames.contains "tuple" = true := by decide +kernel
  have f : isiP "int" "tuple" = false := by decide +kernel
  unfold gIsi
  show (bif clsNames.contains "tuple" then M.pure (T.bl (isiP "int" "tuple")) else M.no) μ = _
  rw [e, f]
  rfl
theorem is_i_list : gIsi (.int i) (.ty "list") μ = .ok (.bl false) μ := by
  have e : clsNames.contains "list" = true := by decide +kernel
  have f : isiP "int" "list" = false := by decide +kernel
  unfold gIsi
  show (bif clsNames.contains "list" then M.pure (T.bl (isiP "int" "list")) else M.no) μ = _
  rw [e, f]
  rfl
theorem is_i_dict : gIsi (.int i) (.ty "dict") μ = .ok (.bl false) μ := by
  have e : clsNames.contains "dict" = true := by decide +kernel
  have f : isiP "int" "dict" = false := by decide +kernel
  unfold gIsi
  show (bif clsNames.contains "dict" then M.pure (T.bl (isiP "int" "dict")) else M.no) μ = _
  rw [e, f]
  rfl
theorem is_b_int : gIsi (.bl b) (.ty "int") μ = .ok (.bl true) μ := by
  have e : clsNames.contains "int" = true := by decide +kernel
  have f : isiP "bool" "int" = true := by decide +kernel
  unfold gIsi
  show (bif clsNames.contains "int" then M.pure (T.bl (isiP "bool" "int")) else M.no) μ = _
  rw [e, f]
  rfl
theorem is_b_bool : gIsi (.bl b) (.ty "bool") μ = .ok (.bl true) μ := by
  have e : clsNames.contains "bool" = true := by decide +kernel
  have f : isiP "bool" "bool" = true := by decide +kernel
  unfold gIsi
  show (bif clsNames.contains "bool" then M.pure (T.bl (isiP "bool" "bool")) else M.no) μ = _
  rw [e, f]
  rfl
theorem is_b_str : gIsi (.bl b) (.ty "str") μ = .ok (.bl false) μ := by
  have e : clsNames.contains "str" = true := by decide +kernel
  have f : isiP "bool" "str" = false := by decide +kernel
  unfold gIsi
  show (bif clsNames.contains "str" then M.pure (T.bl (isiP "bool" "str")) else M.no) μ = _
  rw [e, f]
  rfl
theorem is_b_tuple : gIsi (.bl b) (.ty "tuple") μ = .ok (.bl false) μ := by
  have e : clsNames.contains "tuple" = true := by decide +kernel
  have f : isiP "bool" "tuple" = false := by decide +kernel
  unfold gIsi
  show (bif clsNames.contains "tuple" then M.pure (T.bl (isiP "bool" "tuple")) else M.no) μ = _
  rw [e, f]
  rfl
theorem is_b_list : gIsi (.bl b) (.ty "list") μ = .ok (.bl false) μ := by
  have e : clsNames.contains "list" = true := by decide +kernel
  have f : isiP "bool" "list" = false := by decide +kernel
  unfold gIsi
  show (bif clsNames.contains "list" then M.pure (T.bl (isiP "bool" "list")) else M.no) μ = _
  rw [e, f]
  rfl
theorem is_b_dict : gIsi (.bl b) (.ty "dict") μ = .ok (.bl false) μ := by
  have e : clsNames.contains "dict" = true := by decide +kernel
  have f : isiP "bool" "dict" = false := by decide +kernel
  unfold gIsi
  show (bif clsNames.contains "dict" then M.pure (T.bl (isiP "bool" "dict")) else M.no) μ = _
  rw [e, f]
  rfl
theorem is_s_int : gIsi (.str s) (.ty "int") μ = .ok (.bl false) μ := by
  have e : clsNames.contains "int" = true := by decide +kernel
  have f : isiP "str" "int" = false := by decide +kernel
  unfold gIsi
  show (bif clsNames.contains "int" then M.pure (T.bl (isiP "str" "int")) else M.no) μ = _
  rw [e, f]
  rfl
theorem is_s_bool : gIsi (.str s) (.ty "bool") μ = .ok (.bl false) μ := by
  have e : clsNames.contains "bool" = true := by decide +kernel
  have f : isiP "str" "bool" = false := by decide +kernel
  unfold gIsi
  show (bif clsNames.contains "bool" then M.pure (T.bl (isiP "str" "bool")) else M.no) μ = _
  rw [e, f]
  rfl
theorem is_s_str : gIsi (.str s) (.ty "str") μ = .ok (.bl true) μ := by
  have e : clsNames.contains "str" = true := by decide +kernel
  have f : isiP "str" "str" = true := by decide +kernel
  unfold gIsi
  show (bif clsNames.contains "str" then M.pure (T.bl (isiP "str" "str")) else M.no) μ = _
  rw [e, f]
  rfl
theorem is_s_tuple : gIsi (.str s) (.ty "tuple") μ = .ok (.bl false) μ := by
  have e : clsNames.contains "tuple" = true := by decide +kernel
  have f : isiP "str" "tuple" = false := by decide +kernel
  unfold gIsi
  show (bif clsNames.contains "tuple" then M.pure (T.bl (isiP "str" "tuple")) else M.no) μ = _
  rw [e, f]
  rfl
theorem is_s_list : gIsi (.str s) (.ty "list") μ = .ok (.bl false) μ := by
  have e : clsNames.contains "list" = true := by decide +kernel
  have f : isiP "str" "list" = false := by decide +kernel
  unfold gIsi
  show (bif clsNames.contains "list" then M.pure (T.bl (isiP "str" "list")) else M.no) μ = _
  rw [e, f]
  rfl
theorem is_s_dict : gIsi (.str s) (.ty "dict") μ = .ok (.bl false) μ := by
  have e : clsNames.contains "dict" = true := by decide +kernel
  have f : isiP "str" "dict" = false := by decide +kernel
  unfold gIsi
  show (bif clsNames.contains "dict" then M.pure (T.bl (isiP "str" "dict")) else M.no) μ = _
  rw [e, f]
  rfl
theorem is_l_int : gIsi (.lst ds) (.ty "int") μ = .ok (.bl false) μ := by
  have e : clsNames.contains "int" = true := by decide +kernel
  have f : isiP "list" "int" = false := by decide +kernel
  unfold gIsi
  show (bif clsNames.contains "int" then M.pure (T.bl (isiP "list" "int")) else M.no) μ = _
  rw [e, f]
  rfl
theorem is_l_bool : gIsi (.lst ds) (.ty "bool") μ = .ok (.bl false) μ := by
  have e : clsNames.contains "bool" = true := by decide +kernel
  have f : isiP "list" "bool" = false := by decide +kernel
  unfold gIsi
  show (bif clsNames.contains "bool" then M.pure (T.bl (isiP "list" "bool")) else M.no) μ = _
  rw [e, f]
  rfl
theorem is_l_str : gIsi (.lst ds) (.ty "str") μ = .ok (.bl false) μ := by
  have e : clsNames.contains "str" = true := by decide +kernel
  have f : isiP "list" "str" = false := by decide +kernel
  unfold gIsi
  show (bif clsNames.contains "str" then M.pure (T.bl (isiP "list" "str")) else M.no) μ = _
  rw [e, f]
  rfl
theorem is_l_tuple : gIsi (.lst ds) (.ty "tuple") μ = .ok (.bl false) μ := by
  have e : clsNames.contains "tuple" = true := by decide +kernel
  have f : isiP "list" "tuple" = false := by decide +kernel
  unfold gIsi
  show (bif clsNames.contains "tuple" then M.pure (T.bl (isiP "list" "tuple")) else M.no) μ = _
  rw [e, f]
  rfl
theorem is_l_list : gIsi (.lst ds) (.ty "list") μ = .ok (.bl true) μ := by
  have e : clsNames.contains "list" = true := by decide +kernel
  have f : isiP "list" "list" = true := by decide +kernel
  unfold gIsi
  show (bif clsNames.contains "list" then M.pure (T.bl (isiP "list" "list")) else M.no) μ = _
  rw [e, f]
  rfl
theorem is_l_dict : gIsi (.lst ds) (.ty "dict") μ = .ok (.bl false) μ := by
  have e : clsNames.contains "dict" = true := by decide +kernel
  have f : isiP "list" "dict" = false := by decide +kernel
  unfold gIsi
  show (bif clsNames.contains "dict" then M.pure (T.bl (isiP "list" "dict")) else M.no) μ = _
  rw [e, f]
  rfl
theorem is_t_int : gIsi (.tup ds) (.ty "int") μ = .ok (.bl false) μ := by
  have e : clsNames.contains "int" = true := by decide +kernel
  have f : isiP "tuple" "int" = false := by decide +kernel
  unfold gIsi
  show (bif clsNames.contains "int" then M.pure (T.bl (isiP "tuple" "int")) else M.no) μ = _
  rw [e, f]
  rfl
theorem is_t_bool : gIsi (.tup ds) (.ty "bool") μ = .ok (.bl false) μ := by
  have e : clsNames.contains "bool" = true := by decide +kernel
  have f : isiP "tuple" "bool" = false := by decide +kernel
  unfold gIsi
  show (bif clsNames.contains "bool" then M.pure (T.bl (isiP "tuple" "bool")) else M.no) μ = _
  rw [e, f]
  rfl
theorem is_t_str : gIsi (.tup ds) (.ty "str") μ = .ok (.bl false) μ := by
  have e : clsNames.contains "str" = true := by decide +kernel
  have f : isiP "tuple" "str" = false := by decide +kernel
  unfold gIsi
  show (bif clsNames.contains "str" then M.pure (T.bl (isiP "tuple" "str")) else M.no) μ = _
  rw [e, f]
  rfl
theorem is_t_tuple : gIsi (.tup ds) (.ty "tuple") μ = .ok (.bl true) μ := by
  have e : clsNames.contains "tuple" = true := by decide +kernel
  have f : isiP "tuple" "tuple" = true := by decide +kernel
  unfold gIsi
  show (bif clsNames.contains "tuple" then M.pure (T.bl (isiP "tuple" "tuple")) else M.no) μ = _
  rw [e, f]
  rfl
theorem is_t_list : gIsi (.tup ds) (.ty "list") μ = .ok (.bl false) μ := by
  have e : clsNames.contains "list" = true := by decide +kernel
  have f : isiP "tuple" "list" = false := by decide +kernel
  unfold gIsi
  show (bif clsNames.contains "list" then M.pure (T.bl (isiP "tuple" "list")) else M.no) μ = _
  rw [e, f]
  rfl
theorem is_t_dict : gIsi (.tup ds) (.ty "dict") μ = .ok (.bl false) μ := by
  have e : clsNames.contains "dict" = true := by decide +kernel
  have f : isiP "tuple" "dict" = false := by decide +kernel
  unfold gIsi
  show (bif clsNames.contains "dict" then M.pure (T.bl (isiP "tuple" "dict")) else M.no) μ = _
  rw [e, f]
  rfl
theorem is_n_int : gIsi .non (.ty "int") μ = .ok (.bl false) μ := by
  have e : clsNames.contains "int" = true := by decide +kernel
  have f : isiP "NoneType" "int" = false := by decide +kernel
  unfold gIsi
  show (bif clsNames.contains "int" then M.pure (T.bl (isiP "NoneType" "int")) else M.no) μ = _
  rw [e, f]
  rfl
theorem is_n_bool : gIsi .non (.ty "bool") μ = .ok (.bl false) μ := by
  have e : clsNames.contains "bool" = true := by decide +kernel
  have f : isiP "NoneType" "bool" = false := by decide +kernel
  unfold gIsi
  show (bif clsNames.contains "bool" then M.pure (T.bl (isiP "NoneType" "bool")) else M.no) μ = _
  rw [e, f]
  rfl
theorem is_n_str : gIsi .non (.ty "str") μ = .ok (.bl false) μ := by
  have e : clsNames.contains "str" = true := by decide +kernel
  have f : isiP "NoneType" "str" = false := by decide +kernel
  unfold gIsi
  show (bif clsNames.contains "str" then M.pure (T.bl (isiP "NoneType" "str")) else M.no) μ = _
  rw [e, f]
  rfl
theorem is_n_tuple : gIsi .non (.ty "tuple") μ = .ok (.bl false) μ := by
  have e : clsNames.contains "tuple" = true := by decide +kernel
  have f : isiP "NoneType" "tuple" = false := by decide +kernel
  unfold gIsi
  show (bif clsNames.contains "tuple" then M.pure (T.bl (isiP "NoneType" "tuple")) else M.no) μ = _
  rw [e, f]
  rfl
theorem is_n_list : gIsi .non (.ty "list") μ = .ok (.bl false) μ := by
  have e : clsNames.contains "list" = true := by decide +kernel
  have f : isiP "NoneType" "list" = false := by decide +kernel
  unfold gIsi
  show (bif clsNames.contains "list" then M.pure (T.bl (isiP "NoneType" "list")) else M.no) μ = _
  rw [e, f]
  rfl
theorem is_n_dict : gIsi .non (.ty "dict") μ = .ok (.bl false) μ := by
  have e : clsNames.contains "dict" = true := by decide +kernel
  have f : isiP "NoneType" "dict" = false := by decide +kernel
  unfold gIsi
  show (bif clsNames.contains "dict" then M.pure (T.bl (isiP "NoneType" "dict")) else M.no) μ = _
  rw [e, f]
  rfl
theorem is_p_int : gIsi (.ftp ds) (.ty "int") μ = .ok (.bl false) μ := by
  have e : clsNames.contains "int" = true := by decide +kernel
  have f : isiP "tuple" "int" = false := by decide +kernel
  unfold gIsi
  show (bif clsNames.contains "int" then M.pure (T.bl (isiP "tuple" "int")) else M.no) μ = _
  rw [e, f]
  rfl
theorem is_p_bool : gIsi (.ftp ds) (.ty "bool") μ = .ok (.bl false) μ := by
  have e : clsNames.contains "bool" = true := by decide +kernel
  have f : isiP "tuple" "bool" = false := by decide +kernel
  unfold gIsi
  show (bif clsNames.contains "bool" then M.pure (T.bl (isiP "tuple" "bool")) else M.no) μ = _
  rw [e, f]
  rfl
theorem is_p_str : gIsi (.ftp ds) (.ty "str") μ = .ok (.bl false) μ := by
  have e : clsNames.contains "str" = true := by decide +kernel
  have f : isiP "tuple" "str" = false := by decide +kernel
  unfold gIsi
  show (bif clsNames.contains "str" then M.pure (T.bl (isiP "tuple" "str")) else M.no) μ = _
  rw [e, f]
  rfl
theorem is_p_tuple : gIsi (.ftp ds) (.ty "tuple") μ = .ok (.bl true) μ := by
  have e : clsNames.contains "tuple" = true := by decide +kernel
  have f : isiP "tuple" "tuple" = true := by decide +kernel
  unfold gIsi
  show (bif clsNames.contains "tuple" then M.pure (T.bl (isiP "tuple" "tuple")) else M.no) μ = _
  rw [e, f]
  rfl
theorem is_p_list : gIsi (.ftp ds) (.ty "list") μ = .ok (.bl false) μ := by
  have e : clsNames.contains "list" = true := by decide +kernel
  have f : isiP "tuple" "list" = false := by decide +kernel
  unfold gIsi
  show (bif clsNames.contains "list" then M.pure (T.bl (isiP "tuple" "list")) else M.no) μ = _
  rw [e, f]
  rfl
theorem is_p_dict : gIsi (.ftp ds) (.ty "dict") μ = .ok (.bl false) μ := by
  have e : clsNames.contains "dict" = true := by decide +kernel
  have f : isiP "tuple" "dict" = false := by decide +kernel
  unfold gIsi
  show (bif clsNames.contains "dict" then M.pure (T.bl (isiP "tuple" "dict")) else M.no) μ = _
  rw [e, f]
  rfl
end
theorem fi_0 : fits (0) = true := rfl
theorem be_0 : ((0 : Nat) == 0) = true := rfl
theorem n_1 : ((0 + 1 : Nat) : Int) = 1 := rfl
theorem fi_1 : fits (0 + 1) = true := rfl
theorem be_1 : ((0 + 1 : Nat) == 1) = true := rfl
theorem n_2 : ((0 + 1 + 1 : Nat) : Int) = 2 := rfl
theorem fi_2 : fits (0 + 1 + 1) = true := rfl
theorem be_2 : ((0 + 1 + 1 : Nat) == 2) = true := rfl
theorem n_3 : ((0 + 1 + 1 + 1 : Nat) : Int) = 3 := rfl
theorem fi_3 : fits (0 + 1 + 1 + 1) = true := rfl
theorem be_3 : ((0 + 1 + 1 + 1 : Nat) == 3) = true := rfl
theorem n_4 : ((0 + 1 + 1 + 1 + 1 : Nat) : Int) = 4 := rfl
theorem fi_4 : fits (0 + 1 + 1 + 1 + 1) = true := rfl
theorem be_4 : ((0 + 1 + 1 + 1 + 1 : Nat) == 4) = true := rfl
theorem n_5 : ((0 + 1 + 1 + 1 + 1 + 1 : Nat) : Int) = 5 := rfl
theorem fi_5 : fits (0 + 1 + 1 + 1 + 1 + 1) = true := rfl
theorem be_5 : ((0 + 1 + 1 + 1 + 1 + 1 : Nat) == 5) = true := rfl
theorem n_6 : ((0 + 1 + 1 + 1 + 1 + 1 + 1 : Nat) : Int) = 6 := rfl
theorem fi_6 : fits (0 + 1 + 1 + 1 + 1 + 1 + 1) = true := rfl
theorem be_6 : ((0 + 1 + 1 + 1 + 1 + 1 + 1 : Nat) == 6) = true := rfl
theorem n_7 : ((0 + 1 + 1 + 1 + 1 + 1 + 1 + 1 : Nat) : Int) = 7 := rfl
theorem fi_7 : fits (0 + 1 + 1 + 1 + 1 + 1 + 1 + 1) = true := rfl
theorem be_7 : ((0 + 1 + 1 + 1 + 1 + 1 + 1 + 1 : Nat) == 7) = true := rfl
theorem n_8 : ((0 + 1 + 1 + 1 + 1 + 1 + 1 + 1 + 1 : Nat) : Int) = 8 := rfl
theorem fi_8 : fits (0 + 1 + 1 + 1 + 1 + 1 + 1 + 1 + 1) = true := rfl
theorem be_8 : ((0 + 1 + 1 + 1 + 1 + 1 + 1 + 1 + 1 : Nat) == 8) = true := rfl

end TL

/-! Plain layer 5: a box of draws among the cells. -/
namespace TL
open PySem PySem.Spec PyProof.Rows L2 StX
/-- the box at b holds what I says after n draws; the other cells are those of μ0; all cells are plain -/
structure Bx (I : Nat → List T → Prop) (b n : Nat) (μ0 μ : Store) : Prop where
  box : ∃ ds, μ[b]? = some ⟨true, .lst ds⟩ ∧ I n ds
  len : μ.length = μ0.length
  rest : ∀ k, k ≠ b → μ[k]? = μ0[k]?
  pure : ∀ c ∈ μ, pureO c.o = true
section
variable {I : Nat → List T → Prop} {b n m : Nat} {μ0 μ μ' : Store}
theorem Bx.all (h : Bx I b n μ0 μ) : μ.all (fun c => pureO c.o) = true := List.all_eq_true.mpr h.pure
theorem Bx.up (h : Bx I b n μ0 μ) (hm : ∀ ds, I n ds → I m ds) : Bx I b m μ0 μ := by
  obtain ⟨⟨ds, a1, a2⟩, h2, h3, h4⟩ := h
  exact ⟨⟨ds, a1, hm _ a2⟩, h2, h3, h4⟩
theorem Bx.lt (h : Bx I b n μ0 μ) : b < μ.length := by
  obtain ⟨ds, a1, _⟩ := h.box
  exact (List.getElem?_eq_some_iff.mp a1).1
theorem Bx.base (h : Bx I b n μ0 μ) : Bx I b n μ μ := ⟨h.box, rfl, fun _ _ => rfl, h.pure⟩
theorem Bx.set (h : Bx I b n μ0 μ) {ds : List T} (hd : I m ds) (hp : pureTs ds = true) : Bx I b m μ0 (μ.set b ⟨true, .lst ds⟩) := by
  obtain ⟨es, h1, _⟩ := h.box
  refine ⟨⟨ds, set_at h1, hd⟩, by rw [List.length_set]; exact h.len, fun k hk => by rw [List.getElem?_set_ne (Ne.symm hk)]; exact h.rest k hk, fun d hd => ?_⟩
  rcases List.mem_or_eq_of_mem_set hd with h1 | h1
  · exact h.pure d h1
  · rw [h1]; exact hp
/-- a new cell beside it -/
theorem Bx.more (h : Bx I b n μ0 μ) {c : Cel} (hc : pureO c.o = true) : Bx I b n (μ ++ [c]) (μ ++ [c]) := by
  obtain ⟨es, h1, h2⟩ := h.box
  refine ⟨⟨es, by rw [List.getElem?_append_left h.lt]; exact h1, h2⟩, rfl, fun _ _ => rfl, fun d hd => ?_⟩
  rcases List.mem_append.mp hd with h3 | h3
  · exact h.pure d h3
  · rw [List.mem_singleton.mp h3]; exact hc
/-- the cells behind are dropped -/
theorem Bx.back (h : Bx I b n μ0 μ) {r : Store} (h' : Bx I b m (μ ++ r) μ') : Bx I b m μ0 (μ'.take μ.length) := by
  have l := h'.len
  rw [List.length_append] at l
  obtain ⟨es, h1, h2⟩ := h'.box
  refine ⟨⟨es, by rw [List.getElem?_take_of_lt h.lt]; exact h1, h2⟩, by rw [List.length_take, ← h.len]; omega, fun k hk => ?_, fun d hd => h'.pure d (List.mem_of_mem_take hd)⟩
  by_cases hl : k < μ.length
  · rw [List.getElem?_take_of_lt hl, h'.rest k hk, List.getElem?_append_left hl]
    exact h.rest k hk
  · rw [List.getElem?_eq_none (by rw [List.length_take]; omega), List.getElem?_eq_none (by rw [← h.len]; omega)]
theorem cellargs {ds : List T} : pureTs (.cell b :: ds) = false := by rw [p_cons, p_cell]; rfl
theorem atI_mem {ds : List T} {v : Int} (h0 : 0 ≤ v) (h1 : v < ds.length) : ∃ d, atI ds v = some d ∧ d ∈ ds := by
  obtain ⟨k, rfl⟩ := Int.eq_ofNat_of_zero_le h0
  have hk : k < ds.length := by omega
  refine ⟨ds[k], ?_, List.getElem_mem hk⟩
  have := ixN_nat hk
  unfold atI
  rw [this]
  simp [hk]
end
/-- bounds of three numbers -/
def I3 (n : Nat) (ds : List T) : Prop := ∃ x y z : Int, ds = [.int x, .int y, .int z] ∧ 0 ≤ x ∧ 0 ≤ y ∧ y < 2 ^ 100 ∧ 0 ≤ z ∧ z ≤ n
theorem I3.up {n m : Nat} (h : n ≤ m) (ds : List T) : I3 n ds → I3 m ds := fun ⟨x, y, z, a, b, c, d, e, f⟩ => ⟨x, y, z, a, b, c, d, e, by omega⟩
theorem p_script (ns : List Int) : pureT (scriptT ns) = true := by
  unfold scriptT
  first | exact p_tpI ns | exact p_lsI ns | (rw [p_fls]; exact p_ints ns) | (rw [p_ftp]; exact p_ints ns)
end TL

/-! Plain layer 6: rows of ints as keys and in order; dicts of such; rows in rows. -/
namespace TL
open PySem PySem.Spec PyProof.Rows L2 StX
abbrev Lot := List Int
abbrev Pol := List (Lot × Int)
abbrev tmT (q : Lot × Int) : T := .tup [tpI q.1, .int q.2]
abbrev deT (es : Pol) : List (T × T) := es.map fun q => (tpI q.1, T.int q.2)
/-! ### order -/
theorem toDs_map (ds : List T) : toDs ds = ds.map toD := by
  induction ds with
  | nil => simp only [toDs, List.map_nil]
  | cons d ds ih => simp only [toDs, List.map_cons, ih]
theorem toDs_ints (a : Lot) : toDs (a.map T.int) = a.map PyData.int := by
  rw [toDs_map, List.map_map]
  apply List.map_congr_left
  intro i _
  simp only [Function.comp_apply, toD]
theorem toD_tpI (a : Lot) : toD (tpI a) = .tuple (a.map PyData.int) := by
  simp only [toD, toDs_ints]
theorem dlt_lot (a b : Lot) : PySem.W.dataLt (toD (tpI a)) (toD (tpI b)) = decide (a < b) := by
  rw [toD_tpI, toD_tpI, PySem.W.dataLt_tuple]
  exact PySem.W.dataLt_ints a b
theorem alike_lot (a b : Lot) : PySem.W.alike (toD (tpI a)) (toD (tpI b)) = true := by
  rw [toD_tpI, toD_tpI]
  simp only [PySem.W.alike]
  exact PySem.W.alike_ints a b
theorem x_ltLot (a b : Lot) {μ : Store} : gLt (tpI a) (tpI b) μ = .ok (.bl (decide (a < b))) μ := by
  show (bif shp (tpI a) && shp (tpI b) && PySem.W.alike (toD (tpI a)) (toD (tpI b)) && notNon (tpI a) then M.pure (T.bl (PySem.W.dataLt (toD (tpI a)) (toD (tpI b)))) else M.no) μ = _
  rw [shp_tpI, shp_tpI, alike_lot, dlt_lot]
  rfl
theorem leT_lot (a b : Lot) : leT (tpI a) (tpI b) = decide (a ≤ b) := by
  unfold leT
  rw [dlt_lot]
  by_cases h : b < a
  · rw [decide_eq_true h, decide_eq_false (by exact fun z => z h)]; rfl
  · rw [decide_eq_false h, decide_eq_true (by exact h)]; rfl
def lsrt (ls : List Lot) : List Lot := ls.mergeSort fun a b => decide (a ≤ b)
theorem lsrt_perm (ls : List Lot) : (lsrt ls).Perm ls := List.mergeSort_perm _ _
theorem lsrt_asc {ls : List Lot} (h : ls.Nodup) : (lsrt ls).Pairwise (· < ·) := by
  have a : (lsrt ls).Pairwise fun a b => decide (a ≤ b) = true := List.pairwise_mergeSort (fun a b c h1 h2 => by
    rw [decide_eq_true_eq] at *
    exact List.le_trans h1 h2) (fun a b => by
    rw [Bool.or_eq_true, decide_eq_true_eq, decide_eq_true_eq]
    exact List.le_total a b) ls
  have b : (lsrt ls).Nodup := (lsrt_perm ls).nodup_iff.mpr h
  refine (a.and b).imp fun {x y} ⟨h1, h2⟩ => ?_
  rw [decide_eq_true_eq] at h1
  rcases List.le_iff_lt_or_eq.mp h1 with h | h
  · exact h
  · exact absurd h h2
theorem sortLots (ls : List Lot) : (ls.map tpI).mergeSort leT = (lsrt ls).map tpI := by
  unfold lsrt
  exact (List.map_mergeSort fun a _ b _ => (leT_lot a b).symm).symm
theorem srtOk_lots {ls : List Lot} (h : ls.length ≤ 16777216) : srtOk (ls.map tpI) = true := by
  have a : (ls.map tpI).all (fun d => shp d) = true := by
    rw [List.all_eq_true]
    intro x hx
    obtain ⟨i, _, rfl⟩ := List.mem_map.mp hx
    exact shp_tpI i
  have b : alikeTs (ls.map tpI) = true := by
    unfold alikeTs
    rw [List.all_eq_true]
    intro x hx
    obtain ⟨i, _, rfl⟩ := List.mem_map.mp hx
    rw [List.all_eq_true]
    intro y hy
    obtain ⟨j, _, rfl⟩ := List.mem_map.mp hy
    exact alike_lot i j
  have c : (ls.map tpI).all neTup = true := by
    rw [List.all_eq_true]
    intro x hx
    obtain ⟨i, _, rfl⟩ := List.mem_map.mp hx
    rfl
  unfold srtOk
  rw [a, b, c, fits_of (by simpa using h)]
  rfl
theorem x_sortLots {ls : List Lot} {μ : Store} (h : ls.length ≤ 16777216) : gSort (ls.map tpI) μ = .ok ((lsrt ls).map tpI) μ := by
  unfold gSort
  rw [srtOk_lots h, sortLots]
  rfl
/-! ### dicts with such keys -/
theorem keysI (a : Lot) : keysOf (a.map T.int) = some (a.map Sum.inl) := by
  have e : a.map T.int = (a.map (Sum.inl : Int → Key)).map keyT := by
    rw [List.map_map]
    rfl
  rw [e, keysOf_map]
theorem keyI (a : Lot) : keyOf (tpI a) = some (.inr (a.map Sum.inl)) := by
  unfold keyOf tpI
  simp only [keysI, Option.map_some]
theorem keyT_I (a : Lot) : T.tup ((a.map (Sum.inl : Int → Key)).map keyT) = tpI a := by
  rw [List.map_map]
  rfl
theorem keyI_inj {a b : Lot} : keyOf (tpI a) = some (.inr (b.map Sum.inl)) ↔ a = b := by
  rw [keyI]
  constructor
  · intro h
    have h1 : a.map (Sum.inl : Int → Key) = b.map Sum.inl := by injection h with h; injection h
    exact (List.map_inj_right (fun _ _ e => Sum.inl.inj e)).mp h1
  · rintro rfl
    rfl
def has (es : Pol) (l : Lot) : Bool := es.any fun q => decide (q.1 = l)
def get? (es : Pol) (l : Lot) : Option Int := (es.find? fun q => decide (q.1 = l)).map (·.2)
def get (es : Pol) (l : Lot) : Int := (get? es l).getD 0
def put (es : Pol) (l : Lot) (v : Int) : Pol := bif (get? es l).isSome then es.map (fun q => if q.1 = l then (q.1, v) else q) else es ++ [(l, v)]
theorem look (es : Pol) (l : Lot) : lookP (deT es) (.inr (l.map Sum.inl)) = (get? es l).map T.int := by
  unfold lookP get?
  induction es with
  | nil => rfl
  | cons q es ih =>
    show Option.map _ (List.find? _ ((tpI q.1, T.int q.2) :: deT es)) = _
    rw [List.find?_cons, List.find?_cons]
    have e : decide (keyOf (tpI q.1) = some (.inr (l.map Sum.inl))) = decide (q.1 = l) := decide_eq_decide.mpr keyI_inj
    simp only [e]
    cases decide (q.1 = l) with
    | true => rfl
    | false => exact ih
theorem putL (es : Pol) (l : Lot) (v : Int) : putP (deT es) (.inr (l.map Sum.inl)) (.tup ((l.map (Sum.inl : Int → Key)).map keyT)) (.int v) = deT (put es l v) := by
  unfold putP put
  rw [look, Option.isSome_map, keyT_I]
  cases (get? es l).isSome with
  | false => simp only [cond_false, List.map_append, List.map_cons, List.map_nil]
  | true =>
    simp only [cond_true, List.map_map]
    apply List.map_congr_left
    intro q _
    simp only [Function.comp_apply, keyI_inj]
    split <;> rfl
theorem get?_none {es : Pol} {l : Lot} : get? es l = none ↔ ∀ q ∈ es, q.1 ≠ l := by
  unfold get?
  rw [Option.map_eq_none_iff, List.find?_eq_none]
  simp
theorem get?_some {es : Pol} {l : Lot} {v : Int} (h : get? es l = some v) : (l, v) ∈ es := by
  unfold get? at h
  obtain ⟨q, h1, rfl⟩ := Option.map_eq_some_iff.mp h
  have := List.find?_some h1
  rw [decide_eq_true_eq] at this
  have m := List.mem_of_find?_eq_some h1
  rw [← this]
  exact m
theorem get?_of {es : Pol} {l : Lot} {v : Int} (hn : (es.map (·.1)).Nodup) (h : (l, v) ∈ es) : get? es l = some v := by
  induction es with
  | nil => cases h
  | cons q es ih =>
    rw [List.map_cons, List.nodup_cons] at hn
    unfold get?
    rw [List.find?_cons]
    rcases List.mem_cons.mp h with h1 | h1
    · rw [← h1]
      simp
    · have : ¬ q.1 = l := fun e => hn.1 (List.mem_map.mpr ⟨(l, v), h1, e.symm⟩)
      rw [decide_eq_false this]
      exact ih hn.2 h1
theorem put_keys (es : Pol) (l : Lot) (v : Int) : (put es l v).map (·.1) = bif (get? es l).isSome then es.map (·.1) else es.map (·.1) ++ [l] := by
  unfold put
  cases (get? es l).isSome with
  | false => simp
  | true =>
    simp only [cond_true, List.map_map]
    apply List.map_congr_left
    intro q _
    simp only [Function.comp_apply]
    split <;> rfl
theorem put_nodup {es : Pol} {l : Lot} {v : Int} (h : (es.map (·.1)).Nodup) : ((put es l v).map (·.1)).Nodup := by
  rw [put_keys]
  cases e : get? es l with
  | some w => exact h
  | none =>
    rw [get?_none] at e
    simp only [Option.isSome_none, cond_false]
    refine List.nodup_append.mpr ⟨h, by simp, fun a ha b hb => ?_⟩
    obtain ⟨q, hq, rfl⟩ := List.mem_map.mp ha
    rw [List.mem_singleton.mp hb]
    exact e q hq
theorem put_len (es : Pol) (l : Lot) (v : Int) : (put es l v).length ≤ es.length + 1 := by
  have := congrArg List.length (put_keys es l v)
  rw [List.length_map] at this
  rw [this]
  cases (get? es l).isSome <;> simp
theorem put_all {P : Lot × Int → Prop} {es : Pol} {l : Lot} {v : Int} (h : ∀ q ∈ es, P q) (hv : P (l, v)) : ∀ q ∈ put es l v, P q := by
  unfold put
  cases (get? es l).isSome with
  | false =>
    simp only [cond_false]
    intro q hq
    rcases List.mem_append.mp hq with h1 | h1
    · exact h q h1
    · rw [List.mem_singleton.mp h1]; exact hv
  | true =>
    simp only [cond_true]
    intro q hq
    obtain ⟨r, hr, rfl⟩ := List.mem_map.mp hq
    split
    · rename_i e; rw [e]; exact hv
    · exact h r hr
/-- in a dict of them -/
theorem x_gput {es : Pol} {l : Lot} {v : Int} {k : Nat} {μ : Store} (h : μ[k]? = some ⟨true, .dic true (deT es)⟩) (hz : es.length + 1 ≤ 16777216) : gSet (.cell k) (tpI l) (.int v) μ = .ok () (μ.set k ⟨true, .dic true (deT (put es l v))⟩) := by
  have e : gSet (.cell k) (tpI l) (.int v) μ = gPut (.cell k) (tpI l) (.int v) μ := by
    simp only [gSet, h]
  rw [e, ← putL]
  simp only [gPut, h, keyI, List.length_map, fits_of hz, cond_true]
theorem x_dget (es : Pol) (l : Lot) : dGet true (deT es) (tpI l) = some ((get? es l).map T.int) := by
  unfold dGet
  rw [keyI]
  simp only [cond_true, look]
theorem x_ixd {es : Pol} {l : Lot} {v : Int} {μ : Store} (h : get? es l = some v) : gIx (.dic true (deT es)) (tpI l) μ = .ok (.int v) μ := by
  show ofOO (dGet true (deT es) (tpI l)) μ = _
  rw [x_dget, h]
  rfl
/-! ### dicts of one value with ints as keys -/
theorem look1 (xs : Lot) (x : Int) : (lookP (xs.map fun i => (T.int i, T.bl true)) (.inl (.inl x))).isSome = decide (x ∈ xs) := by
  unfold lookP
  rw [Option.isSome_map]
  induction xs with
  | nil => rfl
  | cons y xs ih =>
    rw [List.map_cons, List.find?_cons]
    by_cases e : y = x
    · subst e
      simp [keyOf]
    · have : decide (keyOf (T.int y) = some (.inl (.inl x))) = false := decide_eq_false (by simp only [keyOf]; intro z; injection z with z; injection z with z; injection z with z; exact e z)
      simp only [this]
      rw [ih]
      apply decide_eq_decide.mpr
      simp [Ne.symm e]
def addU (xs : Lot) (x : Int) : Lot := if x ∈ xs then xs else xs ++ [x]
theorem put1 (xs : Lot) (x : Int) : putP (xs.map fun i => (T.int i, T.bl true)) (.inl (.inl x)) (.int x) (.bl true) = (addU xs x).map fun i => (T.int i, T.bl true) := by
  unfold putP addU
  rw [look1]
  by_cases h : x ∈ xs
  · rw [decide_eq_true h, if_pos h]
    simp only [cond_true, List.map_map]
    apply List.map_congr_left
    intro i _
    simp only [Function.comp_apply]
    split <;> rfl
  · rw [decide_eq_false h, if_neg h]
    simp
theorem mem_addU {xs : Lot} {x y : Int} : y ∈ addU xs x ↔ y ∈ xs ∨ y = x := by
  unfold addU
  split
  · constructor
    · exact .inl
    · rintro (h | rfl)
      · exact h
      · assumption
  · simp
theorem addU_len (xs : Lot) (x : Int) : (addU xs x).length ≤ xs.length + 1 := by
  unfold addU
  split <;> simp
/-- {x: True for x in xs} -/
theorem dcL_set {step : T → M (Option (T × T))} {μ : Store} (h : ∀ i, step (.int i) μ = .ok (some (.int i, .bl true)) μ) : ∀ (xs acc : Lot), acc.length + xs.length ≤ 16777216 →
    dcL false step (xs.map T.int) (acc.map fun i => (T.int i, T.bl true)) μ = .ok ((xs.foldl addU acc).map fun i => (T.int i, T.bl true)) μ
  | [], acc, _ => rfl
  | x :: xs, acc, hl => by
    have hl' : acc.length + (xs.length + 1) ≤ 16777216 := by simpa using hl
    show M.bind (noErr (step (.int x))) _ μ = _
    rw [x_bind, x_noErr, h, x_noErrR]
    show M.bind (dAdd false _ (some (.int x, .bl true))) _ μ = _
    rw [x_bind]
    have e : dAdd false (acc.map fun i => (T.int i, T.bl true)) (some (.int x, .bl true)) μ = .ok ((addU acc x).map fun i => (T.int i, T.bl true)) μ := by
      rw [← put1]
      simp only [dAdd, keyOf, key1, List.length_map, fits_of (show acc.length + 1 ≤ 16777216 by omega), cond_true]
      first | rfl | skip
    rw [e]
    show dcL false step (xs.map T.int) _ μ = _
    exact dcL_set h xs (addU acc x) (by have := addU_len acc x; omega)
theorem mem_foldU {y : Int} : ∀ {xs acc : Lot}, y ∈ xs.foldl addU acc ↔ y ∈ acc ∨ y ∈ xs
  | [], acc => by simp
  | x :: xs, acc => by
    rw [List.foldl_cons, mem_foldU, mem_addU, List.mem_cons, or_assoc]
theorem x_inD (xs : Lot) (x : Int) {μ : Store} : gIn false (.int x) (.dic false (xs.map fun i => (T.int i, T.bl true))) μ = .ok (.bl (decide (x ∈ xs))) μ := by
  simp only [gIn, dGet, keyOf, key1]
  show M.pure (T.bl ((lookP _ _).isSome != false)) μ = _
  rw [look1]
  cases decide (x ∈ xs) <;> rfl
/-! ### x in a row -/
theorem anyEq (xs : Lot) (x : Int) : ((toDs (xs.map T.int)).any fun z => PyData.eqv z (toD (.int x))) = decide (x ∈ xs) := by
  rw [toDs_ints]
  induction xs with
  | nil => rfl
  | cons y xs ih =>
    rw [List.map_cons, List.any_cons, ih]
    by_cases e : y = x
    · subst e
      simp [toD, PyData.eqv]
    · have : PyData.eqv (.int y) (toD (.int x)) = false := by simp [toD, PyData.eqv, e]
      rw [this, Bool.false_or]
      apply decide_eq_decide.mpr
      simp [Ne.symm e]
theorem x_inI (neg : Bool) (xs : Lot) (x : Int) {μ : Store} : gIn neg (.int x) (tpI xs) μ = .ok (.bl (decide (x ∈ xs) != neg)) μ := by
  show M.bind (inDs (.int x) (xs.map T.int)) _ μ = _
  have e : inDs (.int x) (xs.map T.int) μ = .ok (decide (x ∈ xs)) μ := by
    unfold inDs
    rw [shp_int, shp_lsI, anyEq]
    rfl
  rw [x_bind, e]
  rfl
end TL

/-! Plain layer 7: tuples known without a dict, cuts, conditions over rows. -/
namespace TL
open PySem PySem.Spec PyProof.Rows L2 StX
section
variable {ds es : List T} {μ : Store} {i : Int}
theorem x_ldp : ld (.ftp ds) μ = .ok (.ftp ds) μ := Eq.trans rfl rfl
theorem x_lenp : gLen (.ftp ds) μ = .ok (.int ds.length) μ := Eq.trans rfl rfl
theorem x_ixp : gIx (.ftp ds) (.int i) μ = ofO (atI ds i) μ := Eq.trans rfl rfl
theorem x_itp : gIter (.ftp ds) μ = .ok ds μ := Eq.trans rfl rfl
theorem x_eachp : gEach (.ftp ds) μ = .ok ds μ := Eq.trans rfl rfl
theorem x_tupFl : gTupleF (.lst ds) μ = .ok (.ftp ds) μ := Eq.trans rfl rfl
theorem x_zip {d e : T} {xs ys : List T} (h1 : gIter d μ = .ok xs μ) (h2 : gIter e μ = .ok ys μ) : gZip [d, e] μ = .ok (List.zipWith (fun x y => .tup [x, y]) xs ys) μ := by
  show M.bind (gIter d) _ μ = _
  rw [x_bind, h1]
  show M.bind (gIter e) _ μ = _
  rw [x_bind, h2]
  rfl
theorem cut_tail {xs : List T} : cutT xs (some 1) none = xs.tail := by
  unfold cutT
  have e : HT.sIx xs.length 0 (some 1) = min 1 xs.length := HT.sIx_nat xs.length 0 1
  have e2 : HT.sIx xs.length xs.length none = xs.length := rfl
  rw [e, e2]
  cases xs with
  | nil => rfl
  | cons x xs =>
    have : min 1 (x :: xs).length = 1 := by simp only [List.length_cons]; omega
    rw [this]
    simp
theorem cut_head {xs : List T} {k : Nat} : cutT xs none (some (k : Int)) = xs.take k := by
  unfold cutT
  have e : HT.sIx xs.length xs.length (some (k : Int)) = min k xs.length := HT.sIx_nat xs.length _ k
  have e2 : HT.sIx xs.length 0 none = 0 := rfl
  rw [e, e2]
  simp only [List.drop_zero, Nat.sub_zero]
  rw [Nat.min_def]
  split
  · rfl
  · rw [List.take_of_length_le (Nat.le_refl _), List.take_of_length_le (by omega)]
/-- v[1:] of a tuple -/
theorem x_tail_p : gSl (some 1) none (.ftp ds) μ = .ok (bif whole ds.length (some 1) none then .ftp ds else .tup ds.tail) μ := by
  show (bif whole ds.length (some 1) none then M.pure (T.ftp ds) else M.pure (.tup (cutT ds (some 1) none))) μ = _
  rw [cut_tail]
  cases whole ds.length (some 1) none <;> rfl
theorem whole_nil : whole ds.length (some 1) none = true → ds = [] := by
  intro h
  unfold whole at h
  rw [Bool.and_eq_true, decide_eq_true_eq, decide_eq_true_eq] at h
  have e : HT.sIx ds.length 0 (some 1) = min 1 ds.length := HT.sIx_nat ds.length 0 1
  rw [e] at h
  exact List.length_eq_zero_iff.mp (by omega)
theorem it_tail_p : ∃ d, gSl (some 1) none (.ftp ds) μ = .ok d μ ∧ gIter d μ = .ok ds.tail μ := by
  rw [x_tail_p]
  cases e : whole ds.length (some 1) none with
  | true => have := whole_nil e; subst this; exact ⟨_, rfl, rfl⟩
  | false => exact ⟨_, rfl, rfl⟩
theorem x_slp0 {lo hi : Option Int} (h : whole ds.length lo hi = false) : gSl lo hi (.ftp ds) μ = .ok (.tup (cutT ds lo hi)) μ := by
  show (bif whole ds.length lo hi then M.pure (T.ftp ds) else M.pure (.tup (cutT ds lo hi))) μ = _
  rw [h]
  rfl
theorem x_addtt : gAdd (.tup ds) (.tup es) μ = (bif fits (ds.length + es.length) then .ok (.tup (ds ++ es)) μ else .no) := by
  simp only [gAdd]
  cases fits (ds.length + es.length) <;> rfl
theorem x_addll : gAdd (.lst ds) (.lst es) μ = (bif fits (ds.length + es.length) then .ok (.lst (ds ++ es)) μ else .no) := by
  simp only [gAdd]
  cases fits (ds.length + es.length) <;> rfl
end
theorem zipT {β : Type} (f : β → T) (xs : List β) : List.zipWith (fun x y => T.tup [x, y]) (xs.map f) (xs.map f).tail = (xs.zip xs.tail).map fun p => .tup [f p.1, f p.2] := by
  rw [← List.map_tail, List.zip, List.map_zipWith]
  rw [List.zipWith_map]
theorem zip_len {β : Type} (xs : List β) : (xs.zip xs.tail).length ≤ xs.length := by
  rw [List.length_zip]
  exact Nat.min_le_left _ _
/-- neighbours tell the whole -/
theorem zip_all {β : Type} {r : β → β → Bool} {xs : List β} (tr : ∀ a b c, r a b = true → r b c = true → r a c = true) : (xs.zip xs.tail).all (fun p => r p.1 p.2) = true ↔ xs.Pairwise fun a b => r a b = true := by
  induction xs with
  | nil => simp
  | cons x xs ih =>
    cases xs with
    | nil => simp
    | cons y ys =>
      rw [List.pairwise_cons, ← ih]
      show (((x, y) :: ((y :: ys).zip ys)).all _ = true) ↔ _
      rw [List.all_cons, Bool.and_eq_true]
      constructor
      · rintro ⟨h1, h2⟩
        refine ⟨fun z hz => ?_, h2⟩
        rcases List.mem_cons.mp hz with rfl | hz
        · exact h1
        · exact tr _ _ _ h1 ((List.pairwise_cons.mp (ih.mp h2)).1 z hz)
      · rintro ⟨h1, h2⟩
        exact ⟨h1 y List.mem_cons_self, h2⟩
/-- all([g x for x in xs]) where each turn tells a truth -/
theorem all_run {β : Type} {step : T → M (Option T)} {e : β → T} {p : β → Bool} {xs : List β} {μ : Store} (h : ∀ x ∈ xs, step (e x) μ = .ok (some (.bl (p x))) μ) : lcL step (xs.map e) μ = .ok (xs.map fun x => .bl (p x)) μ :=
  lcL_map (g := fun x => .bl (p x)) h
end TL

/-! Plain layer 8: boxes of two numbers; loops and comprehensions that draw. -/
namespace TL
open PySem PySem.Spec PyProof.Rows L2 StX
def I2 (n : Nat) (ds : List T) : Prop := ∃ x y : Int, ds = [.int x, .int y] ∧ 0 ≤ x ∧ 0 ≤ y ∧ y < 2305843009213693951
theorem fits_le' {n : Nat} (h : n ≤ 16777216) : n ≤ sizeLine := h
/-- a comprehension whose turns draw -/
theorem lcL_j {step : T → M (Option T)} {J : Store → Prop} {Q : T → Prop} : ∀ {xs : List T}, (∀ x ∈ xs, ∀ μ, J μ → ∃ y μ', step x μ = .ok (some y) μ' ∧ J μ' ∧ Q y) → ∀ μ, J μ →
    ∃ ys μ', lcL step xs μ = .ok ys μ' ∧ J μ' ∧ ys.length = xs.length ∧ ∀ y ∈ ys, Q y
  | [], _, μ, hj => ⟨[], μ, rfl, hj, rfl, fun y hy => nomatch hy⟩
  | x :: xs, h, μ, hj => by
    obtain ⟨y, μ1, e1, j1, q1⟩ := h x List.mem_cons_self μ hj
    obtain ⟨ys, μ2, e2, j2, l2, q2⟩ := lcL_j (fun z hz => h z (List.mem_cons_of_mem _ hz)) μ1 j1
    refine ⟨y :: ys, μ2, ?_, j2, by simp [l2], fun z hz => ?_⟩
    · show M.bind (noErr (step x)) _ μ = _
      rw [x_bind]
      unfold noErr
      rw [e1]
      show M.bind (lcL step xs) _ μ1 = _
      rw [x_bind, e2]
      rfl
    · rcases List.mem_cons.mp hz with rfl | hz
      · exact q1
      · exact q2 z hz
/-- .. some of the items -/
theorem lcL_sub {β : Type} {step : T → M (Option T)} {J : Store → Prop} {e g : β → T} : ∀ {xs : List β}, (∀ x ∈ xs, ∀ μ, J μ → ∃ (k : Bool) (μ' : Store), step (e x) μ = .ok (bif k then some (g x) else none) μ' ∧ J μ') → ∀ μ, J μ →
    ∃ (ys : List β) (μ' : Store), ys.Sublist xs ∧ lcL step (xs.map e) μ = .ok (ys.map g) μ' ∧ J μ'
  | [], _, μ, hj => ⟨[], μ, List.Sublist.refl _, rfl, hj⟩
  | x :: xs, h, μ, hj => by
    obtain ⟨k, μ1, e1, j1⟩ := h x List.mem_cons_self μ hj
    obtain ⟨ys, μ2, s2, e2, j2⟩ := lcL_sub (fun z hz => h z (List.mem_cons_of_mem _ hz)) μ1 j1
    have run : lcL step ((x :: xs).map e) μ = .ok ((bif k then some (g x) else none).toList ++ ys.map g) μ2 := by
      show M.bind (noErr (step (e x))) _ μ = _
      rw [x_bind]
      unfold noErr
      rw [e1]
      show M.bind (lcL step (xs.map e)) _ μ1 = _
      rw [x_bind, e2]
      rfl
    cases k with
    | true => exact ⟨x :: ys, μ2, s2.cons₂ x, run, j2⟩
    | false => exact ⟨ys, μ2, s2.cons x, run, j2⟩
/-- a loop with a count -/
theorem forL_n {step : T → Env → M Fl} {I : Nat → Env → Store → Prop} : ∀ (xs : List T) (n : Nat), (∀ x ∈ xs, ∀ i ρ μ, i < n + xs.length → I i ρ μ → ∃ ρ' μ', step x ρ μ = .ok (.nx ρ') μ' ∧ I (i + 1) ρ' μ') → ∀ ρ μ, I n ρ μ →
    ∃ ρ' μ', forL step xs ρ μ = .ok (.nx ρ') μ' ∧ I (n + xs.length) ρ' μ'
  | [], n, _, ρ, μ, hi => ⟨ρ, μ, rfl, hi⟩
  | x :: xs, n, h, ρ, μ, hi => by
    obtain ⟨ρ1, μ1, e1, i1⟩ := h x List.mem_cons_self n ρ μ (by simp only [List.length_cons]; omega) hi
    obtain ⟨ρ2, μ2, e2, i2⟩ := forL_n xs (n + 1) (fun y hy i ρ μ hl => h y (List.mem_cons_of_mem _ hy) i ρ μ (by simp only [List.length_cons]; omega)) ρ1 μ1 i1
    refine ⟨ρ2, μ2, ?_, by rw [List.length_cons, show n + (xs.length + 1) = n + 1 + xs.length by omega]; exact i2⟩
    show M.bind (step x ρ) _ _ = _
    rw [x_bind, e1]
    exact e2
theorem rangeT_len' (a : Int) (k : Nat) : (rangeT a k).length = k := by simp [rangeT]
theorem sm_nat' {k : Nat} (h : k < 2 ^ 60) : sm62 (k : Int) = true := by
  unfold sm62
  rw [decide_eq_true (by omega), decide_eq_true (by omega)]
  rfl
theorem sm_int {i : Int} (h0 : 0 ≤ i) (h : i < 2 ^ 60) : sm62 i = true := by
  unfold sm62
  rw [decide_eq_true (by omega), decide_eq_true (by omega)]
  rfl
theorem insU_len (a : Int) : ∀ l : Lot, (insU a l).length ≤ l.length + 1
  | [] => by simp [insU]
  | b :: r => by
    unfold insU
    have := insU_len a r
    split
    · simp
    · split
      · simp
      · simp only [List.length_cons]; omega
theorem srtU_len : ∀ l : Lot, (srtU l).length ≤ l.length
  | [] => Nat.le_refl _
  | a :: r => by
    have h1 := insU_len a (srtU r)
    have h2 := srtU_len r
    show (insU a (srtU r)).length ≤ _
    simp only [List.length_cons]
    omega
theorem srtU_pos {l : Lot} (h : l ≠ []) : 1 ≤ (srtU l).length := by
  obtain ⟨a, r, rfl⟩ := List.exists_cons_of_ne_nil h
  exact List.length_pos_of_mem (mem_srtU.mpr List.mem_cons_self)
/-- a box and, behind all that stood, a dict -/
structure Bd (b : Nat) (es : Pol) (μ0 μ : Store) : Prop where
  box : ∃ ds, μ[b]? = some ⟨true, .lst ds⟩ ∧ I2 0 ds
  lt : b < μ0.length
  dic : μ[μ0.length]? = some ⟨true, .dic true (deT es)⟩
  len : μ.length = μ0.length + 1
  rest : ∀ k, k ≠ b → k < μ0.length → μ[k]? = μ0[k]?
  pure : ∀ c ∈ μ, pureO c.o = true
section
variable {b : Nat} {es : Pol} {μ0 μ μ' : Store}
theorem Bd.bx (h : Bd b es μ0 μ) : Bx I2 b 0 μ μ := ⟨h.box, rfl, fun _ _ => rfl, h.pure⟩
theorem Bd.step (h : Bd b es μ0 μ) (h' : Bx I2 b 0 μ μ') : Bd b es μ0 μ' := by
  refine ⟨h'.box, h.lt, ?_, by rw [h'.len, h.len], fun k hk hl => ?_, h'.pure⟩
  · rw [h'.rest _ (by have := h.lt; omega)]
    exact h.dic
  · rw [h'.rest k hk]
    exact h.rest k hk hl
theorem p_deT (es : Pol) : pureTk (deT es) = true := by
  induction es with
  | nil => simp only [List.map_nil, pureTk]
  | cons q es ih => simp only [List.map_cons, pureTk, p_tpI, p_int, ih, Bool.and_self]
theorem p_deO (tk : Bool) (es : Pol) : pureO (.dic tk (deT es)) = true := by
  have := p_deT es
  first | exact this | (simp only [pureO]; exact this)
theorem Bd.put (h : Bd b es μ0 μ) (fs : Pol) : Bd b fs μ0 (μ.set μ0.length ⟨true, .dic true (deT fs)⟩) := by
  have hb := h.lt
  refine ⟨?_, hb, set_at h.dic, by rw [List.length_set]; exact h.len, fun k hk hl => ?_, fun d hd => ?_⟩
  · obtain ⟨ds, h1, h2⟩ := h.box
    exact ⟨ds, by rw [List.getElem?_set_ne (by omega)]; exact h1, h2⟩
  · rw [List.getElem?_set_ne (by omega)]
    exact h.rest k hk hl
  · rcases List.mem_or_eq_of_mem_set hd with h1 | h1
    · exact h.pure d h1
    · rw [h1]; exact p_deO true fs
theorem Bx.bd {n : Nat} (h : Bx I2 b n μ0 μ) : Bd b [] μ (μ ++ [⟨true, .dic true []⟩]) := by
  have hb := h.lt
  obtain ⟨ds, h1, h2⟩ := h.box
  refine ⟨⟨ds, by rw [List.getElem?_append_left hb]; exact h1, h2⟩, hb, by simp, by simp, fun k hk hl => by rw [List.getElem?_append_left hl], fun d hd => ?_⟩
  rcases List.mem_append.mp hd with h3 | h3
  · exact h.pure d h3
  · rw [List.mem_singleton.mp h3]; exact p_deO true []
theorem Bd.cut {μ1 : Store} {n : Nat} (h0 : Bx I2 b n μ1 μ0) (h : Bd b es μ0 μ) : Bx I2 b n μ1 (μ.take μ0.length) := by
  have hb := h.lt
  obtain ⟨ds, h1, h2⟩ := h.box
  refine ⟨⟨ds, by rw [List.getElem?_take_of_lt hb]; exact h1, h2⟩, by rw [List.length_take, h.len, ← h0.len]; omega, fun k hk => ?_, fun d hd => h.pure d (List.mem_of_mem_take hd)⟩
  by_cases hl : k < μ0.length
  · rw [List.getElem?_take_of_lt hl, h.rest k hk hl]
    exact h0.rest k hk
  · rw [List.getElem?_eq_none (by rw [List.length_take]; omega), List.getElem?_eq_none (by rw [← h0.len]; omega)]
end
end TL

/-! Plain layer 9: the loop over a law's cells. -/
namespace TL
open PySem PySem.Spec PyProof.Rows L2 StX
theorem lcL_nil {step : T → M (Option T)} {J : Store → Prop} : ∀ {xs : List T}, (∀ x ∈ xs, ∀ μ, J μ → ∃ μ', step x μ = .ok none μ' ∧ J μ') → ∀ μ, J μ → ∃ μ', lcL step xs μ = .ok [] μ' ∧ J μ'
  | [], _, μ, hj => ⟨μ, rfl, hj⟩
  | x :: xs, h, μ, hj => by
    obtain ⟨μ1, e1, j1⟩ := h x List.mem_cons_self μ hj
    obtain ⟨μ2, e2, j2⟩ := lcL_nil (fun z hz => h z (List.mem_cons_of_mem _ hz)) μ1 j1
    refine ⟨μ2, ?_, j2⟩
    show M.bind (noErr (step x)) _ μ = _
    rw [x_bind]
    unfold noErr
    rw [e1]
    show M.bind (lcL step xs) _ μ1 = _
    rw [x_bind, e2]
    rfl
theorem mem_rangeT {x : T} {K : Nat} (h : x ∈ rangeT 0 K) : ∃ k : Nat, k < K ∧ x = .int (k : Int) := by
  unfold rangeT at h
  obtain ⟨k, hk, rfl⟩ := List.mem_map.mp h
  refine ⟨k, List.mem_range.mp hk, ?_⟩
  simp
/-- max(1, min(n, len(script))) -/
theorem spots (m : Nat) (hm : 1 ≤ m) (n : Nat) : ∃ K : Nat, K ≤ m ∧ (if (if (n : Int) < (m : Int) then (n : Int) else (m : Int)) > 1 then (if (n : Int) < (m : Int) then (n : Int) else (m : Int)) else 1) = (K : Int) := by
  by_cases h : (n : Int) < (m : Int)
  · rw [if_pos h]
    by_cases h1 : (n : Int) > 1
    · exact ⟨n, by omega, by rw [if_pos h1]⟩
    · exact ⟨1, hm, by rw [if_neg h1]; rfl⟩
  · rw [if_neg h]
    by_cases h1 : (m : Int) > 1
    · exact ⟨m, Nat.le_refl _, by rw [if_pos h1]⟩
    · exact ⟨1, hm, by rw [if_neg h1]; rfl⟩
def Pure (μ : Store) : Prop := ∀ c ∈ μ, pureO c.o = true
/-- each cell in turn -/
theorem cells {step : T → Env → M Fl} {P : Env → Prop} {m : Nat} (h : ∀ k : Nat, k < m → ∀ ρ μ, P ρ → Pure μ → ∃ ρ' μ', step (.int (k : Int)) ρ μ = .ok (.nx ρ') μ' ∧ P ρ' ∧ Pure μ') {K : Nat} (hK : K ≤ m) {ρ : Env} (hp : P ρ) :
    ∃ ρ' μ', forL step (rangeT 0 K) ρ [] = .ok (.nx ρ') μ' ∧ P ρ' ∧ Pure μ' := by
  obtain ⟨ρ', μ', e, a, b⟩ := forL_n (step := step) (I := fun _ ρ μ => P ρ ∧ Pure μ) (rangeT 0 K) 0 (fun x hx i ρ μ _ ⟨p, q⟩ => by
    obtain ⟨k, hk, rfl⟩ := mem_rangeT hx
    obtain ⟨ρ', μ', e, a, b⟩ := h k (by omega) ρ μ p q
    exact ⟨ρ', μ', e, a, b⟩) ρ [] ⟨hp, fun c hc => nomatch hc⟩
  exact ⟨ρ', μ', e, a, b⟩
end TL

namespace TL
open PySem PySem.Spec PyProof.Rows L2 StX
def top (i : Nat) : Stmt := PySem.Challenge.pw_gatesums_k08_errors_of_nets.main.body.getD i (.Pass ⟨0, 0, 0, 0⟩)
def c_ALIKE : Str := "alike"
def c_INPUT : Str := "input"
def K_KINDS : T := .ftp [.str "and", .str "choose", .str "most", .str "not", .str "one", .str "or", .str "table", .str "xor", .str "zero"]
def c_MOST_ENDS : Int := 16
def c_MOST_GATES : Int := 160
def c_MOST_INPUTS : Int := 12
def c_MOST_TABLED : Int := 4
def D_SIZES : List (Str × Int) := [("and", 2), ("choose", 3), ("most", 3), ("not", 1), ("one", 0), ("or", 2), ("xor", 2), ("zero", 0)]
def c_TABLE : Str := "table"
def m__law_bag : List T → M T := mkFn 5
    (sSeq (sSet 2 (eIf (bT (eOp (ld2 gLt) (eVar 1) (eB (g1 gLen) (aCons (eVar 0) aNil)))) (eB (g1 gInt) (aCons (eOp (ld2 gIx) (eVar 0) (eVar 1)) aNil)) (eOp (ld2 gAdd) (eOp (ld2 gMulA) (eC (.int 89)) (eVar 1)) (eC (.int 41)))))
    (sSeq (sSet 3 (eOp (ld2 gMod) (eB (g2 gMax2) (aCons (eC (.int 0)) (aCons (eOp (ld2 gSub) (eB (g1 gAbs) (aCons (eVar 2) aNil)) (eOp (ld2 gPowW) (eC (.int 10)) (eC (.int 18)))) aNil))) (eOp (ld2 gMulA) (eOp (ld2 gPowW) (eC (.int 10)) (eC (.int 60))) (eOp (ld2 gPowW) (eC (.int 10)) (eC (.int 60))))))
    (sSeq (sSet 4 (eOp (ld2 gAdd) (eOp (ld2 gAdd) (eOp (ld2 gAdd) (eOp (ld2 gMulA) (eOp (ld2 gMod) (eB (g1 gInt) (aCons (eB (g1 gAbs) (aCons (eVar 2) aNil)) aNil)) (eOp (ld2 gAdd) (eOp (ld2 gPowW) (eC (.int 10)) (eC (.int 12))) (eC (.int 39)))) (eC (.int 10007))) (eOp (ld2 gMulA) (eC (.int 509)) (eVar 1))) (eOp (ld2 gMulA) (eC (.int 17)) (eB (g1 gInt) (aCons (eOp (ld2 gLt) (eVar 2) (eC (.int 0))) aNil)))) (eC (.int 1))))
    (sRet (eCell (lLst (aCons (eVar 3) (aCons (eOp (ld2 gMod) (eB (g1 gInt) (aCons (eVar 4) aNil)) (eOp (ld2 gSub) (eOp (ld2 gPowW) (eC (.int 2)) (eC (.int 61))) (eC (.int 1)))) aNil))))))))
def m__law_met : M T → M T := metM 2 ["InvalidNet", "InvalidRow", "InvalidReport", "InvalidOperation", "InvalidNumber", "TooMany"] .drop
    [("InvalidNet", none, fun a dd => (sRet (eTup (aCons (eC (.str "net")) aNil)))),
     ("InvalidRow", none, fun a dd => (sRet (eTup (aCons (eC (.str "row")) aNil)))),
     ("InvalidReport", none, fun a dd => (sRet (eTup (aCons (eC (.str "report")) aNil)))),
     ("InvalidOperation", none, fun a dd => (sRet (eTup (aCons (eC (.str "operation")) aNil)))),
     ("InvalidNumber", some 1, fun a dd => (sRet (eTup (aCons (eC (.str "number")) (aCons (eB (g1 gRepr) (aCons (eFld a dd 1 "given") aNil)) aNil))))),
     ("TooMany", some 1, fun a dd => (sRet (eTup (aCons (eC (.str "many")) (aCons (eFld a dd 1 "limit") aNil)))))]
    (sRet (eTup (aCons (eC (.str "fine")) aNil)))
def m_is_within : List T → M T := mkFn 3
    (sRet (eAnd (eB (g2 gIsi) (aCons (eVar 0) (aCons (eC (.ty "int")) aNil))) (eAnd (eNot (bT (eB (g2 gIsi) (aCons (eVar 0) (aCons (eC (.ty "bool")) aNil))))) (eChain (ld2 (gCmp fun i j => decide (i ≤ j))) (ld2 (gCmp fun i j => decide (i ≤ j))) (eVar 1) (eVar 0) (eVar 2)))))
def e_are_wires_1 : Env → M T := (eCallX 3 m_is_within (aCons (eVar 2) (aCons (eC (.int 0)) (aCons (eOp (ld2 gSub) (eVar 1) (eC (.int 1))) aNil))))
def m_are_wires : List T → M T := mkFn 3
    (sRet (eAnd (eB (g2 gIsi) (aCons (eVar 0) (aCons (eC (.ty "tuple")) aNil))) (eB (g1 gAll) (aCons (eTree (lComp [2] (iAny (eVar 0)) (hName 2) bYes e_are_wires_1)) aNil))))
def e_are_bits_1 : Env → M T := (eCallX 3 m_is_within (aCons (eVar 2) (aCons (eC (.int 0)) (aCons (eC (.int 1)) aNil))))
def m_are_bits : List T → M T := mkFn 3
    (sRet (eAnd (eB (g2 gIsi) (aCons (eVar 0) (aCons (eC (.ty "tuple")) aNil))) (eAnd (eOp (ld2 gEq) (eB (g1 gLen) (aCons (eVar 0) aNil)) (eVar 1)) (eB (g1 gAll) (aCons (eTree (lComp [2] (iAny (eVar 0)) (hName 2) bYes e_are_bits_1)) aNil)))))
def m_is_gate : List T → M T := mkFn 3
    (sSeq (sIf (bOr (bNot (bT (eB (g2 gIsi) (aCons (eVar 0) (aCons (eC (.ty "tuple")) aNil))))) (bOr (bT (eOp (ld2 (gIn true)) (eB (g1 gLen) (aCons (eVar 0) aNil)) (eTup (aCons (eC (.int 2)) (aCons (eC (.int 3)) aNil))))) (bNot (bT (eB (g2 gIsi) (aCons (eOp (ld2 gIx) (eVar 0) (eC (.int 0))) (aCons (eC (.ty "str")) aNil))))))) (sRet (eC (.bl false))) sNil)
    (sSeq (sIf (bNot (bT (eCallX 2 m_are_wires (aCons (eOp (ld2 gIx) (eVar 0) (eC (.int 1))) (aCons (eVar 1) aNil))))) (sRet (eC (.bl false))) sNil)
    (sSeq (sIf (bT (eOp (ld2 gEq) (eB (g1 gLen) (aCons (eVar 0) aNil)) (eC (.int 2)))) (sRet (eAnd (eInK false D_SIZES (eOp (ld2 gIx) (eVar 0) (eC (.int 0)))) (eOp (ld2 gEq) (eB (g1 gLen) (aCons (eOp (ld2 gIx) (eVar 0) (eC (.int 1))) aNil)) (eSubK D_SIZES (eOp (ld2 gIx) (eVar 0) (eC (.int 0))))))) sNil)
    (sSeq (sIf (bOr (bT (eOp (ld2 gNe) (eOp (ld2 gIx) (eVar 0) (eC (.int 0))) (eC (.str c_TABLE)))) (bNot (bChain (ld2 (gCmp fun i j => decide (i ≤ j))) (ld2 (gCmp fun i j => decide (i ≤ j))) (eC (.int 1)) (eB (g1 gLen) (aCons (eOp (ld2 gIx) (eVar 0) (eC (.int 1))) aNil)) (eC (.int c_MOST_TABLED))))) (sRet (eC (.bl false))) sNil)
    (sSeq (sIf (bT (eOp (ld2 gNe) (eB (g1 gLen) (aCons (dComp false [2] (iAny (eOp (ld2 gIx) (eVar 0) (eC (.int 1)))) (hName 2) bYes (eVar 2) (eC (.bl true))) aNil)) (eB (g1 gLen) (aCons (eOp (ld2 gIx) (eVar 0) (eC (.int 1))) aNil)))) (sRet (eC (.bl false))) sNil)
    (sRet (eCallX 2 m_are_bits (aCons (eOp (ld2 gIx) (eVar 0) (eC (.int 2))) (aCons (eOp (ld2 gShl) (eC (.int 1)) (eB (g1 gLen) (aCons (eOp (ld2 gIx) (eVar 0) (eC (.int 1))) aNil))) aNil)))))))))
def e_is_net_of_1 : Env → M T := (eCallX 2 m_is_gate (aCons (eVar 5) (aCons (eOp (ld2 gAdd) (eVar 1) (eVar 4)) aNil)))
def m_is_net_of : List T → M T := mkFn 6
    (sSeq (sIf (bOr (bNot (bT (eB (g2 gIsi) (aCons (eVar 0) (aCons (eC (.ty "tuple")) aNil))))) (bOr (bT (eOp (ld2 gNe) (eB (g1 gLen) (aCons (eVar 0) aNil)) (eC (.int 3)))) (bNot (bT (eCallX 3 m_is_within (aCons (eOp (ld2 gIx) (eVar 0) (eC (.int 0))) (aCons (eC (.int 1)) (aCons (eC (.int c_MOST_INPUTS)) aNil)))))))) (sRet (eC (.bl false))) sNil)
    (sSeq (sTgt (hTup 3 (hsCons (hName 1) (hsCons (hName 2) (hsCons (hName 3) hsNil)))) (eVar 0))
    (sSeq (sIf (bOr (bNot (bT (eB (g2 gIsi) (aCons (eVar 2) (aCons (eC (.ty "tuple")) aNil))))) (bT (eOp (ld2 (gCmp fun i j => decide (j < i))) (eB (g1 gLen) (aCons (eVar 2) aNil)) (eC (.int c_MOST_GATES))))) (sRet (eC (.bl false))) sNil)
    (sSeq (sIf (bNot (bT (eB (g1 gAll) (aCons (eTree (lComp [4, 5] (iB gEnum (aCons (eVar 2) aNil)) (hTup 2 (hsCons (hName 4) (hsCons (hName 5) hsNil))) bYes e_is_net_of_1)) aNil)))) (sRet (eC (.bl false))) sNil)
    (sRet (eAnd (eCallX 2 m_are_wires (aCons (eVar 3) (aCons (eOp (ld2 gAdd) (eVar 1) (eB (g1 gLen) (aCons (eVar 2) aNil))) aNil))) (eChain (ld2 (gCmp fun i j => decide (i ≤ j))) (ld2 (gCmp fun i j => decide (i ≤ j))) (eC (.int 1)) (eB (g1 gLen) (aCons (eVar 3) aNil)) (eC (.int c_MOST_ENDS)))))))))
def m_require_net : List T → M T := mkFnV 0 2
    (sIf (bNot (bT (eB (g1 gAll) (aCons (eTree (lComp [1] (iAny (eVar 0)) (hName 1) bYes (eCallX 1 m_is_net_of (aCons (eVar 1) aNil)))) aNil)))) (sRaise0 "InvalidNet") sNil)
def m_let_through : List T → M T := mkFn 1
    (sSeq (sIf (bT (eOp (ld2 (gCmp fun i j => decide (j < i))) (eB (g1 gLen) (aCons (eOp (ld2 gIx) (eVar 0) (eC (.int 1))) aNil)) (eC (.int c_MOST_GATES)))) (sRaise1 "TooMany" "limit" (eC (.int c_MOST_GATES))) sNil)
    (sSeq (sIf (bT (eOp (ld2 (gCmp fun i j => decide (j < i))) (eB (g1 gLen) (aCons (eOp (ld2 gIx) (eVar 0) (eC (.int 2))) aNil)) (eC (.int c_MOST_ENDS)))) (sRaise1 "TooMany" "limit" (eC (.int c_MOST_ENDS))) sNil)
    (sRet (eVar 0))))
def b_inputs_of_1 : Env → M Fl := (sSet 1 (eTree (lComp2 [3, 4] [4] (iAny (eVar 1)) (hName 3) bYes (iAny (eTup (aCons (eC (.int 0)) (aCons (eC (.int 1)) aNil)))) (hName 4) bYes (eTup (aStar (eVar 3) (aCons (eVar 4) aNil))))))
def m_inputs_of : List T → M T := mkFn 5
    (sSeq (sSet 1 (eTree (lLst (aCons (eTup aNil) aNil))))
    (sSeq (sFor (iB gRange1 (aCons (eVar 0) aNil)) (hName 2) b_inputs_of_1)
    (sRet (eVar 1))))
def b_bit_of_1 : Env → M Fl := (sSet 3 (eOp (ld2 gAdd) (eOp (ld2 gMulA) (eC (.int 2)) (eVar 3)) (eVar 4)))
def m_bit_of : List T → M T := mkFn 6
    (sSeq (sSet 2 (eOp (ld2 gIx) (eVar 0) (eC (.int 0))))
    (sSeq (sIf (bT (eOp (ld2 gEq) (eVar 2) (eC (.str c_TABLE)))) (sSeq (sSet 3 (eC (.int 0)))
    (sSeq (sFor (iAny (eVar 1)) (hName 4) b_bit_of_1)
    (sRet (eOp (ld2 gIx) (eOp (ld2 gIx) (eVar 0) (eC (.int 2))) (eVar 3))))) sNil)
    (sSeq (sIf (bT (eOp (ld2 (gIn false)) (eVar 2) (eTup (aCons (eC (.str "zero")) (aCons (eC (.str "one")) aNil))))) (sRet (eIf (bT (eOp (ld2 gEq) (eVar 2) (eC (.str "one")))) (eC (.int 1)) (eC (.int 0)))) sNil)
    (sSeq (sIf (bT (eOp (ld2 gEq) (eVar 2) (eC (.str "not")))) (sRet (eOp (ld2 gSub) (eC (.int 1)) (eOp (ld2 gIx) (eVar 1) (eC (.int 0))))) sNil)
    (sSeq (sIf (bT (eOp (ld2 gEq) (eVar 2) (eC (.str "choose")))) (sRet (eIf (bT (eOp (ld2 gEq) (eOp (ld2 gIx) (eVar 1) (eC (.int 0))) (eC (.int 1)))) (eOp (ld2 gIx) (eVar 1) (eC (.int 1))) (eOp (ld2 gIx) (eVar 1) (eC (.int 2))))) sNil)
    (sSeq (sSet 5 (eB (g1 gSum) (aCons (eVar 1) aNil)))
    (sSeq (sIf (bT (eOp (ld2 gEq) (eVar 2) (eC (.str "most")))) (sRet (eIf (bT (eOp (ld2 (gCmp fun i j => decide (j < i))) (eVar 5) (eC (.int 1)))) (eC (.int 1)) (eC (.int 0)))) sNil)
    (sRet (eOp (ld2 gIx) (eDisp [((eC (.str "and")), (eOp (ld2 gFdiv) (eVar 5) (eC (.int 2)))), ((eC (.str "or")), (eOp (ld2 gFdiv) (eOp (ld2 gAdd) (eVar 5) (eC (.int 1))) (eC (.int 2)))), ((eC (.str "xor")), (eOp (ld2 gMod) (eVar 5) (eC (.int 2))))]) (eVar 2))))))))))
def b_table_in_1 : Env → M Fl := (sSeq (sSet 5 (dComp false [6, 7] (iB gZip (aCons (eVar 1) (aCons (eVar 4) aNil))) (hTup 2 (hsCons (hName 6) (hsCons (hName 7) hsNil))) bYes (eVar 6) (eVar 7)))
    (sExp (eMeth isL gAppend (eVar 3) (aCons (eCallX 2 m_bit_of (aCons (eVar 0) (aCons (eTree (lComp [6] (iAny (eOp (ld2 gIx) (eVar 0) (eC (.int 1)))) (hName 6) bYes (eOp (ld2 gIx) (eVar 5) (eVar 6)))) aNil))) aNil))))
def m_table_in : List T → M T := mkFn 8
    (sSeq (sSet 1 (eB (g1 gTuple) (aCons (eTree (lB gSortK (aCons (dComp false [2] (iAny (eOp (ld2 gIx) (eVar 0) (eC (.int 1)))) (hName 2) bYes (eVar 2) (eC (.bl true))) aNil))) aNil)))
    (sSeq (sSet 3 (eCell (lLst aNil)))
    (sSeq (sFor (iAny (eCallX 1 m_inputs_of (aCons (eB (g1 gLen) (aCons (eVar 1) aNil)) aNil))) (hName 4) b_table_in_1)
    (sRet (eTup (aCons (eVar 1) (aCons (eB (g1 gTuple) (aCons (eVar 3) aNil)) aNil)))))))
def m_moved_gate : List T → M T := mkFn 4
    (sSeq (sSet 2 (eB (g1 gTuple) (aCons (eTree (lComp [3] (iAny (eOp (ld2 gIx) (eVar 0) (eC (.int 1)))) (hName 3) bYes (eOp (ld2 gIx) (eVar 1) (eVar 3)))) aNil)))
    (sSeq (sIf (bAnd (bT (eOp (ld2 gEq) (eOp (ld2 gIx) (eVar 0) (eC (.int 0))) (eC (.str c_TABLE)))) (bT (eOp (ld2 gLt) (eB (g1 gLen) (aCons (dComp false [3] (iAny (eVar 2)) (hName 3) bYes (eVar 3) (eC (.bl true))) aNil)) (eB (g1 gLen) (aCons (eVar 2) aNil))))) (sRet (eTup (aCons (eC (.str c_TABLE)) (aStar (eCallX 1 m_table_in (aCons (eTup (aCons (eC (.str c_TABLE)) (aCons (eVar 2) (aCons (eOp (ld2 gIx) (eVar 0) (eC (.int 2))) aNil)))) aNil)) aNil)))) sNil)
    (sRet (eTup (aCons (eOp (ld2 gIx) (eVar 0) (eC (.int 0))) (aCons (eVar 2) (aStar (eSl (eVar 0) (oSome (eC (.int 2))) oNone) aNil)))))))
def e_beside_1 : Env → M T := (eCallX 2 m_moved_gate (aCons (eVar 7) (aCons (eVar 5) aNil)))
def e_beside_2 : Env → M T := (eCallX 2 m_moved_gate (aCons (eVar 7) (aCons (eVar 3) aNil)))
def m_beside : List T → M T := mkFn 10
    (sSeq (sExp (eCallV 0 3 m_require_net (aCons (eVar 0) (aCons (eVar 1) aNil))))
    (sSeq (sSet 2 (eOp (ld2 gAdd) (eOp (ld2 gIx) (eVar 0) (eC (.int 0))) (eOp (ld2 gIx) (eVar 1) (eC (.int 0)))))
    (sSeq (sIf (bT (eOp (ld2 (gCmp fun i j => decide (j < i))) (eVar 2) (eC (.int c_MOST_INPUTS)))) (sRaise1 "TooMany" "limit" (eC (.int c_MOST_INPUTS))) sNil)
    (sSeq (sSet 3 (eTree (lLst (aStarRg (rRg1 (eOp (ld2 gIx) (eVar 0) (eC (.int 0)))) (aStarRg (rRg2 (eVar 2) (eOp (ld2 gAdd) (eVar 2) (eB (g1 gLen) (aCons (eOp (ld2 gIx) (eVar 0) (eC (.int 1))) aNil)))) aNil)))))
    (sSeq (sSet 4 (eOp (ld2 gAdd) (eVar 2) (eB (g1 gLen) (aCons (eOp (ld2 gIx) (eVar 0) (eC (.int 1))) aNil))))
    (sSeq (sSet 5 (eTree (lLst (aStarRg (rRg2 (eOp (ld2 gIx) (eVar 0) (eC (.int 0))) (eVar 2)) (aStarRg (rRg2 (eVar 4) (eOp (ld2 gAdd) (eVar 4) (eB (g1 gLen) (aCons (eOp (ld2 gIx) (eVar 1) (eC (.int 1))) aNil)))) aNil)))))
    (sSeq (sSet 6 (eTree (lLst (aStar (eTree (lComp [7] (iAny (eOp (ld2 gIx) (eVar 0) (eC (.int 1)))) (hName 7) bYes e_beside_2)) (aStar (eTree (lComp [7] (iAny (eOp (ld2 gIx) (eVar 1) (eC (.int 1)))) (hName 7) bYes e_beside_1)) aNil)))))
    (sSeq (sSet 8 (eTree (lLst (aStar (eTree (lComp [9] (iAny (eOp (ld2 gIx) (eVar 0) (eC (.int 2)))) (hName 9) bYes (eOp (ld2 gIx) (eVar 3) (eVar 9)))) (aStar (eTree (lComp [9] (iAny (eOp (ld2 gIx) (eVar 1) (eC (.int 2)))) (hName 9) bYes (eOp (ld2 gIx) (eVar 5) (eVar 9)))) aNil)))))
    (sRet (eCallX 1 m_let_through (aCons (eTup (aCons (eVar 2) (aCons (eB (g1 gTuple) (aCons (eVar 6) aNil)) (aCons (eB (g1 gTuple) (aCons (eVar 8) aNil)) aNil)))) aNil)))))))))))
def m_wires_in : List T → M T := mkFn 1
    (sRet (eOp (ld2 gAdd) (eOp (ld2 gIx) (eVar 0) (eC (.int 0))) (eB (g1 gLen) (aCons (eOp (ld2 gIx) (eVar 0) (eC (.int 1))) aNil))))
def e_joint_in_1 : Env → M T := (eCallX 2 m_moved_gate (aCons (eVar 4) (aCons (eVar 2) aNil)))
def m_joint_in : List T → M T := mkFn 6
    (sSeq (sSet 2 (eTree (lLst (aStarRg (rRg1 (eOp (ld2 gIx) (eVar 0) (eC (.int 0)))) (aStarRg (rRg2 (eCallX 1 m_wires_in (aCons (eVar 0) aNil)) (eOp (ld2 gAdd) (eCallX 1 m_wires_in (aCons (eVar 0) aNil)) (eB (g1 gLen) (aCons (eOp (ld2 gIx) (eVar 1) (eC (.int 1))) aNil)))) aNil)))))
    (sSeq (sSet 3 (eTree (lLst (aStar (eOp (ld2 gIx) (eVar 0) (eC (.int 1))) (aStar (eTree (lComp [4] (iAny (eOp (ld2 gIx) (eVar 1) (eC (.int 1)))) (hName 4) bYes e_joint_in_1)) aNil)))))
    (sRet (eTup (aCons (eOp (ld2 gIx) (eVar 0) (eC (.int 0))) (aCons (eB (g1 gTuple) (aCons (eVar 3) aNil)) (aCons (eTup (aStar (eOp (ld2 gIx) (eVar 0) (eC (.int 2))) (aStar (eTree (lComp [5] (iAny (eOp (ld2 gIx) (eVar 1) (eC (.int 2)))) (hName 5) bYes (eOp (ld2 gIx) (eVar 2) (eVar 5)))) aNil))) aNil)))))))
def m_joint : List T → M T := mkFn 2
    (sSeq (sExp (eCallV 0 3 m_require_net (aCons (eVar 0) (aCons (eVar 1) aNil))))
    (sSeq (sIf (bT (eOp (ld2 gNe) (eOp (ld2 gIx) (eVar 0) (eC (.int 0))) (eOp (ld2 gIx) (eVar 1) (eC (.int 0))))) (sRaise0 "InvalidOperation") sNil)
    (sRet (eCallX 1 m_let_through (aCons (eCallX 2 m_joint_in (aCons (eVar 0) (aCons (eVar 1) aNil))) aNil)))))
def e_behind_1 : Env → M T := (eCallX 2 m_moved_gate (aCons (eVar 4) (aCons (eVar 2) aNil)))
def m_behind : List T → M T := mkFn 6
    (sSeq (sExp (eCallV 0 3 m_require_net (aCons (eVar 0) (aCons (eVar 1) aNil))))
    (sSeq (sIf (bT (eOp (ld2 gNe) (eB (g1 gLen) (aCons (eOp (ld2 gIx) (eVar 0) (eC (.int 2))) aNil)) (eOp (ld2 gIx) (eVar 1) (eC (.int 0))))) (sRaise0 "InvalidOperation") sNil)
    (sSeq (sSet 2 (eTree (lLst (aStar (eOp (ld2 gIx) (eVar 0) (eC (.int 2))) (aStarRg (rRg2 (eCallX 1 m_wires_in (aCons (eVar 0) aNil)) (eOp (ld2 gAdd) (eCallX 1 m_wires_in (aCons (eVar 0) aNil)) (eB (g1 gLen) (aCons (eOp (ld2 gIx) (eVar 1) (eC (.int 1))) aNil)))) aNil)))))
    (sSeq (sSet 3 (eTree (lLst (aStar (eOp (ld2 gIx) (eVar 0) (eC (.int 1))) (aStar (eTree (lComp [4] (iAny (eOp (ld2 gIx) (eVar 1) (eC (.int 1)))) (hName 4) bYes e_behind_1)) aNil)))))
    (sRet (eCallX 1 m_let_through (aCons (eTup (aCons (eOp (ld2 gIx) (eVar 0) (eC (.int 0))) (aCons (eB (g1 gTuple) (aCons (eVar 3) aNil)) (aCons (eB (g1 gTuple) (aCons (eTree (lComp [5] (iAny (eOp (ld2 gIx) (eVar 1) (eC (.int 2)))) (hName 5) bYes (eOp (ld2 gIx) (eVar 2) (eVar 5)))) aNil)) aNil)))) aNil)))))))
def m__law_draw : List T → M T := mkFn 3
    (sSeq (sIf (bT (eOp (ld2 (gCmp fun i j => decide (j < i))) (eOp (ld2 gIx) (eVar 0) (eC (.int 0))) (eC (.int 0)))) (sSeq (sSet 2 (eOp (ld2 gMod) (eB (g1 gInt) (aCons (eOp (ld2 gIx) (eVar 0) (eC (.int 0))) aNil)) (eVar 1)))
    (sSeq (sTgt (hSub (eVar 0) (eC (.int 0)) gSet) (eOp (ld2 gFdiv) (eOp (ld2 gIx) (eVar 0) (eC (.int 0))) (eVar 1)))
    (sRet (eVar 2)))) sNil)
    (sSeq (sTgt (hSub (eVar 0) (eC (.int 1)) gSet) (eOp (ld2 gMod) (eB (g1 gInt) (aCons (eOp (ld2 gAdd) (eOp (ld2 gMulA) (eOp (ld2 gIx) (eVar 0) (eC (.int 1))) (eC (.int 6364136223))) (eC (.int 1442695041))) aNil)) (eOp (ld2 gSub) (eOp (ld2 gPowW) (eC (.int 2)) (eC (.int 61))) (eC (.int 1)))))
    (sRet (eOp (ld2 gMod) (eB (g1 gInt) (aCons (eOp (ld2 gFdiv) (eOp (ld2 gIx) (eVar 0) (eC (.int 1))) (eC (.int 65537))) aNil)) (eVar 1)))))
def m__law_one_of : List T → M T := mkFn 2
    (sRet (eOp (ld2 gIx) (eVar 1) (eCallX 2 m__law_draw (aCons (eVar 0) (aCons (eB (g1 gLen) (aCons (eVar 1) aNil)) aNil)))))
def m__law_bad : List T → M T := mkFn 2
    (sSeq (sSet 1 (eTree (lLst (aCons (eC .non) (aCons (eC (.int 0)) (aCons (eTup aNil) (aCons (eTree (lLst aNil)) (aCons (eTup (aCons (eC (.int 1)) (aCons (eTup aNil) aNil))) (aCons (eTree (lLst (aCons (eC (.int 1)) (aCons (eTup aNil) (aCons (eTup (aCons (eC (.int 0)) aNil)) aNil))))) (aCons (eTup (aCons (eC (.int 0)) (aCons (eTup aNil) (aCons (eTup (aCons (eC (.int 0)) aNil)) aNil)))) (aCons (eTup (aCons (eC (.int 13)) (aCons (eTup aNil) (aCons (eTup (aCons (eC (.int 0)) aNil)) aNil)))) (aCons (eTup (aCons (eC (.bl true)) (aCons (eTup aNil) (aCons (eTup (aCons (eC (.int 0)) aNil)) aNil)))) (aCons (eTup (aCons (eC (.int 1)) (aCons (eTup aNil) (aCons (eTup aNil) aNil)))) (aCons (eTup (aCons (eC (.int 1)) (aCons (eTup aNil) (aCons (eTup (aCons (eC (.int 1)) aNil)) aNil)))) (aCons (eTup (aCons (eC (.int 1)) (aCons (eTup aNil) (aCons (eTree (lLst (aCons (eC (.int 0)) aNil))) aNil)))) aNil)))))))))))))))
    (sSeq (sSet 1 (eOp (ld2 gAdd) (eVar 1) (eTree (lLst (aCons (eTup (aCons (eC (.int 1)) (aCons (eTree (lLst aNil)) (aCons (eTup (aCons (eC (.int 0)) aNil)) aNil)))) (aCons (eTup (aCons (eC (.int 1)) (aCons (eTup aNil) (aCons (eOp (ld2 gMulA) (eTup (aCons (eC (.int 0)) aNil)) (eC (.int 17))) aNil)))) (aCons (eTup (aCons (eC (.int 1)) (aCons (eTup (aCons (eTup (aCons (eC (.str "not")) (aCons (eTup (aCons (eC (.int 1)) aNil)) aNil))) aNil)) (aCons (eTup (aCons (eC (.int 0)) aNil)) aNil)))) (aCons eD0 aNil))))))))
    (sSeq (sSet 1 (eOp (ld2 gAdd) (eVar 1) (eTree (lLst (aCons (eTup (aCons (eC (.int 1)) (aCons (eTup (aCons (eTup (aCons (eC (.str "zero")) (aCons (eTup (aCons (eC (.int 0)) aNil)) aNil))) aNil)) (aCons (eTup (aCons (eC (.int 0)) aNil)) aNil)))) (aCons (eTup (aCons (eC (.int 1)) (aCons (eTup (aCons (eTup (aCons (eC (.str "nand")) (aCons (eTup (aCons (eC (.int 0)) (aCons (eC (.int 0)) aNil))) aNil))) aNil)) (aCons (eTup (aCons (eC (.int 0)) aNil)) aNil)))) (aCons (eTup (aCons (eC (.int 1)) (aCons (eTup (aCons (eTup (aCons (eC (.str "not")) (aCons (eTree (lLst (aCons (eC (.int 0)) aNil))) aNil))) aNil)) (aCons (eTup (aCons (eC (.int 0)) aNil)) aNil)))) aNil)))))))
    (sSeq (sSet 1 (eOp (ld2 gAdd) (eVar 1) (eTree (lLst (aCons (eTup (aCons (eC (.int 1)) (aCons (eTup (aCons (eTup (aCons (eC (.str "table")) (aCons (eTup (aCons (eC (.int 0)) (aCons (eC (.int 0)) aNil))) (aCons (eTup (aCons (eC (.int 0)) (aCons (eC (.int 1)) (aCons (eC (.int 1)) (aCons (eC (.int 0)) aNil))))) aNil)))) aNil)) (aCons (eTup (aCons (eC (.int 0)) aNil)) aNil)))) (aCons (eTup (aCons (eC (.int 1)) (aCons (eTup (aCons (eTup (aCons (eC (.str "table")) (aCons (eTup (aCons (eC (.int 0)) aNil)) (aCons (eTup (aCons (eC (.int 0)) (aCons (eC (.int 1)) (aCons (eC (.int 1)) aNil)))) aNil)))) aNil)) (aCons (eTup (aCons (eC (.int 0)) aNil)) aNil)))) (aCons (eTup (aCons (eC (.int 1)) (aCons (eOp (ld2 gMulA) (eTup (aCons (eTup (aCons (eC (.str "zero")) (aCons (eTup aNil) aNil))) aNil)) (eC (.int 161))) (aCons (eTup (aCons (eC (.int 0)) aNil)) aNil)))) aNil)))))))
    (sRet (eCallX 2 m__law_one_of (aCons (eVar 0) (aCons (eVar 1) aNil))))))))
def m_require_wire : List T → M T := mkFn 2
    (sSeq (sExp (eCallV 0 3 m_require_net (aCons (eVar 0) aNil)))
    (sIf (bNot (bT (eCallX 3 m_is_within (aCons (eVar 1) (aCons (eC (.int 0)) (aCons (eOp (ld2 gSub) (eCallX 1 m_wires_in (aCons (eVar 0) aNil)) (eC (.int 1))) aNil)))))) (sRaise1 "InvalidNumber" "given" (eVar 1)) sNil))
def e_bits_told_1 : Env → M T := (eOp (ld2 (gBit Builtin.bitAnd)) (eOp (ld2 gShr) (eVar 0) (eOp (ld2 gSub) (eVar 2) (eVar 3))) (eC (.int 1)))
def m_bits_told : List T → M T := mkFn 4
    (sSeq (sSet 2 (eOp (ld2 gSub) (eOp (ld2 gShl) (eC (.int 1)) (eVar 1)) (eC (.int 1))))
    (sRet (eB (g1 gTuple) (aCons (eTree (lComp [3] (iB gRange1 (aCons (eOp (ld2 gShl) (eC (.int 1)) (eVar 1)) aNil)) (hName 3) bYes e_bits_told_1)) aNil))))
def b_ones_of_1 : Env → M Fl := (sPar 4 5 (aCons (eOp (ld2 (gBit Builtin.bitOr)) (eVar 4) (eOp (ld2 gShl) (eVar 4) (eVar 5))) (aCons (eOp (ld2 gMulA) (eC (.int 2)) (eVar 5)) aNil)))
def m_ones_of : List T → M T := mkFn 6
    (sSeq (sSet 2 (eOp (ld2 gShl) (eC (.int 1)) (eOp (ld2 gSub) (eOp (ld2 gSub) (eVar 0) (eC (.int 1))) (eVar 1))))
    (sSeq (sSet 3 (eOp (ld2 gSub) (eOp (ld2 gShl) (eC (.int 1)) (eVar 2)) (eC (.int 1))))
    (sSeq (sPar 4 5 (aCons (eVar 3) (aCons (eOp (ld2 gMulA) (eC (.int 2)) (eVar 2)) aNil)))
    (sSeq (whileM (bT (eOp (ld2 gLt) (eVar 5) (eOp (ld2 gShl) (eC (.int 1)) (eVar 0)))) b_ones_of_1 16)
    (sRet (eVar 4))))))
def b_wide_bit_1 : Env → M Fl := (sAug 7 (ld2 (gBit Builtin.bitAnd)) (eIf (bT (eOp (ld2 gEq) (eVar 8) (eC (.int 1)))) (eVar 9) (eOp (ld2 (gBit Builtin.bitXor)) (eVar 2) (eVar 9))))
def b_wide_bit_2 : Env → M Fl := (sIf (bT (eOp (ld2 gEq) (eVar 6) (eC (.int 1)))) (sSeq (sSet 7 (eVar 2))
    (sSeq (sFor (iB gZip (aCons (eVar 5) (aCons (eVar 1) aNil))) (hTup 2 (hsCons (hName 8) (hsCons (hName 9) hsNil))) b_wide_bit_1)
    (sAug 4 (ld2 (gBit Builtin.bitOr)) (eVar 7)))) sNil)
def m_wide_bit : List T → M T := mkFn 11
    (sSeq (sSet 3 (eOp (ld2 gIx) (eVar 0) (eC (.int 0))))
    (sSeq (sIf (bT (eOp (ld2 gEq) (eVar 3) (eC (.str c_TABLE)))) (sSeq (sSet 4 (eC (.int 0)))
    (sSeq (sFor (iB gZip (aCons (eCallX 1 m_inputs_of (aCons (eB (g1 gLen) (aCons (eVar 1) aNil)) aNil)) (aCons (eOp (ld2 gIx) (eVar 0) (eC (.int 2))) aNil))) (hTup 2 (hsCons (hName 5) (hsCons (hName 6) hsNil))) b_wide_bit_2)
    (sRet (eVar 4)))) sNil)
    (sSeq (sIf (bT (eOp (ld2 (gIn false)) (eVar 3) (eTup (aCons (eC (.str "zero")) (aCons (eC (.str "one")) aNil))))) (sRet (eIf (bT (eOp (ld2 gEq) (eVar 3) (eC (.str "one")))) (eVar 2) (eC (.int 0)))) sNil)
    (sSeq (sIf (bT (eOp (ld2 gEq) (eVar 3) (eC (.str "not")))) (sRet (eOp (ld2 (gBit Builtin.bitXor)) (eVar 2) (eOp (ld2 gIx) (eVar 1) (eC (.int 0))))) sNil)
    (sSeq (sPar 9 10 (aCons (eOp (ld2 gIx) (eVar 1) (eC (.int 0))) (aCons (eOp (ld2 gIx) (eVar 1) (eC (.int 1))) aNil)))
    (sSeq (sIf (bT (eOp (ld2 gEq) (eVar 3) (eC (.str "choose")))) (sRet (eOp (ld2 (gBit Builtin.bitOr)) (eOp (ld2 (gBit Builtin.bitAnd)) (eVar 9) (eVar 10)) (eOp (ld2 (gBit Builtin.bitAnd)) (eOp (ld2 (gBit Builtin.bitXor)) (eVar 2) (eVar 9)) (eOp (ld2 gIx) (eVar 1) (eC (.int 2)))))) sNil)
    (sSeq (sIf (bT (eOp (ld2 gEq) (eVar 3) (eC (.str "most")))) (sRet (eOp (ld2 (gBit Builtin.bitOr)) (eOp (ld2 (gBit Builtin.bitOr)) (eOp (ld2 (gBit Builtin.bitAnd)) (eVar 9) (eVar 10)) (eOp (ld2 (gBit Builtin.bitAnd)) (eVar 9) (eOp (ld2 gIx) (eVar 1) (eC (.int 2))))) (eOp (ld2 (gBit Builtin.bitAnd)) (eVar 10) (eOp (ld2 gIx) (eVar 1) (eC (.int 2)))))) sNil)
    (sRet (eOp (ld2 gIx) (eDisp [((eC (.str "and")), (eOp (ld2 (gBit Builtin.bitAnd)) (eVar 9) (eVar 10))), ((eC (.str "or")), (eOp (ld2 (gBit Builtin.bitOr)) (eVar 9) (eVar 10))), ((eC (.str "xor")), (eOp (ld2 (gBit Builtin.bitXor)) (eVar 9) (eVar 10)))]) (eVar 3))))))))))
def e_wide_run_1 : Env → M T := (eCallX 2 m_ones_of (aCons (eOp (ld2 gIx) (eVar 0) (eC (.int 0))) (aCons (eVar 3) aNil)))
def b_wide_run_1 : Env → M Fl := (sExp (eMeth isL gAppend (eVar 2) (aCons (eCallX 3 m_wide_bit (aCons (eVar 4) (aCons (eTree (lComp [5] (iAny (eOp (ld2 gIx) (eVar 4) (eC (.int 1)))) (hName 5) bYes (eOp (ld2 gIx) (eVar 2) (eVar 5)))) (aCons (eVar 1) aNil)))) aNil)))
def m_wide_run : List T → M T := mkFn 6
    (sSeq (sSet 1 (eOp (ld2 gSub) (eOp (ld2 gShl) (eC (.int 1)) (eOp (ld2 gShl) (eC (.int 1)) (eOp (ld2 gIx) (eVar 0) (eC (.int 0))))) (eC (.int 1))))
    (sSeq (sSet 2 (eCell (lComp [3] (iB gRange1 (aCons (eOp (ld2 gIx) (eVar 0) (eC (.int 0))) aNil)) (hName 3) bYes e_wide_run_1)))
    (sSeq (sFor (iAny (eOp (ld2 gIx) (eVar 0) (eC (.int 1)))) (hName 4) b_wide_run_1)
    (sRet (eFrz (eVar 2))))))
def m_column : List T → M T := mkFn 2
    (sSeq (sExp (eCallX 2 m_require_wire (aCons (eVar 0) (aCons (eVar 1) aNil))))
    (sRet (eCallX 2 m_bits_told (aCons (eOp (ld2 gIx) (eCallX 1 m_wide_run (aCons (eVar 0) aNil)) (eVar 1)) (aCons (eOp (ld2 gIx) (eVar 0) (eC (.int 0))) aNil)))))
def m_is_input : List T → M T := mkFn 2
    (sRet (eOp (ld2 gLt) (eVar 1) (eOp (ld2 gIx) (eVar 0) (eC (.int 0)))))
def m_gate_at : List T → M T := mkFn 2
    (sRet (eOp (ld2 gIx) (eOp (ld2 gIx) (eVar 0) (eC (.int 1))) (eOp (ld2 gSub) (eVar 1) (eOp (ld2 gIx) (eVar 0) (eC (.int 0))))))
def b_cone_in_1 : Env → M Fl := (sIf (bT (eOp (ld2 (gIn true)) (eVar 6) (eVar 2))) (sSeq (sTgt (hSub (eVar 2) (eVar 6) gSet) (eC (.bl true)))
    (sExp (eMeth isL gAppend (eVar 3) (aCons (eVar 6) aNil)))) sNil)
def b_cone_in_2 : Env → M Fl := (sSeq (sSet 4 (eMeth isL gPop (eVar 3) aNil))
    (sSeq (sSet 5 (eIf (bNot (bT (eCallX 2 m_is_input (aCons (eVar 0) (aCons (eVar 4) aNil))))) (eOp (ld2 gIx) (eCallX 2 m_gate_at (aCons (eVar 0) (aCons (eVar 4) aNil))) (eC (.int 1))) (eTup aNil)))
    (sFor (iAny (eVar 5)) (hName 6) b_cone_in_1)))
def m_cone_in : List T → M T := mkFn 7
    (sSeq (sPar 2 3 (aCons (eDisp [((eVar 1), (eC (.bl true)))]) (aCons (eCell (lLst (aCons (eVar 1) aNil))) aNil)))
    (sSeq (whileM (bT (eOp (ld2 gNe) (eVar 3) (eTree (lLst aNil)))) b_cone_in_2 200)
    (sRet (eTree (lB gSortK (aCons (eVar 2) aNil))))))
def m_cone : List T → M T := mkFn 2
    (sSeq (sExp (eCallX 2 m_require_wire (aCons (eVar 0) (aCons (eVar 1) aNil))))
    (sRet (eB (g1 gTuple) (aCons (eCallX 2 m_cone_in (aCons (eVar 0) (aCons (eVar 1) aNil))) aNil))))
def e_readers_1 : Env → M T := (eOp (ld2 gAdd) (eOp (ld2 gIx) (eVar 0) (eC (.int 0))) (eVar 2))
def t_readers_1 : Env → M Bool := (bT (eOp (ld2 (gIn false)) (eVar 1) (eOp (ld2 gIx) (eVar 3) (eC (.int 1)))))
def m_readers : List T → M T := mkFn 4
    (sSeq (sExp (eCallX 2 m_require_wire (aCons (eVar 0) (aCons (eVar 1) aNil))))
    (sRet (eB (g1 gTuple) (aCons (eTree (lComp [2, 3] (iB gEnum (aCons (eOp (ld2 gIx) (eVar 0) (eC (.int 1))) aNil)) (hTup 2 (hsCons (hName 2) (hsCons (hName 3) hsNil))) t_readers_1 e_readers_1)) aNil))))
def m_tail_table : List T → M T := mkFn 2
    (sSeq (sExp (eCallX 2 m_require_wire (aCons (eVar 0) (aCons (eVar 1) aNil))))
    (sSeq (sIf (bT (eCallX 2 m_is_input (aCons (eVar 0) (aCons (eVar 1) aNil)))) (sRaise0 "InvalidOperation") sNil)
    (sRet (eOp (ld2 gIx) (eCallX 1 m_table_in (aCons (eCallX 2 m_gate_at (aCons (eVar 0) (aCons (eVar 1) aNil))) aNil)) (eC (.int 1))))))
def l__law_wires_1 : Env → M T := (eLam m__law_met (eCallX 2 m_column (aCons (eVar 0) (aCons (eVar 1) aNil))))
def l__law_wires_2 : Env → M T := (eLam m__law_met (eCallX 2 m_cone (aCons (eVar 0) (aCons (eVar 1) aNil))))
def l__law_wires_3 : Env → M T := (eLam m__law_met (eCallX 2 m_readers (aCons (eVar 0) (aCons (eVar 1) aNil))))
def l__law_wires_4 : Env → M T := (eLam m__law_met (eCallX 2 m_tail_table (aCons (eVar 0) (aCons (eVar 1) aNil))))
def m__law_wires : List T → M T := mkFn 3
    (sSeq (sSet 2 (eCell (lLst (aCons l__law_wires_1 aNil))))
    (sSeq (sExp (eMeth isL gAppend (eVar 2) (aCons l__law_wires_2 aNil)))
    (sSeq (sExp (eMeth isL gAppend (eVar 2) (aCons l__law_wires_3 aNil)))
    (sSeq (sExp (eMeth isL gAppend (eVar 2) (aCons l__law_wires_4 aNil)))
    (sRet (eFrz (eVar 2)))))))
def m_require_row : List T → M T := mkFn 2
    (sSeq (sExp (eCallV 0 3 m_require_net (aCons (eVar 0) aNil)))
    (sIf (bNot (bT (eCallX 2 m_are_bits (aCons (eVar 1) (aCons (eOp (ld2 gIx) (eVar 0) (eC (.int 0))) aNil))))) (sRaise0 "InvalidRow") sNil))
def b_run_in_1 : Env → M Fl := (sExp (eMeth isL gAppend (eVar 2) (aCons (eCallX 2 m_bit_of (aCons (eVar 3) (aCons (eTree (lComp [4] (iAny (eOp (ld2 gIx) (eVar 3) (eC (.int 1)))) (hName 4) bYes (eOp (ld2 gIx) (eVar 2) (eVar 4)))) aNil))) aNil)))
def m_run_in : List T → M T := mkFn 5
    (sSeq (sSet 2 (eCell (lB glList (aCons (eVar 1) aNil))))
    (sSeq (sFor (iAny (eOp (ld2 gIx) (eVar 0) (eC (.int 1)))) (hName 3) b_run_in_1)
    (sRet (eFrz (eVar 2)))))
def m_run_of : List T → M T := mkFn 2
    (sSeq (sExp (eCallX 2 m_require_row (aCons (eVar 0) (aCons (eVar 1) aNil))))
    (sRet (eB (g1 gTuple) (aCons (eCallX 2 m_run_in (aCons (eVar 0) (aCons (eVar 1) aNil))) aNil))))
def m_ends_at : List T → M T := mkFn 4
    (sSeq (sExp (eCallX 2 m_require_row (aCons (eVar 0) (aCons (eVar 1) aNil))))
    (sSeq (sSet 2 (eCallX 2 m_run_in (aCons (eVar 0) (aCons (eVar 1) aNil))))
    (sRet (eB (g1 gTuple) (aCons (eTree (lComp [3] (iAny (eOp (ld2 gIx) (eVar 0) (eC (.int 2)))) (hName 3) bYes (eOp (ld2 gIx) (eVar 2) (eVar 3)))) aNil)))))
def e_end_columns_1 : Env → M T := (eCallX 2 m_bits_told (aCons (eOp (ld2 gIx) (eVar 1) (eVar 2)) (aCons (eOp (ld2 gIx) (eVar 0) (eC (.int 0))) aNil)))
def m_end_columns : List T → M T := mkFn 3
    (sSeq (sExp (eCallV 0 3 m_require_net (aCons (eVar 0) aNil)))
    (sSeq (sSet 1 (eCallX 1 m_wide_run (aCons (eVar 0) aNil)))
    (sRet (eB (g1 gTuple) (aCons (eTree (lComp [2] (iAny (eOp (ld2 gIx) (eVar 0) (eC (.int 2)))) (hName 2) bYes e_end_columns_1)) aNil)))))
def b_levels_in_1 : Env → M Fl := (sExp (eMeth isL gAppend (eVar 1) (aCons (eIf (bT (eOp (ld2 gNe) (eOp (ld2 gIx) (eVar 2) (eC (.int 1))) (eTup aNil))) (eOp (ld2 gAdd) (eC (.int 1)) (eB (g1 gMaxB) (aCons (eTree (lComp [3] (iAny (eOp (ld2 gIx) (eVar 2) (eC (.int 1)))) (hName 3) bYes (eOp (ld2 gIx) (eVar 1) (eVar 3)))) aNil))) (eC (.int 0))) aNil)))
def m_levels_in : List T → M T := mkFn 4
    (sSeq (sSet 1 (eCell (lRep (eTree (lLst (aCons (eC (.int 0)) aNil))) (eOp (ld2 gIx) (eVar 0) (eC (.int 0))))))
    (sSeq (sFor (iAny (eOp (ld2 gIx) (eVar 0) (eC (.int 1)))) (hName 2) b_levels_in_1)
    (sRet (eFrz (eVar 1)))))
def m_levels : List T → M T := mkFn 1
    (sSeq (sExp (eCallV 0 3 m_require_net (aCons (eVar 0) aNil)))
    (sRet (eB (g1 gTuple) (aCons (eCallX 1 m_levels_in (aCons (eVar 0) aNil)) aNil))))
def m_depth : List T → M T := mkFn 3
    (sSeq (sExp (eCallV 0 3 m_require_net (aCons (eVar 0) aNil)))
    (sSeq (sSet 1 (eCallX 1 m_levels_in (aCons (eVar 0) aNil)))
    (sRet (eB (g1 gMaxB) (aCons (eTree (lComp [2] (iAny (eOp (ld2 gIx) (eVar 0) (eC (.int 2)))) (hName 2) bYes (eOp (ld2 gIx) (eVar 1) (eVar 2)))) aNil)))))
def m_gate_counts : List T → M T := mkFn 4
    (sSeq (sExp (eCallV 0 3 m_require_net (aCons (eVar 0) aNil)))
    (sSeq (sSet 1 (eTree (lComp [2] (iAny (eOp (ld2 gIx) (eVar 0) (eC (.int 1)))) (hName 2) bYes (eOp (ld2 gIx) (eVar 2) (eC (.int 0))))))
    (sRet (dComp false [3] (iAny (eC K_KINDS)) (hName 3) (bT (eOp (ld2 (gIn false)) (eVar 3) (eVar 1))) (eVar 3) (eMeth isL gCountD (eVar 1) (aCons (eVar 3) aNil))))))
def l__law_ones_1 : Env → M T := (eLam m__law_met (eCallX 2 m_run_of (aCons (eVar 0) (aCons (eVar 1) aNil))))
def l__law_ones_2 : Env → M T := (eLam m__law_met (eCallX 2 m_ends_at (aCons (eVar 0) (aCons (eVar 1) aNil))))
def l__law_ones_3 : Env → M T := (eLam m__law_met (eCallX 1 m_end_columns (aCons (eVar 0) aNil)))
def l__law_ones_4 : Env → M T := (eLam m__law_met (eCallX 1 m_levels (aCons (eVar 0) aNil)))
def l__law_ones_5 : Env → M T := (eLam m__law_met (eCallX 1 m_depth (aCons (eVar 0) aNil)))
def l__law_ones_6 : Env → M T := (eLam m__law_met (eCallX 1 m_gate_counts (aCons (eVar 0) aNil)))
def m__law_ones : List T → M T := mkFn 3
    (sSeq (sSet 2 (eCell (lLst (aCons l__law_ones_1 aNil))))
    (sSeq (sExp (eMeth isL gAppend (eVar 2) (aCons l__law_ones_2 aNil)))
    (sSeq (sExp (eMeth isL gAppend (eVar 2) (aCons l__law_ones_3 aNil)))
    (sSeq (sExp (eMeth isL gAppend (eVar 2) (aCons l__law_ones_4 aNil)))
    (sSeq (sExp (eMeth isL gAppend (eVar 2) (aCons l__law_ones_5 aNil)))
    (sSeq (sExp (eMeth isL gAppend (eVar 2) (aCons l__law_ones_6 aNil)))
    (sRet (eFrz (eVar 2)))))))))
def m_require_like : List T → M T := mkFn 2
    (sSeq (sExp (eCallV 0 3 m_require_net (aCons (eVar 0) (aCons (eVar 1) aNil))))
    (sIf (bOr (bT (eOp (ld2 gNe) (eOp (ld2 gIx) (eVar 0) (eC (.int 0))) (eOp (ld2 gIx) (eVar 1) (eC (.int 0))))) (bT (eOp (ld2 gNe) (eB (g1 gLen) (aCons (eOp (ld2 gIx) (eVar 0) (eC (.int 2))) aNil)) (eB (g1 gLen) (aCons (eOp (ld2 gIx) (eVar 1) (eC (.int 2))) aNil))))) (sRaise0 "InvalidOperation") sNil))
def e_row_at_1 : Env → M T := (eOp (ld2 (gBit Builtin.bitAnd)) (eOp (ld2 gShr) (eVar 1) (eOp (ld2 gSub) (eOp (ld2 gSub) (eVar 0) (eC (.int 1))) (eVar 2))) (eC (.int 1)))
def m_row_at : List T → M T := mkFn 3
    (sRet (eB (g1 gTuple) (aCons (eTree (lComp [2] (iB gRange1 (aCons (eVar 0) aNil)) (hName 2) bYes e_row_at_1)) aNil)))
def b_unlike_in_1 : Env → M Fl := (sIf (bT (eOp (ld2 gNe) (eOp (ld2 gIx) (eVar 2) (eVar 4)) (eOp (ld2 gIx) (eVar 3) (eVar 5)))) (sSeq (sSet 6 (eCallX 2 m_bits_told (aCons (eOp (ld2 (gBit Builtin.bitXor)) (eOp (ld2 gIx) (eVar 2) (eVar 4)) (eOp (ld2 gIx) (eVar 3) (eVar 5))) (aCons (eOp (ld2 gIx) (eVar 0) (eC (.int 0))) aNil))))
    (sRet (eCallX 2 m_row_at (aCons (eOp (ld2 gIx) (eVar 0) (eC (.int 0))) (aCons (eMeth isL gIndex (eVar 6) (aCons (eC (.int 1)) aNil)) aNil))))) sNil)
def m_unlike_in : List T → M T := mkFn 7
    (sSeq (sPar 2 3 (aCons (eCallX 1 m_wide_run (aCons (eVar 0) aNil)) (aCons (eCallX 1 m_wide_run (aCons (eVar 1) aNil)) aNil)))
    (sSeq (sFor (iB gZip (aCons (eOp (ld2 gIx) (eVar 0) (eC (.int 2))) (aCons (eOp (ld2 gIx) (eVar 1) (eC (.int 2))) aNil))) (hTup 2 (hsCons (hName 4) (hsCons (hName 5) hsNil))) b_unlike_in_1)
    (sRet (eC .non))))
def m_alike_paper : List T → M T := mkFn 3
    (sSeq (sExp (eCallX 2 m_require_like (aCons (eVar 0) (aCons (eVar 1) aNil))))
    (sSeq (sSet 2 (eCallX 2 m_unlike_in (aCons (eVar 0) (aCons (eVar 1) aNil))))
    (sRet (eIf (bT (eOp (ld2 gIsN) (eVar 2) (eC .non))) (eTup (aCons (eC (.str c_INPUT)) (aCons (eVar 2) aNil))) (eTup (aCons (eC (.str c_ALIKE)) aNil))))))
def m_is_alike_paper : List T → M T := mkFn 6
    (sSeq (sExp (eCallX 2 m_require_like (aCons (eVar 0) (aCons (eVar 1) aNil))))
    (sSeq (sIf (bOr (bNot (bT (eB (g2 gIsi) (aCons (eVar 2) (aCons (eC (.ty "tuple")) aNil))))) (bOr (bT (eOp (ld2 (gIn true)) (eB (g1 gLen) (aCons (eVar 2) aNil)) (eTup (aCons (eC (.int 1)) (aCons (eC (.int 2)) aNil))))) (bNot (bT (eB (g2 gIsi) (aCons (eOp (ld2 gIx) (eVar 2) (eC (.int 0))) (aCons (eC (.ty "str")) aNil))))))) (sRet (eC (.bl false))) sNil)
    (sSeq (sIf (bT (eOp (ld2 gEq) (eB (g1 gLen) (aCons (eVar 2) aNil)) (eC (.int 1)))) (sRet (eAnd (eOp (ld2 gEq) (eOp (ld2 gIx) (eVar 2) (eC (.int 0))) (eC (.str c_ALIKE))) (eOp (ld2 gIs) (eCallX 2 m_unlike_in (aCons (eVar 0) (aCons (eVar 1) aNil))) (eC .non)))) sNil)
    (sSeq (sIf (bOr (bT (eOp (ld2 gNe) (eOp (ld2 gIx) (eVar 2) (eC (.int 0))) (eC (.str c_INPUT)))) (bNot (bT (eCallX 2 m_are_bits (aCons (eOp (ld2 gIx) (eVar 2) (eC (.int 1))) (aCons (eOp (ld2 gIx) (eVar 0) (eC (.int 0))) aNil)))))) (sRet (eC (.bl false))) sNil)
    (sSeq (sTgt (hTup 2 (hsCons (hName 3) (hsCons (hName 4) hsNil))) (eTup (aCons (eCallX 2 m_run_in (aCons (eVar 0) (aCons (eOp (ld2 gIx) (eVar 2) (eC (.int 1))) aNil))) (aCons (eCallX 2 m_run_in (aCons (eVar 1) (aCons (eOp (ld2 gIx) (eVar 2) (eC (.int 1))) aNil))) aNil))))
    (sRet (eOp (ld2 gNe) (eTree (lComp [5] (iAny (eOp (ld2 gIx) (eVar 0) (eC (.int 2)))) (hName 5) bYes (eOp (ld2 gIx) (eVar 3) (eVar 5)))) (eTree (lComp [5] (iAny (eOp (ld2 gIx) (eVar 1) (eC (.int 2)))) (hName 5) bYes (eOp (ld2 gIx) (eVar 4) (eVar 5)))))))))))
def m_are_alike : List T → M T := mkFn 2
    (sSeq (sExp (eCallX 2 m_require_like (aCons (eVar 0) (aCons (eVar 1) aNil))))
    (sRet (eOp (ld2 gIs) (eCallX 2 m_unlike_in (aCons (eVar 0) (aCons (eVar 1) aNil))) (eC .non))))
def l__law_twos_1 : Env → M T := (eLam m__law_met (eCallX 2 m_beside (aCons (eVar 0) (aCons (eVar 1) aNil))))
def l__law_twos_2 : Env → M T := (eLam m__law_met (eCallX 2 m_behind (aCons (eVar 0) (aCons (eVar 1) aNil))))
def l__law_twos_3 : Env → M T := (eLam m__law_met (eCallX 2 m_joint (aCons (eVar 0) (aCons (eVar 1) aNil))))
def l__law_twos_4 : Env → M T := (eLam m__law_met (eCallX 2 m_alike_paper (aCons (eVar 0) (aCons (eVar 1) aNil))))
def l__law_twos_5 : Env → M T := (eLam m__law_met (eCallX 3 m_is_alike_paper (aCons (eVar 0) (aCons (eVar 1) (aCons (eC .non) aNil)))))
def l__law_twos_6 : Env → M T := (eLam m__law_met (eCallX 2 m_are_alike (aCons (eVar 0) (aCons (eVar 1) aNil))))
def m__law_twos : List T → M T := mkFn 3
    (sSeq (sSet 2 (eCell (lLst (aCons l__law_twos_1 aNil))))
    (sSeq (sExp (eMeth isL gAppend (eVar 2) (aCons l__law_twos_2 aNil)))
    (sSeq (sExp (eMeth isL gAppend (eVar 2) (aCons l__law_twos_3 aNil)))
    (sSeq (sExp (eMeth isL gAppend (eVar 2) (aCons l__law_twos_4 aNil)))
    (sSeq (sExp (eMeth isL gAppend (eVar 2) (aCons l__law_twos_5 aNil)))
    (sSeq (sExp (eMeth isL gAppend (eVar 2) (aCons l__law_twos_6 aNil)))
    (sRet (eFrz (eVar 2)))))))))
def m_with_ends : List T → M T := mkFn 2
    (sSeq (sExp (eCallV 0 3 m_require_net (aCons (eVar 0) aNil)))
    (sSeq (sIf (bOr (bNot (bT (eCallX 2 m_are_wires (aCons (eVar 1) (aCons (eCallX 1 m_wires_in (aCons (eVar 0) aNil)) aNil))))) (bNot (bChain (ld2 (gCmp fun i j => decide (i ≤ j))) (ld2 (gCmp fun i j => decide (i ≤ j))) (eC (.int 1)) (eB (g1 gLen) (aCons (eVar 1) aNil)) (eC (.int c_MOST_ENDS))))) (sRaise0 "InvalidReport") sNil)
    (sRet (eTup (aCons (eOp (ld2 gIx) (eVar 0) (eC (.int 0))) (aCons (eOp (ld2 gIx) (eVar 0) (eC (.int 1))) (aCons (eVar 1) aNil)))))))
def c__law_right_1 : Env → M Bool := (bOr (bT (eOp (ld2 gNe) (eCallX 2 m__law_wires (aCons (eVar 1) (aCons (eVar 4) aNil))) (eOp (ld2 gMulA) (eTree (lLst (aCons (eTup (aCons (eC (.str "net")) aNil)) aNil))) (eC (.int 4))))) (bOr (bT (eOp (ld2 gNe) (eCallX 2 m__law_wires (aCons (eVar 2) (aCons (eVar 4) aNil))) (eOp (ld2 gMulA) (eTree (lLst (aCons (eVar 6) aNil))) (eC (.int 4))))) (bT (eOp (ld2 gNe) (eCallX 2 m__law_wires (aCons (eVar 2) (aCons (eC (.int 1)) aNil))) (eOp (ld2 gAdd) (eOp (ld2 gMulA) (eTree (lLst (aCons (eTup (aCons (eC (.str "fine")) aNil)) aNil))) (eC (.int 3))) (eTree (lLst (aCons (eTup (aCons (eC (.str "operation")) aNil)) aNil))))))))
def c__law_right_2 : Env → M Bool := (bOr (bT (eOp (ld2 gNe) (eCallX 2 m__law_ones (aCons (eVar 1) (aCons (eVar 5) aNil))) (eOp (ld2 gMulA) (eTree (lLst (aCons (eTup (aCons (eC (.str "net")) aNil)) aNil))) (eC (.int 6))))) (bT (eOp (ld2 gNe) (eCallX 2 m__law_ones (aCons (eVar 2) (aCons (eVar 5) aNil))) (eOp (ld2 gAdd) (eOp (ld2 gMulA) (eTree (lLst (aCons (eTup (aCons (eC (.str "row")) aNil)) aNil))) (eC (.int 2))) (eOp (ld2 gMulA) (eTree (lLst (aCons (eTup (aCons (eC (.str "fine")) aNil)) aNil))) (eC (.int 4)))))))
def c__law_right_3 : Env → M Bool := (bT (eOp (ld2 gNe) (eOp (ld2 gAdd) (eCallX 2 m__law_wires (aCons (eVar 2) (aCons (eC (.int 3)) aNil))) (eCallX 2 m__law_ones (aCons (eVar 2) (aCons (eTup (aCons (eC (.int 0)) (aCons (eC (.int 1)) aNil))) aNil)))) (eOp (ld2 gMulA) (eTree (lLst (aCons (eTup (aCons (eC (.str "fine")) aNil)) aNil))) (eC (.int 10)))))
def c__law_right_4 : Env → M Bool := (bOr (bT (eOp (ld2 gNe) (eOp (ld2 gAdd) (eOp (ld2 gAdd) (eCallX 2 m__law_twos (aCons (eVar 1) (aCons (eVar 1) aNil))) (eCallX 2 m__law_twos (aCons (eVar 2) (aCons (eVar 1) aNil)))) (eCallX 2 m__law_twos (aCons (eVar 1) (aCons (eVar 2) aNil)))) (eOp (ld2 gMulA) (eTree (lLst (aCons (eTup (aCons (eC (.str "net")) aNil)) aNil))) (eC (.int 18))))) (bT (eOp (ld2 gNe) (eCallX 2 m__law_twos (aCons (eVar 2) (aCons (eVar 2) aNil))) (eOp (ld2 gMulA) (eTree (lLst (aCons (eTup (aCons (eC (.str "fine")) aNil)) aNil))) (eC (.int 6))))))
def c__law_right_5 : Env → M Bool := (bOr (bT (eOp (ld2 gNe) (eCallX 2 m__law_twos (aCons (eVar 2) (aCons (eVar 3) aNil))) (eOp (ld2 gAdd) (eTree (lLst (aCons (eTup (aCons (eC (.str "fine")) aNil)) aNil))) (eOp (ld2 gMulA) (eTree (lLst (aCons (eTup (aCons (eC (.str "operation")) aNil)) aNil))) (eC (.int 5)))))) (bT (eOp (ld2 gNe) (eCallX 2 m__law_twos (aCons (eVar 2) (aCons (eTup (aCons (eC (.int 2)) (aCons (eTup aNil) (aCons (eTup (aCons (eC (.int 0)) aNil)) aNil)))) aNil))) (eOp (ld2 gAdd) (eOp (ld2 gMulA) (eTree (lLst (aCons (eTup (aCons (eC (.str "fine")) aNil)) aNil))) (eC (.int 3))) (eOp (ld2 gMulA) (eTree (lLst (aCons (eTup (aCons (eC (.str "operation")) aNil)) aNil))) (eC (.int 3)))))))
def l__law_right_1 : Env → M T := (eLam m__law_met (eCallX 2 m_with_ends (aCons (eVar 1) (aCons (eVar 7) aNil))))
def l__law_right_2 : Env → M T := (eLam m__law_met (eCallX 2 m_with_ends (aCons (eVar 2) (aCons (eVar 7) aNil))))
def l__law_right_3 : Env → M T := (eLam m__law_met (eCallX 2 m_with_ends (aCons (eVar 2) (aCons (eOp (ld2 gMulA) (eTup (aCons (eC (.int 3)) aNil)) (eC (.int 16))) aNil))))
def m__law_right : List T → M T := mkFn 9
    (sSeq (sTgt (hTup 3 (hsCons (hName 1) (hsCons (hName 2) (hsCons (hName 3) hsNil)))) (eTup (aCons (eCallX 1 m__law_bad (aCons (eVar 0) aNil)) (aCons (eTup (aCons (eC (.int 2)) (aCons (eTup (aCons (eTup (aCons (eC (.str "xor")) (aCons (eTup (aCons (eC (.int 0)) (aCons (eC (.int 1)) aNil))) aNil))) (aCons (eTup (aCons (eC (.str "and")) (aCons (eTup (aCons (eC (.int 0)) (aCons (eC (.int 1)) aNil))) aNil))) aNil))) (aCons (eTup (aCons (eC (.int 2)) (aCons (eC (.int 3)) aNil))) aNil)))) (aCons (eTup (aCons (eC (.int 1)) (aCons (eTup (aCons (eTup (aCons (eC (.str "not")) (aCons (eTup (aCons (eC (.int 0)) aNil)) aNil))) aNil)) (aCons (eTup (aCons (eC (.int 1)) aNil)) aNil)))) aNil)))))
    (sSeq (sSet 4 (eCallX 2 m__law_one_of (aCons (eVar 0) (aCons (eTree (lLst (aCons (eC (.int 4)) (aCons (eUn (fun x => M.bind (ld x) gNeg) (eC (.int 1))) (aCons (eC .non) (aCons (eC (.bl true)) (aCons (eC (.str "0")) (aCons (eTup (aCons (eC (.int 0)) aNil)) (aCons (eOp (ld2 gPowW) (eC (.int 10)) (eC (.int 60))) aNil))))))))) aNil))))
    (sSeq (sSet 5 (eCallX 2 m__law_one_of (aCons (eVar 0) (aCons (eTree (lLst (aCons (eC .non) (aCons (eTup aNil) (aCons (eTup (aCons (eC (.int 0)) aNil)) (aCons (eTree (lLst (aCons (eC (.int 0)) (aCons (eC (.int 1)) aNil)))) (aCons (eTup (aCons (eC (.int 0)) (aCons (eC (.int 2)) aNil))) (aCons (eTup (aCons (eC (.int 0)) (aCons (eUn (fun x => M.bind (ld x) gNeg) (eC (.int 1))) aNil))) (aCons (eTup (aCons (eC (.int 0)) (aCons (eC (.bl true)) aNil))) (aCons (eTup (aCons (eC (.int 0)) (aCons (eC (.str "1")) aNil))) (aCons (eTup (aCons (eC (.int 0)) (aCons (eC (.int 1)) (aCons (eC (.int 0)) aNil)))) (aCons (eC (.int 0)) aNil)))))))))))) aNil))))
    (sSeq (sSet 6 (eTup (aCons (eC (.str "number")) (aCons (eB (g1 gRepr) (aCons (eVar 4) aNil)) aNil))))
    (sSeq (sIf c__law_right_1 (sRet (eC (.bl false))) sNil)
    (sSeq (sIf c__law_right_2 (sRet (eC (.bl false))) sNil)
    (sSeq (sIf c__law_right_3 (sRet (eC (.bl false))) sNil)
    (sSeq (sIf c__law_right_4 (sRet (eC (.bl false))) sNil)
    (sSeq (sIf c__law_right_5 (sRet (eC (.bl false))) sNil)
    (sSeq (sSet 7 (eCallX 2 m__law_one_of (aCons (eVar 0) (aCons (eTree (lLst (aCons (eC .non) (aCons (eTup aNil) (aCons (eTup (aCons (eC (.int 4)) aNil)) (aCons (eTup (aCons (eUn (fun x => M.bind (ld x) gNeg) (eC (.int 1))) aNil)) (aCons (eTree (lLst (aCons (eC (.int 2)) aNil))) (aCons (eTup (aCons (eC (.bl true)) aNil)) (aCons (eOp (ld2 gMulA) (eTup (aCons (eC (.int 0)) aNil)) (eC (.int 17))) (aCons (eC (.int 0)) (aCons (eTup (aCons (eC (.str "0")) aNil)) (aCons (eTup (aCons (eC .non) aNil)) aNil)))))))))))) aNil))))
    (sSeq (sSet 8 (eCell (lLst (aCons l__law_right_1 aNil))))
    (sSeq (sExp (eMeth isL gAppend (eVar 8) (aCons l__law_right_2 aNil)))
    (sSeq (sExp (eMeth isL gAppend (eVar 8) (aCons l__law_right_3 aNil)))
    (sRet (eOp (ld2 gEq) (eVar 8) (eTree (lLst (aCons (eTup (aCons (eC (.str "net")) aNil)) (aCons (eTup (aCons (eC (.str "report")) aNil)) (aCons (eTup (aCons (eC (.str "fine")) aNil)) aNil))))))))))))))))))))
def c_law_1 : Env → M Bool := (bT (eOp (ld2 gNe) (eTree (lComp [3] (iB gRange1 (aCons (eC (.int 5)) aNil)) (hName 3) (bNot (bT (eCallX 1 m__law_right (aCons (eVar 2) aNil)))) (eC (.int 1)))) (eTree (lLst aNil))))
def b_law_1 : Env → M Fl := (sSeq (sSet 2 (eCallX 2 m__law_bag (aCons (eVar 0) (aCons (eVar 1) aNil))))
    (sIf c_law_1 (sRet (eC (.bl false))) sNil))
def l_law_1 : Env → M T := (eLam m__law_met (eCallX 2 m_beside (aCons (eVar 4) (aCons (eTup (aCons (eC (.int 6)) (aCons (eTup aNil) (aCons (eTup (aCons (eC (.int 0)) aNil)) aNil)))) aNil))))
def l_law_2 : Env → M T := (eLam m__law_met (eCallX 2 m_beside (aCons (eVar 4) (aCons (eTup (aCons (eC (.int 5)) (aCons (eTup aNil) (aCons (eTup (aCons (eC (.int 0)) aNil)) aNil)))) aNil))))
def l_law_3 : Env → M T := (eLam m__law_met (eCallX 2 m_joint (aCons (eVar 5) (aCons (eVar 5) aNil))))
def l_law_4 : Env → M T := (eLam m__law_met (eCallX 2 m_behind (aCons (eVar 5) (aCons (eVar 5) aNil))))
def l_law_5 : Env → M T := (eLam m__law_met (eCallX 2 m_joint (aCons (eVar 6) (aCons (eVar 6) aNil))))
def l_law_6 : Env → M T := (eLam m__law_met (eCallX 2 m_beside (aCons (eTup (aCons (eC (.int 7)) (aCons (eOp (ld2 gMulA) (eTup (aCons (eTup (aCons (eC (.str "zero")) (aCons (eTup aNil) aNil))) aNil)) (eC (.int 90))) (aCons (eOp (ld2 gMulA) (eTup (aCons (eC (.int 0)) aNil)) (eC (.int 9))) aNil)))) (aCons (eTup (aCons (eC (.int 6)) (aCons (eOp (ld2 gMulA) (eTup (aCons (eTup (aCons (eC (.str "zero")) (aCons (eTup aNil) aNil))) aNil)) (eC (.int 90))) (aCons (eOp (ld2 gMulA) (eTup (aCons (eC (.int 0)) aNil)) (eC (.int 9))) aNil)))) aNil))))
def l_law_7 : Env → M T := (eLam m__law_met (eCallX 2 m_joint (aCons (eTup (aCons (eC (.int 1)) (aCons (eOp (ld2 gMulA) (eTup (aCons (eTup (aCons (eC (.str "zero")) (aCons (eTup aNil) aNil))) aNil)) (eC (.int 90))) (aCons (eOp (ld2 gMulA) (eTup (aCons (eC (.int 0)) aNil)) (eC (.int 9))) aNil)))) (aCons (eTup (aCons (eC (.int 1)) (aCons (eOp (ld2 gMulA) (eTup (aCons (eTup (aCons (eC (.str "zero")) (aCons (eTup aNil) aNil))) aNil)) (eC (.int 90))) (aCons (eOp (ld2 gMulA) (eTup (aCons (eC (.int 0)) aNil)) (eC (.int 9))) aNil)))) aNil))))
def c_law_2 : Env → M Bool := (bT (eOp (ld2 gNe) (eVar 7) (eTree (lLst (aCons (eTup (aCons (eC (.str "many")) (aCons (eC (.int 12)) aNil))) (aCons (eTup (aCons (eC (.str "fine")) aNil)) (aCons (eTup (aCons (eC (.str "many")) (aCons (eC (.int 160)) aNil))) (aCons (eTup (aCons (eC (.str "many")) (aCons (eC (.int 160)) aNil))) (aCons (eTup (aCons (eC (.str "many")) (aCons (eC (.int 16)) aNil))) (aCons (eTup (aCons (eC (.str "many")) (aCons (eC (.int 12)) aNil))) (aCons (eTup (aCons (eC (.str "many")) (aCons (eC (.int 160)) aNil))) aNil)))))))))))
def m_law : List T → M T := mkFn 8
    (sSeq (sFor (iB gRange1 (aCons (eB (g2 gMax2) (aCons (eC (.int 1)) (aCons (eB (g2 gMin2) (aCons (eC (.int 4)) (aCons (eB (g1 gLen) (aCons (eVar 0) aNil)) aNil))) aNil))) aNil)) (hName 1) b_law_1)
    (sSeq (sTgt (hTup 3 (hsCons (hName 4) (hsCons (hName 5) (hsCons (hName 6) hsNil)))) (eTup (aCons (eTup (aCons (eC (.int 7)) (aCons (eTup aNil) (aCons (eTup (aCons (eC (.int 0)) aNil)) aNil)))) (aCons (eTup (aCons (eC (.int 1)) (aCons (eOp (ld2 gMulA) (eTup (aCons (eTup (aCons (eC (.str "not")) (aCons (eTup (aCons (eC (.int 0)) aNil)) aNil))) aNil)) (eC (.int 81))) (aCons (eTup (aCons (eC (.int 0)) aNil)) aNil)))) (aCons (eTup (aCons (eC (.int 1)) (aCons (eTup aNil) (aCons (eOp (ld2 gMulA) (eTup (aCons (eC (.int 0)) aNil)) (eC (.int 9))) aNil)))) aNil)))))
    (sSeq (sSet 7 (eCell (lLst (aCons l_law_1 aNil))))
    (sSeq (sExp (eMeth isL gAppend (eVar 7) (aCons l_law_2 aNil)))
    (sSeq (sExp (eMeth isL gAppend (eVar 7) (aCons l_law_3 aNil)))
    (sSeq (sExp (eMeth isL gAppend (eVar 7) (aCons l_law_4 aNil)))
    (sSeq (sExp (eMeth isL gAppend (eVar 7) (aCons l_law_5 aNil)))
    (sSeq (sExp (eMeth isL gAppend (eVar 7) (aCons l_law_6 aNil)))
    (sSeq (sExp (eMeth isL gAppend (eVar 7) (aCons l_law_7 aNil)))
    (sSeq (sIf c_law_2 (sRet (eC (.bl false))) sNil)
    (sRet (eOp (ld2 gEq) (eTree (lLst (aCons (eC (.int c_MOST_INPUTS)) (aCons (eC (.int c_MOST_GATES)) (aCons (eC (.int c_MOST_ENDS)) (aCons (eC K_KINDS) aNil)))))) (eTree (lLst (aCons (eC (.int 12)) (aCons (eC (.int 160)) (aCons (eC (.int 16)) (aCons (eTup (aCons (eC (.str "and")) (aCons (eC (.str "choose")) (aCons (eC (.str "most")) (aCons (eC (.str "not")) (aCons (eC (.str "one")) (aCons (eC (.str "or")) (aCons (eC (.str "table")) (aCons (eC (.str "xor")) (aCons (eC (.str "zero")) aNil)))))))))) aNil))))))))))))))))))
open LamX
theorem N_given : XfN "given" := ⟨rfl, by decide, by decide, rfl, rfl, fun _ _ _ _ _ _ _ _ _ _ _ _ => rfl⟩
theorem N_limit : XfN "limit" := ⟨rfl, by decide, by decide, rfl, rfl, fun _ _ _ _ _ _ _ _ _ _ _ _ => rfl⟩
variable [Tb]
/-- what stands at the names -/
structure Facts (P : Program) (w : World) (K : PySem.W.Frag) (mg : Str → Option Value) (base : Heap) : Prop where
  x_InvalidNet : ∃ C, X0T K mg "ValueError" "ValueError.__new__" "ValueError.__init__" [.type "ValueError", .type "Exception", .type "BaseException", .type "object"] "InvalidNet" C
  x_InvalidNumber : ∃ C, XcT K mg P "IndexError" "IndexError.__new__" "IndexError.__init__" [.type "IndexError", .type "LookupError", .type "Exception", .type "BaseException", .type "object"] "InvalidNumber" "given" C
  x_InvalidOperation : ∃ C, X0T K mg "ValueError" "ValueError.__new__" "ValueError.__init__" [.type "ValueError", .type "Exception", .type "BaseException", .type "object"] "InvalidOperation" C
  x_InvalidReport : ∃ C, X0T K mg "ValueError" "ValueError.__new__" "ValueError.__init__" [.type "ValueError", .type "Exception", .type "BaseException", .type "object"] "InvalidReport" C
  x_InvalidRow : ∃ C, X0T K mg "ValueError" "ValueError.__new__" "ValueError.__init__" [.type "ValueError", .type "Exception", .type "BaseException", .type "object"] "InvalidRow" C
  x_TooMany : ∃ C, XcT K mg P "OverflowError" "OverflowError.__new__" "OverflowError.__init__" [.type "OverflowError", .type "ArithmeticError", .type "Exception", .type "BaseException", .type "object"] "TooMany" "limit" C
  xs : ∃ C_InvalidNet C_InvalidRow C_InvalidReport C_InvalidOperation C_InvalidNumber C_TooMany, XCs K mg [("InvalidNet", C_InvalidNet), ("InvalidRow", C_InvalidRow), ("InvalidReport", C_InvalidReport), ("InvalidOperation", C_InvalidOperation), ("InvalidNumber", C_InvalidNumber), ("TooMany", C_TooMany)] ∧ XcT K mg P "IndexError" "IndexError.__new__" "IndexError.__init__" [.type "IndexError", .type "LookupError", .type "Exception", .type "BaseException", .type "object"] "InvalidNumber" "given" C_InvalidNumber ∧ XcT K mg P "OverflowError" "OverflowError.__new__" "OverflowError.__init__" [.type "OverflowError", .type "ArithmeticError", .type "Exception", .type "BaseException", .type "object"] "TooMany" "limit" C_TooMany
  f__law_bag : ∃ f fd, mg "_law_bag" = some (.ref f) ∧ Fun K "_law_bag" "_law_bag" (top 64) f fd
  f__law_met : ∃ f fd, mg "_law_met" = some (.ref f) ∧ Fun K "_law_met" "_law_met" (top 67) f fd
  f_is_within : ∃ f fd, mg "is_within" = some (.ref f) ∧ Fun K "is_within" "is_within" (top 9) f fd
  f_are_wires : ∃ f fd, mg "are_wires" = some (.ref f) ∧ Fun K "are_wires" "are_wires" (top 20) f fd
  f_are_bits : ∃ f fd, mg "are_bits" = some (.ref f) ∧ Fun K "are_bits" "are_bits" (top 21) f fd
  f_is_gate : ∃ f fd, mg "is_gate" = some (.ref f) ∧ Fun K "is_gate" "is_gate" (top 22) f fd
  f_is_net_of : ∃ f fd, mg "is_net_of" = some (.ref f) ∧ Fun K "is_net_of" "is_net_of" (top 23) f fd
  f_require_net : ∃ f fd, mg "require_net" = some (.ref f) ∧ Fun K "require_net" "require_net" (top 40) f fd
  f_let_through : ∃ f fd, mg "let_through" = some (.ref f) ∧ Fun K "let_through" "let_through" (top 43) f fd
  f_inputs_of : ∃ f fd, mg "inputs_of" = some (.ref f) ∧ Fun K "inputs_of" "inputs_of" (top 29) f fd
  f_bit_of : ∃ f fd, mg "bit_of" = some (.ref f) ∧ Fun K "bit_of" "bit_of" (top 27) f fd
  f_table_in : ∃ f fd, mg "table_in" = some (.ref f) ∧ Fun K "table_in" "table_in" (top 36) f fd
  f_moved_gate : ∃ f fd, mg "moved_gate" = some (.ref f) ∧ Fun K "moved_gate" "moved_gate" (top 37) f fd
  f_beside : ∃ f fd, mg "beside" = some (.ref f) ∧ Fun K "beside" "beside" (top 56) f fd
  f_wires_in : ∃ f fd, mg "wires_in" = some (.ref f) ∧ Fun K "wires_in" "wires_in" (top 24) f fd
  f_joint_in : ∃ f fd, mg "joint_in" = some (.ref f) ∧ Fun K "joint_in" "joint_in" (top 58) f fd
  f_joint : ∃ f fd, mg "joint" = some (.ref f) ∧ Fun K "joint" "joint" (top 59) f fd
  f_behind : ∃ f fd, mg "behind" = some (.ref f) ∧ Fun K "behind" "behind" (top 57) f fd
  f__law_draw : ∃ f fd, mg "_law_draw" = some (.ref f) ∧ Fun K "_law_draw" "_law_draw" (top 65) f fd
  f__law_one_of : ∃ f fd, mg "_law_one_of" = some (.ref f) ∧ Fun K "_law_one_of" "_law_one_of" (top 66) f fd
  f__law_bad : ∃ f fd, mg "_law_bad" = some (.ref f) ∧ Fun K "_law_bad" "_law_bad" (top 68) f fd
  f_require_wire : ∃ f fd, mg "require_wire" = some (.ref f) ∧ Fun K "require_wire" "require_wire" (top 41) f fd
  f_bits_told : ∃ f fd, mg "bits_told" = some (.ref f) ∧ Fun K "bits_told" "bits_told" (top 33) f fd
  f_ones_of : ∃ f fd, mg "ones_of" = some (.ref f) ∧ Fun K "ones_of" "ones_of" (top 30) f fd
  f_wide_bit : ∃ f fd, mg "wide_bit" = some (.ref f) ∧ Fun K "wide_bit" "wide_bit" (top 31) f fd
  f_wide_run : ∃ f fd, mg "wide_run" = some (.ref f) ∧ Fun K "wide_run" "wide_run" (top 32) f fd
  f_column : ∃ f fd, mg "column" = some (.ref f) ∧ Fun K "column" "column" (top 47) f fd
  f_is_input : ∃ f fd, mg "is_input" = some (.ref f) ∧ Fun K "is_input" "is_input" (top 25) f fd
  f_gate_at : ∃ f fd, mg "gate_at" = some (.ref f) ∧ Fun K "gate_at" "gate_at" (top 26) f fd
  f_cone_in : ∃ f fd, mg "cone_in" = some (.ref f) ∧ Fun K "cone_in" "cone_in" (top 34) f fd
  f_cone : ∃ f fd, mg "cone" = some (.ref f) ∧ Fun K "cone" "cone" (top 49) f fd
  f_readers : ∃ f fd, mg "readers" = some (.ref f) ∧ Fun K "readers" "readers" (top 52) f fd
  f_tail_table : ∃ f fd, mg "tail_table" = some (.ref f) ∧ Fun K "tail_table" "tail_table" (top 54) f fd
  f__law_wires : ∃ f fd c PP, mg "_law_wires" = some (.ref f) ∧ Fun K "_law_wires" "_law_wires" (top 69) f fd ∧ fd.code = .ref c ∧ TabB base mg c PP ∧ (PP, (("_law_wires" : Str) ++ ".<locals>." ++ "<lambda>")) ∈ Tb.T ∧ ∀ p ∈ Tb.T, p.1 = PP → p.2 = (("_law_wires" : Str) ++ ".<locals>." ++ "<lambda>")
  f_require_row : ∃ f fd, mg "require_row" = some (.ref f) ∧ Fun K "require_row" "require_row" (top 42) f fd
  f_run_in : ∃ f fd, mg "run_in" = some (.ref f) ∧ Fun K "run_in" "run_in" (top 28) f fd
  f_run_of : ∃ f fd, mg "run_of" = some (.ref f) ∧ Fun K "run_of" "run_of" (top 45) f fd
  f_ends_at : ∃ f fd, mg "ends_at" = some (.ref f) ∧ Fun K "ends_at" "ends_at" (top 46) f fd
  f_end_columns : ∃ f fd, mg "end_columns" = some (.ref f) ∧ Fun K "end_columns" "end_columns" (top 48) f fd
  f_levels_in : ∃ f fd, mg "levels_in" = some (.ref f) ∧ Fun K "levels_in" "levels_in" (top 35) f fd
  f_levels : ∃ f fd, mg "levels" = some (.ref f) ∧ Fun K "levels" "levels" (top 50) f fd
  f_depth : ∃ f fd, mg "depth" = some (.ref f) ∧ Fun K "depth" "depth" (top 51) f fd
  f_gate_counts : ∃ f fd, mg "gate_counts" = some (.ref f) ∧ Fun K "gate_counts" "gate_counts" (top 53) f fd
  f__law_ones : ∃ f fd c PP, mg "_law_ones" = some (.ref f) ∧ Fun K "_law_ones" "_law_ones" (top 70) f fd ∧ fd.code = .ref c ∧ TabB base mg c PP ∧ (PP, (("_law_ones" : Str) ++ ".<locals>." ++ "<lambda>")) ∈ Tb.T ∧ ∀ p ∈ Tb.T, p.1 = PP → p.2 = (("_law_ones" : Str) ++ ".<locals>." ++ "<lambda>")
  f_require_like : ∃ f fd, mg "require_like" = some (.ref f) ∧ Fun K "require_like" "require_like" (top 44) f fd
  f_row_at : ∃ f fd, mg "row_at" = some (.ref f) ∧ Fun K "row_at" "row_at" (top 38) f fd
  f_unlike_in : ∃ f fd, mg "unlike_in" = some (.ref f) ∧ Fun K "unlike_in" "unlike_in" (top 39) f fd
  f_alike_paper : ∃ f fd, mg "alike_paper" = some (.ref f) ∧ Fun K "alike_paper" "alike_paper" (top 60) f fd
  f_is_alike_paper : ∃ f fd, mg "is_alike_paper" = some (.ref f) ∧ Fun K "is_alike_paper" "is_alike_paper" (top 61) f fd
  f_are_alike : ∃ f fd, mg "are_alike" = some (.ref f) ∧ Fun K "are_alike" "are_alike" (top 62) f fd
  f__law_twos : ∃ f fd c PP, mg "_law_twos" = some (.ref f) ∧ Fun K "_law_twos" "_law_twos" (top 71) f fd ∧ fd.code = .ref c ∧ TabB base mg c PP ∧ (PP, (("_law_twos" : Str) ++ ".<locals>." ++ "<lambda>")) ∈ Tb.T ∧ ∀ p ∈ Tb.T, p.1 = PP → p.2 = (("_law_twos" : Str) ++ ".<locals>." ++ "<lambda>")
  f_with_ends : ∃ f fd, mg "with_ends" = some (.ref f) ∧ Fun K "with_ends" "with_ends" (top 55) f fd
  f__law_right : ∃ f fd c PP, mg "_law_right" = some (.ref f) ∧ Fun K "_law_right" "_law_right" (top 72) f fd ∧ fd.code = .ref c ∧ TabB base mg c PP ∧ (PP, (("_law_right" : Str) ++ ".<locals>." ++ "<lambda>")) ∈ Tb.T ∧ ∀ p ∈ Tb.T, p.1 = PP → p.2 = (("_law_right" : Str) ++ ".<locals>." ++ "<lambda>")
  f_law : ∃ f fd c PP, mg "law" = some (.ref f) ∧ Fun K "law" "law" (top 73) f fd ∧ fd.code = .ref c ∧ TabB base mg c PP ∧ (PP, (("law" : Str) ++ ".<locals>." ++ "<lambda>")) ∈ Tb.T ∧ ∀ p ∈ Tb.T, p.1 = PP → p.2 = (("law" : Str) ++ ".<locals>." ++ "<lambda>")
  z_abs : mg "abs" = none
  z_all : mg "all" = none
  z_bool : mg "bool" = none
  z_enumerate : mg "enumerate" = none
  z_int : mg "int" = none
  z_isinstance : mg "isinstance" = none
  z_len : mg "len" = none
  z_list : mg "list" = none
  z_max : mg "max" = none
  z_min : mg "min" = none
  z_range : mg "range" = none
  z_repr : mg "repr" = none
  z_sorted : mg "sorted" = none
  z_str : mg "str" = none
  z_sum : mg "sum" = none
  z_tuple : mg "tuple" = none
  z_zip : mg "zip" = none
  c_ALIKE : ∃ t, mg "ALIKE" = some (.str c_ALIKE t)
  c_INPUT : ∃ t, mg "INPUT" = some (.str c_INPUT t)
  c_KINDS : ∃ a, mg "KINDS" = some (.ref a) ∧ ∀ F ι, Rp K F ι (.ref a) K_KINDS
  c_MOST_ENDS : ∃ t, mg "MOST_ENDS" = some (.int c_MOST_ENDS t)
  c_MOST_GATES : ∃ t, mg "MOST_GATES" = some (.int c_MOST_GATES t)
  c_MOST_INPUTS : ∃ t, mg "MOST_INPUTS" = some (.int c_MOST_INPUTS t)
  c_MOST_TABLED : ∃ t, mg "MOST_TABLED" = some (.int c_MOST_TABLED t)
  c_SIZES : ∃ a, mg "SIZES" = some (.ref a) ∧ KD K w a (kdV D_SIZES)
  c_TABLE : ∃ t, mg "TABLE" = some (.str c_TABLE t)
section
variable {P : Program} {w : World} {K : PySem.W.Frag} {mg : Str → Option Value} {base : Heap}
theorem D__law_bag (h : Facts P w K mg base) : Def P w K mg base "_law_bag" 1 2 m__law_bag := by
  obtain ⟨f, fd, gf, F⟩ := h.f__law_bag
  exact def_mk (N := ["script", "spot", "cell", "great", "blend"]) (ps := ["script", "spot"]) gf F ⟨rfl, rfl, rfl, by decide +kernel, rfl, by decide +kernel, by decide +kernel⟩ rfl (fun _ _ _ _ _ _ us hl => match us, hl with | [_, _], _ => rfl) (fun cdv A outer s H E o =>
    (b_cons (s_set (i := 2) o.nd (d_if (t_cmp (o_lt o) (d_var 1) (d_bi c_len h.z_len PySem.boot_len (a_cons (d_var 0) a_nil))) (d_bty c_int h.z_int PyProof.Rows.boot_int (a_cons (d_ix o (d_var 0) (d_var 1)) a_nil)) (d_op o_add (d_op o_mul d_int (d_var 1)) d_int)))
    (b_cons (s_set (i := 3) o.nd (d_op o_mod (d_bi (c_max2 o) h.z_max PyProof.Rows.boot_max (a_cons d_int (a_cons (d_op o_sub (d_bi c_abs h.z_abs PyProof.Rows.boot_abs (a_cons (d_var 2) a_nil)) (d_op o_powW d_int d_int)) a_nil))) (d_op o_mul (d_op o_powW d_int d_int) (d_op o_powW d_int d_int))))
    (b_cons (s_set (i := 4) o.nd (d_op o_add (d_op o_add (d_op o_add (d_op o_mul (d_op o_mod (d_bty c_int h.z_int PyProof.Rows.boot_int (a_cons (d_bi c_abs h.z_abs PyProof.Rows.boot_abs (a_cons (d_var 2) a_nil)) a_nil)) (d_op o_add (d_op o_powW d_int d_int) d_int)) d_int) (d_op o_mul d_int (d_var 1))) (d_op o_mul d_int (d_bty c_int h.z_int PyProof.Rows.boot_int (a_cons (d_cmp (o_lt o) (d_var 2) d_int) a_nil)))) d_int))
    (b_one (s_ret (d_cell (l_lst (a_cons (d_var 3) (a_cons (d_op o_mod (d_bty c_int h.z_int PyProof.Rows.boot_int (a_cons (d_var 4) a_nil)) (d_op o_sub (d_op o_powW d_int d_int) d_int)) a_nil)))))))))) rfl
theorem D__law_met (h : Facts P w K mg base) : LamDef P w K mg "_law_met" m__law_met := by
  obtain ⟨f, fd, gf, F⟩ := h.f__law_met
  obtain ⟨C_InvalidNet, C_InvalidRow, C_InvalidReport, C_InvalidOperation, C_InvalidNumber, C_TooMany, Mx, T_InvalidNumber, T_TooMany⟩ := h.xs
  refine ⟨f, top 67, fd, ["call", "error"], "call", gf, F, F.binds (ps := ["call"]) (fun _ _ _ _ _ _ us hl => match us, hl with | [_], _ => rfl), ⟨rfl, rfl, rfl, by decide +kernel, rfl, by decide +kernel, by decide +kernel⟩, rfl, .inl rfl, by decide, by decide, fun X e1 e2 e3 e4 gd un cdv q => ?_⟩
  subst e1 e2 e3 e4
  exact met_gives Mx (by decide) body_drop rfl (fun _ => rfl) (fun _ => rfl) (fun s H => ⟨_, (.bare (.head _) rfl (by decide) (fun a oe d dd pn hz hf hd => (b_one (s_ret (d_tup (a_cons d_str a_nil))))) (fun _ _ => rfl) (.bare (.tail _ (.head _)) rfl (by decide) (fun a oe d dd pn hz hf hd => (b_one (s_ret (d_tup (a_cons d_str a_nil))))) (fun _ _ => rfl) (.bare (.tail _ (.tail _ (.head _))) rfl (by decide) (fun a oe d dd pn hz hf hd => (b_one (s_ret (d_tup (a_cons d_str a_nil))))) (fun _ _ => rfl) (.bare (.tail _ (.tail _ (.tail _ (.head _)))) rfl (by decide) (fun a oe d dd pn hz hf hd => (b_one (s_ret (d_tup (a_cons d_str a_nil))))) (fun _ _ => rfl) (.named (.tail _ (.tail _ (.tail _ (.tail _ (.head _))))) rfl (by decide) rfl rfl (fun a oe d dd pn hz hf hd => (b_one (s_ret (d_tup (a_cons d_str (a_cons (d_bi (c_reprS gd (by show X.A.units + 3 + 200 < cLine; omega)) h.z_repr PyProof.Rows.boot_repr (a_cons (d_fld T_InvalidNumber.xf T_InvalidNumber.nf hz hf (hd rfl)) a_nil)) a_nil)))))) (by intro a dd fs μ; simp only [sRet, eTup, aCons, aNil, eC, eOp, eB, eFrz, ld2, eFld_at (n := List.length [("call" : Str), ("error" : Str)]) (i := 1) (by decide)]) (.named (.tail _ (.tail _ (.tail _ (.tail _ (.tail _ (.head _)))))) rfl (by decide) rfl rfl (fun a oe d dd pn hz hf hd => (b_one (s_ret (d_tup (a_cons d_str (a_cons (d_fld T_TooMany.xf T_TooMany.nf hz hf (hd rfl)) a_nil)))))) (by intro a dd fs μ; simp only [sRet, eTup, aCons, aNil, eC, eOp, eB, eFrz, ld2, eFld_at (n := List.length [("call" : Str), ("error" : Str)]) (i := 1) (by decide)]) .nil))))))⟩) (fun s H => (b_one (s_ret (d_tup (a_cons d_str a_nil)))))
theorem D_is_within (h : Facts P w K mg base) : Def P w K mg base "is_within" 1 3 m_is_within := by
  obtain ⟨f, fd, gf, F⟩ := h.f_is_within
  exact def_mk (N := ["value", "least", "most"]) (ps := ["value", "least", "most"]) gf F ⟨rfl, rfl, rfl, by decide +kernel, rfl, by decide +kernel, by decide +kernel⟩ rfl (fun _ _ _ _ _ _ us hl => match us, hl with | [_, _, _], _ => rfl) (fun cdv A outer s H E o =>
    (b_one (s_ret (d_and (d_bi c_isi h.z_isinstance PyProof.Rows.boot_isinstance (a_cons (d_var 0) (a_cons (d_bltn (v := .ty "int") (d := .ty "int") h.z_int PyProof.Rows.boot_int rfl (fun _ _ => .ty "int")) a_nil))) (d_and (d_not (d_bi c_isi h.z_isinstance PyProof.Rows.boot_isinstance (a_cons (d_var 0) (a_cons (d_bltn (v := .ty "bool") (d := .ty "bool") h.z_bool PyProof.Rows.boot_bool rfl (fun _ _ => .ty "bool")) a_nil)))) (d_one (d_chain o_le o_le (d_var 1) (d_var 0) (d_var 2)))))))) rfl
theorem D_are_wires (h : Facts P w K mg base) : Def P w K mg base "are_wires" 2 2 m_are_wires := by
  obtain ⟨f, fd, gf, F⟩ := h.f_are_wires
  exact def_mk (N := ["value", "most", "one"]) (ps := ["value", "most"]) gf F ⟨rfl, rfl, rfl, by decide +kernel, rfl, by decide +kernel, by decide +kernel⟩ rfl (fun _ _ _ _ _ _ us hl => match us, hl with | [_, _], _ => rfl) (fun cdv A outer s H E o =>
    (b_one (s_ret (d_and (d_bi c_isi h.z_isinstance PyProof.Rows.boot_isinstance (a_cons (d_var 0) (a_cons (d_bltn (v := .ty "tuple") (d := .ty "tuple") h.z_tuple PyProof.Rows.boot_tuple rfl (fun _ _ => .ty "tuple")) a_nil))) (d_one (d_bi (c_all o) h.z_all PyProof.Rows.boot_all (a_cons (d_tree (l_comp (own := [("one", 2)]) o (i_any (d_var 0)) (by kernel_rfl) (fun s H C cl fp o => (g_name (i := 2) o)) (fun s H C cl fp o => ts_nil) (fun s H C cl fp o => (d_callX (D_is_within h) o (a_cons (d_var 2) (a_cons d_int (a_cons (d_op o_sub (d_var 1) d_int) a_nil))))))) a_nil))))))) rfl
theorem D_are_bits (h : Facts P w K mg base) : Def P w K mg base "are_bits" 2 2 m_are_bits := by
  obtain ⟨f, fd, gf, F⟩ := h.f_are_bits
  exact def_mk (N := ["value", "many", "one"]) (ps := ["value", "many"]) gf F ⟨rfl, rfl, rfl, by decide +kernel, rfl, by decide +kernel, by decide +kernel⟩ rfl (fun _ _ _ _ _ _ us hl => match us, hl with | [_, _], _ => rfl) (fun cdv A outer s H E o =>
    (b_one (s_ret (d_and (d_bi c_isi h.z_isinstance PyProof.Rows.boot_isinstance (a_cons (d_var 0) (a_cons (d_bltn (v := .ty "tuple") (d := .ty "tuple") h.z_tuple PyProof.Rows.boot_tuple rfl (fun _ _ => .ty "tuple")) a_nil))) (d_and (d_cmp (o_eq o) (d_bi c_len h.z_len PySem.boot_len (a_cons (d_var 0) a_nil)) (d_var 1)) (d_one (d_bi (c_all o) h.z_all PyProof.Rows.boot_all (a_cons (d_tree (l_comp (own := [("one", 2)]) o (i_any (d_var 0)) (by kernel_rfl) (fun s H C cl fp o => (g_name (i := 2) o)) (fun s H C cl fp o => ts_nil) (fun s H C cl fp o => (d_callX (D_is_within h) o (a_cons (d_var 2) (a_cons d_int (a_cons d_int a_nil))))))) a_nil)))))))) rfl
theorem D_is_gate (h : Facts P w K mg base) : Def P w K mg base "is_gate" 3 2 m_is_gate := by
  obtain ⟨f, fd, gf, F⟩ := h.f_is_gate
  exact def_mk (N := ["value", "most", "one"]) (ps := ["value", "most"]) gf F ⟨rfl, rfl, rfl, by decide +kernel, rfl, by decide +kernel, by decide +kernel⟩ rfl (fun _ _ _ _ _ _ us hl => match us, hl with | [_, _], _ => rfl) (fun cdv A outer s H E o =>
    (b_cons (s_if (t_bool (w_or (t_not (d_test (d_bi c_isi h.z_isinstance PyProof.Rows.boot_isinstance (a_cons (d_var 0) (a_cons (d_bltn (v := .ty "tuple") (d := .ty "tuple") h.z_tuple PyProof.Rows.boot_tuple rfl (fun _ _ => .ty "tuple")) a_nil))))) (w_or (t_cmp (o_notIn o) (d_bi c_len h.z_len PySem.boot_len (a_cons (d_var 0) a_nil)) (d_tup (a_cons d_int (a_cons d_int a_nil)))) (w_or1 (t_not (d_test (d_bi c_isi h.z_isinstance PyProof.Rows.boot_isinstance (a_cons (d_ix o (d_var 0) d_int) (a_cons (d_bltn (v := .ty "str") (d := .ty "str") h.z_str PyProof.Rows.boot_str rfl (fun _ _ => .ty "str")) a_nil))))))))) (b_one (s_ret d_bl)) b_nil)
    (b_cons (s_if (t_not (d_test (d_callX (D_are_wires h) o (a_cons (d_ix o (d_var 0) d_int) (a_cons (d_var 1) a_nil))))) (b_one (s_ret d_bl)) b_nil)
    (b_cons (s_if (t_cmp (o_eq o) (d_bi c_len h.z_len PySem.boot_len (a_cons (d_var 0) a_nil)) d_int) (b_one (s_ret (d_and (d_inK (d_ix o (d_var 0) d_int) (ps := D_SIZES) (Classical.choose_spec h.c_SIZES).2 (Classical.choose_spec h.c_SIZES).1) (d_one (d_cmp (o_eq o) (d_bi c_len h.z_len PySem.boot_len (a_cons (d_ix o (d_var 0) d_int) a_nil)) (d_subK (d_ix o (d_var 0) d_int) (ps := D_SIZES) (Classical.choose_spec h.c_SIZES).2 (Classical.choose_spec h.c_SIZES).1 (by first | exact fun _ _ => rfl | exact plainIx_of))))))) b_nil)
    (b_cons (s_if (t_bool (w_or (t_cmp (o_ne o) (d_ix o (d_var 0) d_int) (d_glob (v := .str c_TABLE) (d := .str c_TABLE) (Classical.choose_spec h.c_TABLE) ⟨_, rfl⟩ (fun _ _ => .str _))) (w_or1 (t_not (t_chain o_le o_le d_int (d_bi c_len h.z_len PySem.boot_len (a_cons (d_ix o (d_var 0) d_int) a_nil)) (d_glob (v := .int c_MOST_TABLED) (d := .int c_MOST_TABLED) (Classical.choose_spec h.c_MOST_TABLED) ⟨_, rfl⟩ (fun _ _ => .int _))))))) (b_one (s_ret d_bl)) b_nil)
    (b_cons (s_if (t_cmp (o_ne o) (d_bi c_len h.z_len PySem.boot_len (a_cons (d_dcomp (own := [("one", 2)]) false o (i_any (d_ix o (d_var 0) d_int)) (by kernel_rfl) (fun s H C cl fp o => (g_name (i := 2) o)) (fun s H C cl fp o => ts_nil) (fun s H C cl fp o => (d_var 2)) (fun s H C cl fp o => d_bl)) a_nil)) (d_bi c_len h.z_len PySem.boot_len (a_cons (d_ix o (d_var 0) d_int) a_nil))) (b_one (s_ret d_bl)) b_nil)
    (b_one (s_ret (d_callX (D_are_bits h) o (a_cons (d_ix o (d_var 0) d_int) (a_cons (d_op o_shl d_int (d_bi c_len h.z_len PySem.boot_len (a_cons (d_ix o (d_var 0) d_int) a_nil))) a_nil))))))))))) rfl
theorem D_is_net_of (h : Facts P w K mg base) : Def P w K mg base "is_net_of" 4 1 m_is_net_of := by
  obtain ⟨f, fd, gf, F⟩ := h.f_is_net_of
  exact def_mk (N := ["value", "inputs", "gates", "ends", "at", "one"]) (ps := ["value"]) gf F ⟨rfl, rfl, rfl, by decide +kernel, rfl, by decide +kernel, by decide +kernel⟩ rfl (fun _ _ _ _ _ _ us hl => match us, hl with | [_], _ => rfl) (fun cdv A outer s H E o =>
    (b_cons (s_if (t_bool (w_or (t_not (d_test (d_bi c_isi h.z_isinstance PyProof.Rows.boot_isinstance (a_cons (d_var 0) (a_cons (d_bltn (v := .ty "tuple") (d := .ty "tuple") h.z_tuple PyProof.Rows.boot_tuple rfl (fun _ _ => .ty "tuple")) a_nil))))) (w_or (t_cmp (o_ne o) (d_bi c_len h.z_len PySem.boot_len (a_cons (d_var 0) a_nil)) d_int) (w_or1 (t_not (d_test (d_callX (D_is_within h) o (a_cons (d_ix o (d_var 0) d_int) (a_cons d_int (a_cons (d_glob (v := .int c_MOST_INPUTS) (d := .int c_MOST_INPUTS) (Classical.choose_spec h.c_MOST_INPUTS) ⟨_, rfl⟩ (fun _ _ => .int _)) a_nil)))))))))) (b_one (s_ret d_bl)) b_nil)
    (b_cons (s_tgt (vs := [1, 2, 3]) (d_var 0) (g_tup (n := 3) o (gs_cons (g_name (i := 1) o) (gs_cons (g_name (i := 2) o) (gs_cons (g_name (i := 3) o) gs_nil)))))
    (b_cons (s_if (t_bool (w_or (t_not (d_test (d_bi c_isi h.z_isinstance PyProof.Rows.boot_isinstance (a_cons (d_var 2) (a_cons (d_bltn (v := .ty "tuple") (d := .ty "tuple") h.z_tuple PyProof.Rows.boot_tuple rfl (fun _ _ => .ty "tuple")) a_nil))))) (w_or1 (t_cmp o_gt (d_bi c_len h.z_len PySem.boot_len (a_cons (d_var 2) a_nil)) (d_glob (v := .int c_MOST_GATES) (d := .int c_MOST_GATES) (Classical.choose_spec h.c_MOST_GATES) ⟨_, rfl⟩ (fun _ _ => .int _)))))) (b_one (s_ret d_bl)) b_nil)
    (b_cons (s_if (t_not (d_test (d_bi (c_all o) h.z_all PyProof.Rows.boot_all (a_cons (d_tree (l_comp (own := [("at", 4), ("one", 5)]) o (i_enum (a_cons (d_var 2) a_nil) h.z_enumerate) (by kernel_rfl) (fun s H C cl fp o => (g_tup (n := 2) o (gs_cons (g_name (i := 4) o) (gs_cons (g_name (i := 5) o) gs_nil)))) (fun s H C cl fp o => ts_nil) (fun s H C cl fp o => (d_callX (D_is_gate h) o (a_cons (d_var 5) (a_cons (d_op o_add (d_var 1) (d_var 4)) a_nil)))))) a_nil)))) (b_one (s_ret d_bl)) b_nil)
    (b_one (s_ret (d_and (d_callX (D_are_wires h) o (a_cons (d_var 3) (a_cons (d_op o_add (d_var 1) (d_bi c_len h.z_len PySem.boot_len (a_cons (d_var 2) a_nil))) a_nil))) (d_one (d_chain o_le o_le d_int (d_bi c_len h.z_len PySem.boot_len (a_cons (d_var 3) a_nil)) (d_glob (v := .int c_MOST_ENDS) (d := .int c_MOST_ENDS) (Classical.choose_spec h.c_MOST_ENDS) ⟨_, rfl⟩ (fun _ _ => .int _)))))))))))) rfl
theorem D_require_net (h : Facts P w K mg base) : DefV P w K mg base "require_net" 5 0 3 m_require_net := by
  obtain ⟨f, fd, gf, F⟩ := h.f_require_net
  exact def_mkV (N := ["nets", "net"]) (ps := ["nets"]) gf F ⟨rfl, rfl, rfl, by decide +kernel, rfl, by decide +kernel, by decide +kernel⟩ rfl (by decide) (fun _ _ _ _ _ _ us h1 h2 => match us, h1, h2 with  | [], _, _ => rfl | [_], _, _ => rfl | [_, _], _, _ => rfl | [_, _, _], _, _ => rfl | _ :: _ :: _ :: _ :: r, _, z => absurd z (by simp only [List.length_cons]; omega)) (fun cdv A outer s H E o =>
    (b_one (s_if (t_not (d_test (d_bi (c_all o) h.z_all PyProof.Rows.boot_all (a_cons (d_tree (l_comp (own := [("net", 1)]) o (i_any (d_var 0)) (by kernel_rfl) (fun s H C cl fp o => (g_name (i := 1) o)) (fun s H C cl fp o => ts_nil) (fun s H C cl fp o => (d_callX (D_is_net_of h) o (a_cons (d_var 1) a_nil))))) a_nil)))) (b_one (s_raise0 o (h.x_InvalidNet).choose_spec)) b_nil))) rfl
theorem D_let_through (h : Facts P w K mg base) : Def P w K mg base "let_through" 1 1 m_let_through := by
  obtain ⟨f, fd, gf, F⟩ := h.f_let_through
  exact def_mk (N := ["net"]) (ps := ["net"]) gf F ⟨rfl, rfl, rfl, by decide +kernel, rfl, by decide +kernel, by decide +kernel⟩ rfl (fun _ _ _ _ _ _ us hl => match us, hl with | [_], _ => rfl) (fun cdv A outer s H E o =>
    (b_cons (s_if (t_cmp o_gt (d_bi c_len h.z_len PySem.boot_len (a_cons (d_ix o (d_var 0) d_int) a_nil)) (d_glob (v := .int c_MOST_GATES) (d := .int c_MOST_GATES) (Classical.choose_spec h.c_MOST_GATES) ⟨_, rfl⟩ (fun _ _ => .int _))) (b_one (s_raise1 o (h.x_TooMany).choose_spec N_limit (d_glob (v := .int c_MOST_GATES) (d := .int c_MOST_GATES) (Classical.choose_spec h.c_MOST_GATES) ⟨_, rfl⟩ (fun _ _ => .int _)))) b_nil)
    (b_cons (s_if (t_cmp o_gt (d_bi c_len h.z_len PySem.boot_len (a_cons (d_ix o (d_var 0) d_int) a_nil)) (d_glob (v := .int c_MOST_ENDS) (d := .int c_MOST_ENDS) (Classical.choose_spec h.c_MOST_ENDS) ⟨_, rfl⟩ (fun _ _ => .int _))) (b_one (s_raise1 o (h.x_TooMany).choose_spec N_limit (d_glob (v := .int c_MOST_ENDS) (d := .int c_MOST_ENDS) (Classical.choose_spec h.c_MOST_ENDS) ⟨_, rfl⟩ (fun _ _ => .int _)))) b_nil)
    (b_one (s_ret (d_var 0)))))) rfl
theorem D_inputs_of (h : Facts P w K mg base) : Def P w K mg base "inputs_of" 1 1 m_inputs_of := by
  obtain ⟨f, fd, gf, F⟩ := h.f_inputs_of
  exact def_mk (N := ["many", "found", "turn", "row", "bit"]) (ps := ["many"]) gf F ⟨rfl, rfl, rfl, by decide +kernel, rfl, by decide +kernel, by decide +kernel⟩ rfl (fun _ _ _ _ _ _ us hl => match us, hl with | [_], _ => rfl) (fun cdv A outer s H E o =>
    (b_cons (s_set (i := 1) o.nd (d_tree (l_lst (a_cons (d_tup a_nil) a_nil))))
    (b_cons (s_for (vs := [2]) o (i_range1 (a_cons (d_var 0) a_nil) h.z_range) (g_name (i := 2) o) (b_one (s_setc2 (own := [("row", 3), ("bit", 4)]) (vs1 := [4]) o 1 (e := eTree) tL_tree (i_any (d_var 1)) (by kernel_rfl) (by decide) (fun s H C cl fp o => (g_name (i := 3) o)) (fun s H C cl fp o => ts_nil) (fun s H C cl fp o => (i_any (d_tup (a_cons d_int (a_cons d_int a_nil))))) (fun s H C cl fp o => (g_name (i := 4) o)) (fun s H C cl fp o => ts_nil) (fun s H C cl fp o => (d_tup (a_star (d_var 3) (a_cons (d_var 4) a_nil)))))))
    (b_one (s_ret (d_var 1)))))) rfl
theorem D_bit_of (h : Facts P w K mg base) : Def P w K mg base "bit_of" 1 2 m_bit_of := by
  obtain ⟨f, fd, gf, F⟩ := h.f_bit_of
  exact def_mk (N := ["gate", "bits", "kind", "place", "bit", "total"]) (ps := ["gate", "bits"]) gf F ⟨rfl, rfl, rfl, by decide +kernel, rfl, by decide +kernel, by decide +kernel⟩ rfl (fun _ _ _ _ _ _ us hl => match us, hl with | [_, _], _ => rfl) (fun cdv A outer s H E o =>
    (b_cons (s_set (i := 2) o.nd (d_ix o (d_var 0) d_int))
    (b_cons (s_if (t_cmp (o_eq o) (d_var 2) (d_glob (v := .str c_TABLE) (d := .str c_TABLE) (Classical.choose_spec h.c_TABLE) ⟨_, rfl⟩ (fun _ _ => .str _))) (b_cons (s_set (i := 3) o.nd d_int)
    (b_cons (s_for (vs := [4]) o (i_any (d_var 1)) (g_name (i := 4) o) (b_one (s_set (i := 3) o.nd (d_op o_add (d_op o_mul d_int (d_var 3)) (d_var 4)))))
    (b_one (s_ret (d_ix o (d_ix o (d_var 0) d_int) (d_var 3)))))) b_nil)
    (b_cons (s_if (t_cmp (o_in o) (d_var 2) (d_tup (a_cons d_str (a_cons d_str a_nil)))) (b_one (s_ret (d_if (t_cmp (o_eq o) (d_var 2) d_str) d_int d_int))) b_nil)
    (b_cons (s_if (t_cmp (o_eq o) (d_var 2) d_str) (b_one (s_ret (d_op o_sub d_int (d_ix o (d_var 1) d_int)))) b_nil)
    (b_cons (s_if (t_cmp (o_eq o) (d_var 2) d_str) (b_one (s_ret (d_if (t_cmp (o_eq o) (d_ix o (d_var 1) d_int) d_int) (d_ix o (d_var 1) d_int) (d_ix o (d_var 1) d_int)))) b_nil)
    (b_cons (s_set (i := 5) o.nd (d_bi (c_sum o) h.z_sum PyProof.Rows.boot_sum (a_cons (d_var 1) a_nil)))
    (b_cons (s_if (t_cmp (o_eq o) (d_var 2) d_str) (b_one (s_ret (d_if (t_cmp o_gt (d_var 5) d_int) d_int d_int))) b_nil)
    (b_one (s_ret (d_ix o (d_disp (have o := o.ef; (pp_cons d_str (d_op o_fdiv (d_var 5) d_int) (pp_cons d_str (d_op o_fdiv (d_op o_add (d_var 5) d_int) d_int) (pp_cons d_str (d_op o_mod (d_var 5) d_int) pp_nil))))) (d_var 2)))))))))))) rfl
theorem D_table_in (h : Facts P w K mg base) : Def P w K mg base "table_in" 2 1 m_table_in := by
  obtain ⟨f, fd, gf, F⟩ := h.f_table_in
  exact def_mk (N := ["gate", "wires", "one", "found", "row", "bits", "wire", "bit"]) (ps := ["gate"]) gf F ⟨rfl, rfl, rfl, by decide +kernel, rfl, by decide +kernel, by decide +kernel⟩ rfl (fun _ _ _ _ _ _ us hl => match us, hl with | [_], _ => rfl) (fun cdv A outer s H E o =>
    (b_cons (s_set (i := 1) o.nd (d_bty c_tuple h.z_tuple PyProof.Rows.boot_tuple (a_cons (d_tree (l_bi (c_sortK o) h.z_sorted PyProof.Rows.boot_sorted (a_cons (d_dcomp (own := [("one", 2)]) false o (i_any (d_ix o (d_var 0) d_int)) (by kernel_rfl) (fun s H C cl fp o => (g_name (i := 2) o)) (fun s H C cl fp o => ts_nil) (fun s H C cl fp o => (d_var 2)) (fun s H C cl fp o => d_bl)) a_nil))) a_nil)))
    (b_cons (s_set (i := 3) o.nd (d_cell (l_lst a_nil)))
    (b_cons (s_for (vs := [4]) o (i_any (d_callX (D_inputs_of h) o (a_cons (d_bi c_len h.z_len PySem.boot_len (a_cons (d_var 1) a_nil)) a_nil))) (g_name (i := 4) o) (b_cons (s_set (i := 5) o.nd (d_dcomp (own := [("wire", 6), ("bit", 7)]) false o (i_zip (a_cons (d_var 1) (a_cons (d_var 4) a_nil)) h.z_zip) (by kernel_rfl) (fun s H C cl fp o => (g_tup (n := 2) o (gs_cons (g_name (i := 6) o) (gs_cons (g_name (i := 7) o) gs_nil)))) (fun s H C cl fp o => ts_nil) (fun s H C cl fp o => (d_var 6)) (fun s H C cl fp o => (d_var 7))))
    (b_one (s_expr (d_meth (c := isL) (fun r rv hp => isL_post r rv hp) PySem.F.plainAttrs_list PySem.F.slot_list_append PySem.F.type_list_append m_append (d_var 3) (a_cons (d_callX (D_bit_of h) o (a_cons (d_var 0) (a_cons (d_tree (l_comp (own := [("wire", 6)]) o (i_any (d_ix o (d_var 0) d_int)) (by kernel_rfl) (fun s H C cl fp o => (g_name (i := 6) o)) (fun s H C cl fp o => ts_nil) (fun s H C cl fp o => (d_ix o (d_var 5) (d_var 6))))) a_nil))) a_nil))))))
    (b_one (s_ret (d_tup (a_cons (d_var 1) (a_cons (d_bty c_tuple h.z_tuple PyProof.Rows.boot_tuple (a_cons (d_var 3) a_nil)) a_nil))))))))) rfl
theorem D_moved_gate (h : Facts P w K mg base) : Def P w K mg base "moved_gate" 3 2 m_moved_gate := by
  obtain ⟨f, fd, gf, F⟩ := h.f_moved_gate
  exact def_mk (N := ["gate", "names", "wires", "wire"]) (ps := ["gate", "names"]) gf F ⟨rfl, rfl, rfl, by decide +kernel, rfl, by decide +kernel, by decide +kernel⟩ rfl (fun _ _ _ _ _ _ us hl => match us, hl with | [_, _], _ => rfl) (fun cdv A outer s H E o =>
    (b_cons (s_set (i := 2) o.nd (d_bty c_tuple h.z_tuple PyProof.Rows.boot_tuple (a_cons (d_tree (l_comp (own := [("wire", 3)]) o (i_any (d_ix o (d_var 0) d_int)) (by kernel_rfl) (fun s H C cl fp o => (g_name (i := 3) o)) (fun s H C cl fp o => ts_nil) (fun s H C cl fp o => (d_ix o (d_var 1) (d_var 3))))) a_nil)))
    (b_cons (s_if (t_bool (w_and (t_cmp (o_eq o) (d_ix o (d_var 0) d_int) (d_glob (v := .str c_TABLE) (d := .str c_TABLE) (Classical.choose_spec h.c_TABLE) ⟨_, rfl⟩ (fun _ _ => .str _))) (w_and1 (t_cmp (o_lt o) (d_bi c_len h.z_len PySem.boot_len (a_cons (d_dcomp (own := [("wire", 3)]) false o (i_any (d_var 2)) (by kernel_rfl) (fun s H C cl fp o => (g_name (i := 3) o)) (fun s H C cl fp o => ts_nil) (fun s H C cl fp o => (d_var 3)) (fun s H C cl fp o => d_bl)) a_nil)) (d_bi c_len h.z_len PySem.boot_len (a_cons (d_var 2) a_nil)))))) (b_one (s_ret (d_tup (a_cons (d_glob (v := .str c_TABLE) (d := .str c_TABLE) (Classical.choose_spec h.c_TABLE) ⟨_, rfl⟩ (fun _ _ => .str _)) (a_star (d_callX (D_table_in h) o (a_cons (d_tup (a_cons (d_glob (v := .str c_TABLE) (d := .str c_TABLE) (Classical.choose_spec h.c_TABLE) ⟨_, rfl⟩ (fun _ _ => .str _)) (a_cons (d_var 2) (a_cons (d_ix o (d_var 0) d_int) a_nil)))) a_nil)) a_nil))))) b_nil)
    (b_one (s_ret (d_tup (a_cons (d_ix o (d_var 0) d_int) (a_cons (d_var 2) (a_star (d_sl (d_var 0) (o_some d_int) o_none) a_nil))))))))) rfl
theorem D_beside (h : Facts P w K mg base) : Def P w K mg base "beside" 6 2 m_beside := by
  obtain ⟨f, fd, gf, F⟩ := h.f_beside
  exact def_mk (N := ["net", "other", "inputs", "first", "start", "second", "gates", "gate", "ends", "wire"]) (ps := ["net", "other"]) gf F ⟨rfl, rfl, rfl, by decide +kernel, rfl, by decide +kernel, by decide +kernel⟩ rfl (fun _ _ _ _ _ _ us hl => match us, hl with | [_, _], _ => rfl) (fun cdv A outer s H E o =>
    (b_cons (s_expr (d_callV (D_require_net h) o (a_cons (d_var 0) (a_cons (d_var 1) a_nil))))
    (b_cons (s_set (i := 2) o.nd (d_op o_add (d_ix o (d_var 0) d_int) (d_ix o (d_var 1) d_int)))
    (b_cons (s_if (t_cmp o_gt (d_var 2) (d_glob (v := .int c_MOST_INPUTS) (d := .int c_MOST_INPUTS) (Classical.choose_spec h.c_MOST_INPUTS) ⟨_, rfl⟩ (fun _ _ => .int _))) (b_one (s_raise1 o (h.x_TooMany).choose_spec N_limit (d_glob (v := .int c_MOST_INPUTS) (d := .int c_MOST_INPUTS) (Classical.choose_spec h.c_MOST_INPUTS) ⟨_, rfl⟩ (fun _ _ => .int _)))) b_nil)
    (b_cons (s_set (i := 3) o.nd (d_tree (l_lst (a_starRg o (d_rg1 (d_ix o (d_var 0) d_int) h.z_range) (a_starRg o (d_rg2 (d_var 2) (d_op o_add (d_var 2) (d_bi c_len h.z_len PySem.boot_len (a_cons (d_ix o (d_var 0) d_int) a_nil))) h.z_range) a_nil)))))
    (b_cons (s_set (i := 4) o.nd (d_op o_add (d_var 2) (d_bi c_len h.z_len PySem.boot_len (a_cons (d_ix o (d_var 0) d_int) a_nil))))
    (b_cons (s_set (i := 5) o.nd (d_tree (l_lst (a_starRg o (d_rg2 (d_ix o (d_var 0) d_int) (d_var 2) h.z_range) (a_starRg o (d_rg2 (d_var 4) (d_op o_add (d_var 4) (d_bi c_len h.z_len PySem.boot_len (a_cons (d_ix o (d_var 1) d_int) a_nil))) h.z_range) a_nil)))))
    (b_cons (s_set (i := 6) o.nd (d_tree (l_lst (a_star (d_tree (l_comp (own := [("gate", 7)]) o (i_any (d_ix o (d_var 0) d_int)) (by kernel_rfl) (fun s H C cl fp o => (g_name (i := 7) o)) (fun s H C cl fp o => ts_nil) (fun s H C cl fp o => (d_callX (D_moved_gate h) o (a_cons (d_var 7) (a_cons (d_var 3) a_nil)))))) (a_star (d_tree (l_comp (own := [("gate", 7)]) o (i_any (d_ix o (d_var 1) d_int)) (by kernel_rfl) (fun s H C cl fp o => (g_name (i := 7) o)) (fun s H C cl fp o => ts_nil) (fun s H C cl fp o => (d_callX (D_moved_gate h) o (a_cons (d_var 7) (a_cons (d_var 5) a_nil)))))) a_nil)))))
    (b_cons (s_set (i := 8) o.nd (d_tree (l_lst (a_star (d_tree (l_comp (own := [("wire", 9)]) o (i_any (d_ix o (d_var 0) d_int)) (by kernel_rfl) (fun s H C cl fp o => (g_name (i := 9) o)) (fun s H C cl fp o => ts_nil) (fun s H C cl fp o => (d_ix o (d_var 3) (d_var 9))))) (a_star (d_tree (l_comp (own := [("wire", 9)]) o (i_any (d_ix o (d_var 1) d_int)) (by kernel_rfl) (fun s H C cl fp o => (g_name (i := 9) o)) (fun s H C cl fp o => ts_nil) (fun s H C cl fp o => (d_ix o (d_var 5) (d_var 9))))) a_nil)))))
    (b_one (s_ret (d_callX (D_let_through h) o (a_cons (d_tup (a_cons (d_var 2) (a_cons (d_bty c_tuple h.z_tuple PyProof.Rows.boot_tuple (a_cons (d_var 6) a_nil)) (a_cons (d_bty c_tuple h.z_tuple PyProof.Rows.boot_tuple (a_cons (d_var 8) a_nil)) a_nil)))) a_nil))))))))))))) rfl
theorem D_wires_in (h : Facts P w K mg base) : Def P w K mg base "wires_in" 1 1 m_wires_in := by
  obtain ⟨f, fd, gf, F⟩ := h.f_wires_in
  exact def_mk (N := ["net"]) (ps := ["net"]) gf F ⟨rfl, rfl, rfl, by decide +kernel, rfl, by decide +kernel, by decide +kernel⟩ rfl (fun _ _ _ _ _ _ us hl => match us, hl with | [_], _ => rfl) (fun cdv A outer s H E o =>
    (b_one (s_ret (d_op o_add (d_ix o (d_var 0) d_int) (d_bi c_len h.z_len PySem.boot_len (a_cons (d_ix o (d_var 0) d_int) a_nil)))))) rfl
theorem D_joint_in (h : Facts P w K mg base) : Def P w K mg base "joint_in" 4 2 m_joint_in := by
  obtain ⟨f, fd, gf, F⟩ := h.f_joint_in
  exact def_mk (N := ["net", "other", "names", "gates", "gate", "wire"]) (ps := ["net", "other"]) gf F ⟨rfl, rfl, rfl, by decide +kernel, rfl, by decide +kernel, by decide +kernel⟩ rfl (fun _ _ _ _ _ _ us hl => match us, hl with | [_, _], _ => rfl) (fun cdv A outer s H E o =>
    (b_cons (s_set (i := 2) o.nd (d_tree (l_lst (a_starRg o (d_rg1 (d_ix o (d_var 0) d_int) h.z_range) (a_starRg o (d_rg2 (d_callX (D_wires_in h) o (a_cons (d_var 0) a_nil)) (d_op o_add (d_callX (D_wires_in h) o (a_cons (d_var 0) a_nil)) (d_bi c_len h.z_len PySem.boot_len (a_cons (d_ix o (d_var 1) d_int) a_nil))) h.z_range) a_nil)))))
    (b_cons (s_set (i := 3) o.nd (d_tree (l_lst (a_star (d_ix o (d_var 0) d_int) (a_star (d_tree (l_comp (own := [("gate", 4)]) o (i_any (d_ix o (d_var 1) d_int)) (by kernel_rfl) (fun s H C cl fp o => (g_name (i := 4) o)) (fun s H C cl fp o => ts_nil) (fun s H C cl fp o => (d_callX (D_moved_gate h) o (a_cons (d_var 4) (a_cons (d_var 2) a_nil)))))) a_nil)))))
    (b_one (s_ret (d_tup (a_cons (d_ix o (d_var 0) d_int) (a_cons (d_bty c_tuple h.z_tuple PyProof.Rows.boot_tuple (a_cons (d_var 3) a_nil)) (a_cons (d_tup (a_star (d_ix o (d_var 0) d_int) (a_star (d_tree (l_comp (own := [("wire", 5)]) o (i_any (d_ix o (d_var 1) d_int)) (by kernel_rfl) (fun s H C cl fp o => (g_name (i := 5) o)) (fun s H C cl fp o => ts_nil) (fun s H C cl fp o => (d_ix o (d_var 2) (d_var 5))))) a_nil))) a_nil))))))))) rfl
theorem D_joint (h : Facts P w K mg base) : Def P w K mg base "joint" 6 2 m_joint := by
  obtain ⟨f, fd, gf, F⟩ := h.f_joint
  exact def_mk (N := ["net", "other"]) (ps := ["net", "other"]) gf F ⟨rfl, rfl, rfl, by decide +kernel, rfl, by decide +kernel, by decide +kernel⟩ rfl (fun _ _ _ _ _ _ us hl => match us, hl with | [_, _], _ => rfl) (fun cdv A outer s H E o =>
    (b_cons (s_expr (d_callV (D_require_net h) o (a_cons (d_var 0) (a_cons (d_var 1) a_nil))))
    (b_cons (s_if (t_cmp (o_ne o) (d_ix o (d_var 0) d_int) (d_ix o (d_var 1) d_int)) (b_one (s_raise0 o (h.x_InvalidOperation).choose_spec)) b_nil)
    (b_one (s_ret (d_callX (D_let_through h) o (a_cons (d_callX (D_joint_in h) o (a_cons (d_var 0) (a_cons (d_var 1) a_nil))) a_nil))))))) rfl
theorem D_behind (h : Facts P w K mg base) : Def P w K mg base "behind" 6 2 m_behind := by
  obtain ⟨f, fd, gf, F⟩ := h.f_behind
  exact def_mk (N := ["net", "other", "names", "gates", "gate", "wire"]) (ps := ["net", "other"]) gf F ⟨rfl, rfl, rfl, by decide +kernel, rfl, by decide +kernel, by decide +kernel⟩ rfl (fun _ _ _ _ _ _ us hl => match us, hl with | [_, _], _ => rfl) (fun cdv A outer s H E o =>
    (b_cons (s_expr (d_callV (D_require_net h) o (a_cons (d_var 0) (a_cons (d_var 1) a_nil))))
    (b_cons (s_if (t_cmp (o_ne o) (d_bi c_len h.z_len PySem.boot_len (a_cons (d_ix o (d_var 0) d_int) a_nil)) (d_ix o (d_var 1) d_int)) (b_one (s_raise0 o (h.x_InvalidOperation).choose_spec)) b_nil)
    (b_cons (s_set (i := 2) o.nd (d_tree (l_lst (a_star (d_ix o (d_var 0) d_int) (a_starRg o (d_rg2 (d_callX (D_wires_in h) o (a_cons (d_var 0) a_nil)) (d_op o_add (d_callX (D_wires_in h) o (a_cons (d_var 0) a_nil)) (d_bi c_len h.z_len PySem.boot_len (a_cons (d_ix o (d_var 1) d_int) a_nil))) h.z_range) a_nil)))))
    (b_cons (s_set (i := 3) o.nd (d_tree (l_lst (a_star (d_ix o (d_var 0) d_int) (a_star (d_tree (l_comp (own := [("gate", 4)]) o (i_any (d_ix o (d_var 1) d_int)) (by kernel_rfl) (fun s H C cl fp o => (g_name (i := 4) o)) (fun s H C cl fp o => ts_nil) (fun s H C cl fp o => (d_callX (D_moved_gate h) o (a_cons (d_var 4) (a_cons (d_var 2) a_nil)))))) a_nil)))))
    (b_one (s_ret (d_callX (D_let_through h) o (a_cons (d_tup (a_cons (d_ix o (d_var 0) d_int) (a_cons (d_bty c_tuple h.z_tuple PyProof.Rows.boot_tuple (a_cons (d_var 3) a_nil)) (a_cons (d_bty c_tuple h.z_tuple PyProof.Rows.boot_tuple (a_cons (d_tree (l_comp (own := [("wire", 5)]) o (i_any (d_ix o (d_var 1) d_int)) (by kernel_rfl) (fun s H C cl fp o => (g_name (i := 5) o)) (fun s H C cl fp o => ts_nil) (fun s H C cl fp o => (d_ix o (d_var 2) (d_var 5))))) a_nil)) a_nil)))) a_nil))))))))) rfl
theorem D__law_draw (h : Facts P w K mg base) : Def P w K mg base "_law_draw" 1 2 m__law_draw := by
  obtain ⟨f, fd, gf, F⟩ := h.f__law_draw
  exact def_mk (N := ["bag", "many", "found"]) (ps := ["bag", "many"]) gf F ⟨rfl, rfl, rfl, by decide +kernel, rfl, by decide +kernel, by decide +kernel⟩ rfl (fun _ _ _ _ _ _ us hl => match us, hl with | [_, _], _ => rfl) (fun cdv A outer s H E o =>
    (b_cons (s_if (t_cmp o_gt (d_ix o (d_var 0) d_int) d_int) (b_cons (s_set (i := 2) o.nd (d_op o_mod (d_bty c_int h.z_int PyProof.Rows.boot_int (a_cons (d_ix o (d_var 0) d_int) a_nil)) (d_var 1)))
    (b_cons (s_tgt (vs := []) (d_op o_fdiv (d_ix o (d_var 0) d_int) (d_var 1)) (g_sub (d_var 0) d_int (set_any o)))
    (b_one (s_ret (d_var 2))))) b_nil)
    (b_cons (s_tgt (vs := []) (d_op o_mod (d_bty c_int h.z_int PyProof.Rows.boot_int (a_cons (d_op o_add (d_op o_mul (d_ix o (d_var 0) d_int) d_int) d_int) a_nil)) (d_op o_sub (d_op o_powW d_int d_int) d_int)) (g_sub (d_var 0) d_int (set_any o)))
    (b_one (s_ret (d_op o_mod (d_bty c_int h.z_int PyProof.Rows.boot_int (a_cons (d_op o_fdiv (d_ix o (d_var 0) d_int) d_int) a_nil)) (d_var 1))))))) rfl
theorem D__law_one_of (h : Facts P w K mg base) : Def P w K mg base "_law_one_of" 2 2 m__law_one_of := by
  obtain ⟨f, fd, gf, F⟩ := h.f__law_one_of
  exact def_mk (N := ["bag", "items"]) (ps := ["bag", "items"]) gf F ⟨rfl, rfl, rfl, by decide +kernel, rfl, by decide +kernel, by decide +kernel⟩ rfl (fun _ _ _ _ _ _ us hl => match us, hl with | [_, _], _ => rfl) (fun cdv A outer s H E o =>
    (b_one (s_ret (d_ix o (d_var 1) (d_callX (D__law_draw h) o (a_cons (d_var 0) (a_cons (d_bi c_len h.z_len PySem.boot_len (a_cons (d_var 1) a_nil)) a_nil))))))) rfl
theorem D__law_bad (h : Facts P w K mg base) : Def P w K mg base "_law_bad" 3 1 m__law_bad := by
  obtain ⟨f, fd, gf, F⟩ := h.f__law_bad
  exact def_mk (N := ["bag", "odd"]) (ps := ["bag"]) gf F ⟨rfl, rfl, rfl, by decide +kernel, rfl, by decide +kernel, by decide +kernel⟩ rfl (fun _ _ _ _ _ _ us hl => match us, hl with | [_], _ => rfl) (fun cdv A outer s H E o =>
    (b_cons (s_set (i := 1) o.nd (d_tree (l_lst (a_cons d_non (a_cons d_int (a_cons (d_tup a_nil) (a_cons (d_tree (l_lst a_nil)) (a_cons (d_tup (a_cons d_int (a_cons (d_tup a_nil) a_nil))) (a_cons (d_tree (l_lst (a_cons d_int (a_cons (d_tup a_nil) (a_cons (d_tup (a_cons d_int a_nil)) a_nil))))) (a_cons (d_tup (a_cons d_int (a_cons (d_tup a_nil) (a_cons (d_tup (a_cons d_int a_nil)) a_nil)))) (a_cons (d_tup (a_cons d_int (a_cons (d_tup a_nil) (a_cons (d_tup (a_cons d_int a_nil)) a_nil)))) (a_cons (d_tup (a_cons d_bl (a_cons (d_tup a_nil) (a_cons (d_tup (a_cons d_int a_nil)) a_nil)))) (a_cons (d_tup (a_cons d_int (a_cons (d_tup a_nil) (a_cons (d_tup a_nil) a_nil)))) (a_cons (d_tup (a_cons d_int (a_cons (d_tup a_nil) (a_cons (d_tup (a_cons d_int a_nil)) a_nil)))) (a_cons (d_tup (a_cons d_int (a_cons (d_tup a_nil) (a_cons (d_tree (l_lst (a_cons d_int a_nil))) a_nil)))) a_nil)))))))))))))))
    (b_cons (s_set (i := 1) o.nd (d_op o_add (d_var 1) (d_tree (l_lst (a_cons (d_tup (a_cons d_int (a_cons (d_tree (l_lst a_nil)) (a_cons (d_tup (a_cons d_int a_nil)) a_nil)))) (a_cons (d_tup (a_cons d_int (a_cons (d_tup a_nil) (a_cons (d_op o_mul (d_tup (a_cons d_int a_nil)) d_int) a_nil)))) (a_cons (d_tup (a_cons d_int (a_cons (d_tup (a_cons (d_tup (a_cons d_str (a_cons (d_tup (a_cons d_int a_nil)) a_nil))) a_nil)) (a_cons (d_tup (a_cons d_int a_nil)) a_nil)))) (a_cons d_d0 a_nil))))))))
    (b_cons (s_set (i := 1) o.nd (d_op o_add (d_var 1) (d_tree (l_lst (a_cons (d_tup (a_cons d_int (a_cons (d_tup (a_cons (d_tup (a_cons d_str (a_cons (d_tup (a_cons d_int a_nil)) a_nil))) a_nil)) (a_cons (d_tup (a_cons d_int a_nil)) a_nil)))) (a_cons (d_tup (a_cons d_int (a_cons (d_tup (a_cons (d_tup (a_cons d_str (a_cons (d_tup (a_cons d_int (a_cons d_int a_nil))) a_nil))) a_nil)) (a_cons (d_tup (a_cons d_int a_nil)) a_nil)))) (a_cons (d_tup (a_cons d_int (a_cons (d_tup (a_cons (d_tup (a_cons d_str (a_cons (d_tree (l_lst (a_cons d_int a_nil))) a_nil))) a_nil)) (a_cons (d_tup (a_cons d_int a_nil)) a_nil)))) a_nil)))))))
    (b_cons (s_set (i := 1) o.nd (d_op o_add (d_var 1) (d_tree (l_lst (a_cons (d_tup (a_cons d_int (a_cons (d_tup (a_cons (d_tup (a_cons d_str (a_cons (d_tup (a_cons d_int (a_cons d_int a_nil))) (a_cons (d_tup (a_cons d_int (a_cons d_int (a_cons d_int (a_cons d_int a_nil))))) a_nil)))) a_nil)) (a_cons (d_tup (a_cons d_int a_nil)) a_nil)))) (a_cons (d_tup (a_cons d_int (a_cons (d_tup (a_cons (d_tup (a_cons d_str (a_cons (d_tup (a_cons d_int a_nil)) (a_cons (d_tup (a_cons d_int (a_cons d_int (a_cons d_int a_nil)))) a_nil)))) a_nil)) (a_cons (d_tup (a_cons d_int a_nil)) a_nil)))) (a_cons (d_tup (a_cons d_int (a_cons (d_op o_mul (d_tup (a_cons (d_tup (a_cons d_str (a_cons (d_tup a_nil) a_nil))) a_nil)) d_int) (a_cons (d_tup (a_cons d_int a_nil)) a_nil)))) a_nil)))))))
    (b_one (s_ret (d_callX (D__law_one_of h) o (a_cons (d_var 0) (a_cons (d_var 1) a_nil)))))))))) rfl
theorem D_require_wire (h : Facts P w K mg base) : Def P w K mg base "require_wire" 6 2 m_require_wire := by
  obtain ⟨f, fd, gf, F⟩ := h.f_require_wire
  exact def_mk (N := ["net", "wire"]) (ps := ["net", "wire"]) gf F ⟨rfl, rfl, rfl, by decide +kernel, rfl, by decide +kernel, by decide +kernel⟩ rfl (fun _ _ _ _ _ _ us hl => match us, hl with | [_, _], _ => rfl) (fun cdv A outer s H E o =>
    (b_cons (s_expr (d_callV (D_require_net h) o (a_cons (d_var 0) a_nil)))
    (b_one (s_if (t_not (d_test (d_callX (D_is_within h) o (a_cons (d_var 1) (a_cons d_int (a_cons (d_op o_sub (d_callX (D_wires_in h) o (a_cons (d_var 0) a_nil)) d_int) a_nil)))))) (b_one (s_raise1 o (h.x_InvalidNumber).choose_spec N_given (d_var 1))) b_nil)))) rfl
theorem D_bits_told (h : Facts P w K mg base) : Def P w K mg base "bits_told" 1 2 m_bits_told := by
  obtain ⟨f, fd, gf, F⟩ := h.f_bits_told
  exact def_mk (N := ["number", "many", "last", "at"]) (ps := ["number", "many"]) gf F ⟨rfl, rfl, rfl, by decide +kernel, rfl, by decide +kernel, by decide +kernel⟩ rfl (fun _ _ _ _ _ _ us hl => match us, hl with | [_, _], _ => rfl) (fun cdv A outer s H E o =>
    (b_cons (s_set (i := 2) o.nd (d_op o_sub (d_op o_shl d_int (d_var 1)) d_int))
    (b_one (s_ret (d_bty c_tuple h.z_tuple PyProof.Rows.boot_tuple (a_cons (d_tree (l_comp (own := [("at", 3)]) o (i_range1 (a_cons (d_op o_shl d_int (d_var 1)) a_nil) h.z_range) (by kernel_rfl) (fun s H C cl fp o => (g_name (i := 3) o)) (fun s H C cl fp o => ts_nil) (fun s H C cl fp o => (d_op o_and (d_op o_shr (d_var 0) (d_op o_sub (d_var 2) (d_var 3))) d_int)))) a_nil)))))) rfl
theorem D_ones_of (h : Facts P w K mg base) : Def P w K mg base "ones_of" 1 2 m_ones_of := by
  obtain ⟨f, fd, gf, F⟩ := h.f_ones_of
  exact def_mk (N := ["many", "at", "half", "block", "found", "wide"]) (ps := ["many", "at"]) gf F ⟨rfl, rfl, rfl, by decide +kernel, rfl, by decide +kernel, by decide +kernel⟩ rfl (fun _ _ _ _ _ _ us hl => match us, hl with | [_, _], _ => rfl) (fun cdv A outer s H E o =>
    (b_cons (s_set (i := 2) o.nd (d_op o_shl d_int (d_op o_sub (d_op o_sub (d_var 0) d_int) (d_var 1))))
    (b_cons (s_set (i := 3) o.nd (d_op o_sub (d_op o_shl d_int (d_var 2)) d_int))
    (b_cons (s_par o 4 5 (a_cons (d_var 3) (a_cons (d_op o_mul d_int (d_var 2)) a_nil)))
    (b_cons (s_while 16 o (t_cmp (o_lt o) (d_var 5) (d_op o_shl d_int (d_var 0))) (b_one (s_par o 4 5 (a_cons (d_op o_or (d_var 4) (d_op o_shl (d_var 4) (d_var 5))) (a_cons (d_op o_mul d_int (d_var 5)) a_nil)))))
    (b_one (s_ret (d_var 4)))))))) rfl
theorem D_wide_bit (h : Facts P w K mg base) : Def P w K mg base "wide_bit" 2 3 m_wide_bit := by
  obtain ⟨f, fd, gf, F⟩ := h.f_wide_bit
  exact def_mk (N := ["gate", "bits", "full", "kind", "found", "row", "value", "part", "bit", "one", "far"]) (ps := ["gate", "bits", "full"]) gf F ⟨rfl, rfl, rfl, by decide +kernel, rfl, by decide +kernel, by decide +kernel⟩ rfl (fun _ _ _ _ _ _ us hl => match us, hl with | [_, _, _], _ => rfl) (fun cdv A outer s H E o =>
    (b_cons (s_set (i := 3) o.nd (d_ix o (d_var 0) d_int))
    (b_cons (s_if (t_cmp (o_eq o) (d_var 3) (d_glob (v := .str c_TABLE) (d := .str c_TABLE) (Classical.choose_spec h.c_TABLE) ⟨_, rfl⟩ (fun _ _ => .str _))) (b_cons (s_set (i := 4) o.nd d_int)
    (b_cons (s_for (vs := [5, 6]) o (i_zip (a_cons (d_callX (D_inputs_of h) o (a_cons (d_bi c_len h.z_len PySem.boot_len (a_cons (d_var 1) a_nil)) a_nil)) (a_cons (d_ix o (d_var 0) d_int) a_nil)) h.z_zip) (g_tup (n := 2) o (gs_cons (g_name (i := 5) o) (gs_cons (g_name (i := 6) o) gs_nil))) (b_one (s_if (t_cmp (o_eq o) (d_var 6) d_int) (b_cons (s_set (i := 7) o.nd (d_var 2))
    (b_cons (s_for (vs := [8, 9]) o (i_zip (a_cons (d_var 5) (a_cons (d_var 1) a_nil)) h.z_zip) (g_tup (n := 2) o (gs_cons (g_name (i := 8) o) (gs_cons (g_name (i := 9) o) gs_nil))) (b_one (s_aug 7 o.nd (d_if (t_cmp (o_eq o) (d_var 8) d_int) (d_var 9) (d_op o_xor (d_var 2) (d_var 9))) p_and)))
    (b_one (s_aug 4 o.nd (d_var 7) p_or)))) b_nil)))
    (b_one (s_ret (d_var 4))))) b_nil)
    (b_cons (s_if (t_cmp (o_in o) (d_var 3) (d_tup (a_cons d_str (a_cons d_str a_nil)))) (b_one (s_ret (d_if (t_cmp (o_eq o) (d_var 3) d_str) (d_var 2) d_int))) b_nil)
    (b_cons (s_if (t_cmp (o_eq o) (d_var 3) d_str) (b_one (s_ret (d_op o_xor (d_var 2) (d_ix o (d_var 1) d_int)))) b_nil)
    (b_cons (s_par o 9 10 (a_cons (d_ix o (d_var 1) d_int) (a_cons (d_ix o (d_var 1) d_int) a_nil)))
    (b_cons (s_if (t_cmp (o_eq o) (d_var 3) d_str) (b_one (s_ret (d_op o_or (d_op o_and (d_var 9) (d_var 10)) (d_op o_and (d_op o_xor (d_var 2) (d_var 9)) (d_ix o (d_var 1) d_int))))) b_nil)
    (b_cons (s_if (t_cmp (o_eq o) (d_var 3) d_str) (b_one (s_ret (d_op o_or (d_op o_or (d_op o_and (d_var 9) (d_var 10)) (d_op o_and (d_var 9) (d_ix o (d_var 1) d_int))) (d_op o_and (d_var 10) (d_ix o (d_var 1) d_int))))) b_nil)
    (b_one (s_ret (d_ix o (d_disp (have o := o.ef; (pp_cons d_str (d_op o_and (d_var 9) (d_var 10)) (pp_cons d_str (d_op o_or (d_var 9) (d_var 10)) (pp_cons d_str (d_op o_xor (d_var 9) (d_var 10)) pp_nil))))) (d_var 3)))))))))))) rfl
theorem D_wide_run (h : Facts P w K mg base) : Def P w K mg base "wide_run" 3 1 m_wide_run := by
  obtain ⟨f, fd, gf, F⟩ := h.f_wide_run
  exact def_mk (N := ["net", "full", "found", "at", "gate", "wire"]) (ps := ["net"]) gf F ⟨rfl, rfl, rfl, by decide +kernel, rfl, by decide +kernel, by decide +kernel⟩ rfl (fun _ _ _ _ _ _ us hl => match us, hl with | [_], _ => rfl) (fun cdv A outer s H E o =>
    (b_cons (s_set (i := 1) o.nd (d_op o_sub (d_op o_shl d_int (d_op o_shl d_int (d_ix o (d_var 0) d_int))) d_int))
    (b_cons (s_set (i := 2) o.nd (d_cell (l_comp (own := [("at", 3)]) o (i_range1 (a_cons (d_ix o (d_var 0) d_int) a_nil) h.z_range) (by kernel_rfl) (fun s H C cl fp o => (g_name (i := 3) o)) (fun s H C cl fp o => ts_nil) (fun s H C cl fp o => (d_callX (D_ones_of h) o (a_cons (d_ix o (d_var 0) d_int) (a_cons (d_var 3) a_nil)))))))
    (b_cons (s_for (vs := [4]) o (i_any (d_ix o (d_var 0) d_int)) (g_name (i := 4) o) (b_one (s_expr (d_meth (c := isL) (fun r rv hp => isL_post r rv hp) PySem.F.plainAttrs_list PySem.F.slot_list_append PySem.F.type_list_append m_append (d_var 2) (a_cons (d_callX (D_wide_bit h) o (a_cons (d_var 4) (a_cons (d_tree (l_comp (own := [("wire", 5)]) o (i_any (d_ix o (d_var 4) d_int)) (by kernel_rfl) (fun s H C cl fp o => (g_name (i := 5) o)) (fun s H C cl fp o => ts_nil) (fun s H C cl fp o => (d_ix o (d_var 2) (d_var 5))))) (a_cons (d_var 1) a_nil)))) a_nil)))))
    (b_one (s_ret (d_frz (d_var 2)))))))) rfl
theorem D_column (h : Facts P w K mg base) : Def P w K mg base "column" 7 2 m_column := by
  obtain ⟨f, fd, gf, F⟩ := h.f_column
  exact def_mk (N := ["net", "wire"]) (ps := ["net", "wire"]) gf F ⟨rfl, rfl, rfl, by decide +kernel, rfl, by decide +kernel, by decide +kernel⟩ rfl (fun _ _ _ _ _ _ us hl => match us, hl with | [_, _], _ => rfl) (fun cdv A outer s H E o =>
    (b_cons (s_expr (d_callX (D_require_wire h) o (a_cons (d_var 0) (a_cons (d_var 1) a_nil))))
    (b_one (s_ret (d_callX (D_bits_told h) o (a_cons (d_ix o (d_callX (D_wide_run h) o (a_cons (d_var 0) a_nil)) (d_var 1)) (a_cons (d_ix o (d_var 0) d_int) a_nil))))))) rfl
theorem D_is_input (h : Facts P w K mg base) : Def P w K mg base "is_input" 1 2 m_is_input := by
  obtain ⟨f, fd, gf, F⟩ := h.f_is_input
  exact def_mk (N := ["net", "wire"]) (ps := ["net", "wire"]) gf F ⟨rfl, rfl, rfl, by decide +kernel, rfl, by decide +kernel, by decide +kernel⟩ rfl (fun _ _ _ _ _ _ us hl => match us, hl with | [_, _], _ => rfl) (fun cdv A outer s H E o =>
    (b_one (s_ret (d_cmp (o_lt o) (d_var 1) (d_ix o (d_var 0) d_int))))) rfl
theorem D_gate_at (h : Facts P w K mg base) : Def P w K mg base "gate_at" 1 2 m_gate_at := by
  obtain ⟨f, fd, gf, F⟩ := h.f_gate_at
  exact def_mk (N := ["net", "wire"]) (ps := ["net", "wire"]) gf F ⟨rfl, rfl, rfl, by decide +kernel, rfl, by decide +kernel, by decide +kernel⟩ rfl (fun _ _ _ _ _ _ us hl => match us, hl with | [_, _], _ => rfl) (fun cdv A outer s H E o =>
    (b_one (s_ret (d_ix o (d_ix o (d_var 0) d_int) (d_op o_sub (d_var 1) (d_ix o (d_var 0) d_int)))))) rfl
theorem D_cone_in (h : Facts P w K mg base) : Def P w K mg base "cone_in" 2 2 m_cone_in := by
  obtain ⟨f, fd, gf, F⟩ := h.f_cone_in
  exact def_mk (N := ["net", "wire", "found", "waits", "one", "inner", "other"]) (ps := ["net", "wire"]) gf F ⟨rfl, rfl, rfl, by decide +kernel, rfl, by decide +kernel, by decide +kernel⟩ rfl (fun _ _ _ _ _ _ us hl => match us, hl with | [_, _], _ => rfl) (fun cdv A outer s H E o =>
    (b_cons (s_par o 2 3 (a_cons (d_disp (have o := o.ef; (pp_cons (d_var 1) d_bl pp_nil))) (a_cons (d_cell (l_lst (a_cons (d_var 1) a_nil))) a_nil)))
    (b_cons (s_while 200 o (t_cmp (o_ne o) (d_var 3) (d_tree (l_lst a_nil))) (b_cons (s_set (i := 4) o.nd (d_meth0 (c := isL) (fun r rv hp => isL_post r rv hp) PySem.F.plainAttrs_list PySem.F.slot_list_pop PySem.F.type_list_pop m_pop (d_var 3)))
    (b_cons (s_set (i := 5) o.nd (d_if (t_not (d_test (d_callX (D_is_input h) o (a_cons (d_var 0) (a_cons (d_var 4) a_nil))))) (d_ix o (d_callX (D_gate_at h) o (a_cons (d_var 0) (a_cons (d_var 4) a_nil))) d_int) (d_tup a_nil)))
    (b_one (s_for (vs := [6]) o (i_any (d_var 5)) (g_name (i := 6) o) (b_one (s_if (t_cmp (o_notIn o) (d_var 6) (d_var 2)) (b_cons (s_tgt (vs := []) d_bl (g_sub (d_var 2) (d_var 6) (set_any o)))
    (b_one (s_expr (d_meth (c := isL) (fun r rv hp => isL_post r rv hp) PySem.F.plainAttrs_list PySem.F.slot_list_append PySem.F.type_list_append m_append (d_var 3) (a_cons (d_var 6) a_nil))))) b_nil)))))))
    (b_one (s_ret (d_tree (l_bi (c_sortK o) h.z_sorted PyProof.Rows.boot_sorted (a_cons (d_var 2) a_nil)))))))) rfl
theorem D_cone (h : Facts P w K mg base) : Def P w K mg base "cone" 7 2 m_cone := by
  obtain ⟨f, fd, gf, F⟩ := h.f_cone
  exact def_mk (N := ["net", "wire"]) (ps := ["net", "wire"]) gf F ⟨rfl, rfl, rfl, by decide +kernel, rfl, by decide +kernel, by decide +kernel⟩ rfl (fun _ _ _ _ _ _ us hl => match us, hl with | [_, _], _ => rfl) (fun cdv A outer s H E o =>
    (b_cons (s_expr (d_callX (D_require_wire h) o (a_cons (d_var 0) (a_cons (d_var 1) a_nil))))
    (b_one (s_ret (d_bty c_tuple h.z_tuple PyProof.Rows.boot_tuple (a_cons (d_callX (D_cone_in h) o (a_cons (d_var 0) (a_cons (d_var 1) a_nil))) a_nil)))))) rfl
theorem D_readers (h : Facts P w K mg base) : Def P w K mg base "readers" 7 2 m_readers := by
  obtain ⟨f, fd, gf, F⟩ := h.f_readers
  exact def_mk (N := ["net", "wire", "at", "gate"]) (ps := ["net", "wire"]) gf F ⟨rfl, rfl, rfl, by decide +kernel, rfl, by decide +kernel, by decide +kernel⟩ rfl (fun _ _ _ _ _ _ us hl => match us, hl with | [_, _], _ => rfl) (fun cdv A outer s H E o =>
    (b_cons (s_expr (d_callX (D_require_wire h) o (a_cons (d_var 0) (a_cons (d_var 1) a_nil))))
    (b_one (s_ret (d_bty c_tuple h.z_tuple PyProof.Rows.boot_tuple (a_cons (d_tree (l_comp (own := [("at", 2), ("gate", 3)]) o (i_enum (a_cons (d_ix o (d_var 0) d_int) a_nil) h.z_enumerate) (by kernel_rfl) (fun s H C cl fp o => (g_tup (n := 2) o (gs_cons (g_name (i := 2) o) (gs_cons (g_name (i := 3) o) gs_nil)))) (fun s H C cl fp o => (ts_one (t_cmp (o_in o) (d_var 1) (d_ix o (d_var 3) d_int)))) (fun s H C cl fp o => (d_op o_add (d_ix o (d_var 0) d_int) (d_var 2))))) a_nil)))))) rfl
theorem D_tail_table (h : Facts P w K mg base) : Def P w K mg base "tail_table" 7 2 m_tail_table := by
  obtain ⟨f, fd, gf, F⟩ := h.f_tail_table
  exact def_mk (N := ["net", "wire"]) (ps := ["net", "wire"]) gf F ⟨rfl, rfl, rfl, by decide +kernel, rfl, by decide +kernel, by decide +kernel⟩ rfl (fun _ _ _ _ _ _ us hl => match us, hl with | [_, _], _ => rfl) (fun cdv A outer s H E o =>
    (b_cons (s_expr (d_callX (D_require_wire h) o (a_cons (d_var 0) (a_cons (d_var 1) a_nil))))
    (b_cons (s_if (d_test (d_callX (D_is_input h) o (a_cons (d_var 0) (a_cons (d_var 1) a_nil)))) (b_one (s_raise0 o (h.x_InvalidOperation).choose_spec)) b_nil)
    (b_one (s_ret (d_ix o (d_callX (D_table_in h) o (a_cons (d_callX (D_gate_at h) o (a_cons (d_var 0) (a_cons (d_var 1) a_nil))) a_nil)) d_int)))))) rfl
theorem D__law_wires (h : Facts P w K mg base) : Def P w K mg base "_law_wires" 10 2 m__law_wires := by
  obtain ⟨f, fd, c, PP, gf, F, hc, TB, hm, hu⟩ := h.f__law_wires
  exact def_mkC (N := ["net", "wire", "found"]) (ps := ["net", "wire"]) gf F hc ⟨rfl, rfl, rfl, by decide +kernel, rfl, by decide +kernel, by decide +kernel⟩ rfl (fun _ _ _ _ _ _ us hl => match us, hl with | [_, _], _ => rfl) (fun A outer s H E o =>
    (b_cons (s_set (i := 2) o.nd (d_cell (l_lst (a_cons (d_lam (D__law_met h) o TB rfl hm hu (lamS_by (by show lamSB (defScope (top 69)) _ = true; decide +kernel)) (fun A outer s H E _ _ o => (d_callX (D_column h) o (a_cons (d_var 0) (a_cons (d_var 1) a_nil))))) a_nil))))
    (b_cons (s_expr (d_meth (c := isL) (fun r rv hp => isL_post r rv hp) PySem.F.plainAttrs_list PySem.F.slot_list_append PySem.F.type_list_append m_append (d_var 2) (a_cons (d_lam (D__law_met h) o TB rfl hm hu (lamS_by (by show lamSB (defScope (top 69)) _ = true; decide +kernel)) (fun A outer s H E _ _ o => (d_callX (D_cone h) o (a_cons (d_var 0) (a_cons (d_var 1) a_nil))))) a_nil)))
    (b_cons (s_expr (d_meth (c := isL) (fun r rv hp => isL_post r rv hp) PySem.F.plainAttrs_list PySem.F.slot_list_append PySem.F.type_list_append m_append (d_var 2) (a_cons (d_lam (D__law_met h) o TB rfl hm hu (lamS_by (by show lamSB (defScope (top 69)) _ = true; decide +kernel)) (fun A outer s H E _ _ o => (d_callX (D_readers h) o (a_cons (d_var 0) (a_cons (d_var 1) a_nil))))) a_nil)))
    (b_cons (s_expr (d_meth (c := isL) (fun r rv hp => isL_post r rv hp) PySem.F.plainAttrs_list PySem.F.slot_list_append PySem.F.type_list_append m_append (d_var 2) (a_cons (d_lam (D__law_met h) o TB rfl hm hu (lamS_by (by show lamSB (defScope (top 69)) _ = true; decide +kernel)) (fun A outer s H E _ _ o => (d_callX (D_tail_table h) o (a_cons (d_var 0) (a_cons (d_var 1) a_nil))))) a_nil)))
    (b_one (s_ret (d_frz (d_var 2))))))))) rfl
theorem D_require_row (h : Facts P w K mg base) : Def P w K mg base "require_row" 6 2 m_require_row := by
  obtain ⟨f, fd, gf, F⟩ := h.f_require_row
  exact def_mk (N := ["net", "row"]) (ps := ["net", "row"]) gf F ⟨rfl, rfl, rfl, by decide +kernel, rfl, by decide +kernel, by decide +kernel⟩ rfl (fun _ _ _ _ _ _ us hl => match us, hl with | [_, _], _ => rfl) (fun cdv A outer s H E o =>
    (b_cons (s_expr (d_callV (D_require_net h) o (a_cons (d_var 0) a_nil)))
    (b_one (s_if (t_not (d_test (d_callX (D_are_bits h) o (a_cons (d_var 1) (a_cons (d_ix o (d_var 0) d_int) a_nil))))) (b_one (s_raise0 o (h.x_InvalidRow).choose_spec)) b_nil)))) rfl
theorem D_run_in (h : Facts P w K mg base) : Def P w K mg base "run_in" 2 2 m_run_in := by
  obtain ⟨f, fd, gf, F⟩ := h.f_run_in
  exact def_mk (N := ["net", "row", "found", "gate", "wire"]) (ps := ["net", "row"]) gf F ⟨rfl, rfl, rfl, by decide +kernel, rfl, by decide +kernel, by decide +kernel⟩ rfl (fun _ _ _ _ _ _ us hl => match us, hl with | [_, _], _ => rfl) (fun cdv A outer s H E o =>
    (b_cons (s_set (i := 2) o.nd (d_cell (l_bty cl_list h.z_list PyProof.Rows.boot_list (a_cons (d_var 1) a_nil))))
    (b_cons (s_for (vs := [3]) o (i_any (d_ix o (d_var 0) d_int)) (g_name (i := 3) o) (b_one (s_expr (d_meth (c := isL) (fun r rv hp => isL_post r rv hp) PySem.F.plainAttrs_list PySem.F.slot_list_append PySem.F.type_list_append m_append (d_var 2) (a_cons (d_callX (D_bit_of h) o (a_cons (d_var 3) (a_cons (d_tree (l_comp (own := [("wire", 4)]) o (i_any (d_ix o (d_var 3) d_int)) (by kernel_rfl) (fun s H C cl fp o => (g_name (i := 4) o)) (fun s H C cl fp o => ts_nil) (fun s H C cl fp o => (d_ix o (d_var 2) (d_var 4))))) a_nil))) a_nil)))))
    (b_one (s_ret (d_frz (d_var 2))))))) rfl
theorem D_run_of (h : Facts P w K mg base) : Def P w K mg base "run_of" 7 2 m_run_of := by
  obtain ⟨f, fd, gf, F⟩ := h.f_run_of
  exact def_mk (N := ["net", "row"]) (ps := ["net", "row"]) gf F ⟨rfl, rfl, rfl, by decide +kernel, rfl, by decide +kernel, by decide +kernel⟩ rfl (fun _ _ _ _ _ _ us hl => match us, hl with | [_, _], _ => rfl) (fun cdv A outer s H E o =>
    (b_cons (s_expr (d_callX (D_require_row h) o (a_cons (d_var 0) (a_cons (d_var 1) a_nil))))
    (b_one (s_ret (d_bty c_tuple h.z_tuple PyProof.Rows.boot_tuple (a_cons (d_callX (D_run_in h) o (a_cons (d_var 0) (a_cons (d_var 1) a_nil))) a_nil)))))) rfl
theorem D_ends_at (h : Facts P w K mg base) : Def P w K mg base "ends_at" 7 2 m_ends_at := by
  obtain ⟨f, fd, gf, F⟩ := h.f_ends_at
  exact def_mk (N := ["net", "row", "bits", "wire"]) (ps := ["net", "row"]) gf F ⟨rfl, rfl, rfl, by decide +kernel, rfl, by decide +kernel, by decide +kernel⟩ rfl (fun _ _ _ _ _ _ us hl => match us, hl with | [_, _], _ => rfl) (fun cdv A outer s H E o =>
    (b_cons (s_expr (d_callX (D_require_row h) o (a_cons (d_var 0) (a_cons (d_var 1) a_nil))))
    (b_cons (s_set (i := 2) o.nd (d_callX (D_run_in h) o (a_cons (d_var 0) (a_cons (d_var 1) a_nil))))
    (b_one (s_ret (d_bty c_tuple h.z_tuple PyProof.Rows.boot_tuple (a_cons (d_tree (l_comp (own := [("wire", 3)]) o (i_any (d_ix o (d_var 0) d_int)) (by kernel_rfl) (fun s H C cl fp o => (g_name (i := 3) o)) (fun s H C cl fp o => ts_nil) (fun s H C cl fp o => (d_ix o (d_var 2) (d_var 3))))) a_nil))))))) rfl
theorem D_end_columns (h : Facts P w K mg base) : Def P w K mg base "end_columns" 6 1 m_end_columns := by
  obtain ⟨f, fd, gf, F⟩ := h.f_end_columns
  exact def_mk (N := ["net", "bits", "wire"]) (ps := ["net"]) gf F ⟨rfl, rfl, rfl, by decide +kernel, rfl, by decide +kernel, by decide +kernel⟩ rfl (fun _ _ _ _ _ _ us hl => match us, hl with | [_], _ => rfl) (fun cdv A outer s H E o =>
    (b_cons (s_expr (d_callV (D_require_net h) o (a_cons (d_var 0) a_nil)))
    (b_cons (s_set (i := 1) o.nd (d_callX (D_wide_run h) o (a_cons (d_var 0) a_nil)))
    (b_one (s_ret (d_bty c_tuple h.z_tuple PyProof.Rows.boot_tuple (a_cons (d_tree (l_comp (own := [("wire", 2)]) o (i_any (d_ix o (d_var 0) d_int)) (by kernel_rfl) (fun s H C cl fp o => (g_name (i := 2) o)) (fun s H C cl fp o => ts_nil) (fun s H C cl fp o => (d_callX (D_bits_told h) o (a_cons (d_ix o (d_var 1) (d_var 2)) (a_cons (d_ix o (d_var 0) d_int) a_nil)))))) a_nil))))))) rfl
theorem D_levels_in (h : Facts P w K mg base) : Def P w K mg base "levels_in" 1 1 m_levels_in := by
  obtain ⟨f, fd, gf, F⟩ := h.f_levels_in
  exact def_mk (N := ["net", "found", "gate", "wire"]) (ps := ["net"]) gf F ⟨rfl, rfl, rfl, by decide +kernel, rfl, by decide +kernel, by decide +kernel⟩ rfl (fun _ _ _ _ _ _ us hl => match us, hl with | [_], _ => rfl) (fun cdv A outer s H E o =>
    (b_cons (s_set (i := 1) o.nd (d_cell (l_rep (d_tree (l_lst (a_cons d_int a_nil))) (d_ix o (d_var 0) d_int))))
    (b_cons (s_for (vs := [2]) o (i_any (d_ix o (d_var 0) d_int)) (g_name (i := 2) o) (b_one (s_expr (d_meth (c := isL) (fun r rv hp => isL_post r rv hp) PySem.F.plainAttrs_list PySem.F.slot_list_append PySem.F.type_list_append m_append (d_var 1) (a_cons (d_if (t_cmp (o_ne o) (d_ix o (d_var 2) d_int) (d_tup a_nil)) (d_op o_add d_int (d_bi (c_maxB o) h.z_max PyProof.Rows.boot_max (a_cons (d_tree (l_comp (own := [("wire", 3)]) o (i_any (d_ix o (d_var 2) d_int)) (by kernel_rfl) (fun s H C cl fp o => (g_name (i := 3) o)) (fun s H C cl fp o => ts_nil) (fun s H C cl fp o => (d_ix o (d_var 1) (d_var 3))))) a_nil))) d_int) a_nil)))))
    (b_one (s_ret (d_frz (d_var 1))))))) rfl
theorem D_levels (h : Facts P w K mg base) : Def P w K mg base "levels" 6 1 m_levels := by
  obtain ⟨f, fd, gf, F⟩ := h.f_levels
  exact def_mk (N := ["net"]) (ps := ["net"]) gf F ⟨rfl, rfl, rfl, by decide +kernel, rfl, by decide +kernel, by decide +kernel⟩ rfl (fun _ _ _ _ _ _ us hl => match us, hl with | [_], _ => rfl) (fun cdv A outer s H E o =>
    (b_cons (s_expr (d_callV (D_require_net h) o (a_cons (d_var 0) a_nil)))
    (b_one (s_ret (d_bty c_tuple h.z_tuple PyProof.Rows.boot_tuple (a_cons (d_callX (D_levels_in h) o (a_cons (d_var 0) a_nil)) a_nil)))))) rfl
theorem D_depth (h : Facts P w K mg base) : Def P w K mg base "depth" 6 1 m_depth := by
  obtain ⟨f, fd, gf, F⟩ := h.f_depth
  exact def_mk (N := ["net", "found", "wire"]) (ps := ["net"]) gf F ⟨rfl, rfl, rfl, by decide +kernel, rfl, by decide +kernel, by decide +kernel⟩ rfl (fun _ _ _ _ _ _ us hl => match us, hl with | [_], _ => rfl) (fun cdv A outer s H E o =>
    (b_cons (s_expr (d_callV (D_require_net h) o (a_cons (d_var 0) a_nil)))
    (b_cons (s_set (i := 1) o.nd (d_callX (D_levels_in h) o (a_cons (d_var 0) a_nil)))
    (b_one (s_ret (d_bi (c_maxB o) h.z_max PyProof.Rows.boot_max (a_cons (d_tree (l_comp (own := [("wire", 2)]) o (i_any (d_ix o (d_var 0) d_int)) (by kernel_rfl) (fun s H C cl fp o => (g_name (i := 2) o)) (fun s H C cl fp o => ts_nil) (fun s H C cl fp o => (d_ix o (d_var 1) (d_var 2))))) a_nil))))))) rfl
theorem D_gate_counts (h : Facts P w K mg base) : Def P w K mg base "gate_counts" 6 1 m_gate_counts := by
  obtain ⟨f, fd, gf, F⟩ := h.f_gate_counts
  exact def_mk (N := ["net", "kinds", "gate", "kind"]) (ps := ["net"]) gf F ⟨rfl, rfl, rfl, by decide +kernel, rfl, by decide +kernel, by decide +kernel⟩ rfl (fun _ _ _ _ _ _ us hl => match us, hl with | [_], _ => rfl) (fun cdv A outer s H E o =>
    (b_cons (s_expr (d_callV (D_require_net h) o (a_cons (d_var 0) a_nil)))
    (b_cons (s_set (i := 1) o.nd (d_tree (l_comp (own := [("gate", 2)]) o (i_any (d_ix o (d_var 0) d_int)) (by kernel_rfl) (fun s H C cl fp o => (g_name (i := 2) o)) (fun s H C cl fp o => ts_nil) (fun s H C cl fp o => (d_ix o (d_var 2) d_int)))))
    (b_one (s_ret (d_dcomp (own := [("kind", 3)]) false o (i_any (d_glob (v := .ref (Classical.choose h.c_KINDS)) (d := K_KINDS) (Classical.choose_spec h.c_KINDS).1 rfl (Classical.choose_spec h.c_KINDS).2)) (by kernel_rfl) (fun s H C cl fp o => (g_name (i := 3) o)) (fun s H C cl fp o => (ts_one (t_cmp (o_in o) (d_var 3) (d_var 1)))) (fun s H C cl fp o => (d_var 3)) (fun s H C cl fp o => (d_meth (c := isL) (fun r rv hp => isL_post r rv hp) PySem.F.plainAttrs_list PySem.F.slot_list_count PySem.F.type_list_count (m_countD o) (d_var 1) (a_cons (d_var 3) a_nil))))))))) rfl
theorem D__law_ones (h : Facts P w K mg base) : Def P w K mg base "_law_ones" 10 2 m__law_ones := by
  obtain ⟨f, fd, c, PP, gf, F, hc, TB, hm, hu⟩ := h.f__law_ones
  exact def_mkC (N := ["net", "row", "found"]) (ps := ["net", "row"]) gf F hc ⟨rfl, rfl, rfl, by decide +kernel, rfl, by decide +kernel, by decide +kernel⟩ rfl (fun _ _ _ _ _ _ us hl => match us, hl with | [_, _], _ => rfl) (fun A outer s H E o =>
    (b_cons (s_set (i := 2) o.nd (d_cell (l_lst (a_cons (d_lam (D__law_met h) o TB rfl hm hu (lamS_by (by show lamSB (defScope (top 70)) _ = true; decide +kernel)) (fun A outer s H E _ _ o => (d_callX (D_run_of h) o (a_cons (d_var 0) (a_cons (d_var 1) a_nil))))) a_nil))))
    (b_cons (s_expr (d_meth (c := isL) (fun r rv hp => isL_post r rv hp) PySem.F.plainAttrs_list PySem.F.slot_list_append PySem.F.type_list_append m_append (d_var 2) (a_cons (d_lam (D__law_met h) o TB rfl hm hu (lamS_by (by show lamSB (defScope (top 70)) _ = true; decide +kernel)) (fun A outer s H E _ _ o => (d_callX (D_ends_at h) o (a_cons (d_var 0) (a_cons (d_var 1) a_nil))))) a_nil)))
    (b_cons (s_expr (d_meth (c := isL) (fun r rv hp => isL_post r rv hp) PySem.F.plainAttrs_list PySem.F.slot_list_append PySem.F.type_list_append m_append (d_var 2) (a_cons (d_lam (D__law_met h) o TB rfl hm hu (lamS_by (by show lamSB (defScope (top 70)) _ = true; decide +kernel)) (fun A outer s H E _ _ o => (d_callX (D_end_columns h) o (a_cons (d_var 0) a_nil)))) a_nil)))
    (b_cons (s_expr (d_meth (c := isL) (fun r rv hp => isL_post r rv hp) PySem.F.plainAttrs_list PySem.F.slot_list_append PySem.F.type_list_append m_append (d_var 2) (a_cons (d_lam (D__law_met h) o TB rfl hm hu (lamS_by (by show lamSB (defScope (top 70)) _ = true; decide +kernel)) (fun A outer s H E _ _ o => (d_callX (D_levels h) o (a_cons (d_var 0) a_nil)))) a_nil)))
    (b_cons (s_expr (d_meth (c := isL) (fun r rv hp => isL_post r rv hp) PySem.F.plainAttrs_list PySem.F.slot_list_append PySem.F.type_list_append m_append (d_var 2) (a_cons (d_lam (D__law_met h) o TB rfl hm hu (lamS_by (by show lamSB (defScope (top 70)) _ = true; decide +kernel)) (fun A outer s H E _ _ o => (d_callX (D_depth h) o (a_cons (d_var 0) a_nil)))) a_nil)))
    (b_cons (s_expr (d_meth (c := isL) (fun r rv hp => isL_post r rv hp) PySem.F.plainAttrs_list PySem.F.slot_list_append PySem.F.type_list_append m_append (d_var 2) (a_cons (d_lam (D__law_met h) o TB rfl hm hu (lamS_by (by show lamSB (defScope (top 70)) _ = true; decide +kernel)) (fun A outer s H E _ _ o => (d_callX (D_gate_counts h) o (a_cons (d_var 0) a_nil)))) a_nil)))
    (b_one (s_ret (d_frz (d_var 2))))))))))) rfl
theorem D_require_like (h : Facts P w K mg base) : Def P w K mg base "require_like" 6 2 m_require_like := by
  obtain ⟨f, fd, gf, F⟩ := h.f_require_like
  exact def_mk (N := ["net", "other"]) (ps := ["net", "other"]) gf F ⟨rfl, rfl, rfl, by decide +kernel, rfl, by decide +kernel, by decide +kernel⟩ rfl (fun _ _ _ _ _ _ us hl => match us, hl with | [_, _], _ => rfl) (fun cdv A outer s H E o =>
    (b_cons (s_expr (d_callV (D_require_net h) o (a_cons (d_var 0) (a_cons (d_var 1) a_nil))))
    (b_one (s_if (t_bool (w_or (t_cmp (o_ne o) (d_ix o (d_var 0) d_int) (d_ix o (d_var 1) d_int)) (w_or1 (t_cmp (o_ne o) (d_bi c_len h.z_len PySem.boot_len (a_cons (d_ix o (d_var 0) d_int) a_nil)) (d_bi c_len h.z_len PySem.boot_len (a_cons (d_ix o (d_var 1) d_int) a_nil)))))) (b_one (s_raise0 o (h.x_InvalidOperation).choose_spec)) b_nil)))) rfl
theorem D_row_at (h : Facts P w K mg base) : Def P w K mg base "row_at" 1 2 m_row_at := by
  obtain ⟨f, fd, gf, F⟩ := h.f_row_at
  exact def_mk (N := ["many", "place", "at"]) (ps := ["many", "place"]) gf F ⟨rfl, rfl, rfl, by decide +kernel, rfl, by decide +kernel, by decide +kernel⟩ rfl (fun _ _ _ _ _ _ us hl => match us, hl with | [_, _], _ => rfl) (fun cdv A outer s H E o =>
    (b_one (s_ret (d_bty c_tuple h.z_tuple PyProof.Rows.boot_tuple (a_cons (d_tree (l_comp (own := [("at", 2)]) o (i_range1 (a_cons (d_var 0) a_nil) h.z_range) (by kernel_rfl) (fun s H C cl fp o => (g_name (i := 2) o)) (fun s H C cl fp o => ts_nil) (fun s H C cl fp o => (d_op o_and (d_op o_shr (d_var 1) (d_op o_sub (d_op o_sub (d_var 0) d_int) (d_var 2))) d_int)))) a_nil))))) rfl
theorem D_unlike_in (h : Facts P w K mg base) : Def P w K mg base "unlike_in" 4 2 m_unlike_in := by
  obtain ⟨f, fd, gf, F⟩ := h.f_unlike_in
  exact def_mk (N := ["net", "other", "one", "far", "first", "second", "bits"]) (ps := ["net", "other"]) gf F ⟨rfl, rfl, rfl, by decide +kernel, rfl, by decide +kernel, by decide +kernel⟩ rfl (fun _ _ _ _ _ _ us hl => match us, hl with | [_, _], _ => rfl) (fun cdv A outer s H E o =>
    (b_cons (s_par o 2 3 (a_cons (d_callX (D_wide_run h) o (a_cons (d_var 0) a_nil)) (a_cons (d_callX (D_wide_run h) o (a_cons (d_var 1) a_nil)) a_nil)))
    (b_cons (s_for (vs := [4, 5]) o (i_zip (a_cons (d_ix o (d_var 0) d_int) (a_cons (d_ix o (d_var 1) d_int) a_nil)) h.z_zip) (g_tup (n := 2) o (gs_cons (g_name (i := 4) o) (gs_cons (g_name (i := 5) o) gs_nil))) (b_one (s_if (t_cmp (o_ne o) (d_ix o (d_var 2) (d_var 4)) (d_ix o (d_var 3) (d_var 5))) (b_cons (s_set (i := 6) o.nd (d_callX (D_bits_told h) o (a_cons (d_op o_xor (d_ix o (d_var 2) (d_var 4)) (d_ix o (d_var 3) (d_var 5))) (a_cons (d_ix o (d_var 0) d_int) a_nil))))
    (b_one (s_ret (d_callX (D_row_at h) o (a_cons (d_ix o (d_var 0) d_int) (a_cons (d_meth (c := isL) (fun r rv hp => isL_post r rv hp) PySem.F.plainAttrs_list PySem.F.slot_list_index PySem.F.type_list_index (m_index o) (d_var 6) (a_cons d_int a_nil)) a_nil)))))) b_nil)))
    (b_one (s_ret d_non))))) rfl
theorem D_alike_paper (h : Facts P w K mg base) : Def P w K mg base "alike_paper" 7 2 m_alike_paper := by
  obtain ⟨f, fd, gf, F⟩ := h.f_alike_paper
  exact def_mk (N := ["net", "other", "found"]) (ps := ["net", "other"]) gf F ⟨rfl, rfl, rfl, by decide +kernel, rfl, by decide +kernel, by decide +kernel⟩ rfl (fun _ _ _ _ _ _ us hl => match us, hl with | [_, _], _ => rfl) (fun cdv A outer s H E o =>
    (b_cons (s_expr (d_callX (D_require_like h) o (a_cons (d_var 0) (a_cons (d_var 1) a_nil))))
    (b_cons (s_set (i := 2) o.nd (d_callX (D_unlike_in h) o (a_cons (d_var 0) (a_cons (d_var 1) a_nil))))
    (b_one (s_ret (d_if (t_cmp o_isN (d_var 2) d_non) (d_tup (a_cons (d_glob (v := .str c_INPUT) (d := .str c_INPUT) (Classical.choose_spec h.c_INPUT) ⟨_, rfl⟩ (fun _ _ => .str _)) (a_cons (d_var 2) a_nil))) (d_tup (a_cons (d_glob (v := .str c_ALIKE) (d := .str c_ALIKE) (Classical.choose_spec h.c_ALIKE) ⟨_, rfl⟩ (fun _ _ => .str _)) a_nil)))))))) rfl
theorem D_is_alike_paper (h : Facts P w K mg base) : Def P w K mg base "is_alike_paper" 7 3 m_is_alike_paper := by
  obtain ⟨f, fd, gf, F⟩ := h.f_is_alike_paper
  exact def_mk (N := ["net", "other", "value", "one", "far", "wire"]) (ps := ["net", "other", "value"]) gf F ⟨rfl, rfl, rfl, by decide +kernel, rfl, by decide +kernel, by decide +kernel⟩ rfl (fun _ _ _ _ _ _ us hl => match us, hl with | [_, _, _], _ => rfl) (fun cdv A outer s H E o =>
    (b_cons (s_expr (d_callX (D_require_like h) o (a_cons (d_var 0) (a_cons (d_var 1) a_nil))))
    (b_cons (s_if (t_bool (w_or (t_not (d_test (d_bi c_isi h.z_isinstance PyProof.Rows.boot_isinstance (a_cons (d_var 2) (a_cons (d_bltn (v := .ty "tuple") (d := .ty "tuple") h.z_tuple PyProof.Rows.boot_tuple rfl (fun _ _ => .ty "tuple")) a_nil))))) (w_or (t_cmp (o_notIn o) (d_bi c_len h.z_len PySem.boot_len (a_cons (d_var 2) a_nil)) (d_tup (a_cons d_int (a_cons d_int a_nil)))) (w_or1 (t_not (d_test (d_bi c_isi h.z_isinstance PyProof.Rows.boot_isinstance (a_cons (d_ix o (d_var 2) d_int) (a_cons (d_bltn (v := .ty "str") (d := .ty "str") h.z_str PyProof.Rows.boot_str rfl (fun _ _ => .ty "str")) a_nil))))))))) (b_one (s_ret d_bl)) b_nil)
    (b_cons (s_if (t_cmp (o_eq o) (d_bi c_len h.z_len PySem.boot_len (a_cons (d_var 2) a_nil)) d_int) (b_one (s_ret (d_and (d_cmp (o_eq o) (d_ix o (d_var 2) d_int) (d_glob (v := .str c_ALIKE) (d := .str c_ALIKE) (Classical.choose_spec h.c_ALIKE) ⟨_, rfl⟩ (fun _ _ => .str _))) (d_one (d_cmp o_is (d_callX (D_unlike_in h) o (a_cons (d_var 0) (a_cons (d_var 1) a_nil))) d_non))))) b_nil)
    (b_cons (s_if (t_bool (w_or (t_cmp (o_ne o) (d_ix o (d_var 2) d_int) (d_glob (v := .str c_INPUT) (d := .str c_INPUT) (Classical.choose_spec h.c_INPUT) ⟨_, rfl⟩ (fun _ _ => .str _))) (w_or1 (t_not (d_test (d_callX (D_are_bits h) o (a_cons (d_ix o (d_var 2) d_int) (a_cons (d_ix o (d_var 0) d_int) a_nil)))))))) (b_one (s_ret d_bl)) b_nil)
    (b_cons (s_tgt (vs := [3, 4]) (d_tup (a_cons (d_callX (D_run_in h) o (a_cons (d_var 0) (a_cons (d_ix o (d_var 2) d_int) a_nil))) (a_cons (d_callX (D_run_in h) o (a_cons (d_var 1) (a_cons (d_ix o (d_var 2) d_int) a_nil))) a_nil))) (g_tup (n := 2) o (gs_cons (g_name (i := 3) o) (gs_cons (g_name (i := 4) o) gs_nil))))
    (b_one (s_ret (d_cmp (o_ne o) (d_tree (l_comp (own := [("wire", 5)]) o (i_any (d_ix o (d_var 0) d_int)) (by kernel_rfl) (fun s H C cl fp o => (g_name (i := 5) o)) (fun s H C cl fp o => ts_nil) (fun s H C cl fp o => (d_ix o (d_var 3) (d_var 5))))) (d_tree (l_comp (own := [("wire", 5)]) o (i_any (d_ix o (d_var 1) d_int)) (by kernel_rfl) (fun s H C cl fp o => (g_name (i := 5) o)) (fun s H C cl fp o => ts_nil) (fun s H C cl fp o => (d_ix o (d_var 4) (d_var 5)))))))))))))) rfl
theorem D_are_alike (h : Facts P w K mg base) : Def P w K mg base "are_alike" 7 2 m_are_alike := by
  obtain ⟨f, fd, gf, F⟩ := h.f_are_alike
  exact def_mk (N := ["net", "other"]) (ps := ["net", "other"]) gf F ⟨rfl, rfl, rfl, by decide +kernel, rfl, by decide +kernel, by decide +kernel⟩ rfl (fun _ _ _ _ _ _ us hl => match us, hl with | [_, _], _ => rfl) (fun cdv A outer s H E o =>
    (b_cons (s_expr (d_callX (D_require_like h) o (a_cons (d_var 0) (a_cons (d_var 1) a_nil))))
    (b_one (s_ret (d_cmp o_is (d_callX (D_unlike_in h) o (a_cons (d_var 0) (a_cons (d_var 1) a_nil))) d_non))))) rfl
theorem D__law_twos (h : Facts P w K mg base) : Def P w K mg base "_law_twos" 10 2 m__law_twos := by
  obtain ⟨f, fd, c, PP, gf, F, hc, TB, hm, hu⟩ := h.f__law_twos
  exact def_mkC (N := ["net", "other", "found"]) (ps := ["net", "other"]) gf F hc ⟨rfl, rfl, rfl, by decide +kernel, rfl, by decide +kernel, by decide +kernel⟩ rfl (fun _ _ _ _ _ _ us hl => match us, hl with | [_, _], _ => rfl) (fun A outer s H E o =>
    (b_cons (s_set (i := 2) o.nd (d_cell (l_lst (a_cons (d_lam (D__law_met h) o TB rfl hm hu (lamS_by (by show lamSB (defScope (top 71)) _ = true; decide +kernel)) (fun A outer s H E _ _ o => (d_callX (D_beside h) o (a_cons (d_var 0) (a_cons (d_var 1) a_nil))))) a_nil))))
    (b_cons (s_expr (d_meth (c := isL) (fun r rv hp => isL_post r rv hp) PySem.F.plainAttrs_list PySem.F.slot_list_append PySem.F.type_list_append m_append (d_var 2) (a_cons (d_lam (D__law_met h) o TB rfl hm hu (lamS_by (by show lamSB (defScope (top 71)) _ = true; decide +kernel)) (fun A outer s H E _ _ o => (d_callX (D_behind h) o (a_cons (d_var 0) (a_cons (d_var 1) a_nil))))) a_nil)))
    (b_cons (s_expr (d_meth (c := isL) (fun r rv hp => isL_post r rv hp) PySem.F.plainAttrs_list PySem.F.slot_list_append PySem.F.type_list_append m_append (d_var 2) (a_cons (d_lam (D__law_met h) o TB rfl hm hu (lamS_by (by show lamSB (defScope (top 71)) _ = true; decide +kernel)) (fun A outer s H E _ _ o => (d_callX (D_joint h) o (a_cons (d_var 0) (a_cons (d_var 1) a_nil))))) a_nil)))
    (b_cons (s_expr (d_meth (c := isL) (fun r rv hp => isL_post r rv hp) PySem.F.plainAttrs_list PySem.F.slot_list_append PySem.F.type_list_append m_append (d_var 2) (a_cons (d_lam (D__law_met h) o TB rfl hm hu (lamS_by (by show lamSB (defScope (top 71)) _ = true; decide +kernel)) (fun A outer s H E _ _ o => (d_callX (D_alike_paper h) o (a_cons (d_var 0) (a_cons (d_var 1) a_nil))))) a_nil)))
    (b_cons (s_expr (d_meth (c := isL) (fun r rv hp => isL_post r rv hp) PySem.F.plainAttrs_list PySem.F.slot_list_append PySem.F.type_list_append m_append (d_var 2) (a_cons (d_lam (D__law_met h) o TB rfl hm hu (lamS_by (by show lamSB (defScope (top 71)) _ = true; decide +kernel)) (fun A outer s H E _ _ o => (d_callX (D_is_alike_paper h) o (a_cons (d_var 0) (a_cons (d_var 1) (a_cons d_non a_nil)))))) a_nil)))
    (b_cons (s_expr (d_meth (c := isL) (fun r rv hp => isL_post r rv hp) PySem.F.plainAttrs_list PySem.F.slot_list_append PySem.F.type_list_append m_append (d_var 2) (a_cons (d_lam (D__law_met h) o TB rfl hm hu (lamS_by (by show lamSB (defScope (top 71)) _ = true; decide +kernel)) (fun A outer s H E _ _ o => (d_callX (D_are_alike h) o (a_cons (d_var 0) (a_cons (d_var 1) a_nil))))) a_nil)))
    (b_one (s_ret (d_frz (d_var 2))))))))))) rfl
theorem D_with_ends (h : Facts P w K mg base) : Def P w K mg base "with_ends" 6 2 m_with_ends := by
  obtain ⟨f, fd, gf, F⟩ := h.f_with_ends
  exact def_mk (N := ["net", "ends"]) (ps := ["net", "ends"]) gf F ⟨rfl, rfl, rfl, by decide +kernel, rfl, by decide +kernel, by decide +kernel⟩ rfl (fun _ _ _ _ _ _ us hl => match us, hl with | [_, _], _ => rfl) (fun cdv A outer s H E o =>
    (b_cons (s_expr (d_callV (D_require_net h) o (a_cons (d_var 0) a_nil)))
    (b_cons (s_if (t_bool (w_or (t_not (d_test (d_callX (D_are_wires h) o (a_cons (d_var 1) (a_cons (d_callX (D_wires_in h) o (a_cons (d_var 0) a_nil)) a_nil))))) (w_or1 (t_not (t_chain o_le o_le d_int (d_bi c_len h.z_len PySem.boot_len (a_cons (d_var 1) a_nil)) (d_glob (v := .int c_MOST_ENDS) (d := .int c_MOST_ENDS) (Classical.choose_spec h.c_MOST_ENDS) ⟨_, rfl⟩ (fun _ _ => .int _))))))) (b_one (s_raise0 o (h.x_InvalidReport).choose_spec)) b_nil)
    (b_one (s_ret (d_tup (a_cons (d_ix o (d_var 0) d_int) (a_cons (d_ix o (d_var 0) d_int) (a_cons (d_var 1) a_nil))))))))) rfl
theorem D__law_right (h : Facts P w K mg base) : Def P w K mg base "_law_right" 11 1 m__law_right := by
  obtain ⟨f, fd, c, PP, gf, F, hc, TB, hm, hu⟩ := h.f__law_right
  exact def_mkC (N := ["bag", "bad", "half", "one", "wire", "row", "number", "ends", "told"]) (ps := ["bag"]) gf F hc ⟨rfl, rfl, rfl, by decide +kernel, rfl, by decide +kernel, by decide +kernel⟩ rfl (fun _ _ _ _ _ _ us hl => match us, hl with | [_], _ => rfl) (fun A outer s H E o =>
    (b_cons (s_tgt (vs := [1, 2, 3]) (d_tup (a_cons (d_callX (D__law_bad h) o (a_cons (d_var 0) a_nil)) (a_cons (d_tup (a_cons d_int (a_cons (d_tup (a_cons (d_tup (a_cons d_str (a_cons (d_tup (a_cons d_int (a_cons d_int a_nil))) a_nil))) (a_cons (d_tup (a_cons d_str (a_cons (d_tup (a_cons d_int (a_cons d_int a_nil))) a_nil))) a_nil))) (a_cons (d_tup (a_cons d_int (a_cons d_int a_nil))) a_nil)))) (a_cons (d_tup (a_cons d_int (a_cons (d_tup (a_cons (d_tup (a_cons d_str (a_cons (d_tup (a_cons d_int a_nil)) a_nil))) a_nil)) (a_cons (d_tup (a_cons d_int a_nil)) a_nil)))) a_nil)))) (g_tup (n := 3) o (gs_cons (g_name (i := 1) o) (gs_cons (g_name (i := 2) o) (gs_cons (g_name (i := 3) o) gs_nil)))))
    (b_cons (s_set (i := 4) o.nd (d_callX (D__law_one_of h) o (a_cons (d_var 0) (a_cons (d_tree (l_lst (a_cons d_int (a_cons (d_un u_neg d_int) (a_cons d_non (a_cons d_bl (a_cons d_str (a_cons (d_tup (a_cons d_int a_nil)) (a_cons (d_op o_powW d_int d_int) a_nil))))))))) a_nil))))
    (b_cons (s_set (i := 5) o.nd (d_callX (D__law_one_of h) o (a_cons (d_var 0) (a_cons (d_tree (l_lst (a_cons d_non (a_cons (d_tup a_nil) (a_cons (d_tup (a_cons d_int a_nil)) (a_cons (d_tree (l_lst (a_cons d_int (a_cons d_int a_nil)))) (a_cons (d_tup (a_cons d_int (a_cons d_int a_nil))) (a_cons (d_tup (a_cons d_int (a_cons (d_un u_neg d_int) a_nil))) (a_cons (d_tup (a_cons d_int (a_cons d_bl a_nil))) (a_cons (d_tup (a_cons d_int (a_cons d_str a_nil))) (a_cons (d_tup (a_cons d_int (a_cons d_int (a_cons d_int a_nil)))) (a_cons d_int a_nil)))))))))))) a_nil))))
    (b_cons (s_set (i := 6) o.nd (d_tup (a_cons d_str (a_cons (d_bi (c_repr o) h.z_repr PyProof.Rows.boot_repr (a_cons (d_var 4) a_nil)) a_nil))))
    (b_cons (s_if (t_bool (w_or (t_cmp (o_ne o) (d_callX (D__law_wires h) o (a_cons (d_var 1) (a_cons (d_var 4) a_nil))) (d_op o_mul (d_tree (l_lst (a_cons (d_tup (a_cons d_str a_nil)) a_nil))) d_int)) (w_or (t_cmp (o_ne o) (d_callX (D__law_wires h) o (a_cons (d_var 2) (a_cons (d_var 4) a_nil))) (d_op o_mul (d_tree (l_lst (a_cons (d_var 6) a_nil))) d_int)) (w_or1 (t_cmp (o_ne o) (d_callX (D__law_wires h) o (a_cons (d_var 2) (a_cons d_int a_nil))) (d_op o_add (d_op o_mul (d_tree (l_lst (a_cons (d_tup (a_cons d_str a_nil)) a_nil))) d_int) (d_tree (l_lst (a_cons (d_tup (a_cons d_str a_nil)) a_nil))))))))) (b_one (s_ret d_bl)) b_nil)
    (b_cons (s_if (t_bool (w_or (t_cmp (o_ne o) (d_callX (D__law_ones h) o (a_cons (d_var 1) (a_cons (d_var 5) a_nil))) (d_op o_mul (d_tree (l_lst (a_cons (d_tup (a_cons d_str a_nil)) a_nil))) d_int)) (w_or1 (t_cmp (o_ne o) (d_callX (D__law_ones h) o (a_cons (d_var 2) (a_cons (d_var 5) a_nil))) (d_op o_add (d_op o_mul (d_tree (l_lst (a_cons (d_tup (a_cons d_str a_nil)) a_nil))) d_int) (d_op o_mul (d_tree (l_lst (a_cons (d_tup (a_cons d_str a_nil)) a_nil))) d_int)))))) (b_one (s_ret d_bl)) b_nil)
    (b_cons (s_if (t_cmp (o_ne o) (d_op o_add (d_callX (D__law_wires h) o (a_cons (d_var 2) (a_cons d_int a_nil))) (d_callX (D__law_ones h) o (a_cons (d_var 2) (a_cons (d_tup (a_cons d_int (a_cons d_int a_nil))) a_nil)))) (d_op o_mul (d_tree (l_lst (a_cons (d_tup (a_cons d_str a_nil)) a_nil))) d_int)) (b_one (s_ret d_bl)) b_nil)
    (b_cons (s_if (t_bool (w_or (t_cmp (o_ne o) (d_op o_add (d_op o_add (d_callX (D__law_twos h) o (a_cons (d_var 1) (a_cons (d_var 1) a_nil))) (d_callX (D__law_twos h) o (a_cons (d_var 2) (a_cons (d_var 1) a_nil)))) (d_callX (D__law_twos h) o (a_cons (d_var 1) (a_cons (d_var 2) a_nil)))) (d_op o_mul (d_tree (l_lst (a_cons (d_tup (a_cons d_str a_nil)) a_nil))) d_int)) (w_or1 (t_cmp (o_ne o) (d_callX (D__law_twos h) o (a_cons (d_var 2) (a_cons (d_var 2) a_nil))) (d_op o_mul (d_tree (l_lst (a_cons (d_tup (a_cons d_str a_nil)) a_nil))) d_int))))) (b_one (s_ret d_bl)) b_nil)
    (b_cons (s_if (t_bool (w_or (t_cmp (o_ne o) (d_callX (D__law_twos h) o (a_cons (d_var 2) (a_cons (d_var 3) a_nil))) (d_op o_add (d_tree (l_lst (a_cons (d_tup (a_cons d_str a_nil)) a_nil))) (d_op o_mul (d_tree (l_lst (a_cons (d_tup (a_cons d_str a_nil)) a_nil))) d_int))) (w_or1 (t_cmp (o_ne o) (d_callX (D__law_twos h) o (a_cons (d_var 2) (a_cons (d_tup (a_cons d_int (a_cons (d_tup a_nil) (a_cons (d_tup (a_cons d_int a_nil)) a_nil)))) a_nil))) (d_op o_add (d_op o_mul (d_tree (l_lst (a_cons (d_tup (a_cons d_str a_nil)) a_nil))) d_int) (d_op o_mul (d_tree (l_lst (a_cons (d_tup (a_cons d_str a_nil)) a_nil))) d_int)))))) (b_one (s_ret d_bl)) b_nil)
    (b_cons (s_set (i := 7) o.nd (d_callX (D__law_one_of h) o (a_cons (d_var 0) (a_cons (d_tree (l_lst (a_cons d_non (a_cons (d_tup a_nil) (a_cons (d_tup (a_cons d_int a_nil)) (a_cons (d_tup (a_cons (d_un u_neg d_int) a_nil)) (a_cons (d_tree (l_lst (a_cons d_int a_nil))) (a_cons (d_tup (a_cons d_bl a_nil)) (a_cons (d_op o_mul (d_tup (a_cons d_int a_nil)) d_int) (a_cons d_int (a_cons (d_tup (a_cons d_str a_nil)) (a_cons (d_tup (a_cons d_non a_nil)) a_nil)))))))))))) a_nil))))
    (b_cons (s_set (i := 8) o.nd (d_cell (l_lst (a_cons (d_lam (D__law_met h) o TB rfl hm hu (lamS_by (by show lamSB (defScope (top 72)) _ = true; decide +kernel)) (fun A outer s H E _ _ o => (d_callX (D_with_ends h) o (a_cons (d_var 1) (a_cons (d_var 7) a_nil))))) a_nil))))
    (b_cons (s_expr (d_meth (c := isL) (fun r rv hp => isL_post r rv hp) PySem.F.plainAttrs_list PySem.F.slot_list_append PySem.F.type_list_append m_append (d_var 8) (a_cons (d_lam (D__law_met h) o TB rfl hm hu (lamS_by (by show lamSB (defScope (top 72)) _ = true; decide +kernel)) (fun A outer s H E _ _ o => (d_callX (D_with_ends h) o (a_cons (d_var 2) (a_cons (d_var 7) a_nil))))) a_nil)))
    (b_cons (s_expr (d_meth (c := isL) (fun r rv hp => isL_post r rv hp) PySem.F.plainAttrs_list PySem.F.slot_list_append PySem.F.type_list_append m_append (d_var 8) (a_cons (d_lam (D__law_met h) o TB rfl hm hu (lamS_by (by show lamSB (defScope (top 72)) _ = true; decide +kernel)) (fun A outer s H E _ _ o => (d_callX (D_with_ends h) o (a_cons (d_var 2) (a_cons (d_op o_mul (d_tup (a_cons d_int a_nil)) d_int) a_nil))))) a_nil)))
    (b_one (s_ret (d_cmp (o_eq o) (d_var 8) (d_tree (l_lst (a_cons (d_tup (a_cons d_str a_nil)) (a_cons (d_tup (a_cons d_str a_nil)) (a_cons (d_tup (a_cons d_str a_nil)) a_nil)))))))))))))))))))))) rfl
theorem G_law {f c PP : Addr} {fd : FuncData} (h : Facts P w K mg base) (F : Fun K "law" "law" (top 73) f fd) (hc : fd.code = .ref c) (TB : TabB base mg c PP) (hm : (PP, (("law" : Str) ++ ".<locals>." ++ "<lambda>")) ∈ Tb.T) (hu : ∀ p ∈ Tb.T, p.1 = PP → p.2 = (("law" : Str) ++ ".<locals>." ++ "<lambda>")) : FnG P w K mg base 12 f fd ["script"] m_law :=
  fnGc (N := ["script", "spot", "bag", "turn", "wide", "long", "spread", "told"]) (ps := ["script"]) F ⟨rfl, rfl, rfl, by decide +kernel, rfl, by decide +kernel, by decide +kernel⟩ (fun cdv e A outer s H E o => by
    obtain rfl : cdv = .ref c := e.symm.trans hc
    exact (b_cons (s_for (vs := [1]) o (i_range1 (a_cons (d_bi (c_max2 o) h.z_max PyProof.Rows.boot_max (a_cons d_int (a_cons (d_bi (c_min2 o) h.z_min PyProof.Rows.boot_min (a_cons d_int (a_cons (d_bi c_len h.z_len PySem.boot_len (a_cons (d_var 0) a_nil)) a_nil))) a_nil))) a_nil) h.z_range) (g_name (i := 1) o) (b_cons (s_set (i := 2) o.nd (d_callX (D__law_bag h) o (a_cons (d_var 0) (a_cons (d_var 1) a_nil))))
    (b_one (s_if (t_cmp (o_ne o) (d_tree (l_comp (own := [("turn", 3)]) o (i_range1 (a_cons d_int a_nil) h.z_range) (by kernel_rfl) (fun s H C cl fp o => (g_name (i := 3) o)) (fun s H C cl fp o => (ts_one (t_not (d_test (d_callX (D__law_right h) o (a_cons (d_var 2) a_nil)))))) (fun s H C cl fp o => d_int))) (d_tree (l_lst a_nil))) (b_one (s_ret d_bl)) b_nil))))
    (b_cons (s_tgt (vs := [4, 5, 6]) (d_tup (a_cons (d_tup (a_cons d_int (a_cons (d_tup a_nil) (a_cons (d_tup (a_cons d_int a_nil)) a_nil)))) (a_cons (d_tup (a_cons d_int (a_cons (d_op o_mul (d_tup (a_cons (d_tup (a_cons d_str (a_cons (d_tup (a_cons d_int a_nil)) a_nil))) a_nil)) d_int) (a_cons (d_tup (a_cons d_int a_nil)) a_nil)))) (a_cons (d_tup (a_cons d_int (a_cons (d_tup a_nil) (a_cons (d_op o_mul (d_tup (a_cons d_int a_nil)) d_int) a_nil)))) a_nil)))) (g_tup (n := 3) o (gs_cons (g_name (i := 4) o) (gs_cons (g_name (i := 5) o) (gs_cons (g_name (i := 6) o) gs_nil)))))
    (b_cons (s_set (i := 7) o.nd (d_cell (l_lst (a_cons (d_lam (D__law_met h) o TB rfl hm hu (lamS_by (by show lamSB (defScope (top 73)) _ = true; decide +kernel)) (fun A outer s H E _ _ o => (d_callX (D_beside h) o (a_cons (d_var 4) (a_cons (d_tup (a_cons d_int (a_cons (d_tup a_nil) (a_cons (d_tup (a_cons d_int a_nil)) a_nil)))) a_nil))))) a_nil))))
    (b_cons (s_expr (d_meth (c := isL) (fun r rv hp => isL_post r rv hp) PySem.F.plainAttrs_list PySem.F.slot_list_append PySem.F.type_list_append m_append (d_var 7) (a_cons (d_lam (D__law_met h) o TB rfl hm hu (lamS_by (by show lamSB (defScope (top 73)) _ = true; decide +kernel)) (fun A outer s H E _ _ o => (d_callX (D_beside h) o (a_cons (d_var 4) (a_cons (d_tup (a_cons d_int (a_cons (d_tup a_nil) (a_cons (d_tup (a_cons d_int a_nil)) a_nil)))) a_nil))))) a_nil)))
    (b_cons (s_expr (d_meth (c := isL) (fun r rv hp => isL_post r rv hp) PySem.F.plainAttrs_list PySem.F.slot_list_append PySem.F.type_list_append m_append (d_var 7) (a_cons (d_lam (D__law_met h) o TB rfl hm hu (lamS_by (by show lamSB (defScope (top 73)) _ = true; decide +kernel)) (fun A outer s H E _ _ o => (d_callX (D_joint h) o (a_cons (d_var 5) (a_cons (d_var 5) a_nil))))) a_nil)))
    (b_cons (s_expr (d_meth (c := isL) (fun r rv hp => isL_post r rv hp) PySem.F.plainAttrs_list PySem.F.slot_list_append PySem.F.type_list_append m_append (d_var 7) (a_cons (d_lam (D__law_met h) o TB rfl hm hu (lamS_by (by show lamSB (defScope (top 73)) _ = true; decide +kernel)) (fun A outer s H E _ _ o => (d_callX (D_behind h) o (a_cons (d_var 5) (a_cons (d_var 5) a_nil))))) a_nil)))
    (b_cons (s_expr (d_meth (c := isL) (fun r rv hp => isL_post r rv hp) PySem.F.plainAttrs_list PySem.F.slot_list_append PySem.F.type_list_append m_append (d_var 7) (a_cons (d_lam (D__law_met h) o TB rfl hm hu (lamS_by (by show lamSB (defScope (top 73)) _ = true; decide +kernel)) (fun A outer s H E _ _ o => (d_callX (D_joint h) o (a_cons (d_var 6) (a_cons (d_var 6) a_nil))))) a_nil)))
    (b_cons (s_expr (d_meth (c := isL) (fun r rv hp => isL_post r rv hp) PySem.F.plainAttrs_list PySem.F.slot_list_append PySem.F.type_list_append m_append (d_var 7) (a_cons (d_lam (D__law_met h) o TB rfl hm hu (lamS_by (by show lamSB (defScope (top 73)) _ = true; decide +kernel)) (fun A outer s H E _ _ o => (d_callX (D_beside h) o (a_cons (d_tup (a_cons d_int (a_cons (d_op o_mul (d_tup (a_cons (d_tup (a_cons d_str (a_cons (d_tup a_nil) a_nil))) a_nil)) d_int) (a_cons (d_op o_mul (d_tup (a_cons d_int a_nil)) d_int) a_nil)))) (a_cons (d_tup (a_cons d_int (a_cons (d_op o_mul (d_tup (a_cons (d_tup (a_cons d_str (a_cons (d_tup a_nil) a_nil))) a_nil)) d_int) (a_cons (d_op o_mul (d_tup (a_cons d_int a_nil)) d_int) a_nil)))) a_nil))))) a_nil)))
    (b_cons (s_expr (d_meth (c := isL) (fun r rv hp => isL_post r rv hp) PySem.F.plainAttrs_list PySem.F.slot_list_append PySem.F.type_list_append m_append (d_var 7) (a_cons (d_lam (D__law_met h) o TB rfl hm hu (lamS_by (by show lamSB (defScope (top 73)) _ = true; decide +kernel)) (fun A outer s H E _ _ o => (d_callX (D_joint h) o (a_cons (d_tup (a_cons d_int (a_cons (d_op o_mul (d_tup (a_cons (d_tup (a_cons d_str (a_cons (d_tup a_nil) a_nil))) a_nil)) d_int) (a_cons (d_op o_mul (d_tup (a_cons d_int a_nil)) d_int) a_nil)))) (a_cons (d_tup (a_cons d_int (a_cons (d_op o_mul (d_tup (a_cons (d_tup (a_cons d_str (a_cons (d_tup a_nil) a_nil))) a_nil)) d_int) (a_cons (d_op o_mul (d_tup (a_cons d_int a_nil)) d_int) a_nil)))) a_nil))))) a_nil)))
    (b_cons (s_if (t_cmp (o_ne o) (d_var 7) (d_tree (l_lst (a_cons (d_tup (a_cons d_str (a_cons d_int a_nil))) (a_cons (d_tup (a_cons d_str a_nil)) (a_cons (d_tup (a_cons d_str (a_cons d_int a_nil))) (a_cons (d_tup (a_cons d_str (a_cons d_int a_nil))) (a_cons (d_tup (a_cons d_str (a_cons d_int a_nil))) (a_cons (d_tup (a_cons d_str (a_cons d_int a_nil))) (a_cons (d_tup (a_cons d_str (a_cons d_int a_nil))) a_nil)))))))))) (b_one (s_ret d_bl)) b_nil)
    (b_one (s_ret (d_cmp (o_eq o) (d_tree (l_lst (a_cons (d_glob (v := .int c_MOST_INPUTS) (d := .int c_MOST_INPUTS) (Classical.choose_spec h.c_MOST_INPUTS) ⟨_, rfl⟩ (fun _ _ => .int _)) (a_cons (d_glob (v := .int c_MOST_GATES) (d := .int c_MOST_GATES) (Classical.choose_spec h.c_MOST_GATES) ⟨_, rfl⟩ (fun _ _ => .int _)) (a_cons (d_glob (v := .int c_MOST_ENDS) (d := .int c_MOST_ENDS) (Classical.choose_spec h.c_MOST_ENDS) ⟨_, rfl⟩ (fun _ _ => .int _)) (a_cons (d_glob (v := .ref (Classical.choose h.c_KINDS)) (d := K_KINDS) (Classical.choose_spec h.c_KINDS).1 rfl (Classical.choose_spec h.c_KINDS).2) a_nil)))))) (d_tree (l_lst (a_cons d_int (a_cons d_int (a_cons d_int (a_cons (d_tup (a_cons d_str (a_cons d_str (a_cons d_str (a_cons d_str (a_cons d_str (a_cons d_str (a_cons d_str (a_cons d_str (a_cons d_str a_nil)))))))))) a_nil))))))))))))))))))))
end
theorem all_mk {l : PySem.W.OpenLaw} {w : World} {K : PySem.W.Frag} {h : Heap} {mg : Str → Option Value} {fa : Addr} {ts : List Addr} (X : K.In h) (G : h.Ns mainGlobals mg) (hts : ∀ P ∈ ts, h.get? P = some (PySem.W.tabObj #[])) (hfa : mg "law" = some (.ref fa))
    {f0 f1 f2 f3 f4 f5 f6 f7 f8 f9 f10 f11 f12 f13 f14 f15 f16 f17 f18 f19 f20 f21 f22 f23 f24 f25 f26 f27 f28 f29 f30 f31 f32 f33 f34 f35 f36 f37 f38 f39 f40 f41 f42 f43 f44 f45 f46 f47 f48 f49 f50 f51 f52 f53 : Addr} {od0 an0 od1 an1 od2 an2 od3 an3 od4 an4 od5 an5 od6 an6 od7 an7 od8 an8 od9 an9 od10 an10 od11 an11 od12 an12 od13 an13 od14 an14 od15 an15 od16 an16 od17 an17 od18 an18 od19 an19 od20 an20 od21 an21 od22 an22 od23 an23 od24 an24 od25 an25 od26 an26 od27 an27 od28 an28 od29 an29 od30 an30 od31 an31 od32 an32 od33 an33 od34 an34 od35 an35 od36 an36 od37 an37 od38 an38 od39 an39 od40 an40 od41 an41 od42 an42 od43 an43 od44 an44 od45 an45 od46 an46 od47 an47 od48 an48 od49 an49 od50 an50 od51 an51 od52 an52 od53 an53 : Option Addr} {sl0 sl1 sl2 sl3 sl4 sl5 sl6 sl7 sl8 sl9 sl10 sl11 sl12 sl13 sl14 sl15 sl16 sl17 sl18 sl19 sl20 sl21 sl22 sl23 sl24 sl25 sl26 sl27 sl28 sl29 sl30 sl31 sl32 sl33 sl34 sl35 sl36 sl37 sl38 sl39 sl40 sl41 sl42 sl43 sl44 sl45 sl46 sl47 sl48 sl49 sl50 sl51 sl52 sl53 : Array (Option Value)} {oc0 kV0 dc0 pm0 cd0 ct0 oc1 kV1 dc1 pm1 cd1 ct1 oc2 kV2 dc2 pm2 cd2 ct2 oc3 kV3 dc3 pm3 cd3 ct3 oc4 kV4 dc4 pm4 cd4 ct4 oc5 kV5 dc5 pm5 cd5 ct5 oc6 kV6 dc6 pm6 cd6 ct6 oc7 kV7 dc7 pm7 cd7 ct7 oc8 kV8 dc8 pm8 cd8 ct8 oc9 kV9 dc9 pm9 cd9 ct9 oc10 kV10 dc10 pm10 cd10 ct10 oc11 kV11 dc11 pm11 cd11 ct11 oc12 kV12 dc12 pm12 cd12 ct12 oc13 kV13 dc13 pm13 cd13 ct13 oc14 kV14 dc14 pm14 cd14 ct14 oc15 kV15 dc15 pm15 cd15 ct15 oc16 kV16 dc16 pm16 cd16 ct16 oc17 kV17 dc17 pm17 cd17 ct17 oc18 kV18 dc18 pm18 cd18 ct18 oc19 kV19 dc19 pm19 cd19 ct19 oc20 kV20 dc20 pm20 cd20 ct20 oc21 kV21 dc21 pm21 cd21 ct21 oc22 kV22 dc22 pm22 cd22 ct22 oc23 kV23 dc23 pm23 cd23 ct23 oc24 kV24 dc24 pm24 cd24 ct24 oc25 kV25 dc25 pm25 cd25 ct25 oc26 kV26 dc26 pm26 cd26 ct26 oc27 kV27 dc27 pm27 cd27 ct27 oc28 kV28 dc28 pm28 cd28 ct28 oc29 kV29 dc29 pm29 cd29 ct29 oc30 kV30 dc30 pm30 cd30 ct30 oc31 kV31 dc31 pm31 cd31 ct31 oc32 kV32 dc32 pm32 cd32 ct32 oc33 kV33 dc33 pm33 ct33 oc34 kV34 dc34 pm34 cd34 ct34 oc35 kV35 dc35 pm35 cd35 ct35 oc36 kV36 dc36 pm36 cd36 ct36 oc37 kV37 dc37 pm37 cd37 ct37 oc38 kV38 dc38 pm38 cd38 ct38 oc39 kV39 dc39 pm39 cd39 ct39 oc40 kV40 dc40 pm40 cd40 ct40 oc41 kV41 dc41 pm41 cd41 ct41 oc42 kV42 dc42 pm42 cd42 ct42 oc43 kV43 dc43 pm43 ct43 oc44 kV44 dc44 pm44 cd44 ct44 oc45 kV45 dc45 pm45 cd45 ct45 oc46 kV46 dc46 pm46 cd46 ct46 oc47 kV47 dc47 pm47 cd47 ct47 oc48 kV48 dc48 pm48 cd48 ct48 oc49 kV49 dc49 pm49 cd49 ct49 oc50 kV50 dc50 pm50 ct50 oc51 kV51 dc51 pm51 cd51 ct51 oc52 kV52 dc52 pm52 ct52 oc53 kV53 dc53 pm53 ct53 : Value}
    {t_ALIKE t_INPUT t_MOST_ENDS t_MOST_GATES t_MOST_INPUTS t_MOST_TABLED t_TABLE : Tok}
    {q_KINDS_0 : Addr} {n_KINDS_0 : Nat} {s_KINDS_0 : Array (Option Value)} {t_KINDS_0_0 t_KINDS_0_1 t_KINDS_0_2 t_KINDS_0_3 t_KINDS_0_4 t_KINDS_0_5 t_KINDS_0_6 t_KINDS_0_7 t_KINDS_0_8 : Tok}
    {t_SIZES_0 u_SIZES_0 t_SIZES_1 u_SIZES_1 t_SIZES_2 u_SIZES_2 t_SIZES_3 u_SIZES_3 t_SIZES_4 u_SIZES_4 t_SIZES_5 u_SIZES_5 t_SIZES_6 u_SIZES_6 t_SIZES_7 u_SIZES_7 : Tok} {q_SIZES : Addr} {n_SIZES : Nat}
    (a0 : PySem.W.nsIn K mainGlobals "_law_bag" = some (some (.ref f0))) (l0 : K.lookup f0 = some ⟨oc0, od0, .func (PySem.W.fnOf "_law_bag" "_law_bag" (defArgs (top 64)) (defBody (top 64)) (defScope (top 64)) .none kV0 dc0 pm0 an0 cd0 ct0), sl0⟩)
    (k0 : PySem.W.codeIn K cd0 "_law_bag" = true) (e0 : PySem.W.keepIn K (.ref f0) = true)
    (a1 : PySem.W.nsIn K mainGlobals "_law_met" = some (some (.ref f1))) (l1 : K.lookup f1 = some ⟨oc1, od1, .func (PySem.W.fnOf "_law_met" "_law_met" (defArgs (top 67)) (defBody (top 67)) (defScope (top 67)) .none kV1 dc1 pm1 an1 cd1 ct1), sl1⟩)
    (k1 : PySem.W.codeIn K cd1 "_law_met" = true) (e1 : PySem.W.keepIn K (.ref f1) = true)
    (a2 : PySem.W.nsIn K mainGlobals "is_within" = some (some (.ref f2))) (l2 : K.lookup f2 = some ⟨oc2, od2, .func (PySem.W.fnOf "is_within" "is_within" (defArgs (top 9)) (defBody (top 9)) (defScope (top 9)) .none kV2 dc2 pm2 an2 cd2 ct2), sl2⟩)
    (k2 : PySem.W.codeIn K cd2 "is_within" = true) (e2 : PySem.W.keepIn K (.ref f2) = true)
    (a3 : PySem.W.nsIn K mainGlobals "are_wires" = some (some (.ref f3))) (l3 : K.lookup f3 = some ⟨oc3, od3, .func (PySem.W.fnOf "are_wires" "are_wires" (defArgs (top 20)) (defBody (top 20)) (defScope (top 20)) .none kV3 dc3 pm3 an3 cd3 ct3), sl3⟩)
    (k3 : PySem.W.codeIn K cd3 "are_wires" = true) (e3 : PySem.W.keepIn K (.ref f3) = true)
    (a4 : PySem.W.nsIn K mainGlobals "are_bits" = some (some (.ref f4))) (l4 : K.lookup f4 = some ⟨oc4, od4, .func (PySem.W.fnOf "are_bits" "are_bits" (defArgs (top 21)) (defBody (top 21)) (defScope (top 21)) .none kV4 dc4 pm4 an4 cd4 ct4), sl4⟩)
    (k4 : PySem.W.codeIn K cd4 "are_bits" = true) (e4 : PySem.W.keepIn K (.ref f4) = true)
    (a5 : PySem.W.nsIn K mainGlobals "is_gate" = some (some (.ref f5))) (l5 : K.lookup f5 = some ⟨oc5, od5, .func (PySem.W.fnOf "is_gate" "is_gate" (defArgs (top 22)) (defBody (top 22)) (defScope (top 22)) .none kV5 dc5 pm5 an5 cd5 ct5), sl5⟩)
    (k5 : PySem.W.codeIn K cd5 "is_gate" = true) (e5 : PySem.W.keepIn K (.ref f5) = true)
    (a6 : PySem.W.nsIn K mainGlobals "is_net_of" = some (some (.ref f6))) (l6 : K.lookup f6 = some ⟨oc6, od6, .func (PySem.W.fnOf "is_net_of" "is_net_of" (defArgs (top 23)) (defBody (top 23)) (defScope (top 23)) .none kV6 dc6 pm6 an6 cd6 ct6), sl6⟩)
    (k6 : PySem.W.codeIn K cd6 "is_net_of" = true) (e6 : PySem.W.keepIn K (.ref f6) = true)
    (a7 : PySem.W.nsIn K mainGlobals "require_net" = some (some (.ref f7))) (l7 : K.lookup f7 = some ⟨oc7, od7, .func (PySem.W.fnOf "require_net" "require_net" (defArgs (top 40)) (defBody (top 40)) (defScope (top 40)) .none kV7 dc7 pm7 an7 cd7 ct7), sl7⟩)
    (k7 : PySem.W.codeIn K cd7 "require_net" = true) (e7 : PySem.W.keepIn K (.ref f7) = true)
    (a8 : PySem.W.nsIn K mainGlobals "let_through" = some (some (.ref f8))) (l8 : K.lookup f8 = some ⟨oc8, od8, .func (PySem.W.fnOf "let_through" "let_through" (defArgs (top 43)) (defBody (top 43)) (defScope (top 43)) .none kV8 dc8 pm8 an8 cd8 ct8), sl8⟩)
    (k8 : PySem.W.codeIn K cd8 "let_through" = true) (e8 : PySem.W.keepIn K (.ref f8) = true)
    (a9 : PySem.W.nsIn K mainGlobals "inputs_of" = some (some (.ref f9))) (l9 : K.lookup f9 = some ⟨oc9, od9, .func (PySem.W.fnOf "inputs_of" "inputs_of" (defArgs (top 29)) (defBody (top 29)) (defScope (top 29)) .none kV9 dc9 pm9 an9 cd9 ct9), sl9⟩)
    (k9 : PySem.W.codeIn K cd9 "inputs_of" = true) (e9 : PySem.W.keepIn K (.ref f9) = true)
    (a10 : PySem.W.nsIn K mainGlobals "bit_of" = some (some (.ref f10))) (l10 : K.lookup f10 = some ⟨oc10, od10, .func (PySem.W.fnOf "bit_of" "bit_of" (defArgs (top 27)) (defBody (top 27)) (defScope (top 27)) .none kV10 dc10 pm10 an10 cd10 ct10), sl10⟩)
    (k10 : PySem.W.codeIn K cd10 "bit_of" = true) (e10 : PySem.W.keepIn K (.ref f10) = true)
    (a11 : PySem.W.nsIn K mainGlobals "table_in" = some (some (.ref f11))) (l11 : K.lookup f11 = some ⟨oc11, od11, .func (PySem.W.fnOf "table_in" "table_in" (defArgs (top 36)) (defBody (top 36)) (defScope (top 36)) .none kV11 dc11 pm11 an11 cd11 ct11), sl11⟩)
    (k11 : PySem.W.codeIn K cd11 "table_in" = true) (e11 : PySem.W.keepIn K (.ref f11) = true)
    (a12 : PySem.W.nsIn K mainGlobals "moved_gate" = some (some (.ref f12))) (l12 : K.lookup f12 = some ⟨oc12, od12, .func (PySem.W.fnOf "moved_gate" "moved_gate" (defArgs (top 37)) (defBody (top 37)) (defScope (top 37)) .none kV12 dc12 pm12 an12 cd12 ct12), sl12⟩)
    (k12 : PySem.W.codeIn K cd12 "moved_gate" = true) (e12 : PySem.W.keepIn K (.ref f12) = true)
    (a13 : PySem.W.nsIn K mainGlobals "beside" = some (some (.ref f13))) (l13 : K.lookup f13 = some ⟨oc13, od13, .func (PySem.W.fnOf "beside" "beside" (defArgs (top 56)) (defBody (top 56)) (defScope (top 56)) .none kV13 dc13 pm13 an13 cd13 ct13), sl13⟩)
    (k13 : PySem.W.codeIn K cd13 "beside" = true) (e13 : PySem.W.keepIn K (.ref f13) = true)
    (a14 : PySem.W.nsIn K mainGlobals "wires_in" = some (some (.ref f14))) (l14 : K.lookup f14 = some ⟨oc14, od14, .func (PySem.W.fnOf "wires_in" "wires_in" (defArgs (top 24)) (defBody (top 24)) (defScope (top 24)) .none kV14 dc14 pm14 an14 cd14 ct14), sl14⟩)
    (k14 : PySem.W.codeIn K cd14 "wires_in" = true) (e14 : PySem.W.keepIn K (.ref f14) = true)
    (a15 : PySem.W.nsIn K mainGlobals "joint_in" = some (some (.ref f15))) (l15 : K.lookup f15 = some ⟨oc15, od15, .func (PySem.W.fnOf "joint_in" "joint_in" (defArgs (top 58)) (defBody (top 58)) (defScope (top 58)) .none kV15 dc15 pm15 an15 cd15 ct15), sl15⟩)
    (k15 : PySem.W.codeIn K cd15 "joint_in" = true) (e15 : PySem.W.keepIn K (.ref f15) = true)
    (a16 : PySem.W.nsIn K mainGlobals "joint" = some (some (.ref f16))) (l16 : K.lookup f16 = some ⟨oc16, od16, .func (PySem.W.fnOf "joint" "joint" (defArgs (top 59)) (defBody (top 59)) (defScope (top 59)) .none kV16 dc16 pm16 an16 cd16 ct16), sl16⟩)
    (k16 : PySem.W.codeIn K cd16 "joint" = true) (e16 : PySem.W.keepIn K (.ref f16) = true)
    (a17 : PySem.W.nsIn K mainGlobals "behind" = some (some (.ref f17))) (l17 : K.lookup f17 = some ⟨oc17, od17, .func (PySem.W.fnOf "behind" "behind" (defArgs (top 57)) (defBody (top 57)) (defScope (top 57)) .none kV17 dc17 pm17 an17 cd17 ct17), sl17⟩)
    (k17 : PySem.W.codeIn K cd17 "behind" = true) (e17 : PySem.W.keepIn K (.ref f17) = true)
    (a18 : PySem.W.nsIn K mainGlobals "_law_draw" = some (some (.ref f18))) (l18 : K.lookup f18 = some ⟨oc18, od18, .func (PySem.W.fnOf "_law_draw" "_law_draw" (defArgs (top 65)) (defBody (top 65)) (defScope (top 65)) .none kV18 dc18 pm18 an18 cd18 ct18), sl18⟩)
    (k18 : PySem.W.codeIn K cd18 "_law_draw" = true) (e18 : PySem.W.keepIn K (.ref f18) = true)
    (a19 : PySem.W.nsIn K mainGlobals "_law_one_of" = some (some (.ref f19))) (l19 : K.lookup f19 = some ⟨oc19, od19, .func (PySem.W.fnOf "_law_one_of" "_law_one_of" (defArgs (top 66)) (defBody (top 66)) (defScope (top 66)) .none kV19 dc19 pm19 an19 cd19 ct19), sl19⟩)
    (k19 : PySem.W.codeIn K cd19 "_law_one_of" = true) (e19 : PySem.W.keepIn K (.ref f19) = true)
    (a20 : PySem.W.nsIn K mainGlobals "_law_bad" = some (some (.ref f20))) (l20 : K.lookup f20 = some ⟨oc20, od20, .func (PySem.W.fnOf "_law_bad" "_law_bad" (defArgs (top 68)) (defBody (top 68)) (defScope (top 68)) .none kV20 dc20 pm20 an20 cd20 ct20), sl20⟩)
    (k20 : PySem.W.codeIn K cd20 "_law_bad" = true) (e20 : PySem.W.keepIn K (.ref f20) = true)
    (a21 : PySem.W.nsIn K mainGlobals "require_wire" = some (some (.ref f21))) (l21 : K.lookup f21 = some ⟨oc21, od21, .func (PySem.W.fnOf "require_wire" "require_wire" (defArgs (top 41)) (defBody (top 41)) (defScope (top 41)) .none kV21 dc21 pm21 an21 cd21 ct21), sl21⟩)
    (k21 : PySem.W.codeIn K cd21 "require_wire" = true) (e21 : PySem.W.keepIn K (.ref f21) = true)
    (a22 : PySem.W.nsIn K mainGlobals "bits_told" = some (some (.ref f22))) (l22 : K.lookup f22 = some ⟨oc22, od22, .func (PySem.W.fnOf "bits_told" "bits_told" (defArgs (top 33)) (defBody (top 33)) (defScope (top 33)) .none kV22 dc22 pm22 an22 cd22 ct22), sl22⟩)
    (k22 : PySem.W.codeIn K cd22 "bits_told" = true) (e22 : PySem.W.keepIn K (.ref f22) = true)
    (a23 : PySem.W.nsIn K mainGlobals "ones_of" = some (some (.ref f23))) (l23 : K.lookup f23 = some ⟨oc23, od23, .func (PySem.W.fnOf "ones_of" "ones_of" (defArgs (top 30)) (defBody (top 30)) (defScope (top 30)) .none kV23 dc23 pm23 an23 cd23 ct23), sl23⟩)
    (k23 : PySem.W.codeIn K cd23 "ones_of" = true) (e23 : PySem.W.keepIn K (.ref f23) = true)
    (a24 : PySem.W.nsIn K mainGlobals "wide_bit" = some (some (.ref f24))) (l24 : K.lookup f24 = some ⟨oc24, od24, .func (PySem.W.fnOf "wide_bit" "wide_bit" (defArgs (top 31)) (defBody (top 31)) (defScope (top 31)) .none kV24 dc24 pm24 an24 cd24 ct24), sl24⟩)
    (k24 : PySem.W.codeIn K cd24 "wide_bit" = true) (e24 : PySem.W.keepIn K (.ref f24) = true)
    (a25 : PySem.W.nsIn K mainGlobals "wide_run" = some (some (.ref f25))) (l25 : K.lookup f25 = some ⟨oc25, od25, .func (PySem.W.fnOf "wide_run" "wide_run" (defArgs (top 32)) (defBody (top 32)) (defScope (top 32)) .none kV25 dc25 pm25 an25 cd25 ct25), sl25⟩)
    (k25 : PySem.W.codeIn K cd25 "wide_run" = true) (e25 : PySem.W.keepIn K (.ref f25) = true)
    (a26 : PySem.W.nsIn K mainGlobals "column" = some (some (.ref f26))) (l26 : K.lookup f26 = some ⟨oc26, od26, .func (PySem.W.fnOf "column" "column" (defArgs (top 47)) (defBody (top 47)) (defScope (top 47)) .none kV26 dc26 pm26 an26 cd26 ct26), sl26⟩)
    (k26 : PySem.W.codeIn K cd26 "column" = true) (e26 : PySem.W.keepIn K (.ref f26) = true)
    (a27 : PySem.W.nsIn K mainGlobals "is_input" = some (some (.ref f27))) (l27 : K.lookup f27 = some ⟨oc27, od27, .func (PySem.W.fnOf "is_input" "is_input" (defArgs (top 25)) (defBody (top 25)) (defScope (top 25)) .none kV27 dc27 pm27 an27 cd27 ct27), sl27⟩)
    (k27 : PySem.W.codeIn K cd27 "is_input" = true) (e27 : PySem.W.keepIn K (.ref f27) = true)
    (a28 : PySem.W.nsIn K mainGlobals "gate_at" = some (some (.ref f28))) (l28 : K.lookup f28 = some ⟨oc28, od28, .func (PySem.W.fnOf "gate_at" "gate_at" (defArgs (top 26)) (defBody (top 26)) (defScope (top 26)) .none kV28 dc28 pm28 an28 cd28 ct28), sl28⟩)
    (k28 : PySem.W.codeIn K cd28 "gate_at" = true) (e28 : PySem.W.keepIn K (.ref f28) = true)
    (a29 : PySem.W.nsIn K mainGlobals "cone_in" = some (some (.ref f29))) (l29 : K.lookup f29 = some ⟨oc29, od29, .func (PySem.W.fnOf "cone_in" "cone_in" (defArgs (top 34)) (defBody (top 34)) (defScope (top 34)) .none kV29 dc29 pm29 an29 cd29 ct29), sl29⟩)
    (k29 : PySem.W.codeIn K cd29 "cone_in" = true) (e29 : PySem.W.keepIn K (.ref f29) = true)
    (a30 : PySem.W.nsIn K mainGlobals "cone" = some (some (.ref f30))) (l30 : K.lookup f30 = some ⟨oc30, od30, .func (PySem.W.fnOf "cone" "cone" (defArgs (top 49)) (defBody (top 49)) (defScope (top 49)) .none kV30 dc30 pm30 an30 cd30 ct30), sl30⟩)
    (k30 : PySem.W.codeIn K cd30 "cone" = true) (e30 : PySem.W.keepIn K (.ref f30) = true)
    (a31 : PySem.W.nsIn K mainGlobals "readers" = some (some (.ref f31))) (l31 : K.lookup f31 = some ⟨oc31, od31, .func (PySem.W.fnOf "readers" "readers" (defArgs (top 52)) (defBody (top 52)) (defScope (top 52)) .none kV31 dc31 pm31 an31 cd31 ct31), sl31⟩)
    (k31 : PySem.W.codeIn K cd31 "readers" = true) (e31 : PySem.W.keepIn K (.ref f31) = true)
    (a32 : PySem.W.nsIn K mainGlobals "tail_table" = some (some (.ref f32))) (l32 : K.lookup f32 = some ⟨oc32, od32, .func (PySem.W.fnOf "tail_table" "tail_table" (defArgs (top 54)) (defBody (top 54)) (defScope (top 54)) .none kV32 dc32 pm32 an32 cd32 ct32), sl32⟩)
    (k32 : PySem.W.codeIn K cd32 "tail_table" = true) (e32 : PySem.W.keepIn K (.ref f32) = true)
    {k_33 p_33 : Addr} {oC33 : Value} {dC33 : Option Addr} {vC33 : Array Value} {sC33 : Array (Option Value)}
    (a33 : PySem.W.nsIn K mainGlobals "_law_wires" = some (some (.ref f33))) (l33 : K.lookup f33 = some ⟨oc33, od33, .func (PySem.W.fnOf "_law_wires" "_law_wires" (defArgs (top 69)) (defBody (top 69)) (defScope (top 69)) .none kV33 dc33 pm33 an33 (.ref k_33) ct33), sl33⟩)
    (k33 : PySem.W.codeIn K (.ref k_33) "_law_wires" = true) (e33 : PySem.W.keepIn K (.ref f33) = true) (lC33 : K.lookup k_33 = some ⟨oC33, dC33, .fields vC33, sC33⟩) (vv33 : vC33[11]? = some (.ref p_33)) (hC33 : PySem.W.codeHdIn K k_33 p_33 = true) (nC33 : K.lookup p_33 = none) (tC33 : p_33 ∈ ts)
    (a34 : PySem.W.nsIn K mainGlobals "require_row" = some (some (.ref f34))) (l34 : K.lookup f34 = some ⟨oc34, od34, .func (PySem.W.fnOf "require_row" "require_row" (defArgs (top 42)) (defBody (top 42)) (defScope (top 42)) .none kV34 dc34 pm34 an34 cd34 ct34), sl34⟩)
    (k34 : PySem.W.codeIn K cd34 "require_row" = true) (e34 : PySem.W.keepIn K (.ref f34) = true)
    (a35 : PySem.W.nsIn K mainGlobals "run_in" = some (some (.ref f35))) (l35 : K.lookup f35 = some ⟨oc35, od35, .func (PySem.W.fnOf "run_in" "run_in" (defArgs (top 28)) (defBody (top 28)) (defScope (top 28)) .none kV35 dc35 pm35 an35 cd35 ct35), sl35⟩)
    (k35 : PySem.W.codeIn K cd35 "run_in" = true) (e35 : PySem.W.keepIn K (.ref f35) = true)
    (a36 : PySem.W.nsIn K mainGlobals "run_of" = some (some (.ref f36))) (l36 : K.lookup f36 = some ⟨oc36, od36, .func (PySem.W.fnOf "run_of" "run_of" (defArgs (top 45)) (defBody (top 45)) (defScope (top 45)) .none kV36 dc36 pm36 an36 cd36 ct36), sl36⟩)
    (k36 : PySem.W.codeIn K cd36 "run_of" = true) (e36 : PySem.W.keepIn K (.ref f36) = true)
    (a37 : PySem.W.nsIn K mainGlobals "ends_at" = some (some (.ref f37))) (l37 : K.lookup f37 = some ⟨oc37, od37, .func (PySem.W.fnOf "ends_at" "ends_at" (defArgs (top 46)) (defBody (top 46)) (defScope (top 46)) .none kV37 dc37 pm37 an37 cd37 ct37), sl37⟩)
    (k37 : PySem.W.codeIn K cd37 "ends_at" = true) (e37 : PySem.W.keepIn K (.ref f37) = true)
    (a38 : PySem.W.nsIn K mainGlobals "end_columns" = some (some (.ref f38))) (l38 : K.lookup f38 = some ⟨oc38, od38, .func (PySem.W.fnOf "end_columns" "end_columns" (defArgs (top 48)) (defBody (top 48)) (defScope (top 48)) .none kV38 dc38 pm38 an38 cd38 ct38), sl38⟩)
    (k38 : PySem.W.codeIn K cd38 "end_columns" = true) (e38 : PySem.W.keepIn K (.ref f38) = true)
    (a39 : PySem.W.nsIn K mainGlobals "levels_in" = some (some (.ref f39))) (l39 : K.lookup f39 = some ⟨oc39, od39, .func (PySem.W.fnOf "levels_in" "levels_in" (defArgs (top 35)) (defBody (top 35)) (defScope (top 35)) .none kV39 dc39 pm39 an39 cd39 ct39), sl39⟩)
    (k39 : PySem.W.codeIn K cd39 "levels_in" = true) (e39 : PySem.W.keepIn K (.ref f39) = true)
    (a40 : PySem.W.nsIn K mainGlobals "levels" = some (some (.ref f40))) (l40 : K.lookup f40 = some ⟨oc40, od40, .func (PySem.W.fnOf "levels" "levels" (defArgs (top 50)) (defBody (top 50)) (defScope (top 50)) .none kV40 dc40 pm40 an40 cd40 ct40), sl40⟩)
    (k40 : PySem.W.codeIn K cd40 "levels" = true) (e40 : PySem.W.keepIn K (.ref f40) = true)
    (a41 : PySem.W.nsIn K mainGlobals "depth" = some (some (.ref f41))) (l41 : K.lookup f41 = some ⟨oc41, od41, .func (PySem.W.fnOf "depth" "depth" (defArgs (top 51)) (defBody (top 51)) (defScope (top 51)) .none kV41 dc41 pm41 an41 cd41 ct41), sl41⟩)
    (k41 : PySem.W.codeIn K cd41 "depth" = true) (e41 : PySem.W.keepIn K (.ref f41) = true)
    (a42 : PySem.W.nsIn K mainGlobals "gate_counts" = some (some (.ref f42))) (l42 : K.lookup f42 = some ⟨oc42, od42, .func (PySem.W.fnOf "gate_counts" "gate_counts" (defArgs (top 53)) (defBody (top 53)) (defScope (top 53)) .none kV42 dc42 pm42 an42 cd42 ct42), sl42⟩)
    (k42 : PySem.W.codeIn K cd42 "gate_counts" = true) (e42 : PySem.W.keepIn K (.ref f42) = true)
    {k_43 p_43 : Addr} {oC43 : Value} {dC43 : Option Addr} {vC43 : Array Value} {sC43 : Array (Option Value)}
    (a43 : PySem.W.nsIn K mainGlobals "_law_ones" = some (some (.ref f43))) (l43 : K.lookup f43 = some ⟨oc43, od43, .func (PySem.W.fnOf "_law_ones" "_law_ones" (defArgs (top 70)) (defBody (top 70)) (defScope (top 70)) .none kV43 dc43 pm43 an43 (.ref k_43) ct43), sl43⟩)
    (k43 : PySem.W.codeIn K (.ref k_43) "_law_ones" = true) (e43 : PySem.W.keepIn K (.ref f43) = true) (lC43 : K.lookup k_43 = some ⟨oC43, dC43, .fields vC43, sC43⟩) (vv43 : vC43[11]? = some (.ref p_43)) (hC43 : PySem.W.codeHdIn K k_43 p_43 = true) (nC43 : K.lookup p_43 = none) (tC43 : p_43 ∈ ts)
    (a44 : PySem.W.nsIn K mainGlobals "require_like" = some (some (.ref f44))) (l44 : K.lookup f44 = some ⟨oc44, od44, .func (PySem.W.fnOf "require_like" "require_like" (defArgs (top 44)) (defBody (top 44)) (defScope (top 44)) .none kV44 dc44 pm44 an44 cd44 ct44), sl44⟩)
    (k44 : PySem.W.codeIn K cd44 "require_like" = true) (e44 : PySem.W.keepIn K (.ref f44) = true)
    (a45 : PySem.W.nsIn K mainGlobals "row_at" = some (some (.ref f45))) (l45 : K.lookup f45 = some ⟨oc45, od45, .func (PySem.W.fnOf "row_at" "row_at" (defArgs (top 38)) (defBody (top 38)) (defScope (top 38)) .none kV45 dc45 pm45 an45 cd45 ct45), sl45⟩)
    (k45 : PySem.W.codeIn K cd45 "row_at" = true) (e45 : PySem.W.keepIn K (.ref f45) = true)
    (a46 : PySem.W.nsIn K mainGlobals "unlike_in" = some (some (.ref f46))) (l46 : K.lookup f46 = some ⟨oc46, od46, .func (PySem.W.fnOf "unlike_in" "unlike_in" (defArgs (top 39)) (defBody (top 39)) (defScope (top 39)) .none kV46 dc46 pm46 an46 cd46 ct46), sl46⟩)
    (k46 : PySem.W.codeIn K cd46 "unlike_in" = true) (e46 : PySem.W.keepIn K (.ref f46) = true)
    (a47 : PySem.W.nsIn K mainGlobals "alike_paper" = some (some (.ref f47))) (l47 : K.lookup f47 = some ⟨oc47, od47, .func (PySem.W.fnOf "alike_paper" "alike_paper" (defArgs (top 60)) (defBody (top 60)) (defScope (top 60)) .none kV47 dc47 pm47 an47 cd47 ct47), sl47⟩)
    (k47 : PySem.W.codeIn K cd47 "alike_paper" = true) (e47 : PySem.W.keepIn K (.ref f47) = true)
    (a48 : PySem.W.nsIn K mainGlobals "is_alike_paper" = some (some (.ref f48))) (l48 : K.lookup f48 = some ⟨oc48, od48, .func (PySem.W.fnOf "is_alike_paper" "is_alike_paper" (defArgs (top 61)) (defBody (top 61)) (defScope (top 61)) .none kV48 dc48 pm48 an48 cd48 ct48), sl48⟩)
    (k48 : PySem.W.codeIn K cd48 "is_alike_paper" = true) (e48 : PySem.W.keepIn K (.ref f48) = true)
    (a49 : PySem.W.nsIn K mainGlobals "are_alike" = some (some (.ref f49))) (l49 : K.lookup f49 = some ⟨oc49, od49, .func (PySem.W.fnOf "are_alike" "are_alike" (defArgs (top 62)) (defBody (top 62)) (defScope (top 62)) .none kV49 dc49 pm49 an49 cd49 ct49), sl49⟩)
    (k49 : PySem.W.codeIn K cd49 "are_alike" = true) (e49 : PySem.W.keepIn K (.ref f49) = true)
    {k_50 p_50 : Addr} {oC50 : Value} {dC50 : Option Addr} {vC50 : Array Value} {sC50 : Array (Option Value)}
    (a50 : PySem.W.nsIn K mainGlobals "_law_twos" = some (some (.ref f50))) (l50 : K.lookup f50 = some ⟨oc50, od50, .func (PySem.W.fnOf "_law_twos" "_law_twos" (defArgs (top 71)) (defBody (top 71)) (defScope (top 71)) .none kV50 dc50 pm50 an50 (.ref k_50) ct50), sl50⟩)
    (k50 : PySem.W.codeIn K (.ref k_50) "_law_twos" = true) (e50 : PySem.W.keepIn K (.ref f50) = true) (lC50 : K.lookup k_50 = some ⟨oC50, dC50, .fields vC50, sC50⟩) (vv50 : vC50[11]? = some (.ref p_50)) (hC50 : PySem.W.codeHdIn K k_50 p_50 = true) (nC50 : K.lookup p_50 = none) (tC50 : p_50 ∈ ts)
    (a51 : PySem.W.nsIn K mainGlobals "with_ends" = some (some (.ref f51))) (l51 : K.lookup f51 = some ⟨oc51, od51, .func (PySem.W.fnOf "with_ends" "with_ends" (defArgs (top 55)) (defBody (top 55)) (defScope (top 55)) .none kV51 dc51 pm51 an51 cd51 ct51), sl51⟩)
    (k51 : PySem.W.codeIn K cd51 "with_ends" = true) (e51 : PySem.W.keepIn K (.ref f51) = true)
    {k_52 p_52 : Addr} {oC52 : Value} {dC52 : Option Addr} {vC52 : Array Value} {sC52 : Array (Option Value)}
    (a52 : PySem.W.nsIn K mainGlobals "_law_right" = some (some (.ref f52))) (l52 : K.lookup f52 = some ⟨oc52, od52, .func (PySem.W.fnOf "_law_right" "_law_right" (defArgs (top 72)) (defBody (top 72)) (defScope (top 72)) .none kV52 dc52 pm52 an52 (.ref k_52) ct52), sl52⟩)
    (k52 : PySem.W.codeIn K (.ref k_52) "_law_right" = true) (e52 : PySem.W.keepIn K (.ref f52) = true) (lC52 : K.lookup k_52 = some ⟨oC52, dC52, .fields vC52, sC52⟩) (vv52 : vC52[11]? = some (.ref p_52)) (hC52 : PySem.W.codeHdIn K k_52 p_52 = true) (nC52 : K.lookup p_52 = none) (tC52 : p_52 ∈ ts)
    {k_53 p_53 : Addr} {oC53 : Value} {dC53 : Option Addr} {vC53 : Array Value} {sC53 : Array (Option Value)}
    (a53 : PySem.W.nsIn K mainGlobals "law" = some (some (.ref f53))) (l53 : K.lookup f53 = some ⟨oc53, od53, .func (PySem.W.fnOf "law" "law" (defArgs (top 73)) (defBody (top 73)) (defScope (top 73)) .none kV53 dc53 pm53 an53 (.ref k_53) ct53), sl53⟩)
    (k53 : PySem.W.codeIn K (.ref k_53) "law" = true) (e53 : PySem.W.keepIn K (.ref f53) = true) (lC53 : K.lookup k_53 = some ⟨oC53, dC53, .fields vC53, sC53⟩) (vv53 : vC53[11]? = some (.ref p_53)) (hC53 : PySem.W.codeHdIn K k_53 p_53 = true) (nC53 : K.lookup p_53 = none) (tC53 : p_53 ∈ ts)
    (z_abs : PySem.W.nsIn K mainGlobals "abs" = some none)
    (z_all : PySem.W.nsIn K mainGlobals "all" = some none)
    (z_bool : PySem.W.nsIn K mainGlobals "bool" = some none)
    (z_enumerate : PySem.W.nsIn K mainGlobals "enumerate" = some none)
    (z_int : PySem.W.nsIn K mainGlobals "int" = some none)
    (z_isinstance : PySem.W.nsIn K mainGlobals "isinstance" = some none)
    (z_len : PySem.W.nsIn K mainGlobals "len" = some none)
    (z_list : PySem.W.nsIn K mainGlobals "list" = some none)
    (z_max : PySem.W.nsIn K mainGlobals "max" = some none)
    (z_min : PySem.W.nsIn K mainGlobals "min" = some none)
    (z_range : PySem.W.nsIn K mainGlobals "range" = some none)
    (z_repr : PySem.W.nsIn K mainGlobals "repr" = some none)
    (z_sorted : PySem.W.nsIn K mainGlobals "sorted" = some none)
    (z_str : PySem.W.nsIn K mainGlobals "str" = some none)
    (z_sum : PySem.W.nsIn K mainGlobals "sum" = some none)
    (z_tuple : PySem.W.nsIn K mainGlobals "tuple" = some none)
    (z_zip : PySem.W.nsIn K mainGlobals "zip" = some none)
    (c_ALIKE : PySem.W.nsIn K mainGlobals "ALIKE" = some (some (.str c_ALIKE t_ALIKE)))
    (c_INPUT : PySem.W.nsIn K mainGlobals "INPUT" = some (some (.str c_INPUT t_INPUT)))
    (l_KINDS_0 : K.lookup q_KINDS_0 = some ⟨.type "tuple", none, .seq #[.str "and" t_KINDS_0_0, .str "choose" t_KINDS_0_1, .str "most" t_KINDS_0_2, .str "not" t_KINDS_0_3, .str "one" t_KINDS_0_4, .str "or" t_KINDS_0_5, .str "table" t_KINDS_0_6, .str "xor" t_KINDS_0_7, .str "zero" t_KINDS_0_8] n_KINDS_0, s_KINDS_0⟩)
    (c_KINDS : PySem.W.nsIn K mainGlobals "KINDS" = some (some (.ref q_KINDS_0)))
    (c_MOST_ENDS : PySem.W.nsIn K mainGlobals "MOST_ENDS" = some (some (.int c_MOST_ENDS t_MOST_ENDS)))
    (c_MOST_GATES : PySem.W.nsIn K mainGlobals "MOST_GATES" = some (some (.int c_MOST_GATES t_MOST_GATES)))
    (c_MOST_INPUTS : PySem.W.nsIn K mainGlobals "MOST_INPUTS" = some (some (.int c_MOST_INPUTS t_MOST_INPUTS)))
    (c_MOST_TABLED : PySem.W.nsIn K mainGlobals "MOST_TABLED" = some (some (.int c_MOST_TABLED t_MOST_TABLED)))
    (c_SIZES : PySem.W.nsIn K mainGlobals "SIZES" = some (some (.ref q_SIZES))) (l_SIZES : K.lookup q_SIZES = some ⟨.type "dict", none, .dict #[⟨PyData.keyHash w.params "and", .str "and" t_SIZES_0, .int 2 u_SIZES_0⟩, ⟨PyData.keyHash w.params "choose", .str "choose" t_SIZES_1, .int 3 u_SIZES_1⟩, ⟨PyData.keyHash w.params "most", .str "most" t_SIZES_2, .int 3 u_SIZES_2⟩, ⟨PyData.keyHash w.params "not", .str "not" t_SIZES_3, .int 1 u_SIZES_3⟩, ⟨PyData.keyHash w.params "one", .str "one" t_SIZES_4, .int 0 u_SIZES_4⟩, ⟨PyData.keyHash w.params "or", .str "or" t_SIZES_5, .int 2 u_SIZES_5⟩, ⟨PyData.keyHash w.params "xor", .str "xor" t_SIZES_6, .int 2 u_SIZES_6⟩, ⟨PyData.keyHash w.params "zero", .str "zero" t_SIZES_7, .int 0 u_SIZES_7⟩] n_SIZES, #[]⟩) (s_SIZES : (q_SIZES == sysModules) = false)
    (c_TABLE : PySem.W.nsIn K mainGlobals "TABLE" = some (some (.str c_TABLE t_TABLE)))
    (x_op : PySem.W.nsIn K cStatics "thirdparty.any" = some none) (x_su : PySem.W.nsIn K mainGlobals "super" = some none)
    {C_InvalidNet : Addr} (gC_InvalidNet : PySem.W.nsIn K mainGlobals "InvalidNet" = some (some (.ref C_InvalidNet))) (xI_InvalidNet : PySem.W.excIn K C_InvalidNet [.type "ValueError", .type "Exception", .type "BaseException", .type "object"] "ValueError.__new__" = true)
    (xb_InvalidNet : PySem.W.subIn K (.ref C_InvalidNet) (.type "BaseException") = some true) (xt_InvalidNet : PySem.W.typeIn K (.ref C_InvalidNet) = some (.type "type")) (xk_InvalidNet : PySem.W.keepIn K (.ref C_InvalidNet) = true) (xc2_InvalidNet : PySem.W.isClsIn K C_InvalidNet = true)
    {C_InvalidNumber fI_InvalidNumber cda_InvalidNumber cc_InvalidNumber : Addr} {xo_InvalidNumber xd_InvalidNumber xp_InvalidNumber xc_InvalidNumber xl_InvalidNumber xm_InvalidNumber : Value} {yo_InvalidNumber ya_InvalidNumber yc_InvalidNumber yd_InvalidNumber : Option Addr} {zo_InvalidNumber zc_InvalidNumber zd_InvalidNumber : Array (Option Value)} {vs_InvalidNumber : Array Value} {file_InvalidNumber : Str} {tf_InvalidNumber : Tok} {q1_InvalidNumber q2_InvalidNumber p0_InvalidNumber p1_InvalidNumber p2_InvalidNumber p3_InvalidNumber p4_InvalidNumber p5_InvalidNumber p6_InvalidNumber p7_InvalidNumber p8_InvalidNumber p9_InvalidNumber : Pos}
    (gC_InvalidNumber : PySem.W.nsIn K mainGlobals "InvalidNumber" = some (some (.ref C_InvalidNumber))) (xI_InvalidNumber : PySem.W.excInitIn K C_InvalidNumber [.type "IndexError", .type "LookupError", .type "Exception", .type "BaseException", .type "object"] "IndexError.__new__" = true) (ov_InvalidNumber : PySem.W.excOver K C_InvalidNumber [.type "IndexError", .type "LookupError", .type "Exception", .type "BaseException", .type "object"] = true) (hd_InvalidNumber : PySem.W.hasDictIn K C_InvalidNumber = true)
    (sa_InvalidNumber : PySem.W.findIn K (.ref C_InvalidNumber) "__setattr__" = some (some (.builtin "object.__setattr__"))) (ga_InvalidNumber : PySem.W.findIn K (.ref C_InvalidNumber) "__getattribute__" = some (some (.builtin "BaseException.__getattribute__"))) (gg_InvalidNumber : PySem.W.findIn K (.ref C_InvalidNumber) "__getattr__" = some none) (nf_InvalidNumber : PySem.W.findIn K (.ref C_InvalidNumber) "given" = some none)
    (sB_InvalidNumber : PySem.W.subIn K (.ref C_InvalidNumber) (.type "IndexError") = some true) (sm_InvalidNumber : PySem.W.ks_superIn K C_InvalidNumber C_InvalidNumber "__init__" = some (some (.builtin "IndexError.__init__"))) (sC_InvalidNumber : PySem.W.mroIn K C_InvalidNumber (.ref C_InvalidNumber) = some true) (iC_InvalidNumber : PySem.W.findIn K (.ref C_InvalidNumber) "__init__" = some (some (.ref fI_InvalidNumber))) (tI_InvalidNumber : PySem.W.typeIn K (.ref fI_InvalidNumber) = some (.type "function"))
    (lI_InvalidNumber : K.lookup fI_InvalidNumber = some ⟨xo_InvalidNumber, yo_InvalidNumber, .func (PySem.W.ksFn "__init__" "InvalidNumber.__init__" (xiArgs "given" q1_InvalidNumber q2_InvalidNumber) (xiBody "given" p0_InvalidNumber p1_InvalidNumber p2_InvalidNumber p3_InvalidNumber p4_InvalidNumber p5_InvalidNumber p6_InvalidNumber p7_InvalidNumber p8_InvalidNumber p9_InvalidNumber) (xiScope "given") .none .none xd_InvalidNumber xp_InvalidNumber ya_InvalidNumber (.ref cda_InvalidNumber) xc_InvalidNumber cc_InvalidNumber), zo_InvalidNumber⟩) (cI_InvalidNumber : PySem.W.codeIn K (.ref cda_InvalidNumber) "InvalidNumber.__init__" = true)
    (lcc_InvalidNumber : K.lookup cc_InvalidNumber = some ⟨xl_InvalidNumber, yc_InvalidNumber, .cell (some (.ref C_InvalidNumber)), zc_InvalidNumber⟩) (lcd_InvalidNumber : K.lookup cda_InvalidNumber = some ⟨xm_InvalidNumber, yd_InvalidNumber, .fields vs_InvalidNumber, zd_InvalidNumber⟩) (v2_InvalidNumber : vs_InvalidNumber[2]? = some (.str file_InvalidNumber tf_InvalidNumber)) (fe_InvalidNumber : ((l.prog.main.file : Str) == file_InvalidNumber) = true) (tp_InvalidNumber : (l.prog.main.scope.names.lookup ("super" : Str)).isSome = false) (pe_InvalidNumber : (p2_InvalidNumber.endLine == p4_InvalidNumber.line) = true)
    (xb_InvalidNumber : PySem.W.subIn K (.ref C_InvalidNumber) (.type "BaseException") = some true) (xt_InvalidNumber : PySem.W.typeIn K (.ref C_InvalidNumber) = some (.type "type")) (xk_InvalidNumber : PySem.W.keepIn K (.ref C_InvalidNumber) = true) (xc2_InvalidNumber : PySem.W.isClsIn K C_InvalidNumber = true)
    {C_InvalidOperation : Addr} (gC_InvalidOperation : PySem.W.nsIn K mainGlobals "InvalidOperation" = some (some (.ref C_InvalidOperation))) (xI_InvalidOperation : PySem.W.excIn K C_InvalidOperation [.type "ValueError", .type "Exception", .type "BaseException", .type "object"] "ValueError.__new__" = true)
    (xb_InvalidOperation : PySem.W.subIn K (.ref C_InvalidOperation) (.type "BaseException") = some true) (xt_InvalidOperation : PySem.W.typeIn K (.ref C_InvalidOperation) = some (.type "type")) (xk_InvalidOperation : PySem.W.keepIn K (.ref C_InvalidOperation) = true) (xc2_InvalidOperation : PySem.W.isClsIn K C_InvalidOperation = true)
    {C_InvalidReport : Addr} (gC_InvalidReport : PySem.W.nsIn K mainGlobals "InvalidReport" = some (some (.ref C_InvalidReport))) (xI_InvalidReport : PySem.W.excIn K C_InvalidReport [.type "ValueError", .type "Exception", .type "BaseException", .type "object"] "ValueError.__new__" = true)
    (xb_InvalidReport : PySem.W.subIn K (.ref C_InvalidReport) (.type "BaseException") = some true) (xt_InvalidReport : PySem.W.typeIn K (.ref C_InvalidReport) = some (.type "type")) (xk_InvalidReport : PySem.W.keepIn K (.ref C_InvalidReport) = true) (xc2_InvalidReport : PySem.W.isClsIn K C_InvalidReport = true)
    {C_InvalidRow : Addr} (gC_InvalidRow : PySem.W.nsIn K mainGlobals "InvalidRow" = some (some (.ref C_InvalidRow))) (xI_InvalidRow : PySem.W.excIn K C_InvalidRow [.type "ValueError", .type "Exception", .type "BaseException", .type "object"] "ValueError.__new__" = true)
    (xb_InvalidRow : PySem.W.subIn K (.ref C_InvalidRow) (.type "BaseException") = some true) (xt_InvalidRow : PySem.W.typeIn K (.ref C_InvalidRow) = some (.type "type")) (xk_InvalidRow : PySem.W.keepIn K (.ref C_InvalidRow) = true) (xc2_InvalidRow : PySem.W.isClsIn K C_InvalidRow = true)
    {C_TooMany fI_TooMany cda_TooMany cc_TooMany : Addr} {xo_TooMany xd_TooMany xp_TooMany xc_TooMany xl_TooMany xm_TooMany : Value} {yo_TooMany ya_TooMany yc_TooMany yd_TooMany : Option Addr} {zo_TooMany zc_TooMany zd_TooMany : Array (Option Value)} {vs_TooMany : Array Value} {file_TooMany : Str} {tf_TooMany : Tok} {q1_TooMany q2_TooMany p0_TooMany p1_TooMany p2_TooMany p3_TooMany p4_TooMany p5_TooMany p6_TooMany p7_TooMany p8_TooMany p9_TooMany : Pos}
    (gC_TooMany : PySem.W.nsIn K mainGlobals "TooMany" = some (some (.ref C_TooMany))) (xI_TooMany : PySem.W.excInitIn K C_TooMany [.type "OverflowError", .type "ArithmeticError", .type "Exception", .type "BaseException", .type "object"] "OverflowError.__new__" = true) (ov_TooMany : PySem.W.excOver K C_TooMany [.type "OverflowError", .type "ArithmeticError", .type "Exception", .type "BaseException", .type "object"] = true) (hd_TooMany : PySem.W.hasDictIn K C_TooMany = true)
    (sa_TooMany : PySem.W.findIn K (.ref C_TooMany) "__setattr__" = some (some (.builtin "object.__setattr__"))) (ga_TooMany : PySem.W.findIn K (.ref C_TooMany) "__getattribute__" = some (some (.builtin "BaseException.__getattribute__"))) (gg_TooMany : PySem.W.findIn K (.ref C_TooMany) "__getattr__" = some none) (nf_TooMany : PySem.W.findIn K (.ref C_TooMany) "limit" = some none)
    (sB_TooMany : PySem.W.subIn K (.ref C_TooMany) (.type "OverflowError") = some true) (sm_TooMany : PySem.W.ks_superIn K C_TooMany C_TooMany "__init__" = some (some (.builtin "OverflowError.__init__"))) (sC_TooMany : PySem.W.mroIn K C_TooMany (.ref C_TooMany) = some true) (iC_TooMany : PySem.W.findIn K (.ref C_TooMany) "__init__" = some (some (.ref fI_TooMany))) (tI_TooMany : PySem.W.typeIn K (.ref fI_TooMany) = some (.type "function"))
    (lI_TooMany : K.lookup fI_TooMany = some ⟨xo_TooMany, yo_TooMany, .func (PySem.W.ksFn "__init__" "TooMany.__init__" (xiArgs "limit" q1_TooMany q2_TooMany) (xiBody "limit" p0_TooMany p1_TooMany p2_TooMany p3_TooMany p4_TooMany p5_TooMany p6_TooMany p7_TooMany p8_TooMany p9_TooMany) (xiScope "limit") .none .none xd_TooMany xp_TooMany ya_TooMany (.ref cda_TooMany) xc_TooMany cc_TooMany), zo_TooMany⟩) (cI_TooMany : PySem.W.codeIn K (.ref cda_TooMany) "TooMany.__init__" = true)
    (lcc_TooMany : K.lookup cc_TooMany = some ⟨xl_TooMany, yc_TooMany, .cell (some (.ref C_TooMany)), zc_TooMany⟩) (lcd_TooMany : K.lookup cda_TooMany = some ⟨xm_TooMany, yd_TooMany, .fields vs_TooMany, zd_TooMany⟩) (v2_TooMany : vs_TooMany[2]? = some (.str file_TooMany tf_TooMany)) (fe_TooMany : ((l.prog.main.file : Str) == file_TooMany) = true) (tp_TooMany : (l.prog.main.scope.names.lookup ("super" : Str)).isSome = false) (pe_TooMany : (p2_TooMany.endLine == p4_TooMany.line) = true)
    (xb_TooMany : PySem.W.subIn K (.ref C_TooMany) (.type "BaseException") = some true) (xt_TooMany : PySem.W.typeIn K (.ref C_TooMany) = some (.type "type")) (xk_TooMany : PySem.W.keepIn K (.ref C_TooMany) = true) (xc2_TooMany : PySem.W.isClsIn K C_TooMany = true)
    (ss_InvalidNet_InvalidNet : PySem.W.subIn K (.ref C_InvalidNet) (.ref C_InvalidNet) = some true)
    (ss_InvalidNet_InvalidRow : PySem.W.subIn K (.ref C_InvalidNet) (.ref C_InvalidRow) = some false)
    (ss_InvalidNet_InvalidReport : PySem.W.subIn K (.ref C_InvalidNet) (.ref C_InvalidReport) = some false)
    (ss_InvalidNet_InvalidOperation : PySem.W.subIn K (.ref C_InvalidNet) (.ref C_InvalidOperation) = some false)
    (ss_InvalidNet_InvalidNumber : PySem.W.subIn K (.ref C_InvalidNet) (.ref C_InvalidNumber) = some false)
    (ss_InvalidNet_TooMany : PySem.W.subIn K (.ref C_InvalidNet) (.ref C_TooMany) = some false)
    (ss_InvalidRow_InvalidNet : PySem.W.subIn K (.ref C_InvalidRow) (.ref C_InvalidNet) = some false)
    (ss_InvalidRow_InvalidRow : PySem.W.subIn K (.ref C_InvalidRow) (.ref C_InvalidRow) = some true)
    (ss_InvalidRow_InvalidReport : PySem.W.subIn K (.ref C_InvalidRow) (.ref C_InvalidReport) = some false)
    (ss_InvalidRow_InvalidOperation : PySem.W.subIn K (.ref C_InvalidRow) (.ref C_InvalidOperation) = some false)
    (ss_InvalidRow_InvalidNumber : PySem.W.subIn K (.ref C_InvalidRow) (.ref C_InvalidNumber) = some false)
    (ss_InvalidRow_TooMany : PySem.W.subIn K (.ref C_InvalidRow) (.ref C_TooMany) = some false)
    (ss_InvalidReport_InvalidNet : PySem.W.subIn K (.ref C_InvalidReport) (.ref C_InvalidNet) = some false)
    (ss_InvalidReport_InvalidRow : PySem.W.subIn K (.ref C_InvalidReport) (.ref C_InvalidRow) = some false)
    (ss_InvalidReport_InvalidReport : PySem.W.subIn K (.ref C_InvalidReport) (.ref C_InvalidReport) = some true)
    (ss_InvalidReport_InvalidOperation : PySem.W.subIn K (.ref C_InvalidReport) (.ref C_InvalidOperation) = some false)
    (ss_InvalidReport_InvalidNumber : PySem.W.subIn K (.ref C_InvalidReport) (.ref C_InvalidNumber) = some false)
    (ss_InvalidReport_TooMany : PySem.W.subIn K (.ref C_InvalidReport) (.ref C_TooMany) = some false)
    (ss_InvalidOperation_InvalidNet : PySem.W.subIn K (.ref C_InvalidOperation) (.ref C_InvalidNet) = some false)
    (ss_InvalidOperation_InvalidRow : PySem.W.subIn K (.ref C_InvalidOperation) (.ref C_InvalidRow) = some false)
    (ss_InvalidOperation_InvalidReport : PySem.W.subIn K (.ref C_InvalidOperation) (.ref C_InvalidReport) = some false)
    (ss_InvalidOperation_InvalidOperation : PySem.W.subIn K (.ref C_InvalidOperation) (.ref C_InvalidOperation) = some true)
    (ss_InvalidOperation_InvalidNumber : PySem.W.subIn K (.ref C_InvalidOperation) (.ref C_InvalidNumber) = some false)
    (ss_InvalidOperation_TooMany : PySem.W.subIn K (.ref C_InvalidOperation) (.ref C_TooMany) = some false)
    (ss_InvalidNumber_InvalidNet : PySem.W.subIn K (.ref C_InvalidNumber) (.ref C_InvalidNet) = some false)
    (ss_InvalidNumber_InvalidRow : PySem.W.subIn K (.ref C_InvalidNumber) (.ref C_InvalidRow) = some false)
    (ss_InvalidNumber_InvalidReport : PySem.W.subIn K (.ref C_InvalidNumber) (.ref C_InvalidReport) = some false)
    (ss_InvalidNumber_InvalidOperation : PySem.W.subIn K (.ref C_InvalidNumber) (.ref C_InvalidOperation) = some false)
    (ss_InvalidNumber_InvalidNumber : PySem.W.subIn K (.ref C_InvalidNumber) (.ref C_InvalidNumber) = some true)
    (ss_InvalidNumber_TooMany : PySem.W.subIn K (.ref C_InvalidNumber) (.ref C_TooMany) = some false)
    (ss_TooMany_InvalidNet : PySem.W.subIn K (.ref C_TooMany) (.ref C_InvalidNet) = some false)
    (ss_TooMany_InvalidRow : PySem.W.subIn K (.ref C_TooMany) (.ref C_InvalidRow) = some false)
    (ss_TooMany_InvalidReport : PySem.W.subIn K (.ref C_TooMany) (.ref C_InvalidReport) = some false)
    (ss_TooMany_InvalidOperation : PySem.W.subIn K (.ref C_TooMany) (.ref C_InvalidOperation) = some false)
    (ss_TooMany_InvalidNumber : PySem.W.subIn K (.ref C_TooMany) (.ref C_InvalidNumber) = some false)
    (ss_TooMany_TooMany : PySem.W.subIn K (.ref C_TooMany) (.ref C_TooMany) = some true)
    (ne_33_43 : p_33 ≠ p_43) (ne_33_50 : p_33 ≠ p_50) (ne_33_52 : p_33 ≠ p_52) (ne_33_53 : p_33 ≠ p_53) (ne_43_33 : p_43 ≠ p_33) (ne_43_50 : p_43 ≠ p_50) (ne_43_52 : p_43 ≠ p_52) (ne_43_53 : p_43 ≠ p_53) (ne_50_33 : p_50 ≠ p_33) (ne_50_43 : p_50 ≠ p_43) (ne_50_52 : p_50 ≠ p_52) (ne_50_53 : p_50 ≠ p_53) (ne_52_33 : p_52 ≠ p_33) (ne_52_43 : p_52 ≠ p_43) (ne_52_50 : p_52 ≠ p_50) (ne_52_53 : p_52 ≠ p_53) (ne_53_33 : p_53 ≠ p_33) (ne_53_43 : p_53 ≠ p_43) (ne_53_50 : p_53 ≠ p_50) (ne_53_52 : p_53 ≠ p_52)
    : TopT l.prog w K mg fa h 12 "script" m_law := by
  have e := hfa.symm.trans (PySem.W.mg_of X G a53)
  cases e
  refine ⟨PySem.W.fnOf "law" "law" (defArgs (top 73)) (defBody (top 73)) (defScope (top 73)) .none kV53 dc53 pm53 an53 (.ref k_53) ct53, ⟨[(p_33, (("_law_wires" : Str) ++ ".<locals>." ++ "<lambda>")), (p_43, (("_law_ones" : Str) ++ ".<locals>." ++ "<lambda>")), (p_50, (("_law_twos" : Str) ++ ".<locals>." ++ "<lambda>")), (p_52, (("_law_right" : Str) ++ ".<locals>." ++ "<lambda>")), (p_53, (("law" : Str) ++ ".<locals>." ++ "<lambda>"))]⟩, [(k_33, p_33), (k_43, p_43), (k_50, p_50), (k_52, p_52), (k_53, p_53)], (al_cons (hts _ tC33) (al_cons (hts _ tC43) (al_cons (hts _ tC50) (al_cons (hts _ tC52) (al_cons (hts _ tC53) al_nil))))), (al_cons nC33 (al_cons nC43 (al_cons nC50 (al_cons nC52 (al_cons nC53 al_nil))))), (al_cons hC33 (al_cons hC43 (al_cons hC50 (al_cons hC52 (al_cons hC53 al_nil))))), (al_cons (by simp) (al_cons (by simp) (al_cons (by simp) (al_cons (by simp) (al_cons (by simp) al_nil))))), fun s v => .of_eq rfl, fun b hb hg TBs => ?_⟩
  letI : Tb := ⟨[(p_33, (("_law_wires" : Str) ++ ".<locals>." ++ "<lambda>")), (p_43, (("_law_ones" : Str) ++ ".<locals>." ++ "<lambda>")), (p_50, (("_law_twos" : Str) ++ ".<locals>." ++ "<lambda>")), (p_52, (("_law_right" : Str) ++ ".<locals>." ++ "<lambda>")), (p_53, (("law" : Str) ++ ".<locals>." ++ "<lambda>"))]⟩
  have hu33 : ∀ p ∈ Tb.T, p.1 = p_33 → p.2 = (("_law_wires" : Str) ++ ".<locals>." ++ "<lambda>") := (al_cons (fun _ => rfl) (al_cons (fun z => (ne_43_33 z).elim) (al_cons (fun z => (ne_50_33 z).elim) (al_cons (fun z => (ne_52_33 z).elim) (al_cons (fun z => (ne_53_33 z).elim) al_nil)))))
  have hm33 : (p_33, (("_law_wires" : Str) ++ ".<locals>." ++ "<lambda>")) ∈ Tb.T := by
    show _ ∈ (_ :: _ : List (Addr × Str))
    simp
  have hu43 : ∀ p ∈ Tb.T, p.1 = p_43 → p.2 = (("_law_ones" : Str) ++ ".<locals>." ++ "<lambda>") := (al_cons (fun z => (ne_33_43 z).elim) (al_cons (fun _ => rfl) (al_cons (fun z => (ne_50_43 z).elim) (al_cons (fun z => (ne_52_43 z).elim) (al_cons (fun z => (ne_53_43 z).elim) al_nil)))))
  have hm43 : (p_43, (("_law_ones" : Str) ++ ".<locals>." ++ "<lambda>")) ∈ Tb.T := by
    show _ ∈ (_ :: _ : List (Addr × Str))
    simp
  have hu50 : ∀ p ∈ Tb.T, p.1 = p_50 → p.2 = (("_law_twos" : Str) ++ ".<locals>." ++ "<lambda>") := (al_cons (fun z => (ne_33_50 z).elim) (al_cons (fun z => (ne_43_50 z).elim) (al_cons (fun _ => rfl) (al_cons (fun z => (ne_52_50 z).elim) (al_cons (fun z => (ne_53_50 z).elim) al_nil)))))
  have hm50 : (p_50, (("_law_twos" : Str) ++ ".<locals>." ++ "<lambda>")) ∈ Tb.T := by
    show _ ∈ (_ :: _ : List (Addr × Str))
    simp
  have hu52 : ∀ p ∈ Tb.T, p.1 = p_52 → p.2 = (("_law_right" : Str) ++ ".<locals>." ++ "<lambda>") := (al_cons (fun z => (ne_33_52 z).elim) (al_cons (fun z => (ne_43_52 z).elim) (al_cons (fun z => (ne_50_52 z).elim) (al_cons (fun _ => rfl) (al_cons (fun z => (ne_53_52 z).elim) al_nil)))))
  have hm52 : (p_52, (("_law_right" : Str) ++ ".<locals>." ++ "<lambda>")) ∈ Tb.T := by
    show _ ∈ (_ :: _ : List (Addr × Str))
    simp
  have hu53 : ∀ p ∈ Tb.T, p.1 = p_53 → p.2 = (("law" : Str) ++ ".<locals>." ++ "<lambda>") := (al_cons (fun z => (ne_33_53 z).elim) (al_cons (fun z => (ne_43_53 z).elim) (al_cons (fun z => (ne_50_53 z).elim) (al_cons (fun z => (ne_52_53 z).elim) (al_cons (fun _ => rfl) al_nil)))))
  have hm53 : (p_53, (("law" : Str) ++ ".<locals>." ++ "<lambda>")) ∈ Tb.T := by
    show _ ∈ (_ :: _ : List (Addr × Str))
    simp
  have hF : Facts l.prog w K mg b := {
    f__law_bag := ⟨_, _, PySem.W.mg_of X G a0, fun_mk (st := top 64) l0 k0 e0⟩
    f__law_met := ⟨_, _, PySem.W.mg_of X G a1, fun_mk (st := top 67) l1 k1 e1⟩
    f_is_within := ⟨_, _, PySem.W.mg_of X G a2, fun_mk (st := top 9) l2 k2 e2⟩
    f_are_wires := ⟨_, _, PySem.W.mg_of X G a3, fun_mk (st := top 20) l3 k3 e3⟩
    f_are_bits := ⟨_, _, PySem.W.mg_of X G a4, fun_mk (st := top 21) l4 k4 e4⟩
    f_is_gate := ⟨_, _, PySem.W.mg_of X G a5, fun_mk (st := top 22) l5 k5 e5⟩
    f_is_net_of := ⟨_, _, PySem.W.mg_of X G a6, fun_mk (st := top 23) l6 k6 e6⟩
    f_require_net := ⟨_, _, PySem.W.mg_of X G a7, fun_mk (st := top 40) l7 k7 e7⟩
    f_let_through := ⟨_, _, PySem.W.mg_of X G a8, fun_mk (st := top 43) l8 k8 e8⟩
    f_inputs_of := ⟨_, _, PySem.W.mg_of X G a9, fun_mk (st := top 29) l9 k9 e9⟩
    f_bit_of := ⟨_, _, PySem.W.mg_of X G a10, fun_mk (st := top 27) l10 k10 e10⟩
    f_table_in := ⟨_, _, PySem.W.mg_of X G a11, fun_mk (st := top 36) l11 k11 e11⟩
    f_moved_gate := ⟨_, _, PySem.W.mg_of X G a12, fun_mk (st := top 37) l12 k12 e12⟩
    f_beside := ⟨_, _, PySem.W.mg_of X G a13, fun_mk (st := top 56) l13 k13 e13⟩
    f_wires_in := ⟨_, _, PySem.W.mg_of X G a14, fun_mk (st := top 24) l14 k14 e14⟩
    f_joint_in := ⟨_, _, PySem.W.mg_of X G a15, fun_mk (st := top 58) l15 k15 e15⟩
    f_joint := ⟨_, _, PySem.W.mg_of X G a16, fun_mk (st := top 59) l16 k16 e16⟩
    f_behind := ⟨_, _, PySem.W.mg_of X G a17, fun_mk (st := top 57) l17 k17 e17⟩
    f__law_draw := ⟨_, _, PySem.W.mg_of X G a18, fun_mk (st := top 65) l18 k18 e18⟩
    f__law_one_of := ⟨_, _, PySem.W.mg_of X G a19, fun_mk (st := top 66) l19 k19 e19⟩
    f__law_bad := ⟨_, _, PySem.W.mg_of X G a20, fun_mk (st := top 68) l20 k20 e20⟩
    f_require_wire := ⟨_, _, PySem.W.mg_of X G a21, fun_mk (st := top 41) l21 k21 e21⟩
    f_bits_told := ⟨_, _, PySem.W.mg_of X G a22, fun_mk (st := top 33) l22 k22 e22⟩
    f_ones_of := ⟨_, _, PySem.W.mg_of X G a23, fun_mk (st := top 30) l23 k23 e23⟩
    f_wide_bit := ⟨_, _, PySem.W.mg_of X G a24, fun_mk (st := top 31) l24 k24 e24⟩
    f_wide_run := ⟨_, _, PySem.W.mg_of X G a25, fun_mk (st := top 32) l25 k25 e25⟩
    f_column := ⟨_, _, PySem.W.mg_of X G a26, fun_mk (st := top 47) l26 k26 e26⟩
    f_is_input := ⟨_, _, PySem.W.mg_of X G a27, fun_mk (st := top 25) l27 k27 e27⟩
    f_gate_at := ⟨_, _, PySem.W.mg_of X G a28, fun_mk (st := top 26) l28 k28 e28⟩
    f_cone_in := ⟨_, _, PySem.W.mg_of X G a29, fun_mk (st := top 34) l29 k29 e29⟩
    f_cone := ⟨_, _, PySem.W.mg_of X G a30, fun_mk (st := top 49) l30 k30 e30⟩
    f_readers := ⟨_, _, PySem.W.mg_of X G a31, fun_mk (st := top 52) l31 k31 e31⟩
    f_tail_table := ⟨_, _, PySem.W.mg_of X G a32, fun_mk (st := top 54) l32 k32 e32⟩
    f__law_wires := ⟨_, _, _, _, PySem.W.mg_of X G a33, fun_mk (st := top 69) l33 k33 e33, rfl, TBs (k_33, p_33) (by simp), hm33, hu33⟩
    f_require_row := ⟨_, _, PySem.W.mg_of X G a34, fun_mk (st := top 42) l34 k34 e34⟩
    f_run_in := ⟨_, _, PySem.W.mg_of X G a35, fun_mk (st := top 28) l35 k35 e35⟩
    f_run_of := ⟨_, _, PySem.W.mg_of X G a36, fun_mk (st := top 45) l36 k36 e36⟩
    f_ends_at := ⟨_, _, PySem.W.mg_of X G a37, fun_mk (st := top 46) l37 k37 e37⟩
    f_end_columns := ⟨_, _, PySem.W.mg_of X G a38, fun_mk (st := top 48) l38 k38 e38⟩
    f_levels_in := ⟨_, _, PySem.W.mg_of X G a39, fun_mk (st := top 35) l39 k39 e39⟩
    f_levels := ⟨_, _, PySem.W.mg_of X G a40, fun_mk (st := top 50) l40 k40 e40⟩
    f_depth := ⟨_, _, PySem.W.mg_of X G a41, fun_mk (st := top 51) l41 k41 e41⟩
    f_gate_counts := ⟨_, _, PySem.W.mg_of X G a42, fun_mk (st := top 53) l42 k42 e42⟩
    f__law_ones := ⟨_, _, _, _, PySem.W.mg_of X G a43, fun_mk (st := top 70) l43 k43 e43, rfl, TBs (k_43, p_43) (by simp), hm43, hu43⟩
    f_require_like := ⟨_, _, PySem.W.mg_of X G a44, fun_mk (st := top 44) l44 k44 e44⟩
    f_row_at := ⟨_, _, PySem.W.mg_of X G a45, fun_mk (st := top 38) l45 k45 e45⟩
    f_unlike_in := ⟨_, _, PySem.W.mg_of X G a46, fun_mk (st := top 39) l46 k46 e46⟩
    f_alike_paper := ⟨_, _, PySem.W.mg_of X G a47, fun_mk (st := top 60) l47 k47 e47⟩
    f_is_alike_paper := ⟨_, _, PySem.W.mg_of X G a48, fun_mk (st := top 61) l48 k48 e48⟩
    f_are_alike := ⟨_, _, PySem.W.mg_of X G a49, fun_mk (st := top 62) l49 k49 e49⟩
    f__law_twos := ⟨_, _, _, _, PySem.W.mg_of X G a50, fun_mk (st := top 71) l50 k50 e50, rfl, TBs (k_50, p_50) (by simp), hm50, hu50⟩
    f_with_ends := ⟨_, _, PySem.W.mg_of X G a51, fun_mk (st := top 55) l51 k51 e51⟩
    f__law_right := ⟨_, _, _, _, PySem.W.mg_of X G a52, fun_mk (st := top 72) l52 k52 e52, rfl, TBs (k_52, p_52) (by simp), hm52, hu52⟩
    f_law := ⟨_, _, _, _, PySem.W.mg_of X G a53, fun_mk (st := top 73) l53 k53 e53, rfl, TBs (k_53, p_53) (by simp), hm53, hu53⟩
    z_abs := PySem.W.mg_none_of X G z_abs
    z_all := PySem.W.mg_none_of X G z_all
    z_bool := PySem.W.mg_none_of X G z_bool
    z_enumerate := PySem.W.mg_none_of X G z_enumerate
    z_int := PySem.W.mg_none_of X G z_int
    z_isinstance := PySem.W.mg_none_of X G z_isinstance
    z_len := PySem.W.mg_none_of X G z_len
    z_list := PySem.W.mg_none_of X G z_list
    z_max := PySem.W.mg_none_of X G z_max
    z_min := PySem.W.mg_none_of X G z_min
    z_range := PySem.W.mg_none_of X G z_range
    z_repr := PySem.W.mg_none_of X G z_repr
    z_sorted := PySem.W.mg_none_of X G z_sorted
    z_str := PySem.W.mg_none_of X G z_str
    z_sum := PySem.W.mg_none_of X G z_sum
    z_tuple := PySem.W.mg_none_of X G z_tuple
    z_zip := PySem.W.mg_none_of X G z_zip
    c_ALIKE := ⟨_, PySem.W.mg_of X G c_ALIKE⟩
    c_INPUT := ⟨_, PySem.W.mg_of X G c_INPUT⟩
    c_KINDS := ⟨_, PySem.W.mg_of X G c_KINDS, ftp_K (vs := [.str "and", .str "choose", .str "most", .str "not", .str "one", .str "or", .str "table", .str "xor", .str "zero"]) (ds := [.str "and", .str "choose", .str "most", .str "not", .str "one", .str "or", .str "table", .str "xor", .str "zero"]) l_KINDS_0 (by first | decide | simp) (.cons (by exact ⟨_, rfl⟩) (.cons (by exact ⟨_, rfl⟩) (.cons (by exact ⟨_, rfl⟩) (.cons (by exact ⟨_, rfl⟩) (.cons (by exact ⟨_, rfl⟩) (.cons (by exact ⟨_, rfl⟩) (.cons (by exact ⟨_, rfl⟩) (.cons (by exact ⟨_, rfl⟩) (.cons (by exact ⟨_, rfl⟩) (.nil)))))))))) (fun F ι => .cons (.str _) (.cons (.str _) (.cons (.str _) (.cons (.str _) (.cons (.str _) (.cons (.str _) (.cons (.str _) (.cons (.str _) (.cons (.str _) (.nil))))))))))⟩
    c_MOST_ENDS := ⟨_, PySem.W.mg_of X G c_MOST_ENDS⟩
    c_MOST_GATES := ⟨_, PySem.W.mg_of X G c_MOST_GATES⟩
    c_MOST_INPUTS := ⟨_, PySem.W.mg_of X G c_MOST_INPUTS⟩
    c_MOST_TABLED := ⟨_, PySem.W.mg_of X G c_MOST_TABLED⟩
    c_SIZES := ⟨_, PySem.W.mg_of X G c_SIZES, _, _, ⟨l_SIZES, ⟨⟨_, _, rfl, rfl⟩, ⟨⟨_, _, rfl, rfl⟩, ⟨⟨_, _, rfl, rfl⟩, ⟨⟨_, _, rfl, rfl⟩, ⟨⟨_, _, rfl, rfl⟩, ⟨⟨_, _, rfl, rfl⟩, ⟨⟨_, _, rfl, rfl⟩, ⟨⟨_, _, rfl, rfl⟩, trivial⟩⟩⟩⟩⟩⟩⟩⟩, s_SIZES⟩, .cons ⟨_, rfl⟩ ⟨_, rfl⟩ (.cons ⟨_, rfl⟩ ⟨_, rfl⟩ (.cons ⟨_, rfl⟩ ⟨_, rfl⟩ (.cons ⟨_, rfl⟩ ⟨_, rfl⟩ (.cons ⟨_, rfl⟩ ⟨_, rfl⟩ (.cons ⟨_, rfl⟩ ⟨_, rfl⟩ (.cons ⟨_, rfl⟩ ⟨_, rfl⟩ (.cons ⟨_, rfl⟩ ⟨_, rfl⟩ (.nil))))))))⟩
    c_TABLE := ⟨_, PySem.W.mg_of X G c_TABLE⟩
    x_InvalidNet := ⟨C_InvalidNet, ⟨PySem.W.mg_of X G gC_InvalidNet, PySem.F.excBase_ValueError, xI_InvalidNet, xb_InvalidNet, xt_InvalidNet, xk_InvalidNet⟩⟩
    x_InvalidNumber := ⟨C_InvalidNumber, ⟨PySem.W.mg_of X G gC_InvalidNumber, PySem.F.excBase_IndexError, PySem.W.kxs_IndexError, PySem.F.store_IndexError, xI_InvalidNumber, ov_InvalidNumber, hd_InvalidNumber, sa_InvalidNumber, ga_InvalidNumber, gg_InvalidNumber, nf_InvalidNumber, xb_InvalidNumber, xt_InvalidNumber, xk_InvalidNumber, x_op, sB_InvalidNumber, sm_InvalidNumber, sC_InvalidNumber, PySem.W.mg_none_of X G x_su, fI_InvalidNumber, cda_InvalidNumber, cc_InvalidNumber, "InvalidNumber.__init__", _, _, _, _, _, _, _, _, _, _, _, _, _, _, _, _, _, _, _, _, _, _, _, _, _, _, _, _, iC_InvalidNumber, tI_InvalidNumber, lI_InvalidNumber, cI_InvalidNumber, lcc_InvalidNumber, lcd_InvalidNumber, v2_InvalidNumber, fe_InvalidNumber, tp_InvalidNumber, pe_InvalidNumber⟩⟩
    x_InvalidOperation := ⟨C_InvalidOperation, ⟨PySem.W.mg_of X G gC_InvalidOperation, PySem.F.excBase_ValueError, xI_InvalidOperation, xb_InvalidOperation, xt_InvalidOperation, xk_InvalidOperation⟩⟩
    x_InvalidReport := ⟨C_InvalidReport, ⟨PySem.W.mg_of X G gC_InvalidReport, PySem.F.excBase_ValueError, xI_InvalidReport, xb_InvalidReport, xt_InvalidReport, xk_InvalidReport⟩⟩
    x_InvalidRow := ⟨C_InvalidRow, ⟨PySem.W.mg_of X G gC_InvalidRow, PySem.F.excBase_ValueError, xI_InvalidRow, xb_InvalidRow, xt_InvalidRow, xk_InvalidRow⟩⟩
    x_TooMany := ⟨C_TooMany, ⟨PySem.W.mg_of X G gC_TooMany, PySem.F.excBase_OverflowError, PySem.W.kxs_OverflowError, PySem.F.store_OverflowError, xI_TooMany, ov_TooMany, hd_TooMany, sa_TooMany, ga_TooMany, gg_TooMany, nf_TooMany, xb_TooMany, xt_TooMany, xk_TooMany, x_op, sB_TooMany, sm_TooMany, sC_TooMany, PySem.W.mg_none_of X G x_su, fI_TooMany, cda_TooMany, cc_TooMany, "TooMany.__init__", _, _, _, _, _, _, _, _, _, _, _, _, _, _, _, _, _, _, _, _, _, _, _, _, _, _, _, _, iC_TooMany, tI_TooMany, lI_TooMany, cI_TooMany, lcc_TooMany, lcd_TooMany, v2_TooMany, fe_TooMany, tp_TooMany, pe_TooMany⟩⟩
    xs := ⟨C_InvalidNet, C_InvalidRow, C_InvalidReport, C_InvalidOperation, C_InvalidNumber, C_TooMany, XCs.of (al_cons ⟨PySem.W.mg_of X G gC_InvalidNet, xb_InvalidNet, xc2_InvalidNet, xt_InvalidNet⟩ (al_cons ⟨PySem.W.mg_of X G gC_InvalidRow, xb_InvalidRow, xc2_InvalidRow, xt_InvalidRow⟩ (al_cons ⟨PySem.W.mg_of X G gC_InvalidReport, xb_InvalidReport, xc2_InvalidReport, xt_InvalidReport⟩ (al_cons ⟨PySem.W.mg_of X G gC_InvalidOperation, xb_InvalidOperation, xc2_InvalidOperation, xt_InvalidOperation⟩ (al_cons ⟨PySem.W.mg_of X G gC_InvalidNumber, xb_InvalidNumber, xc2_InvalidNumber, xt_InvalidNumber⟩ (al_cons ⟨PySem.W.mg_of X G gC_TooMany, xb_TooMany, xc2_TooMany, xt_TooMany⟩ al_nil)))))) (al_cons ((al_cons (ss_InvalidNet_InvalidNet.trans (show some true = some (("InvalidNet" : Str) == "InvalidNet") by decide +kernel)) (al_cons (ss_InvalidNet_InvalidRow.trans (show some false = some (("InvalidNet" : Str) == "InvalidRow") by decide +kernel)) (al_cons (ss_InvalidNet_InvalidReport.trans (show some false = some (("InvalidNet" : Str) == "InvalidReport") by decide +kernel)) (al_cons (ss_InvalidNet_InvalidOperation.trans (show some false = some (("InvalidNet" : Str) == "InvalidOperation") by decide +kernel)) (al_cons (ss_InvalidNet_InvalidNumber.trans (show some false = some (("InvalidNet" : Str) == "InvalidNumber") by decide +kernel)) (al_cons (ss_InvalidNet_TooMany.trans (show some false = some (("InvalidNet" : Str) == "TooMany") by decide +kernel)) al_nil))))))) (al_cons ((al_cons (ss_InvalidRow_InvalidNet.trans (show some false = some (("InvalidRow" : Str) == "InvalidNet") by decide +kernel)) (al_cons (ss_InvalidRow_InvalidRow.trans (show some true = some (("InvalidRow" : Str) == "InvalidRow") by decide +kernel)) (al_cons (ss_InvalidRow_InvalidReport.trans (show some false = some (("InvalidRow" : Str) == "InvalidReport") by decide +kernel)) (al_cons (ss_InvalidRow_InvalidOperation.trans (show some false = some (("InvalidRow" : Str) == "InvalidOperation") by decide +kernel)) (al_cons (ss_InvalidRow_InvalidNumber.trans (show some false = some (("InvalidRow" : Str) == "InvalidNumber") by decide +kernel)) (al_cons (ss_InvalidRow_TooMany.trans (show some false = some (("InvalidRow" : Str) == "TooMany") by decide +kernel)) al_nil))))))) (al_cons ((al_cons (ss_InvalidReport_InvalidNet.trans (show some false = some (("InvalidReport" : Str) == "InvalidNet") by decide +kernel)) (al_cons (ss_InvalidReport_InvalidRow.trans (show some false = some (("InvalidReport" : Str) == "InvalidRow") by decide +kernel)) (al_cons (ss_InvalidReport_InvalidReport.trans (show some true = some (("InvalidReport" : Str) == "InvalidReport") by decide +kernel)) (al_cons (ss_InvalidReport_InvalidOperation.trans (show some false = some (("InvalidReport" : Str) == "InvalidOperation") by decide +kernel)) (al_cons (ss_InvalidReport_InvalidNumber.trans (show some false = some (("InvalidReport" : Str) == "InvalidNumber") by decide +kernel)) (al_cons (ss_InvalidReport_TooMany.trans (show some false = some (("InvalidReport" : Str) == "TooMany") by decide +kernel)) al_nil))))))) (al_cons ((al_cons (ss_InvalidOperation_InvalidNet.trans (show some false = some (("InvalidOperation" : Str) == "InvalidNet") by decide +kernel)) (al_cons (ss_InvalidOperation_InvalidRow.trans (show some false = some (("InvalidOperation" : Str) == "InvalidRow") by decide +kernel)) (al_cons (ss_InvalidOperation_InvalidReport.trans (show some false = some (("InvalidOperation" : Str) == "InvalidReport") by decide +kernel)) (al_cons (ss_InvalidOperation_InvalidOperation.trans (show some true = some (("InvalidOperation" : Str) == "InvalidOperation") by decide +kernel)) (al_cons (ss_InvalidOperation_InvalidNumber.trans (show some false = some (("InvalidOperation" : Str) == "InvalidNumber") by decide +kernel)) (al_cons (ss_InvalidOperation_TooMany.trans (show some false = some (("InvalidOperation" : Str) == "TooMany") by decide +kernel)) al_nil))))))) (al_cons ((al_cons (ss_InvalidNumber_InvalidNet.trans (show some false = some (("InvalidNumber" : Str) == "InvalidNet") by decide +kernel)) (al_cons (ss_InvalidNumber_InvalidRow.trans (show some false = some (("InvalidNumber" : Str) == "InvalidRow") by decide +kernel)) (al_cons (ss_InvalidNumber_InvalidReport.trans (show some false = some (("InvalidNumber" : Str) == "InvalidReport") by decide +kernel)) (al_cons (ss_InvalidNumber_InvalidOperation.trans (show some false = some (("InvalidNumber" : Str) == "InvalidOperation") by decide +kernel)) (al_cons (ss_InvalidNumber_InvalidNumber.trans (show some true = some (("InvalidNumber" : Str) == "InvalidNumber") by decide +kernel)) (al_cons (ss_InvalidNumber_TooMany.trans (show some false = some (("InvalidNumber" : Str) == "TooMany") by decide +kernel)) al_nil))))))) (al_cons ((al_cons (ss_TooMany_InvalidNet.trans (show some false = some (("TooMany" : Str) == "InvalidNet") by decide +kernel)) (al_cons (ss_TooMany_InvalidRow.trans (show some false = some (("TooMany" : Str) == "InvalidRow") by decide +kernel)) (al_cons (ss_TooMany_InvalidReport.trans (show some false = some (("TooMany" : Str) == "InvalidReport") by decide +kernel)) (al_cons (ss_TooMany_InvalidOperation.trans (show some false = some (("TooMany" : Str) == "InvalidOperation") by decide +kernel)) (al_cons (ss_TooMany_InvalidNumber.trans (show some false = some (("TooMany" : Str) == "InvalidNumber") by decide +kernel)) (al_cons (ss_TooMany_TooMany.trans (show some true = some (("TooMany" : Str) == "TooMany") by decide +kernel)) al_nil))))))) al_nil)))))), ⟨PySem.W.mg_of X G gC_InvalidNumber, PySem.F.excBase_IndexError, PySem.W.kxs_IndexError, PySem.F.store_IndexError, xI_InvalidNumber, ov_InvalidNumber, hd_InvalidNumber, sa_InvalidNumber, ga_InvalidNumber, gg_InvalidNumber, nf_InvalidNumber, xb_InvalidNumber, xt_InvalidNumber, xk_InvalidNumber, x_op, sB_InvalidNumber, sm_InvalidNumber, sC_InvalidNumber, PySem.W.mg_none_of X G x_su, fI_InvalidNumber, cda_InvalidNumber, cc_InvalidNumber, "InvalidNumber.__init__", _, _, _, _, _, _, _, _, _, _, _, _, _, _, _, _, _, _, _, _, _, _, _, _, _, _, _, _, iC_InvalidNumber, tI_InvalidNumber, lI_InvalidNumber, cI_InvalidNumber, lcc_InvalidNumber, lcd_InvalidNumber, v2_InvalidNumber, fe_InvalidNumber, tp_InvalidNumber, pe_InvalidNumber⟩, ⟨PySem.W.mg_of X G gC_TooMany, PySem.F.excBase_OverflowError, PySem.W.kxs_OverflowError, PySem.F.store_OverflowError, xI_TooMany, ov_TooMany, hd_TooMany, sa_TooMany, ga_TooMany, gg_TooMany, nf_TooMany, xb_TooMany, xt_TooMany, xk_TooMany, x_op, sB_TooMany, sm_TooMany, sC_TooMany, PySem.W.mg_none_of X G x_su, fI_TooMany, cda_TooMany, cc_TooMany, "TooMany.__init__", _, _, _, _, _, _, _, _, _, _, _, _, _, _, _, _, _, _, _, _, _, _, _, _, _, _, _, _, iC_TooMany, tI_TooMany, lI_TooMany, cI_TooMany, lcc_TooMany, lcd_TooMany, v2_TooMany, fe_TooMany, tp_TooMany, pe_TooMany⟩⟩
  }
  exact G_law hF (fun_mk (st := top 73) l53 k53 e53) rfl (TBs (k_53, p_53) (by simp)) hm53 hu53
/- 

-/
end TL

/-! Error laws: draws of a box of two numbers; facts by finite lists. -/
namespace TL
open PySem PySem.Spec PyProof.Rows L2 StX
/-! ### draws -/
theorem draw1 {b : Nat} {μ0 μ : Store} {t : Int} (hJ : Bx I2 b 0 μ0 μ) (h0 : 0 < t) (ht : t < 2 ^ 200) : ∃ v μ', m__law_draw [.cell b, .int t] μ = .ok (.int v) μ' ∧ 0 ≤ v ∧ v < t ∧ Bx I2 b 0 μ0 μ' := by
  have hJ' := hJ
  obtain ⟨⟨_, hb, x, y, rfl, hx, hy, hy2⟩, _, _, _⟩ := hJ'
  have i0 : ∀ a c : Int, atI [T.int a, .int c] 0 = some (.int a) := fun _ _ => rfl
  have i1 : ∀ a c : Int, atI [T.int a, .int c] 1 = some (.int c) := fun _ _ => rfl
  have pu : ∀ a c : Int, pureTs [T.int a, .int c] = true := fun _ _ => rfl
  have nt : t.natAbs < 2 ^ 200 := by omega
  have lt : t.natAbs.log2 < 9000 := Nat.lt_of_le_of_lt (log2_le nt) (by decide)
  have l1 := x_ldc hb
  by_cases hpos : 0 < x
  · refine ⟨x % t, _, ?_, Int.emod_nonneg _ (by omega), Int.emod_lt_of_pos _ h0, hJ.set ⟨x / t, y, rfl, Int.ediv_nonneg hx (by omega), hy, hy2⟩ (pu _ _)⟩
    have s1 : gSet (.cell b) (.int 0) (.int (x / t)) μ = .ok () (μ.set b ⟨true, .lst [T.int (x / t), .int y]⟩) := x_gset (n := 0) hb rfl
    unfold m__law_draw
    simp only [x_bind, x_ok, x_pure, x_no, x_nob, x_mkFn, x_endr, x_endn, x_sl0, x_sl1, x_sl2, x_seq, x_seqn, x_seqr, x_seqb, x_seqc, x_nil, x_ret, x_exp, x_if, x_set, x_tgt, x_par, x_for, x_var, x_varR, x_c, x_op, x_un, x_ld2, x_ldi, x_ldb, x_lds, x_ldn, x_ldl, x_ldf, x_ldt, x_ldy, x_and, x_andt, x_andf, x_or, x_ort, x_orf, x_not, x_bT, x_asB, x_band, x_bor, x_bnot, x_eif, x_ct, x_cf, x_echain, x_bchain, x_anil, x_acons, x_astar, x_itl, x_itf, x_itt, x_tup, x_lst, x_okL, x_tree, x_cell, x_newC, x_eB, x_lB, x_iB, x_iSeq, x_g1, x_g2, x_call, x_sl, x_onone, x_osome, x_asO, x_name, x_hnil, x_hcons, x_htup, x_hsub, x_comp, x_yes, x_w0, x_w1, x_add, x_sub, x_mod, x_fdiv, x_shr, x_bit, x_cmp, x_lt, x_neg, x_eqi, x_nei, x_ess, x_nss, x_lenl, x_lenf, x_lent, x_int, x_intb, x_max2, x_min2, x_tupl, x_r1, x_r2, x_revl, x_revt, x_ixt, x_ixl, x_ixf, x_ofO, x_slt, x_sll, List.getElem?_cons_zero, List.getElem?_cons_succ, List.set_cons_zero, List.set_cons_succ, List.length_cons, List.length_nil, Bool.not_true, Bool.not_false, l1, i0, s1, decide_eq_true hpos, decide_eq_true h0, decide_eq_true lt, Bool.true_and]
  · have o1 : 0 ≤ (y * 6364136223 + 1442695041) % 2305843009213693951 ∧ (y * 6364136223 + 1442695041) % 2305843009213693951 < 2305843009213693951 := ⟨Int.emod_nonneg _ (by decide), Int.emod_lt_of_pos _ (by decide)⟩
    have m1 : gMulA (.int y) (.int 6364136223) μ = _ := x_mulh 64 64 (by omega) (by decide) (by decide)
    have p1 : gPowW (.int 2) (.int 61) μ = .ok (.int 2305843009213693952) μ := by rfl
    generalize ho : (y * 6364136223 + 1442695041) % 2305843009213693951 = one at o1
    have s1 : gSet (.cell b) (.int 1) (.int one) μ = .ok () (μ.set b ⟨true, .lst [T.int x, .int one]⟩) := x_gset (n := 1) hb rfl
    have hb1 : (μ.set b ⟨true, .lst [T.int x, .int one]⟩)[b]? = some ⟨true, .lst [.int x, .int one]⟩ := set_at hb
    have l2 := x_ldc hb1
    refine ⟨one / 65537 % t, _, ?_, Int.emod_nonneg _ (by omega), Int.emod_lt_of_pos _ h0, hJ.set ⟨x, one, rfl, hx, o1.1, o1.2⟩ (pu _ _)⟩
    unfold m__law_draw
    simp only [x_bind, x_ok, x_pure, x_no, x_nob, x_mkFn, x_endr, x_endn, x_sl0, x_sl1, x_sl2, x_seq, x_seqn, x_seqr, x_seqb, x_seqc, x_nil, x_ret, x_exp, x_if, x_set, x_tgt, x_par, x_for, x_var, x_varR, x_c, x_op, x_un, x_ld2, x_ldi, x_ldb, x_lds, x_ldn, x_ldl, x_ldf, x_ldt, x_ldy, x_and, x_andt, x_andf, x_or, x_ort, x_orf, x_not, x_bT, x_asB, x_band, x_bor, x_bnot, x_eif, x_ct, x_cf, x_echain, x_bchain, x_anil, x_acons, x_astar, x_itl, x_itf, x_itt, x_tup, x_lst, x_okL, x_tree, x_cell, x_newC, x_eB, x_lB, x_iB, x_iSeq, x_g1, x_g2, x_call, x_sl, x_onone, x_osome, x_asO, x_name, x_hnil, x_hcons, x_htup, x_hsub, x_comp, x_yes, x_w0, x_w1, x_add, x_sub, x_mod, x_fdiv, x_shr, x_bit, x_cmp, x_lt, x_neg, x_eqi, x_nei, x_ess, x_nss, x_lenl, x_lenf, x_lent, x_int, x_intb, x_max2, x_min2, x_tupl, x_r1, x_r2, x_revl, x_revt, x_ixt, x_ixl, x_ixf, x_ofO, x_slt, x_sll, List.getElem?_cons_zero, List.getElem?_cons_succ, List.set_cons_zero, List.set_cons_succ, List.length_cons, List.length_nil, Bool.not_true, Bool.not_false, l1, l2, i0, i1, s1, m1, p1, ho, decide_eq_false hpos, decide_eq_true h0, Bool.true_and, Int.reduceSub, show decide ((0 : Int) < 2305843009213693951) = true by decide, show (decide ((0 : Int) < 65537) && decide ((65537 : Int).natAbs.log2 < 9000)) = true by decide]
theorem draw {b : Nat} {μ0 μ : Store} {t : Int} (hJ : Bx I2 b 0 μ0 μ) (h0 : 0 < t) (ht : t < 2 ^ 200) : ∃ v μ', callX m__law_draw [.cell b, .int t] μ = .ok (.int v) μ' ∧ 0 ≤ v ∧ v < t ∧ Bx I2 b 0 μ0 μ' := by
  obtain ⟨v, μ', e, a, c, j⟩ := draw1 hJ h0 ht
  exact ⟨v, μ', callX_box cellargs e (by rw [j.len, hJ.len]), a, c, j⟩
theorem one_of {b : Nat} {μ0 μ : Store} {ds : List T} (hJ : Bx I2 b 0 μ0 μ) (h0 : ds ≠ []) (h1 : ds.length < 2 ^ 60) : ∃ d μ', callX m__law_one_of [.cell b, .lst ds] μ = .ok d μ' ∧ d ∈ ds ∧ Bx I2 b 0 μ0 μ' := by
  have hl : 0 < ds.length := List.length_pos_iff.mpr h0
  obtain ⟨v, μ', e, a, c, j⟩ := draw hJ (t := (ds.length : Int)) (by omega) (by omega)
  obtain ⟨d, hd, hm⟩ := atI_mem a c
  refine ⟨d, μ', callX_box cellargs ?_ (by rw [j.len, hJ.len]), hm, j⟩
  unfold m__law_one_of
  simp only [x_bind, x_ok, x_pure, x_no, x_nob, x_mkFn, x_endr, x_endn, x_sl0, x_sl1, x_sl2, x_seq, x_seqn, x_seqr, x_seqb, x_seqc, x_nil, x_ret, x_exp, x_if, x_set, x_tgt, x_par, x_for, x_var, x_varR, x_c, x_op, x_un, x_ld2, x_ldi, x_ldb, x_lds, x_ldn, x_ldl, x_ldf, x_ldt, x_ldy, x_and, x_andt, x_andf, x_or, x_ort, x_orf, x_not, x_bT, x_asB, x_band, x_bor, x_bnot, x_eif, x_ct, x_cf, x_echain, x_bchain, x_anil, x_acons, x_astar, x_itl, x_itf, x_itt, x_tup, x_lst, x_okL, x_tree, x_cell, x_newC, x_eB, x_lB, x_iB, x_iSeq, x_g1, x_g2, x_call, x_sl, x_onone, x_osome, x_asO, x_name, x_hnil, x_hcons, x_htup, x_hsub, x_comp, x_yes, x_w0, x_w1, x_add, x_sub, x_mod, x_fdiv, x_shr, x_bit, x_cmp, x_lt, x_neg, x_eqi, x_nei, x_ess, x_nss, x_lenl, x_lenf, x_lent, x_int, x_intb, x_max2, x_min2, x_tupl, x_r1, x_r2, x_revl, x_revt, x_ixt, x_ixl, x_ixf, x_ofO, x_slt, x_sll, List.getElem?_cons_zero, List.getElem?_cons_succ, List.set_cons_zero, List.set_cons_succ, List.length_cons, List.length_nil, Bool.not_true, Bool.not_false, Int.reduceEq, Int.reduceLT, Int.reduceLE, at_0, at_1, x_callX, x_eFrz, x_lc0, x_lc1, x_noErr, x_noErrR, x_lcs, x_lcn, x_turn, x_iAny, x_frzl, x_frzf, x_frzt, x_frzp, x_frzi, x_eachl, x_eacht, beq_self_eq_true, eq_self, decide_true, decide_false, Bool.true_and, Bool.false_and, Bool.and_true, Bool.and_false, Bool.and_self, Bool.true_or, Bool.false_or, Bool.or_self, cond_true, cond_false, is_i_int, is_i_bool, is_i_str, is_i_tuple, is_i_list, is_i_dict, is_b_int, is_b_bool, is_b_str, is_b_tuple, is_b_list, is_b_dict, is_s_int, is_s_bool, is_s_str, is_s_tuple, is_s_list, is_s_dict, is_l_int, is_l_bool, is_l_str, is_l_tuple, is_l_list, is_l_dict, is_t_int, is_t_bool, is_t_str, is_t_tuple, is_t_list, is_t_dict, is_n_int, is_n_bool, is_n_str, is_n_tuple, is_n_list, is_n_dict, is_p_int, is_p_bool, is_p_str, is_p_tuple, is_p_list, is_p_dict, fi_0, be_0, n_1, fi_1, be_1, n_2, fi_2, be_2, n_3, fi_3, be_3, n_4, fi_4, be_4, n_5, fi_5, be_5, n_6, fi_6, be_6, n_7, fi_7, be_7, n_8, fi_8, be_8, e, hd]
theorem one_int {b : Nat} {μ0 μ : Store} {is : List Int} (hJ : Bx I2 b 0 μ0 μ) (h0 : is ≠ []) (h1 : is.length < 2 ^ 60) : ∃ i μ', callX m__law_one_of [.cell b, .lst (is.map T.int)] μ = .ok (.int i) μ' ∧ i ∈ is ∧ Bx I2 b 0 μ0 μ' := by
  obtain ⟨d, μ', e, m, j⟩ := one_of (ds := is.map T.int) hJ (by simpa using h0) (by rw [List.length_map]; exact h1)
  obtain ⟨i, hi, rfl⟩ := List.mem_map.mp m
  exact ⟨i, μ', e, hi, j⟩
/-! ### the box -/
def cellE : Env → M T := eIf (bT (eOp (ld2 gLt) (eVar 1) (eB (g1 gLen) (aCons (eVar 0) aNil)))) (eB (g1 gInt) (aCons (eOp (ld2 gIx) (eVar 0) (eVar 1)) aNil)) (eOp (ld2 gAdd) (eOp (ld2 gMulA) (eC (.int 89)) (eVar 1)) (eC (.int 41)))
theorem box1 (ns : List Int) (k : Nat) (hk : k ≤ 3) (μ : Store) : ∃ x y : Int, 0 ≤ x ∧ 0 ≤ y ∧ y < 2305843009213693951 ∧ m__law_bag [scriptT ns, .int (k : Int)] μ = .ok (.cell μ.length) (μ ++ [⟨true, .lst [.int x, .int y]⟩]) := by
  have hc : ∃ c : Int, cellE [some (scriptT ns), some (.int (k : Int)), none, none, none] μ = .ok (.int c) μ := by
    by_cases h : k < ns.length
    · refine ⟨ns[k], ?_⟩
      have e : atI (ns.map T.int) (k : Int) = some (.int ns[k]) := by
        rw [atI_int h]
        simp [List.getD, h]
      unfold cellE
      simp only [x_bind, x_ok, x_pure, x_no, x_nob, x_mkFn, x_endr, x_endn, x_sl0, x_sl1, x_sl2, x_seq, x_seqn, x_seqr, x_seqb, x_seqc, x_nil, x_ret, x_exp, x_if, x_set, x_tgt, x_par, x_for, x_var, x_varR, x_c, x_op, x_un, x_ld2, x_ldi, x_ldb, x_lds, x_ldn, x_ldl, x_ldf, x_ldt, x_ldy, x_and, x_andt, x_andf, x_or, x_ort, x_orf, x_not, x_bT, x_asB, x_band, x_bor, x_bnot, x_eif, x_ct, x_cf, x_echain, x_bchain, x_anil, x_acons, x_astar, x_itl, x_itf, x_itt, x_tup, x_lst, x_okL, x_tree, x_cell, x_newC, x_eB, x_lB, x_iB, x_iSeq, x_g1, x_g2, x_call, x_sl, x_onone, x_osome, x_asO, x_name, x_hnil, x_hcons, x_htup, x_hsub, x_comp, x_yes, x_w0, x_w1, x_add, x_sub, x_mod, x_fdiv, x_shr, x_bit, x_cmp, x_lt, x_neg, x_eqi, x_nei, x_ess, x_nss, x_lenl, x_lenf, x_lent, x_int, x_intb, x_max2, x_min2, x_tupl, x_r1, x_r2, x_revl, x_revt, x_ixt, x_ixl, x_ixf, x_ofO, x_slt, x_sll, List.getElem?_cons_zero, List.getElem?_cons_succ, List.set_cons_zero, List.set_cons_succ, List.length_cons, List.length_nil, Bool.not_true, Bool.not_false, scriptT, List.length_map, decide_eq_true (show (k : Int) < (ns.length : Int) by omega), e]
    · refine ⟨89 * (k : Int) + 41, ?_⟩
      unfold cellE
      simp only [x_bind, x_ok, x_pure, x_no, x_nob, x_mkFn, x_endr, x_endn, x_sl0, x_sl1, x_sl2, x_seq, x_seqn, x_seqr, x_seqb, x_seqc, x_nil, x_ret, x_exp, x_if, x_set, x_tgt, x_par, x_for, x_var, x_varR, x_c, x_op, x_un, x_ld2, x_ldi, x_ldb, x_lds, x_ldn, x_ldl, x_ldf, x_ldt, x_ldy, x_and, x_andt, x_andf, x_or, x_ort, x_orf, x_not, x_bT, x_asB, x_band, x_bor, x_bnot, x_eif, x_ct, x_cf, x_echain, x_bchain, x_anil, x_acons, x_astar, x_itl, x_itf, x_itt, x_tup, x_lst, x_okL, x_tree, x_cell, x_newC, x_eB, x_lB, x_iB, x_iSeq, x_g1, x_g2, x_call, x_sl, x_onone, x_osome, x_asO, x_name, x_hnil, x_hcons, x_htup, x_hsub, x_comp, x_yes, x_w0, x_w1, x_add, x_sub, x_mod, x_fdiv, x_shr, x_bit, x_cmp, x_lt, x_neg, x_eqi, x_nei, x_ess, x_nss, x_lenl, x_lenf, x_lent, x_int, x_intb, x_max2, x_min2, x_tupl, x_r1, x_r2, x_revl, x_revt, x_ixt, x_ixl, x_ixf, x_ofO, x_slt, x_sll, List.getElem?_cons_zero, List.getElem?_cons_succ, List.set_cons_zero, List.set_cons_succ, List.length_cons, List.length_nil, Bool.not_true, Bool.not_false, scriptT, List.length_map, decide_eq_false (show ¬ (k : Int) < (ns.length : Int) by omega), x_mulh (i := 89) (j := (k : Int)) (μ := μ) 8 8 (by decide) (by omega) (by decide)]
  obtain ⟨c, hc⟩ := hc
  have p1 : gPowW (.int 10) (.int 18) μ = .ok (.int (10 ^ 18)) μ := by rfl
  have p2 : gPowW (.int 10) (.int 60) μ = .ok (.int (10 ^ 60)) μ := by rfl
  have p3 : gPowW (.int 10) (.int 12) μ = .ok (.int (10 ^ 12)) μ := by rfl
  have p4 : gPowW (.int 2) (.int 61) μ = .ok (.int 2305843009213693952) μ := by rfl
  have p5 : gMulA (.int (10 ^ 60)) (.int (10 ^ 60)) μ = .ok (.int (10 ^ 60 * 10 ^ 60)) μ := x_mulh 210 210 (by decide) (by decide) (by decide)
  have g0 : decide ((0 : Int) < 10 ^ 60 * 10 ^ 60) = true := by decide
  have g1 : decide ((0 : Int) < 10 ^ 12 + 39) = true := by decide
  generalize hg : (if (c.natAbs : Int) - 10 ^ 18 > 0 then (c.natAbs : Int) - 10 ^ 18 else 0) % (10 ^ 60 * 10 ^ 60) = g
  have hg0 : 0 ≤ g := by rw [← hg]; exact Int.emod_nonneg _ (by decide)
  have hy : 0 ≤ (c.natAbs : Int) % (10 ^ 12 + 39) ∧ (c.natAbs : Int) % (10 ^ 12 + 39) < 10 ^ 12 + 39 := ⟨Int.emod_nonneg _ (by decide), Int.emod_lt_of_pos _ (by decide)⟩
  generalize hy' : (c.natAbs : Int) % (10 ^ 12 + 39) = y at hy
  have m1 : gMulA (.int y) (.int 10007) μ = .ok (.int (y * 10007)) μ := x_mulh 70 70 (by omega) (by decide) (by decide)
  have m2 : gMulA (.int 509) (.int (k : Int)) μ = .ok (.int (509 * (k : Int))) μ := x_mulh 70 70 (by decide) (by omega) (by decide)
  have m3 : ∀ b : Bool, gMulA (.int 17) (.int (bif b then 1 else 0)) μ = .ok (.int (17 * (bif b then 1 else 0))) μ := fun b => by cases b <;> exact x_mulh 70 70 (by decide) (by decide) (by decide)
  refine ⟨g, (y * 10007 + 509 * (k : Int) + 17 * (bif decide (c < 0) then 1 else 0) + 1) % 2305843009213693951, hg0, Int.emod_nonneg _ (by decide), Int.emod_lt_of_pos _ (by decide), ?_⟩
  unfold m__law_bag
  show mkFn 5 (sSeq (sSet 2 cellE) _) _ μ = _
  simp only [x_bind, x_ok, x_pure, x_no, x_nob, x_mkFn, x_endr, x_endn, x_sl0, x_sl1, x_sl2, x_seq, x_seqn, x_seqr, x_seqb, x_seqc, x_nil, x_ret, x_exp, x_if, x_set, x_tgt, x_par, x_for, x_var, x_varR, x_c, x_op, x_un, x_ld2, x_ldi, x_ldb, x_lds, x_ldn, x_ldl, x_ldf, x_ldt, x_ldy, x_and, x_andt, x_andf, x_or, x_ort, x_orf, x_not, x_bT, x_asB, x_band, x_bor, x_bnot, x_eif, x_ct, x_cf, x_echain, x_bchain, x_anil, x_acons, x_astar, x_itl, x_itf, x_itt, x_tup, x_lst, x_okL, x_tree, x_cell, x_newC, x_eB, x_lB, x_iB, x_iSeq, x_g1, x_g2, x_call, x_sl, x_onone, x_osome, x_asO, x_name, x_hnil, x_hcons, x_htup, x_hsub, x_comp, x_yes, x_w0, x_w1, x_add, x_sub, x_mod, x_fdiv, x_shr, x_bit, x_cmp, x_lt, x_neg, x_eqi, x_nei, x_ess, x_nss, x_lenl, x_lenf, x_lent, x_int, x_intb, x_max2, x_min2, x_tupl, x_r1, x_r2, x_revl, x_revt, x_ixt, x_ixl, x_ixf, x_ofO, x_slt, x_sll, List.getElem?_cons_zero, List.getElem?_cons_succ, List.set_cons_zero, List.set_cons_succ, List.length_cons, List.length_nil, Bool.not_true, Bool.not_false, Int.reduceEq, Int.reduceLT, Int.reduceLE, at_0, at_1, x_callX, x_eFrz, x_lc0, x_lc1, x_noErr, x_noErrR, x_lcs, x_lcn, x_turn, x_iAny, x_frzl, x_frzf, x_frzt, x_frzp, x_frzi, x_eachl, x_eacht, beq_self_eq_true, eq_self, decide_true, decide_false, Bool.true_and, Bool.false_and, Bool.and_true, Bool.and_false, Bool.and_self, Bool.true_or, Bool.false_or, Bool.or_self, cond_true, cond_false, is_i_int, is_i_bool, is_i_str, is_i_tuple, is_i_list, is_i_dict, is_b_int, is_b_bool, is_b_str, is_b_tuple, is_b_list, is_b_dict, is_s_int, is_s_bool, is_s_str, is_s_tuple, is_s_list, is_s_dict, is_l_int, is_l_bool, is_l_str, is_l_tuple, is_l_list, is_l_dict, is_t_int, is_t_bool, is_t_str, is_t_tuple, is_t_list, is_t_dict, is_n_int, is_n_bool, is_n_str, is_n_tuple, is_n_list, is_n_dict, is_p_int, is_p_bool, is_p_str, is_p_tuple, is_p_list, is_p_dict, fi_0, be_0, n_1, fi_1, be_1, n_2, fi_2, be_2, n_3, fi_3, be_3, n_4, fi_4, be_4, n_5, fi_5, be_5, n_6, fi_6, be_6, n_7, fi_7, be_7, n_8, fi_8, be_8, hc, x_abs, p1, p2, p3, p4, p5, g0, g1, hg, hy', m1, m2, m3, Int.reduceSub, show decide ((0 : Int) < 2305843009213693951) = true by decide]
theorem box (ns : List Int) (k : Nat) (hk : k ≤ 3) (μ : Store) (hp : ∀ c ∈ μ, pureO c.o = true) : ∃ μ', callX m__law_bag [scriptT ns, .int (k : Int)] μ = .ok (.cell μ.length) μ' ∧ Bx I2 μ.length 0 μ' μ' := by
  obtain ⟨x, y, h1, h2, h3, e⟩ := box1 ns k hk μ
  obtain ⟨_, _, _, _, _, e0⟩ := box1 ns k hk []
  refine ⟨_, callX_new e0 e, ⟨_, by simp, ⟨x, y, rfl, h1, h2, h3⟩⟩, rfl, fun _ _ => rfl, fun c hc => ?_⟩
  rcases List.mem_append.mp hc with h | h
  · exact hp c h
  · rw [List.mem_singleton.mp h]; rfl
/-! ### facts by finite lists -/
theorem fi_9 : fits (0 + 1 + 1 + 1 + 1 + 1 + 1 + 1 + 1 + 1) = true := rfl
theorem fi_10 : fits (0 + 1 + 1 + 1 + 1 + 1 + 1 + 1 + 1 + 1 + 1) = true := rfl
theorem fi_11 : fits (0 + 1 + 1 + 1 + 1 + 1 + 1 + 1 + 1 + 1 + 1 + 1) = true := rfl
theorem fi_12 : fits (0 + 1 + 1 + 1 + 1 + 1 + 1 + 1 + 1 + 1 + 1 + 1 + 1) = true := rfl
theorem fi_13 : fits (0 + 1 + 1 + 1 + 1 + 1 + 1 + 1 + 1 + 1 + 1 + 1 + 1 + 1) = true := rfl
theorem fi_14 : fits (0 + 1 + 1 + 1 + 1 + 1 + 1 + 1 + 1 + 1 + 1 + 1 + 1 + 1 + 1) = true := rfl
theorem fi_15 : fits (0 + 1 + 1 + 1 + 1 + 1 + 1 + 1 + 1 + 1 + 1 + 1 + 1 + 1 + 1 + 1) = true := rfl
theorem fi_16 : fits (0 + 1 + 1 + 1 + 1 + 1 + 1 + 1 + 1 + 1 + 1 + 1 + 1 + 1 + 1 + 1 + 1) = true := rfl
theorem fi_17 : fits (0 + 1 + 1 + 1 + 1 + 1 + 1 + 1 + 1 + 1 + 1 + 1 + 1 + 1 + 1 + 1 + 1 + 1) = true := rfl
theorem fi_18 : fits (0 + 1 + 1 + 1 + 1 + 1 + 1 + 1 + 1 + 1 + 1 + 1 + 1 + 1 + 1 + 1 + 1 + 1 + 1) = true := rfl
theorem fi_19 : fits (0 + 1 + 1 + 1 + 1 + 1 + 1 + 1 + 1 + 1 + 1 + 1 + 1 + 1 + 1 + 1 + 1 + 1 + 1 + 1) = true := rfl
theorem fi_20 : fits (0 + 1 + 1 + 1 + 1 + 1 + 1 + 1 + 1 + 1 + 1 + 1 + 1 + 1 + 1 + 1 + 1 + 1 + 1 + 1 + 1) = true := rfl
theorem fi_21 : fits (0 + 1 + 1 + 1 + 1 + 1 + 1 + 1 + 1 + 1 + 1 + 1 + 1 + 1 + 1 + 1 + 1 + 1 + 1 + 1 + 1 + 1) = true := rfl
theorem fi_22 : fits (0 + 1 + 1 + 1 + 1 + 1 + 1 + 1 + 1 + 1 + 1 + 1 + 1 + 1 + 1 + 1 + 1 + 1 + 1 + 1 + 1 + 1 + 1) = true := rfl
theorem fi_23 : fits (0 + 1 + 1 + 1 + 1 + 1 + 1 + 1 + 1 + 1 + 1 + 1 + 1 + 1 + 1 + 1 + 1 + 1 + 1 + 1 + 1 + 1 + 1 + 1) = true := rfl
theorem fi_24 : fits (0 + 1 + 1 + 1 + 1 + 1 + 1 + 1 + 1 + 1 + 1 + 1 + 1 + 1 + 1 + 1 + 1 + 1 + 1 + 1 + 1 + 1 + 1 + 1 + 1) = true := rfl
theorem fi_25 : fits (0 + 1 + 1 + 1 + 1 + 1 + 1 + 1 + 1 + 1 + 1 + 1 + 1 + 1 + 1 + 1 + 1 + 1 + 1 + 1 + 1 + 1 + 1 + 1 + 1 + 1) = true := rfl
theorem fi_26 : fits (0 + 1 + 1 + 1 + 1 + 1 + 1 + 1 + 1 + 1 + 1 + 1 + 1 + 1 + 1 + 1 + 1 + 1 + 1 + 1 + 1 + 1 + 1 + 1 + 1 + 1 + 1) = true := rfl
theorem fi_27 : fits (0 + 1 + 1 + 1 + 1 + 1 + 1 + 1 + 1 + 1 + 1 + 1 + 1 + 1 + 1 + 1 + 1 + 1 + 1 + 1 + 1 + 1 + 1 + 1 + 1 + 1 + 1 + 1) = true := rfl
theorem fi_28 : fits (0 + 1 + 1 + 1 + 1 + 1 + 1 + 1 + 1 + 1 + 1 + 1 + 1 + 1 + 1 + 1 + 1 + 1 + 1 + 1 + 1 + 1 + 1 + 1 + 1 + 1 + 1 + 1 + 1) = true := rfl
theorem fi_29 : fits (0 + 1 + 1 + 1 + 1 + 1 + 1 + 1 + 1 + 1 + 1 + 1 + 1 + 1 + 1 + 1 + 1 + 1 + 1 + 1 + 1 + 1 + 1 + 1 + 1 + 1 + 1 + 1 + 1 + 1) = true := rfl
theorem fi_30 : fits (0 + 1 + 1 + 1 + 1 + 1 + 1 + 1 + 1 + 1 + 1 + 1 + 1 + 1 + 1 + 1 + 1 + 1 + 1 + 1 + 1 + 1 + 1 + 1 + 1 + 1 + 1 + 1 + 1 + 1 + 1) = true := rfl
theorem fi_31 : fits (0 + 1 + 1 + 1 + 1 + 1 + 1 + 1 + 1 + 1 + 1 + 1 + 1 + 1 + 1 + 1 + 1 + 1 + 1 + 1 + 1 + 1 + 1 + 1 + 1 + 1 + 1 + 1 + 1 + 1 + 1 + 1) = true := rfl
theorem fi_32 : fits (0 + 1 + 1 + 1 + 1 + 1 + 1 + 1 + 1 + 1 + 1 + 1 + 1 + 1 + 1 + 1 + 1 + 1 + 1 + 1 + 1 + 1 + 1 + 1 + 1 + 1 + 1 + 1 + 1 + 1 + 1 + 1 + 1) = true := rfl
theorem fi_33 : fits (0 + 1 + 1 + 1 + 1 + 1 + 1 + 1 + 1 + 1 + 1 + 1 + 1 + 1 + 1 + 1 + 1 + 1 + 1 + 1 + 1 + 1 + 1 + 1 + 1 + 1 + 1 + 1 + 1 + 1 + 1 + 1 + 1 + 1) = true := rfl
theorem fi_34 : fits (0 + 1 + 1 + 1 + 1 + 1 + 1 + 1 + 1 + 1 + 1 + 1 + 1 + 1 + 1 + 1 + 1 + 1 + 1 + 1 + 1 + 1 + 1 + 1 + 1 + 1 + 1 + 1 + 1 + 1 + 1 + 1 + 1 + 1 + 1) = true := rfl
theorem fi_35 : fits (0 + 1 + 1 + 1 + 1 + 1 + 1 + 1 + 1 + 1 + 1 + 1 + 1 + 1 + 1 + 1 + 1 + 1 + 1 + 1 + 1 + 1 + 1 + 1 + 1 + 1 + 1 + 1 + 1 + 1 + 1 + 1 + 1 + 1 + 1 + 1) = true := rfl
theorem fi_36 : fits (0 + 1 + 1 + 1 + 1 + 1 + 1 + 1 + 1 + 1 + 1 + 1 + 1 + 1 + 1 + 1 + 1 + 1 + 1 + 1 + 1 + 1 + 1 + 1 + 1 + 1 + 1 + 1 + 1 + 1 + 1 + 1 + 1 + 1 + 1 + 1 + 1) = true := rfl
theorem fi_37 : fits (0 + 1 + 1 + 1 + 1 + 1 + 1 + 1 + 1 + 1 + 1 + 1 + 1 + 1 + 1 + 1 + 1 + 1 + 1 + 1 + 1 + 1 + 1 + 1 + 1 + 1 + 1 + 1 + 1 + 1 + 1 + 1 + 1 + 1 + 1 + 1 + 1 + 1) = true := rfl
theorem fi_38 : fits (0 + 1 + 1 + 1 + 1 + 1 + 1 + 1 + 1 + 1 + 1 + 1 + 1 + 1 + 1 + 1 + 1 + 1 + 1 + 1 + 1 + 1 + 1 + 1 + 1 + 1 + 1 + 1 + 1 + 1 + 1 + 1 + 1 + 1 + 1 + 1 + 1 + 1 + 1) = true := rfl
theorem fi_39 : fits (0 + 1 + 1 + 1 + 1 + 1 + 1 + 1 + 1 + 1 + 1 + 1 + 1 + 1 + 1 + 1 + 1 + 1 + 1 + 1 + 1 + 1 + 1 + 1 + 1 + 1 + 1 + 1 + 1 + 1 + 1 + 1 + 1 + 1 + 1 + 1 + 1 + 1 + 1 + 1) = true := rfl
theorem fi_40 : fits (0 + 1 + 1 + 1 + 1 + 1 + 1 + 1 + 1 + 1 + 1 + 1 + 1 + 1 + 1 + 1 + 1 + 1 + 1 + 1 + 1 + 1 + 1 + 1 + 1 + 1 + 1 + 1 + 1 + 1 + 1 + 1 + 1 + 1 + 1 + 1 + 1 + 1 + 1 + 1 + 1) = true := rfl
theorem set_last {μ : Store} {c d : Cel} : (μ ++ [c]).set μ.length d = μ ++ [d] := by rw [List.set_append_right _ _ (Nat.le_refl _)]; simp
theorem get_last {μ : Store} {c : Cel} : (μ ++ [c])[μ.length]? = some c := by simp
/-- told.append(f), told the last cell -/
theorem x_appL {ρ : Env} {i : Nat} {f : Env → M T} {d : T} {xs : List T} {μ : Store} (hf : ∀ c, f ρ (μ ++ [c]) = .ok d (μ ++ [c])) (hi : ρ[i]? = some (some (.cell μ.length))) (hz : fits (xs.length + 1) = true) :
    eMeth isL gAppend (eVar i) (aCons f aNil) ρ (μ ++ [⟨true, .lst xs⟩]) = .ok .non (μ ++ [⟨true, .lst (xs ++ [d])⟩]) := by
  have e1 : eVar i ρ (μ ++ [⟨true, .lst xs⟩]) = .ok (.cell μ.length) (μ ++ [⟨true, .lst xs⟩]) := by
    show (match ρ[i]? with
      | some (some d) => M.pure d
      | _ => M.no) _ = _
    rw [hi]
    rfl
  have e2 : isL (.cell μ.length) (μ ++ [⟨true, .lst xs⟩]) = .ok () (μ ++ [⟨true, .lst xs⟩]) := by
    simp only [isL, get_last]
  have e3 : gAppend (.cell μ.length) [d] (μ ++ [⟨true, .lst xs⟩]) = .ok .non (μ ++ [⟨true, .lst (xs ++ [d])⟩]) := by
    simp only [gAppend, onCell, get_last, hz, cond_true, set_last]
  simp only [x_bind, x_ok, x_pure, x_no, x_nob, x_mkFn, x_endr, x_endn, x_sl0, x_sl1, x_sl2, x_seq, x_seqn, x_seqr, x_seqb, x_seqc, x_nil, x_ret, x_exp, x_if, x_set, x_tgt, x_par, x_for, x_var, x_varR, x_c, x_op, x_un, x_ld2, x_ldi, x_ldb, x_lds, x_ldn, x_ldl, x_ldf, x_ldt, x_ldy, x_and, x_andt, x_andf, x_or, x_ort, x_orf, x_not, x_bT, x_asB, x_band, x_bor, x_bnot, x_eif, x_ct, x_cf, x_echain, x_bchain, x_anil, x_acons, x_astar, x_itl, x_itf, x_itt, x_tup, x_lst, x_okL, x_tree, x_cell, x_newC, x_eB, x_lB, x_iB, x_iSeq, x_g1, x_g2, x_call, x_sl, x_onone, x_osome, x_asO, x_name, x_hnil, x_hcons, x_htup, x_hsub, x_comp, x_yes, x_w0, x_w1, x_add, x_sub, x_mod, x_fdiv, x_shr, x_bit, x_cmp, x_lt, x_neg, x_eqi, x_nei, x_ess, x_nss, x_lenl, x_lenf, x_lent, x_int, x_intb, x_max2, x_min2, x_tupl, x_r1, x_r2, x_revl, x_revt, x_ixt, x_ixl, x_ixf, x_ofO, x_slt, x_sll, List.getElem?_cons_zero, List.getElem?_cons_succ, List.set_cons_zero, List.set_cons_succ, List.length_cons, List.length_nil, Bool.not_true, Bool.not_false, Int.reduceEq, Int.reduceLT, Int.reduceLE, at_0, at_1, x_callX, x_eFrz, x_lc0, x_lc1, x_noErr, x_noErrR, x_lcs, x_lcn, x_turn, x_iAny, x_frzl, x_frzf, x_frzt, x_frzp, x_frzi, x_eachl, x_eacht, beq_self_eq_true, eq_self, decide_true, decide_false, Bool.true_and, Bool.false_and, Bool.and_true, Bool.and_false, Bool.and_self, Bool.true_or, Bool.false_or, Bool.or_self, cond_true, cond_false, is_i_int, is_i_bool, is_i_str, is_i_tuple, is_i_list, is_i_dict, is_b_int, is_b_bool, is_b_str, is_b_tuple, is_b_list, is_b_dict, is_s_int, is_s_bool, is_s_str, is_s_tuple, is_s_list, is_s_dict, is_l_int, is_l_bool, is_l_str, is_l_tuple, is_l_list, is_l_dict, is_t_int, is_t_bool, is_t_str, is_t_tuple, is_t_list, is_t_dict, is_n_int, is_n_bool, is_n_str, is_n_tuple, is_n_list, is_n_dict, is_p_int, is_p_bool, is_p_str, is_p_tuple, is_p_list, is_p_dict, fi_0, be_0, n_1, fi_1, be_1, n_2, fi_2, be_2, n_3, fi_3, be_3, n_4, fi_4, be_4, n_5, fi_5, be_5, n_6, fi_6, be_6, n_7, fi_7, be_7, n_8, fi_8, be_8, x_meth, ↓e1, e2, hf, e3]
theorem x_D0 {ρ : Env} {μ : Store} : eD0 ρ μ = .ok (.dic false []) (μ ++ [⟨false, .dic false []⟩]) := rfl
theorem all1 {α β : Type} {f : α → β} {c : β} {n : Nat} {l : List α} (h : l.map f = List.replicate n c) : ∀ a ∈ l, f a = c := fun a ha => by
  have z : f a ∈ l.map f := List.mem_map.mpr ⟨a, ha, rfl⟩
  rw [h] at z
  exact (List.mem_replicate.mp z).2
theorem all2 {α β γ : Type} {f : α → β → γ} {c : γ} {n : Nat} {l : List α} {k : List β} (h : (l.flatMap fun a => k.map fun b => f a b) = List.replicate n c) : ∀ a ∈ l, ∀ b ∈ k, f a b = c := fun a ha b hb => by
  have z : f a b ∈ l.flatMap fun a => k.map fun b => f a b := List.mem_flatMap.mpr ⟨a, ha, List.mem_map.mpr ⟨b, hb, rfl⟩⟩
  rw [h] at z
  exact (List.mem_replicate.mp z).2
theorem all3 {α β γ δ : Type} {f : α → β → γ → δ} {c : δ} {n : Nat} {l : List α} {k : List β} {j : List γ} (h : (l.flatMap fun a => k.flatMap fun b => j.map fun e => f a b e) = List.replicate n c) : ∀ a ∈ l, ∀ b ∈ k, ∀ e ∈ j, f a b e = c := fun a ha b hb e he => by
  have z : f a b e ∈ l.flatMap fun a => k.flatMap fun b => j.map fun e => f a b e := List.mem_flatMap.mpr ⟨a, ha, List.mem_flatMap.mpr ⟨b, hb, List.mem_map.mpr ⟨e, he, rfl⟩⟩⟩
  rw [h] at z
  exact (List.mem_replicate.mp z).2
theorem all_pure {l : List T} (h : pureTs l = true) : ∀ d ∈ l, pureT d = true := p_of h
/-- a def that lays some dicts aside and draws one of a list -/
theorem one_from {b : Nat} {μ0 μ : Store} {ds : List T} {m : List T → M T} {r : Store} (hJ : Bx I2 b 0 μ0 μ) (hp : pureTs ds = true) (h0 : ds ≠ []) (h1 : ds.length < 2 ^ 60) (hr : r.all (fun c => pureO c.o) = true)
    (h : ∀ d ν, callX m__law_one_of [.cell b, .lst ds] (μ ++ r) = .ok d ν → m [.cell b] μ = .ok d ν) : ∃ d μ', callX m [.cell b] μ = .ok d μ' ∧ d ∈ ds ∧ Bx I2 b 0 μ0 μ' := by
  have J1 : Bx I2 b 0 (μ ++ r) (μ ++ r) := by
    obtain ⟨es, a1, a2⟩ := hJ.box
    refine ⟨⟨es, by rw [List.getElem?_append_left hJ.lt]; exact a1, a2⟩, rfl, fun _ _ => rfl, fun d hd => ?_⟩
    rcases List.mem_append.mp hd with h3 | h3
    · exact hJ.pure d h3
    · exact List.all_eq_true.mp hr d h3
  obtain ⟨d, ν, e, hm, J2⟩ := one_of J1 h0 h1
  have hb := hJ.back J2
  exact ⟨d, _, callX_cut cellargs (h d ν e) (all_pure hp d hm) (List.all_eq_true.mpr hb.pure), hm, hb⟩
/-- what a call laid behind is dropped -/
theorem back_cut {b : Nat} {μ0 μ μ' : Store} {m : List T → M T} {d : T} {r : Store} (hJ : Bx I2 b 0 μ0 μ) (J' : Bx I2 b 0 μ0 μ') (hd : pureT d = true) (h : m [.cell b] μ = .ok d (μ' ++ r)) : callX m [.cell b] μ = .ok d μ' := by
  have hl : μ.length = μ'.length := by rw [J'.len, hJ.len]
  have e : (μ' ++ r).take μ.length = μ' := by rw [hl]; simp
  have q := callX_cut (cellargs (b := b)) h hd (by rw [e]; exact List.all_eq_true.mpr J'.pure)
  rw [e] at q
  exact q
end TL

set_option maxRecDepth 1000000
set_option maxHeartbeats 0
/-! k08: the values drawn; what is said of each. -/
namespace TL
open PySem PySem.Spec PyProof.Rows L2 StX
def Z161 : T := .tup (List.replicate 161 (.tup [.str "zero", .tup []]))
def BADS : List T := [.non, .int 0, .tup [], .lst [], .tup [.int 1, .tup []], .lst [.int 1, .tup [], .tup [.int 0]], .tup [.int 0, .tup [], .tup [.int 0]], .tup [.int 13, .tup [], .tup [.int 0]], .tup [.bl true, .tup [], .tup [.int 0]], .tup [.int 1, .tup [], .tup []], .tup [.int 1, .tup [], .tup [.int 1]], .tup [.int 1, .tup [], .lst [.int 0]], .tup [.int 1, .lst [], .tup [.int 0]], .tup [.int 1, .tup [], .tup [.int 0, .int 0, .int 0, .int 0, .int 0, .int 0, .int 0, .int 0, .int 0, .int 0, .int 0, .int 0, .int 0, .int 0, .int 0, .int 0, .int 0]], .tup [.int 1, .tup [.tup [.str "not", .tup [.int 1]]], .tup [.int 0]], .dic false [], .tup [.int 1, .tup [.tup [.str "zero", .tup [.int 0]]], .tup [.int 0]], .tup [.int 1, .tup [.tup [.str "nand", .tup [.int 0, .int 0]]], .tup [.int 0]], .tup [.int 1, .tup [.tup [.str "not", .lst [.int 0]]], .tup [.int 0]], .tup [.int 1, .tup [.tup [.str "table", .tup [.int 0, .int 0], .tup [.int 0, .int 1, .int 1, .int 0]]], .tup [.int 0]], .tup [.int 1, .tup [.tup [.str "table", .tup [.int 0], .tup [.int 0, .int 1, .int 1]]], .tup [.int 0]], .tup [.int 1, Z161, .tup [.int 0]]]
def WIRES : List T := [.int 4, .int (-1), .non, .bl true, .str "0", .tup [.int 0], .int 1000000000000000000000000000000000000000000000000000000000000]
def ROWS : List T := [.non, .tup [], .tup [.int 0], .lst [.int 0, .int 1], .tup [.int 0, .int 2], .tup [.int 0, .int (-1)], .tup [.int 0, .bl true], .tup [.int 0, .str "1"], .tup [.int 0, .int 1, .int 0], .int 0]
def ENDS : List T := [.non, .tup [], .tup [.int 4], .tup [.int (-1)], .lst [.int 2], .tup [.bl true], .tup [.int 0, .int 0, .int 0, .int 0, .int 0, .int 0, .int 0, .int 0, .int 0, .int 0, .int 0, .int 0, .int 0, .int 0, .int 0, .int 0, .int 0], .int 0, .tup [.str "0"], .tup [.non]]
def HALF : T := .tup [.int 2, .tup [.tup [.str "xor", .tup [.int 0, .int 1]], .tup [.str "and", .tup [.int 0, .int 1]]], .tup [.int 2, .int 3]]
def ONE : T := .tup [.int 1, .tup [.tup [.str "not", .tup [.int 0]]], .tup [.int 1]]
section
variable {b : Nat} {μ : Store} {x1 x2 x3 x4 x5 x6 x7 x8 : Option T}
def num (w : T) : T := .tup [.str "number", .str (toD w).shown]
theorem cw_wires : ∀ w ∈ WIRES, gRepr w μ = .ok (.str (toD w).shown) μ := fun w hw => by
  have h : ∀ w ∈ WIRES, reprOk w = true := all1 (n := 7) (by kernel_rfl)
  unfold gRepr
  rw [h w hw]
  rfl
theorem cw1 : ∀ a ∈ BADS, ∀ w ∈ WIRES, c__law_right_1 [some (.cell b), some a, some HALF, some ONE, some w, x5, some (num w), x7, x8] μ = .ok false μ := all2 (n := 154) (by kernel_rfl)
theorem cw2 : ∀ a ∈ BADS, ∀ r ∈ ROWS, c__law_right_2 [some (.cell b), some a, some HALF, some ONE, x4, some r, x6, x7, x8] μ = .ok false μ := all2 (n := 220) (by kernel_rfl)
theorem cw3 : c__law_right_3 [some (.cell b), x1, some HALF, some ONE, x4, x5, x6, x7, x8] μ = .ok false μ := by kernel_rfl
theorem cw4 : ∀ a ∈ BADS, c__law_right_4 [some (.cell b), some a, some HALF, some ONE, x4, x5, x6, x7, x8] μ = .ok false μ := all1 (n := 22) (by kernel_rfl)
theorem cw5 : c__law_right_5 [some (.cell b), x1, some HALF, some ONE, x4, x5, x6, x7, x8] μ = .ok false μ := by kernel_rfl
theorem cl1 : ∀ a ∈ BADS, ∀ r ∈ ENDS, l__law_right_1 [some (.cell b), some a, some HALF, some ONE, x4, x5, x6, some r, x8] μ = .ok (.tup [.str "net"]) μ := all2 (n := 220) (by kernel_rfl)
theorem cl2 : ∀ r ∈ ENDS, l__law_right_2 [some (.cell b), x1, some HALF, some ONE, x4, x5, x6, some r, x8] μ = .ok (.tup [.str "report"]) μ := all1 (n := 10) (by kernel_rfl)
theorem cl3 : l__law_right_3 [some (.cell b), x1, some HALF, some ONE, x4, x5, x6, x7, x8] μ = .ok (.tup [.str "fine"]) μ := by kernel_rfl
end
end TL

/-! k08: the law. -/
namespace TL
open PySem PySem.Spec PyProof.Rows L2 StX
section
variable {b : Nat} {μ0 μ : Store}
theorem bad_ok (hJ : Bx I2 b 0 μ0 μ) : ∃ d μ', callX m__law_bad [.cell b] μ = .ok d μ' ∧ d ∈ BADS ∧ Bx I2 b 0 μ0 μ' :=
  one_from (ds := BADS) (r := [⟨false, .dic false []⟩]) hJ (by kernel_rfl) (by unfold BADS; simp) (by unfold BADS; simp) (by kernel_rfl) fun d ν e => by
    have m17 : ∀ μ, gMulA (.tup [.int 0]) (.int 17) μ = .ok (.tup [.int 0, .int 0, .int 0, .int 0, .int 0, .int 0, .int 0, .int 0, .int 0, .int 0, .int 0, .int 0, .int 0, .int 0, .int 0, .int 0, .int 0]) μ := fun μ => by kernel_rfl
    have m161 : ∀ μ, gMulA (.tup [.tup [.str "zero", .tup []]]) (.int 161) μ = .ok Z161 μ := fun μ => by kernel_rfl
    have ad0 : ∀ μ, gAdd (.lst [.non, .int 0, .tup [], .lst [], .tup [.int 1, .tup []], .lst [.int 1, .tup [], .tup [.int 0]], .tup [.int 0, .tup [], .tup [.int 0]], .tup [.int 13, .tup [], .tup [.int 0]], .tup [.bl true, .tup [], .tup [.int 0]], .tup [.int 1, .tup [], .tup []], .tup [.int 1, .tup [], .tup [.int 1]], .tup [.int 1, .tup [], .lst [.int 0]]]) (.lst [.tup [.int 1, .lst [], .tup [.int 0]], .tup [.int 1, .tup [], .tup [.int 0, .int 0, .int 0, .int 0, .int 0, .int 0, .int 0, .int 0, .int 0, .int 0, .int 0, .int 0, .int 0, .int 0, .int 0, .int 0, .int 0]], .tup [.int 1, .tup [.tup [.str "not", .tup [.int 1]]], .tup [.int 0]], .dic false []]) μ = .ok (.lst [.non, .int 0, .tup [], .lst [], .tup [.int 1, .tup []], .lst [.int 1, .tup [], .tup [.int 0]], .tup [.int 0, .tup [], .tup [.int 0]], .tup [.int 13, .tup [], .tup [.int 0]], .tup [.bl true, .tup [], .tup [.int 0]], .tup [.int 1, .tup [], .tup []], .tup [.int 1, .tup [], .tup [.int 1]], .tup [.int 1, .tup [], .lst [.int 0]], .tup [.int 1, .lst [], .tup [.int 0]], .tup [.int 1, .tup [], .tup [.int 0, .int 0, .int 0, .int 0, .int 0, .int 0, .int 0, .int 0, .int 0, .int 0, .int 0, .int 0, .int 0, .int 0, .int 0, .int 0, .int 0]], .tup [.int 1, .tup [.tup [.str "not", .tup [.int 1]]], .tup [.int 0]], .dic false []]) μ := fun μ => by kernel_rfl
    have ad1 : ∀ μ, gAdd (.lst [.non, .int 0, .tup [], .lst [], .tup [.int 1, .tup []], .lst [.int 1, .tup [], .tup [.int 0]], .tup [.int 0, .tup [], .tup [.int 0]], .tup [.int 13, .tup [], .tup [.int 0]], .tup [.bl true, .tup [], .tup [.int 0]], .tup [.int 1, .tup [], .tup []], .tup [.int 1, .tup [], .tup [.int 1]], .tup [.int 1, .tup [], .lst [.int 0]], .tup [.int 1, .lst [], .tup [.int 0]], .tup [.int 1, .tup [], .tup [.int 0, .int 0, .int 0, .int 0, .int 0, .int 0, .int 0, .int 0, .int 0, .int 0, .int 0, .int 0, .int 0, .int 0, .int 0, .int 0, .int 0]], .tup [.int 1, .tup [.tup [.str "not", .tup [.int 1]]], .tup [.int 0]], .dic false []]) (.lst [.tup [.int 1, .tup [.tup [.str "zero", .tup [.int 0]]], .tup [.int 0]], .tup [.int 1, .tup [.tup [.str "nand", .tup [.int 0, .int 0]]], .tup [.int 0]], .tup [.int 1, .tup [.tup [.str "not", .lst [.int 0]]], .tup [.int 0]]]) μ = .ok (.lst [.non, .int 0, .tup [], .lst [], .tup [.int 1, .tup []], .lst [.int 1, .tup [], .tup [.int 0]], .tup [.int 0, .tup [], .tup [.int 0]], .tup [.int 13, .tup [], .tup [.int 0]], .tup [.bl true, .tup [], .tup [.int 0]], .tup [.int 1, .tup [], .tup []], .tup [.int 1, .tup [], .tup [.int 1]], .tup [.int 1, .tup [], .lst [.int 0]], .tup [.int 1, .lst [], .tup [.int 0]], .tup [.int 1, .tup [], .tup [.int 0, .int 0, .int 0, .int 0, .int 0, .int 0, .int 0, .int 0, .int 0, .int 0, .int 0, .int 0, .int 0, .int 0, .int 0, .int 0, .int 0]], .tup [.int 1, .tup [.tup [.str "not", .tup [.int 1]]], .tup [.int 0]], .dic false [], .tup [.int 1, .tup [.tup [.str "zero", .tup [.int 0]]], .tup [.int 0]], .tup [.int 1, .tup [.tup [.str "nand", .tup [.int 0, .int 0]]], .tup [.int 0]], .tup [.int 1, .tup [.tup [.str "not", .lst [.int 0]]], .tup [.int 0]]]) μ := fun μ => by kernel_rfl
    have ad2 : ∀ μ, gAdd (.lst [.non, .int 0, .tup [], .lst [], .tup [.int 1, .tup []], .lst [.int 1, .tup [], .tup [.int 0]], .tup [.int 0, .tup [], .tup [.int 0]], .tup [.int 13, .tup [], .tup [.int 0]], .tup [.bl true, .tup [], .tup [.int 0]], .tup [.int 1, .tup [], .tup []], .tup [.int 1, .tup [], .tup [.int 1]], .tup [.int 1, .tup [], .lst [.int 0]], .tup [.int 1, .lst [], .tup [.int 0]], .tup [.int 1, .tup [], .tup [.int 0, .int 0, .int 0, .int 0, .int 0, .int 0, .int 0, .int 0, .int 0, .int 0, .int 0, .int 0, .int 0, .int 0, .int 0, .int 0, .int 0]], .tup [.int 1, .tup [.tup [.str "not", .tup [.int 1]]], .tup [.int 0]], .dic false [], .tup [.int 1, .tup [.tup [.str "zero", .tup [.int 0]]], .tup [.int 0]], .tup [.int 1, .tup [.tup [.str "nand", .tup [.int 0, .int 0]]], .tup [.int 0]], .tup [.int 1, .tup [.tup [.str "not", .lst [.int 0]]], .tup [.int 0]]]) (.lst [.tup [.int 1, .tup [.tup [.str "table", .tup [.int 0, .int 0], .tup [.int 0, .int 1, .int 1, .int 0]]], .tup [.int 0]], .tup [.int 1, .tup [.tup [.str "table", .tup [.int 0], .tup [.int 0, .int 1, .int 1]]], .tup [.int 0]], .tup [.int 1, Z161, .tup [.int 0]]]) μ = .ok (.lst [.non, .int 0, .tup [], .lst [], .tup [.int 1, .tup []], .lst [.int 1, .tup [], .tup [.int 0]], .tup [.int 0, .tup [], .tup [.int 0]], .tup [.int 13, .tup [], .tup [.int 0]], .tup [.bl true, .tup [], .tup [.int 0]], .tup [.int 1, .tup [], .tup []], .tup [.int 1, .tup [], .tup [.int 1]], .tup [.int 1, .tup [], .lst [.int 0]], .tup [.int 1, .lst [], .tup [.int 0]], .tup [.int 1, .tup [], .tup [.int 0, .int 0, .int 0, .int 0, .int 0, .int 0, .int 0, .int 0, .int 0, .int 0, .int 0, .int 0, .int 0, .int 0, .int 0, .int 0, .int 0]], .tup [.int 1, .tup [.tup [.str "not", .tup [.int 1]]], .tup [.int 0]], .dic false [], .tup [.int 1, .tup [.tup [.str "zero", .tup [.int 0]]], .tup [.int 0]], .tup [.int 1, .tup [.tup [.str "nand", .tup [.int 0, .int 0]]], .tup [.int 0]], .tup [.int 1, .tup [.tup [.str "not", .lst [.int 0]]], .tup [.int 0]], .tup [.int 1, .tup [.tup [.str "table", .tup [.int 0, .int 0], .tup [.int 0, .int 1, .int 1, .int 0]]], .tup [.int 0]], .tup [.int 1, .tup [.tup [.str "table", .tup [.int 0], .tup [.int 0, .int 1, .int 1]]], .tup [.int 0]], .tup [.int 1, Z161, .tup [.int 0]]]) μ := fun μ => by kernel_rfl
    simp only [BADS] at e
    unfold m__law_bad
    simp only [x_bind, x_ok, x_pure, x_no, x_nob, x_mkFn, x_endr, x_endn, x_sl0, x_sl1, x_sl2, x_seq, x_seqn, x_seqr, x_seqb, x_seqc, x_nil, x_ret, x_exp, x_if, x_set, x_tgt, x_par, x_for, x_var, x_varR, x_c, x_op, x_un, x_ld2, x_ldi, x_ldb, x_lds, x_ldn, x_ldl, x_ldf, x_ldt, x_ldy, x_and, x_andt, x_andf, x_or, x_ort, x_orf, x_not, x_bT, x_asB, x_band, x_bor, x_bnot, x_eif, x_ct, x_cf, x_echain, x_bchain, x_anil, x_acons, x_astar, x_itl, x_itf, x_itt, x_tup, x_lst, x_okL, x_tree, x_cell, x_newC, x_eB, x_lB, x_iB, x_iSeq, x_g1, x_g2, x_call, x_sl, x_onone, x_osome, x_asO, x_name, x_hnil, x_hcons, x_htup, x_hsub, x_comp, x_yes, x_w0, x_w1, x_add, x_sub, x_mod, x_fdiv, x_shr, x_bit, x_cmp, x_lt, x_neg, x_eqi, x_nei, x_ess, x_nss, x_lenl, x_lenf, x_lent, x_int, x_intb, x_max2, x_min2, x_tupl, x_r1, x_r2, x_revl, x_revt, x_ixt, x_ixl, x_ixf, x_ofO, x_slt, x_sll, List.getElem?_cons_zero, List.getElem?_cons_succ, List.set_cons_zero, List.set_cons_succ, List.length_cons, List.length_nil, Bool.not_true, Bool.not_false, Int.reduceEq, Int.reduceLT, Int.reduceLE, at_0, at_1, x_callX, x_eFrz, x_lc0, x_lc1, x_noErr, x_noErrR, x_lcs, x_lcn, x_turn, x_iAny, x_frzl, x_frzf, x_frzt, x_frzp, x_frzi, x_eachl, x_eacht, beq_self_eq_true, eq_self, decide_true, decide_false, Bool.true_and, Bool.false_and, Bool.and_true, Bool.and_false, Bool.and_self, Bool.true_or, Bool.false_or, Bool.or_self, cond_true, cond_false, is_i_int, is_i_bool, is_i_str, is_i_tuple, is_i_list, is_i_dict, is_b_int, is_b_bool, is_b_str, is_b_tuple, is_b_list, is_b_dict, is_s_int, is_s_bool, is_s_str, is_s_tuple, is_s_list, is_s_dict, is_l_int, is_l_bool, is_l_str, is_l_tuple, is_l_list, is_l_dict, is_t_int, is_t_bool, is_t_str, is_t_tuple, is_t_list, is_t_dict, is_n_int, is_n_bool, is_n_str, is_n_tuple, is_n_list, is_n_dict, is_p_int, is_p_bool, is_p_str, is_p_tuple, is_p_list, is_p_dict, fi_0, be_0, n_1, fi_1, be_1, n_2, fi_2, be_2, n_3, fi_3, be_3, n_4, fi_4, be_4, n_5, fi_5, be_5, n_6, fi_6, be_6, n_7, fi_7, be_7, n_8, fi_8, be_8, ↓m17, ↓m161, x_D0, e, ↓ad0, ↓ad1, ↓ad2, fi_9, fi_10, fi_11, fi_12, fi_13, fi_14, fi_15, fi_16, fi_17, fi_18, fi_19, fi_20, fi_21, fi_22, fi_23]
theorem right_ok (hJ : Bx I2 b 0 μ0 μ) : ∃ μ', callX m__law_right [.cell b] μ = .ok (.bl true) μ' ∧ Bx I2 b 0 μ0 μ' := by
  obtain ⟨bad, μ1, e1, m1, J1⟩ := bad_ok hJ
  obtain ⟨wire, μ2, e2, m2, J2⟩ := one_of (ds := WIRES) J1 (by unfold WIRES; simp) (by unfold WIRES; simp)
  obtain ⟨row, μ3, e3, m3, J3⟩ := one_of (ds := ROWS) J2 (by unfold ROWS; simp) (by unfold ROWS; simp)
  obtain ⟨ends, μ4, e4, m4, J4⟩ := one_of (ds := ENDS) J3 (by unfold ENDS; simp) (by unfold ENDS; simp)
  have rp := cw_wires (μ := μ3) wire m2
  have p60 : gPowW (.int 10) (.int 60) μ1 = .ok (.int 1000000000000000000000000000000000000000000000000000000000000) μ1 := by kernel_rfl
  have t17 : gMulA (.tup [.int 0]) (.int 17) μ3 = .ok (.tup [.int 0, .int 0, .int 0, .int 0, .int 0, .int 0, .int 0, .int 0, .int 0, .int 0, .int 0, .int 0, .int 0, .int 0, .int 0, .int 0, .int 0]) μ3 := by kernel_rfl
  have ldw : ∀ μ, ld wire μ = .ok wire μ := fun μ => by
    have h : ∀ w ∈ WIRES, (fun μ => ld w μ) = fun μ => .ok w μ := fun w hw => by
      unfold WIRES at hw
      simp only [List.mem_cons, List.not_mem_nil, or_false] at hw
      rcases hw with rfl | rfl | rfl | rfl | rfl | rfl | rfl <;> rfl
    exact congrFun (h wire m2) μ
  have eq : gEq (.lst [.tup [.str "net"], .tup [.str "report"], .tup [.str "fine"]]) (.lst [.tup [.str "net"], .tup [.str "report"], .tup [.str "fine"]]) (μ4 ++ [⟨true, .lst [.tup [.str "net"], .tup [.str "report"], .tup [.str "fine"]]⟩]) = .ok (.bl true) (μ4 ++ [⟨true, .lst [.tup [.str "net"], .tup [.str "report"], .tup [.str "fine"]]⟩]) := by kernel_rfl
  refine ⟨μ4, back_cut (r := [⟨true, .lst [.tup [.str "net"], .tup [.str "report"], .tup [.str "fine"]]⟩]) hJ J4 rfl ?_, J4⟩
  have k1 := cw1 (b := b) (μ := μ3) (x5 := some row) (x7 := none) (x8 := none) bad m1 wire m2
  have k2 := cw2 (b := b) (μ := μ3) (x4 := some wire) (x6 := some (num wire)) (x7 := none) (x8 := none) bad m1 row m3
  have k3 := cw3 (b := b) (μ := μ3) (x1 := some bad) (x4 := some wire) (x5 := some row) (x6 := some (num wire)) (x7 := none) (x8 := none)
  have k4 := cw4 (b := b) (μ := μ3) (x4 := some wire) (x5 := some row) (x6 := some (num wire)) (x7 := none) (x8 := none) bad m1
  have k5 := cw5 (b := b) (μ := μ3) (x1 := some bad) (x4 := some wire) (x5 := some row) (x6 := some (num wire)) (x7 := none) (x8 := none)
  have q1 := cl1 (b := b) (μ := μ4) (x4 := some wire) (x5 := some row) (x6 := some (num wire)) (x8 := none) bad m1 ends m4
  have q2 := fun c => cl2 (b := b) (μ := μ4 ++ [c]) (x1 := some bad) (x4 := some wire) (x5 := some row) (x6 := some (num wire)) (x8 := some (.cell μ4.length)) ends m4
  have q3 := fun c => cl3 (b := b) (μ := μ4 ++ [c]) (x1 := some bad) (x4 := some wire) (x5 := some row) (x6 := some (num wire)) (x7 := some ends) (x8 := some (.cell μ4.length))
  simp only [WIRES, ROWS, ENDS, HALF, ONE, num] at e2 e3 e4 k1 k2 k3 k4 k5 q1 q2 q3
  have a2 := x_appL (i := 8) (xs := [.tup [.str "net"]]) q2 rfl rfl
  have a3 := x_appL (i := 8) (xs := [.tup [.str "net"], .tup [.str "report"]]) q3 rfl rfl
  simp only [List.cons_append, List.nil_append] at a2 a3
  have lt : ld (.cell μ4.length) (μ4 ++ [⟨true, .lst [.tup [.str "net"], .tup [.str "report"], .tup [.str "fine"]]⟩]) = .ok (.lst [.tup [.str "net"], .tup [.str "report"], .tup [.str "fine"]]) (μ4 ++ [⟨true, .lst [.tup [.str "net"], .tup [.str "report"], .tup [.str "fine"]]⟩]) := by
    simp only [ld, get_last, obT]
  unfold m__law_right
  simp only [x_bind, x_ok, x_pure, x_no, x_nob, x_mkFn, x_endr, x_endn, x_sl0, x_sl1, x_sl2, x_seq, x_seqn, x_seqr, x_seqb, x_seqc, x_nil, x_ret, x_exp, x_if, x_set, x_tgt, x_par, x_for, x_var, x_varR, x_c, x_op, x_un, x_ld2, x_ldi, x_ldb, x_lds, x_ldn, x_ldl, x_ldf, x_ldt, x_ldy, x_and, x_andt, x_andf, x_or, x_ort, x_orf, x_not, x_bT, x_asB, x_band, x_bor, x_bnot, x_eif, x_ct, x_cf, x_echain, x_bchain, x_anil, x_acons, x_astar, x_itl, x_itf, x_itt, x_tup, x_lst, x_okL, x_tree, x_cell, x_newC, x_eB, x_lB, x_iB, x_iSeq, x_g1, x_g2, x_call, x_sl, x_onone, x_osome, x_asO, x_name, x_hnil, x_hcons, x_htup, x_hsub, x_comp, x_yes, x_w0, x_w1, x_add, x_sub, x_mod, x_fdiv, x_shr, x_bit, x_cmp, x_lt, x_neg, x_eqi, x_nei, x_ess, x_nss, x_lenl, x_lenf, x_lent, x_int, x_intb, x_max2, x_min2, x_tupl, x_r1, x_r2, x_revl, x_revt, x_ixt, x_ixl, x_ixf, x_ofO, x_slt, x_sll, List.getElem?_cons_zero, List.getElem?_cons_succ, List.set_cons_zero, List.set_cons_succ, List.length_cons, List.length_nil, Bool.not_true, Bool.not_false, Int.reduceEq, Int.reduceLT, Int.reduceLE, at_0, at_1, x_callX, x_eFrz, x_lc0, x_lc1, x_noErr, x_noErrR, x_lcs, x_lcn, x_turn, x_iAny, x_frzl, x_frzf, x_frzt, x_frzp, x_frzi, x_eachl, x_eacht, beq_self_eq_true, eq_self, decide_true, decide_false, Bool.true_and, Bool.false_and, Bool.and_true, Bool.and_false, Bool.and_self, Bool.true_or, Bool.false_or, Bool.or_self, cond_true, cond_false, is_i_int, is_i_bool, is_i_str, is_i_tuple, is_i_list, is_i_dict, is_b_int, is_b_bool, is_b_str, is_b_tuple, is_b_list, is_b_dict, is_s_int, is_s_bool, is_s_str, is_s_tuple, is_s_list, is_s_dict, is_l_int, is_l_bool, is_l_str, is_l_tuple, is_l_list, is_l_dict, is_t_int, is_t_bool, is_t_str, is_t_tuple, is_t_list, is_t_dict, is_n_int, is_n_bool, is_n_str, is_n_tuple, is_n_list, is_n_dict, is_p_int, is_p_bool, is_p_str, is_p_tuple, is_p_list, is_p_dict, fi_0, be_0, n_1, fi_1, be_1, n_2, fi_2, be_2, n_3, fi_3, be_3, n_4, fi_4, be_4, n_5, fi_5, be_5, n_6, fi_6, be_6, n_7, fi_7, be_7, n_8, fi_8, be_8, e1, e2, e3, e4, rp, ↓p60, ↓t17, ldw, fi_9, fi_10, fi_11, fi_12, fi_13, fi_14, fi_15, fi_16, fi_17, fi_18, fi_19, fi_20, fi_21, fi_22, fi_23, ↓k1, ↓k2, ↓k3, ↓k4, ↓k5, ↓q1, ↓a2, ↓a3, lt, eq]
end
end TL

/-! k08: each cell, and the end. -/
namespace TL
open PySem PySem.Spec PyProof.Rows L2 StX
def PLw (ns : List Int) (ρ : Env) : Prop := ∃ a c, ρ = [some (scriptT ns), a, c, none, none, none, none, none]
theorem turn (ns : List Int) (k : Nat) (hk : k < 4) (ρ : Env) (μ : Store) (hp : PLw ns ρ) (hμ : Pure μ) : ∃ ρ' μ', M.bind (hName 1 (.int (k : Int)) ρ) b_law_1 μ = .ok (.nx ρ') μ' ∧ PLw ns ρ' ∧ Pure μ' := by
  obtain ⟨a, c, rfl⟩ := hp
  obtain ⟨μ1, e1, J1⟩ := box ns k (by omega) μ hμ
  obtain ⟨μ2, c1, J2⟩ := lcL_nil (step := lcTurn (hName 3) (bNot (bT (eCallX 1 m__law_right (aCons (eVar 2) aNil)))) (eC (.int 1)) [some (scriptT ns), some (.int (k : Int)), some (.cell μ.length), none, none, none, none, none]) (J := fun μ' => Bx I2 μ.length 0 μ1 μ') (xs := rangeT 0 5) (fun x hx μ' hj => by
    obtain ⟨μa, ea, ja⟩ := right_ok hj
    refine ⟨μa, ?_, ja⟩
    simp only [x_bind, x_ok, x_pure, x_no, x_nob, x_mkFn, x_endr, x_endn, x_sl0, x_sl1, x_sl2, x_seq, x_seqn, x_seqr, x_seqb, x_seqc, x_nil, x_ret, x_exp, x_if, x_set, x_tgt, x_par, x_for, x_var, x_varR, x_c, x_op, x_un, x_ld2, x_ldi, x_ldb, x_lds, x_ldn, x_ldl, x_ldf, x_ldt, x_ldy, x_and, x_andt, x_andf, x_or, x_ort, x_orf, x_not, x_bT, x_asB, x_band, x_bor, x_bnot, x_eif, x_ct, x_cf, x_echain, x_bchain, x_anil, x_acons, x_astar, x_itl, x_itf, x_itt, x_tup, x_lst, x_okL, x_tree, x_cell, x_newC, x_eB, x_lB, x_iB, x_iSeq, x_g1, x_g2, x_call, x_sl, x_onone, x_osome, x_asO, x_name, x_hnil, x_hcons, x_htup, x_hsub, x_comp, x_yes, x_w0, x_w1, x_add, x_sub, x_mod, x_fdiv, x_shr, x_bit, x_cmp, x_lt, x_neg, x_eqi, x_nei, x_ess, x_nss, x_lenl, x_lenf, x_lent, x_int, x_intb, x_max2, x_min2, x_tupl, x_r1, x_r2, x_revl, x_revt, x_ixt, x_ixl, x_ixf, x_ofO, x_slt, x_sll, List.getElem?_cons_zero, List.getElem?_cons_succ, List.set_cons_zero, List.set_cons_succ, List.length_cons, List.length_nil, Bool.not_true, Bool.not_false, Int.reduceEq, Int.reduceLT, Int.reduceLE, at_0, at_1, x_callX, x_eFrz, x_lc0, x_lc1, x_noErr, x_noErrR, x_lcs, x_lcn, x_turn, x_iAny, x_frzl, x_frzf, x_frzt, x_frzp, x_frzi, x_eachl, x_eacht, beq_self_eq_true, eq_self, decide_true, decide_false, Bool.true_and, Bool.false_and, Bool.and_true, Bool.and_false, Bool.and_self, Bool.true_or, Bool.false_or, Bool.or_self, cond_true, cond_false, is_i_int, is_i_bool, is_i_str, is_i_tuple, is_i_list, is_i_dict, is_b_int, is_b_bool, is_b_str, is_b_tuple, is_b_list, is_b_dict, is_s_int, is_s_bool, is_s_str, is_s_tuple, is_s_list, is_s_dict, is_l_int, is_l_bool, is_l_str, is_l_tuple, is_l_list, is_l_dict, is_t_int, is_t_bool, is_t_str, is_t_tuple, is_t_list, is_t_dict, is_n_int, is_n_bool, is_n_str, is_n_tuple, is_n_list, is_n_dict, is_p_int, is_p_bool, is_p_str, is_p_tuple, is_p_list, is_p_dict, fi_0, be_0, n_1, fi_1, be_1, n_2, fi_2, be_2, n_3, fi_3, be_3, n_4, fi_4, be_4, n_5, fi_5, be_5, n_6, fi_6, be_6, n_7, fi_7, be_7, n_8, fi_8, be_8, ea]) μ1 J1
  have sm : sm62 5 = true := rfl
  have tn : (5 : Int).toNat = 5 := rfl
  have ne : gNe (.lst []) (.lst []) μ2 = .ok (.bl false) μ2 := by kernel_rfl
  refine ⟨[some (scriptT ns), some (.int (k : Int)), some (.cell μ.length), none, none, none, none, none], μ2, ?_, ⟨_, _, rfl⟩, J2.pure⟩
  unfold b_law_1
  simp only [x_bind, x_ok, x_pure, x_no, x_nob, x_mkFn, x_endr, x_endn, x_sl0, x_sl1, x_sl2, x_seq, x_seqn, x_seqr, x_seqb, x_seqc, x_nil, x_ret, x_exp, x_if, x_set, x_tgt, x_par, x_for, x_var, x_varR, x_c, x_op, x_un, x_ld2, x_ldi, x_ldb, x_lds, x_ldn, x_ldl, x_ldf, x_ldt, x_ldy, x_and, x_andt, x_andf, x_or, x_ort, x_orf, x_not, x_bT, x_asB, x_band, x_bor, x_bnot, x_eif, x_ct, x_cf, x_echain, x_bchain, x_anil, x_acons, x_astar, x_itl, x_itf, x_itt, x_tup, x_lst, x_okL, x_tree, x_cell, x_newC, x_eB, x_lB, x_iB, x_iSeq, x_g1, x_g2, x_call, x_sl, x_onone, x_osome, x_asO, x_name, x_hnil, x_hcons, x_htup, x_hsub, x_comp, x_yes, x_w0, x_w1, x_add, x_sub, x_mod, x_fdiv, x_shr, x_bit, x_cmp, x_lt, x_neg, x_eqi, x_nei, x_ess, x_nss, x_lenl, x_lenf, x_lent, x_int, x_intb, x_max2, x_min2, x_tupl, x_r1, x_r2, x_revl, x_revt, x_ixt, x_ixl, x_ixf, x_ofO, x_slt, x_sll, List.getElem?_cons_zero, List.getElem?_cons_succ, List.set_cons_zero, List.set_cons_succ, List.length_cons, List.length_nil, Bool.not_true, Bool.not_false, Int.reduceEq, Int.reduceLT, Int.reduceLE, at_0, at_1, x_callX, x_eFrz, x_lc0, x_lc1, x_noErr, x_noErrR, x_lcs, x_lcn, x_turn, x_iAny, x_frzl, x_frzf, x_frzt, x_frzp, x_frzi, x_eachl, x_eacht, beq_self_eq_true, eq_self, decide_true, decide_false, Bool.true_and, Bool.false_and, Bool.and_true, Bool.and_false, Bool.and_self, Bool.true_or, Bool.false_or, Bool.or_self, cond_true, cond_false, is_i_int, is_i_bool, is_i_str, is_i_tuple, is_i_list, is_i_dict, is_b_int, is_b_bool, is_b_str, is_b_tuple, is_b_list, is_b_dict, is_s_int, is_s_bool, is_s_str, is_s_tuple, is_s_list, is_s_dict, is_l_int, is_l_bool, is_l_str, is_l_tuple, is_l_list, is_l_dict, is_t_int, is_t_bool, is_t_str, is_t_tuple, is_t_list, is_t_dict, is_n_int, is_n_bool, is_n_str, is_n_tuple, is_n_list, is_n_dict, is_p_int, is_p_bool, is_p_str, is_p_tuple, is_p_list, is_p_dict, fi_0, be_0, n_1, fi_1, be_1, n_2, fi_2, be_2, n_3, fi_3, be_3, n_4, fi_4, be_4, n_5, fi_5, be_5, n_6, fi_6, be_6, n_7, fi_7, be_7, n_8, fi_8, be_8, e1, c_law_1, sm, tn, c1, ne]
def WIDE : T := .tup [.int 7, .tup [], .tup [.int 0]]
def NOTS : T := .tup (List.replicate 81 (.tup [.str "not", .tup [.int 0]]))
def LONG : T := .tup [.int 1, NOTS, .tup [.int 0]]
def NINE : T := .tup [.int 0, .int 0, .int 0, .int 0, .int 0, .int 0, .int 0, .int 0, .int 0]
def SPREAD : T := .tup [.int 1, .tup [], NINE]
section
variable {μ : Store} {x0 x1 x2 x7 : Option T}
theorem e1 : l_law_1 [x0, x1, x2, none, some WIDE, some LONG, some SPREAD, x7] μ = .ok (.tup [.str "many", .int 12]) μ := by kernel_rfl
theorem e2 : l_law_2 [x0, x1, x2, none, some WIDE, some LONG, some SPREAD, x7] μ = .ok (.tup [.str "fine"]) μ := by kernel_rfl
theorem e3 : l_law_3 [x0, x1, x2, none, some WIDE, some LONG, some SPREAD, x7] μ = .ok (.tup [.str "many", .int 160]) μ := by kernel_rfl
theorem e4 : l_law_4 [x0, x1, x2, none, some WIDE, some LONG, some SPREAD, x7] μ = .ok (.tup [.str "many", .int 160]) μ := by kernel_rfl
theorem e5 : l_law_5 [x0, x1, x2, none, some WIDE, some LONG, some SPREAD, x7] μ = .ok (.tup [.str "many", .int 16]) μ := by kernel_rfl
theorem e6 : l_law_6 [x0, x1, x2, none, some WIDE, some LONG, some SPREAD, x7] μ = .ok (.tup [.str "many", .int 12]) μ := by kernel_rfl
theorem e7 : l_law_7 [x0, x1, x2, none, some WIDE, some LONG, some SPREAD, x7] μ = .ok (.tup [.str "many", .int 160]) μ := by kernel_rfl
end
def TOLD : List T := [.tup [.str "many", .int 12], .tup [.str "fine"], .tup [.str "many", .int 160], .tup [.str "many", .int 160], .tup [.str "many", .int 16], .tup [.str "many", .int 12], .tup [.str "many", .int 160]]
theorem law_ok (ns : List Int) : ∃ μ, m_law [scriptT ns] [] = .ok (.bl true) μ := by
  obtain ⟨K, hK, eK⟩ := spots 4 (by decide) ns.length
  obtain ⟨ρ', μ', hf, ⟨a, c, rfl⟩, _⟩ := cells (step := fun d ρ => M.bind (hName 1 d ρ) b_law_1) (m := 4) (P := PLw ns) (turn ns) hK (ρ := [some (scriptT ns), none, none, none, none, none, none, none]) ⟨_, _, rfl⟩
  have sm : sm62 (K : Int) = true := sm_nat' (by omega)
  have len : ld (scriptT ns) [] = .ok (.fls (ns.map T.int)) [] := rfl
  have e0 : ((4 : Nat) : Int) = 4 := rfl
  rw [e0] at eK
  have m81 : gMulA (.tup [.tup [.str "not", .tup [.int 0]]]) (.int 81) μ' = .ok NOTS μ' := by kernel_rfl
  have m9 : gMulA (.tup [.int 0]) (.int 9) μ' = .ok NINE μ' := by kernel_rfl
  have q1 := e1 (μ := μ') (x0 := some (scriptT ns)) (x1 := a) (x2 := c) (x7 := none)
  have q2 := x_appL (ρ := [some (scriptT ns), a, c, none, some WIDE, some LONG, some SPREAD, some (.cell μ'.length)]) (μ := μ') (i := 7) (xs := TOLD.take 1) (fun _ => e2) rfl rfl
  have q3 := x_appL (ρ := [some (scriptT ns), a, c, none, some WIDE, some LONG, some SPREAD, some (.cell μ'.length)]) (μ := μ') (i := 7) (xs := TOLD.take 2) (fun _ => e3) rfl rfl
  have q4 := x_appL (ρ := [some (scriptT ns), a, c, none, some WIDE, some LONG, some SPREAD, some (.cell μ'.length)]) (μ := μ') (i := 7) (xs := TOLD.take 3) (fun _ => e4) rfl rfl
  have q5 := x_appL (ρ := [some (scriptT ns), a, c, none, some WIDE, some LONG, some SPREAD, some (.cell μ'.length)]) (μ := μ') (i := 7) (xs := TOLD.take 4) (fun _ => e5) rfl rfl
  have q6 := x_appL (ρ := [some (scriptT ns), a, c, none, some WIDE, some LONG, some SPREAD, some (.cell μ'.length)]) (μ := μ') (i := 7) (xs := TOLD.take 5) (fun _ => e6) rfl rfl
  have q7 := x_appL (ρ := [some (scriptT ns), a, c, none, some WIDE, some LONG, some SPREAD, some (.cell μ'.length)]) (μ := μ') (i := 7) (xs := TOLD.take 6) (fun _ => e7) rfl rfl
  have lt : ld (.cell μ'.length) (μ' ++ [⟨true, .lst TOLD⟩]) = .ok (.lst TOLD) (μ' ++ [⟨true, .lst TOLD⟩]) := by simp only [ld, get_last, obT]
  have ne : gNe (.lst TOLD) (.lst TOLD) (μ' ++ [⟨true, .lst TOLD⟩]) = .ok (.bl false) (μ' ++ [⟨true, .lst TOLD⟩]) := by kernel_rfl
  have eq : gEq (.lst [.int 12, .int 160, .int 16, K_KINDS]) (.lst [.int 12, .int 160, .int 16, .tup [.str "and", .str "choose", .str "most", .str "not", .str "one", .str "or", .str "table", .str "xor", .str "zero"]]) (μ' ++ [⟨true, .lst TOLD⟩]) = .ok (.bl true) (μ' ++ [⟨true, .lst TOLD⟩]) := by kernel_rfl
  simp only [TOLD, List.take_succ_cons, List.take_zero, List.cons_append, List.nil_append] at q2 q3 q4 q5 q6 q7 lt ne eq
  simp only [WIDE, LONG, SPREAD] at q1 q2 q3 q4 q5 q6 q7
  refine ⟨μ' ++ [⟨true, .lst TOLD⟩], ?_⟩
  unfold m_law
  simp only [x_bind, x_ok, x_pure, x_no, x_nob, x_mkFn, x_endr, x_endn, x_sl0, x_sl1, x_sl2, x_seq, x_seqn, x_seqr, x_seqb, x_seqc, x_nil, x_ret, x_exp, x_if, x_set, x_tgt, x_par, x_for, x_var, x_varR, x_c, x_op, x_un, x_ld2, x_ldi, x_ldb, x_lds, x_ldn, x_ldl, x_ldf, x_ldt, x_ldy, x_and, x_andt, x_andf, x_or, x_ort, x_orf, x_not, x_bT, x_asB, x_band, x_bor, x_bnot, x_eif, x_ct, x_cf, x_echain, x_bchain, x_anil, x_acons, x_astar, x_itl, x_itf, x_itt, x_tup, x_lst, x_okL, x_tree, x_cell, x_newC, x_eB, x_lB, x_iB, x_iSeq, x_g1, x_g2, x_call, x_sl, x_onone, x_osome, x_asO, x_name, x_hnil, x_hcons, x_htup, x_hsub, x_comp, x_yes, x_w0, x_w1, x_add, x_sub, x_mod, x_fdiv, x_shr, x_bit, x_cmp, x_lt, x_neg, x_eqi, x_nei, x_ess, x_nss, x_lenl, x_lenf, x_lent, x_int, x_intb, x_max2, x_min2, x_tupl, x_r1, x_r2, x_revl, x_revt, x_ixt, x_ixl, x_ixf, x_ofO, x_slt, x_sll, List.getElem?_cons_zero, List.getElem?_cons_succ, List.set_cons_zero, List.set_cons_succ, List.length_cons, List.length_nil, Bool.not_true, Bool.not_false, Int.reduceEq, Int.reduceLT, Int.reduceLE, at_0, at_1, x_callX, x_eFrz, x_lc0, x_lc1, x_noErr, x_noErrR, x_lcs, x_lcn, x_turn, x_iAny, x_frzl, x_frzf, x_frzt, x_frzp, x_frzi, x_eachl, x_eacht, beq_self_eq_true, eq_self, decide_true, decide_false, Bool.true_and, Bool.false_and, Bool.and_true, Bool.and_false, Bool.and_self, Bool.true_or, Bool.false_or, Bool.or_self, cond_true, cond_false, is_i_int, is_i_bool, is_i_str, is_i_tuple, is_i_list, is_i_dict, is_b_int, is_b_bool, is_b_str, is_b_tuple, is_b_list, is_b_dict, is_s_int, is_s_bool, is_s_str, is_s_tuple, is_s_list, is_s_dict, is_l_int, is_l_bool, is_l_str, is_l_tuple, is_l_list, is_l_dict, is_t_int, is_t_bool, is_t_str, is_t_tuple, is_t_list, is_t_dict, is_n_int, is_n_bool, is_n_str, is_n_tuple, is_n_list, is_n_dict, is_p_int, is_p_bool, is_p_str, is_p_tuple, is_p_list, is_p_dict, fi_0, be_0, n_1, fi_1, be_1, n_2, fi_2, be_2, n_3, fi_3, be_3, n_4, fi_4, be_4, n_5, fi_5, be_5, n_6, fi_6, be_6, n_7, fi_7, be_7, n_8, fi_8, be_8, len, List.length_map, eK, sm, Int.toNat_natCast, hf, ↓m81, ↓m9, ↓q1, ↓q2, ↓q3, ↓q4, ↓q5, ↓q6, ↓q7, lt, c_law_2, ne, eq, fi_9, fi_10, TOLD, c_MOST_INPUTS, c_MOST_GATES, c_MOST_ENDS]
end TL

open PySem PySem.W PyProof.Rows
set_option maxRecDepth 100000 in
set_option maxHeartbeats 0 in
theorem PySem.Challenge.cw_gatesums_k08_errors_of_nets_holds : PySem.Challenge.rw_gatesums_k08_errors_of_nets.Holds := by
  w_on; o_law; k_head; (case hw => w_witness2)
  k_fill
  refine TL.walk_TT (l := PySem.Challenge.rw_gatesums_k08_errors_of_nets) (k := 12) (x := "script") (m := TL.m_law) rfl (by rw [sizeLine_eq]; decide) rfl ⟨rfl, by decide, by decide⟩ (fun w h Y => PySem.W.km_in_of Y) ?F ?ans
  case F =>
    intro w mg fa h Y KX G hmg
    refine' TL.all_mk KX G (PySem.W.km_tabs_of Y) hmg ?a0 ?l0 ?k0 ?e0 ?a1 ?l1 ?k1 ?e1 ?a2 ?l2 ?k2 ?e2 ?a3 ?l3 ?k3 ?e3 ?a4 ?l4 ?k4 ?e4 ?a5 ?l5 ?k5 ?e5 ?a6 ?l6 ?k6 ?e6 ?a7 ?l7 ?k7 ?e7 ?a8 ?l8 ?k8 ?e8 ?a9 ?l9 ?k9 ?e9 ?a10 ?l10 ?k10 ?e10 ?a11 ?l11 ?k11 ?e11 ?a12 ?l12 ?k12 ?e12 ?a13 ?l13 ?k13 ?e13 ?a14 ?l14 ?k14 ?e14 ?a15 ?l15 ?k15 ?e15 ?a16 ?l16 ?k16 ?e16 ?a17 ?l17 ?k17 ?e17 ?a18 ?l18 ?k18 ?e18 ?a19 ?l19 ?k19 ?e19 ?a20 ?l20 ?k20 ?e20 ?a21 ?l21 ?k21 ?e21 ?a22 ?l22 ?k22 ?e22 ?a23 ?l23 ?k23 ?e23 ?a24 ?l24 ?k24 ?e24 ?a25 ?l25 ?k25 ?e25 ?a26 ?l26 ?k26 ?e26 ?a27 ?l27 ?k27 ?e27 ?a28 ?l28 ?k28 ?e28 ?a29 ?l29 ?k29 ?e29 ?a30 ?l30 ?k30 ?e30 ?a31 ?l31 ?k31 ?e31 ?a32 ?l32 ?k32 ?e32 ?a33 ?l33 ?k33 ?e33 ?lC33 ?vv33 ?hC33 ?nC33 ?tC33 ?a34 ?l34 ?k34 ?e34 ?a35 ?l35 ?k35 ?e35 ?a36 ?l36 ?k36 ?e36 ?a37 ?l37 ?k37 ?e37 ?a38 ?l38 ?k38 ?e38 ?a39 ?l39 ?k39 ?e39 ?a40 ?l40 ?k40 ?e40 ?a41 ?l41 ?k41 ?e41 ?a42 ?l42 ?k42 ?e42 ?a43 ?l43 ?k43 ?e43 ?lC43 ?vv43 ?hC43 ?nC43 ?tC43 ?a44 ?l44 ?k44 ?e44 ?a45 ?l45 ?k45 ?e45 ?a46 ?l46 ?k46 ?e46 ?a47 ?l47 ?k47 ?e47 ?a48 ?l48 ?k48 ?e48 ?a49 ?l49 ?k49 ?e49 ?a50 ?l50 ?k50 ?e50 ?lC50 ?vv50 ?hC50 ?nC50 ?tC50 ?a51 ?l51 ?k51 ?e51 ?a52 ?l52 ?k52 ?e52 ?lC52 ?vv52 ?hC52 ?nC52 ?tC52 ?a53 ?l53 ?k53 ?e53 ?lC53 ?vv53 ?hC53 ?nC53 ?tC53 ?z_abs ?z_all ?z_bool ?z_enumerate ?z_int ?z_isinstance ?z_len ?z_list ?z_max ?z_min ?z_range ?z_repr ?z_sorted ?z_str ?z_sum ?z_tuple ?z_zip ?c_ALIKE ?c_INPUT ?l_KINDS_0 ?c_KINDS ?c_MOST_ENDS ?c_MOST_GATES ?c_MOST_INPUTS ?c_MOST_TABLED ?c_SIZES ?l_SIZES ?s_SIZES ?c_TABLE ?x_op ?x_su ?gC_InvalidNet ?xI_InvalidNet ?xb_InvalidNet ?xt_InvalidNet ?xk_InvalidNet ?xc2_InvalidNet ?gC_InvalidNumber ?xI_InvalidNumber ?ov_InvalidNumber ?hd_InvalidNumber ?sa_InvalidNumber ?ga_InvalidNumber ?gg_InvalidNumber ?nf_InvalidNumber ?sB_InvalidNumber ?sm_InvalidNumber ?sC_InvalidNumber ?iC_InvalidNumber ?tI_InvalidNumber ?lI_InvalidNumber ?cI_InvalidNumber ?lcc_InvalidNumber ?lcd_InvalidNumber ?v2_InvalidNumber ?fe_InvalidNumber ?tp_InvalidNumber ?pe_InvalidNumber ?xb_InvalidNumber ?xt_InvalidNumber ?xk_InvalidNumber ?xc2_InvalidNumber ?gC_InvalidOperation ?xI_InvalidOperation ?xb_InvalidOperation ?xt_InvalidOperation ?xk_InvalidOperation ?xc2_InvalidOperation ?gC_InvalidReport ?xI_InvalidReport ?xb_InvalidReport ?xt_InvalidReport ?xk_InvalidReport ?xc2_InvalidReport ?gC_InvalidRow ?xI_InvalidRow ?xb_InvalidRow ?xt_InvalidRow ?xk_InvalidRow ?xc2_InvalidRow ?gC_TooMany ?xI_TooMany ?ov_TooMany ?hd_TooMany ?sa_TooMany ?ga_TooMany ?gg_TooMany ?nf_TooMany ?sB_TooMany ?sm_TooMany ?sC_TooMany ?iC_TooMany ?tI_TooMany ?lI_TooMany ?cI_TooMany ?lcc_TooMany ?lcd_TooMany ?v2_TooMany ?fe_TooMany ?tp_TooMany ?pe_TooMany ?xb_TooMany ?xt_TooMany ?xk_TooMany ?xc2_TooMany ?ss_InvalidNet_InvalidNet ?ss_InvalidNet_InvalidRow ?ss_InvalidNet_InvalidReport ?ss_InvalidNet_InvalidOperation ?ss_InvalidNet_InvalidNumber ?ss_InvalidNet_TooMany ?ss_InvalidRow_InvalidNet ?ss_InvalidRow_InvalidRow ?ss_InvalidRow_InvalidReport ?ss_InvalidRow_InvalidOperation ?ss_InvalidRow_InvalidNumber ?ss_InvalidRow_TooMany ?ss_InvalidReport_InvalidNet ?ss_InvalidReport_InvalidRow ?ss_InvalidReport_InvalidReport ?ss_InvalidReport_InvalidOperation ?ss_InvalidReport_InvalidNumber ?ss_InvalidReport_TooMany ?ss_InvalidOperation_InvalidNet ?ss_InvalidOperation_InvalidRow ?ss_InvalidOperation_InvalidReport ?ss_InvalidOperation_InvalidOperation ?ss_InvalidOperation_InvalidNumber ?ss_InvalidOperation_TooMany ?ss_InvalidNumber_InvalidNet ?ss_InvalidNumber_InvalidRow ?ss_InvalidNumber_InvalidReport ?ss_InvalidNumber_InvalidOperation ?ss_InvalidNumber_InvalidNumber ?ss_InvalidNumber_TooMany ?ss_TooMany_InvalidNet ?ss_TooMany_InvalidRow ?ss_TooMany_InvalidReport ?ss_TooMany_InvalidOperation ?ss_TooMany_InvalidNumber ?ss_TooMany_TooMany ?ne_33_43 ?ne_33_50 ?ne_33_52 ?ne_33_53 ?ne_43_33 ?ne_43_50 ?ne_43_52 ?ne_43_53 ?ne_50_33 ?ne_50_43 ?ne_50_52 ?ne_50_53 ?ne_52_33 ?ne_52_43 ?ne_52_50 ?ne_52_53 ?ne_53_33 ?ne_53_43 ?ne_53_50 ?ne_53_52
    (case a0 => k_is); (case l0 => k_is); (case k0 => k_is); (case e0 => k_is)
    (case a1 => k_is); (case l1 => k_is); (case k1 => k_is); (case e1 => k_is)
    (case a2 => k_is); (case l2 => k_is); (case k2 => k_is); (case e2 => k_is)
    (case a3 => k_is); (case l3 => k_is); (case k3 => k_is); (case e3 => k_is)
    (case a4 => k_is); (case l4 => k_is); (case k4 => k_is); (case e4 => k_is)
    (case a5 => k_is); (case l5 => k_is); (case k5 => k_is); (case e5 => k_is)
    (case a6 => k_is); (case l6 => k_is); (case k6 => k_is); (case e6 => k_is)
    (case a7 => k_is); (case l7 => k_is); (case k7 => k_is); (case e7 => k_is)
    (case a8 => k_is); (case l8 => k_is); (case k8 => k_is); (case e8 => k_is)
    (case a9 => k_is); (case l9 => k_is); (case k9 => k_is); (case e9 => k_is)
    (case a10 => k_is); (case l10 => k_is); (case k10 => k_is); (case e10 => k_is)
    (case a11 => k_is); (case l11 => k_is); (case k11 => k_is); (case e11 => k_is)
    (case a12 => k_is); (case l12 => k_is); (case k12 => k_is); (case e12 => k_is)
    (case a13 => k_is); (case l13 => k_is); (case k13 => k_is); (case e13 => k_is)
    (case a14 => k_is); (case l14 => k_is); (case k14 => k_is); (case e14 => k_is)
    (case a15 => k_is); (case l15 => k_is); (case k15 => k_is); (case e15 => k_is)
    (case a16 => k_is); (case l16 => k_is); (case k16 => k_is); (case e16 => k_is)
    (case a17 => k_is); (case l17 => k_is); (case k17 => k_is); (case e17 => k_is)
    (case a18 => k_is); (case l18 => k_is); (case k18 => k_is); (case e18 => k_is)
    (case a19 => k_is); (case l19 => k_is); (case k19 => k_is); (case e19 => k_is)
    (case a20 => k_is); (case l20 => k_is); (case k20 => k_is); (case e20 => k_is)
    (case a21 => k_is); (case l21 => k_is); (case k21 => k_is); (case e21 => k_is)
    (case a22 => k_is); (case l22 => k_is); (case k22 => k_is); (case e22 => k_is)
    (case a23 => k_is); (case l23 => k_is); (case k23 => k_is); (case e23 => k_is)
    (case a24 => k_is); (case l24 => k_is); (case k24 => k_is); (case e24 => k_is)
    (case a25 => k_is); (case l25 => k_is); (case k25 => k_is); (case e25 => k_is)
    (case a26 => k_is); (case l26 => k_is); (case k26 => k_is); (case e26 => k_is)
    (case a27 => k_is); (case l27 => k_is); (case k27 => k_is); (case e27 => k_is)
    (case a28 => k_is); (case l28 => k_is); (case k28 => k_is); (case e28 => k_is)
    (case a29 => k_is); (case l29 => k_is); (case k29 => k_is); (case e29 => k_is)
    (case a30 => k_is); (case l30 => k_is); (case k30 => k_is); (case e30 => k_is)
    (case a31 => k_is); (case l31 => k_is); (case k31 => k_is); (case e31 => k_is)
    (case a32 => k_is); (case l32 => k_is); (case k32 => k_is); (case e32 => k_is)
    (case a33 => k_is); (case l33 => k_is); (case k33 => k_is); (case e33 => k_is)
    (case lC33 => k_is); (case vv33 => rfl); (case hC33 => kernel_rfl); (case nC33 => kernel_rfl)
    (case tC33 => simp); (case a34 => k_is); (case l34 => k_is); (case k34 => k_is)
    (case e34 => k_is); (case a35 => k_is); (case l35 => k_is); (case k35 => k_is)
    (case e35 => k_is); (case a36 => k_is); (case l36 => k_is); (case k36 => k_is)
    (case e36 => k_is); (case a37 => k_is); (case l37 => k_is); (case k37 => k_is)
    (case e37 => k_is); (case a38 => k_is); (case l38 => k_is); (case k38 => k_is)
    (case e38 => k_is); (case a39 => k_is); (case l39 => k_is); (case k39 => k_is)
    (case e39 => k_is); (case a40 => k_is); (case l40 => k_is); (case k40 => k_is)
    (case e40 => k_is); (case a41 => k_is); (case l41 => k_is); (case k41 => k_is)
    (case e41 => k_is); (case a42 => k_is); (case l42 => k_is); (case k42 => k_is)
    (case e42 => k_is); (case a43 => k_is); (case l43 => k_is); (case k43 => k_is)
    (case e43 => k_is); (case lC43 => k_is); (case vv43 => rfl); (case hC43 => kernel_rfl)
    (case nC43 => kernel_rfl); (case tC43 => simp); (case a44 => k_is); (case l44 => k_is)
    (case k44 => k_is); (case e44 => k_is); (case a45 => k_is); (case l45 => k_is)
    (case k45 => k_is); (case e45 => k_is); (case a46 => k_is); (case l46 => k_is)
    (case k46 => k_is); (case e46 => k_is); (case a47 => k_is); (case l47 => k_is)
    (case k47 => k_is); (case e47 => k_is); (case a48 => k_is); (case l48 => k_is)
    (case k48 => k_is); (case e48 => k_is); (case a49 => k_is); (case l49 => k_is)
    (case k49 => k_is); (case e49 => k_is); (case a50 => k_is); (case l50 => k_is)
    (case k50 => k_is); (case e50 => k_is); (case lC50 => k_is); (case vv50 => rfl)
    (case hC50 => kernel_rfl); (case nC50 => kernel_rfl); (case tC50 => simp); (case a51 => k_is)
    (case l51 => k_is); (case k51 => k_is); (case e51 => k_is); (case a52 => k_is)
    (case l52 => k_is); (case k52 => k_is); (case e52 => k_is); (case lC52 => k_is)
    (case vv52 => rfl); (case hC52 => kernel_rfl); (case nC52 => kernel_rfl); (case tC52 => simp)
    (case a53 => k_is); (case l53 => k_is); (case k53 => k_is); (case e53 => k_is)
    (case lC53 => k_is); (case vv53 => rfl); (case hC53 => kernel_rfl); (case nC53 => kernel_rfl)
    (case tC53 => simp); (case z_abs => k_is); (case z_all => k_is); (case z_bool => k_is)
    (case z_enumerate => k_is); (case z_int => k_is); (case z_isinstance => k_is); (case z_len => k_is)
    (case z_list => k_is); (case z_max => k_is); (case z_min => k_is); (case z_range => k_is)
    (case z_repr => k_is); (case z_sorted => k_is); (case z_str => k_is); (case z_sum => k_is)
    (case z_tuple => k_is); (case z_zip => k_is); (case c_ALIKE => k_is); (case c_INPUT => k_is)
    (case c_KINDS => k_is); (case l_KINDS_0 => k_is); (case c_MOST_ENDS => k_is); (case c_MOST_GATES => k_is)
    (case c_MOST_INPUTS => k_is); (case c_MOST_TABLED => k_is); (case c_SIZES => k_is); (case l_SIZES => k_is)
    (case s_SIZES => (first | rfl | decide)); (case c_TABLE => k_is); (case x_op => k_is); (case x_su => k_is)
    (case gC_InvalidNet => k_is); (case xI_InvalidNet => k_exc); (case xb_InvalidNet => k_is); (case xt_InvalidNet => k_is)
    (case xk_InvalidNet => k_is); (case xc2_InvalidNet => k_is); (case gC_InvalidNumber => k_is); (case xI_InvalidNumber => kx_is)
    (case ov_InvalidNumber => kx_is); (case hd_InvalidNumber => k_is); (case sa_InvalidNumber => k_is); (case ga_InvalidNumber => k_is)
    (case gg_InvalidNumber => k_is); (case nf_InvalidNumber => k_is); (case sB_InvalidNumber => k_is); (case sm_InvalidNumber => ks_is)
    (case sC_InvalidNumber => k_is); (case iC_InvalidNumber => k_is); (case tI_InvalidNumber => k_is); (case lI_InvalidNumber => k_is)
    (case cI_InvalidNumber => k_is); (case lcc_InvalidNumber => k_is); (case lcd_InvalidNumber => k_is); (case v2_InvalidNumber => rfl)
    (case fe_InvalidNumber => (first | rfl | decide +kernel)); (case tp_InvalidNumber => (first | rfl | decide +kernel)); (case pe_InvalidNumber => (first | rfl | decide)); (case xb_InvalidNumber => k_is)
    (case xt_InvalidNumber => k_is); (case xk_InvalidNumber => k_is); (case xc2_InvalidNumber => k_is); (case gC_InvalidOperation => k_is)
    (case xI_InvalidOperation => k_exc); (case xb_InvalidOperation => k_is); (case xt_InvalidOperation => k_is); (case xk_InvalidOperation => k_is)
    (case xc2_InvalidOperation => k_is); (case gC_InvalidReport => k_is); (case xI_InvalidReport => k_exc); (case xb_InvalidReport => k_is)
    (case xt_InvalidReport => k_is); (case xk_InvalidReport => k_is); (case xc2_InvalidReport => k_is); (case gC_InvalidRow => k_is)
    (case xI_InvalidRow => k_exc); (case xb_InvalidRow => k_is); (case xt_InvalidRow => k_is); (case xk_InvalidRow => k_is)
    (case xc2_InvalidRow => k_is); (case gC_TooMany => k_is); (case xI_TooMany => kx_is); (case ov_TooMany => kx_is)
    (case hd_TooMany => k_is); (case sa_TooMany => k_is); (case ga_TooMany => k_is); (case gg_TooMany => k_is)
    (case nf_TooMany => k_is); (case sB_TooMany => k_is); (case sm_TooMany => ks_is); (case sC_TooMany => k_is)
    (case iC_TooMany => k_is); (case tI_TooMany => k_is); (case lI_TooMany => k_is); (case cI_TooMany => k_is)
    (case lcc_TooMany => k_is); (case lcd_TooMany => k_is); (case v2_TooMany => rfl); (case fe_TooMany => (first | rfl | decide +kernel))
    (case tp_TooMany => (first | rfl | decide +kernel)); (case pe_TooMany => (first | rfl | decide)); (case xb_TooMany => k_is); (case xt_TooMany => k_is)
    (case xk_TooMany => k_is); (case xc2_TooMany => k_is); (case ss_InvalidNet_InvalidNet => k_is); (case ss_InvalidNet_InvalidRow => k_is)
    (case ss_InvalidNet_InvalidReport => k_is); (case ss_InvalidNet_InvalidOperation => k_is); (case ss_InvalidNet_InvalidNumber => k_is); (case ss_InvalidNet_TooMany => k_is)
    (case ss_InvalidRow_InvalidNet => k_is); (case ss_InvalidRow_InvalidRow => k_is); (case ss_InvalidRow_InvalidReport => k_is); (case ss_InvalidRow_InvalidOperation => k_is)
    (case ss_InvalidRow_InvalidNumber => k_is); (case ss_InvalidRow_TooMany => k_is); (case ss_InvalidReport_InvalidNet => k_is); (case ss_InvalidReport_InvalidRow => k_is)
    (case ss_InvalidReport_InvalidReport => k_is); (case ss_InvalidReport_InvalidOperation => k_is); (case ss_InvalidReport_InvalidNumber => k_is); (case ss_InvalidReport_TooMany => k_is)
    (case ss_InvalidOperation_InvalidNet => k_is); (case ss_InvalidOperation_InvalidRow => k_is); (case ss_InvalidOperation_InvalidReport => k_is); (case ss_InvalidOperation_InvalidOperation => k_is)
    (case ss_InvalidOperation_InvalidNumber => k_is); (case ss_InvalidOperation_TooMany => k_is); (case ss_InvalidNumber_InvalidNet => k_is); (case ss_InvalidNumber_InvalidRow => k_is)
    (case ss_InvalidNumber_InvalidReport => k_is); (case ss_InvalidNumber_InvalidOperation => k_is); (case ss_InvalidNumber_InvalidNumber => k_is); (case ss_InvalidNumber_TooMany => k_is)
    (case ss_TooMany_InvalidNet => k_is); (case ss_TooMany_InvalidRow => k_is); (case ss_TooMany_InvalidReport => k_is); (case ss_TooMany_InvalidOperation => k_is)
    (case ss_TooMany_InvalidNumber => k_is); (case ss_TooMany_TooMany => k_is); (case ne_33_43 => decide); (case ne_33_50 => decide)
    (case ne_33_52 => decide); (case ne_33_53 => decide); (case ne_43_33 => decide); (case ne_43_50 => decide)
    (case ne_43_52 => decide); (case ne_43_53 => decide); (case ne_50_33 => decide); (case ne_50_43 => decide)
    (case ne_50_52 => decide); (case ne_50_53 => decide); (case ne_52_33 => decide); (case ne_52_43 => decide)
    (case ne_52_50 => decide); (case ne_52_53 => decide); (case ne_53_33 => decide); (case ne_53_43 => decide)
    (case ne_53_50 => decide); (case ne_53_52 => decide)
  case ans => exact fun ns _ _ => TL.law_ok ns
