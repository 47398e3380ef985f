import PyProof.Rows.All
import Wide.All
import OpenK.AllK
import Wide.FinOn
import HandS.ForMost
import HandS.Exc
import HandS.TryMany
import HandS.ExcOwn
import HandS.Wide
import HandS.WideBits
import HandS.TupAny
import HandS.TupMul
import HandS.TupLe
import HandS.Deep
import HandS.Style
import KE.LtData
import HandS.TupLen
import HandS.IsInst
import HandS.Conv
import KE.SortData
import PyProof.ReprRoads
import HandS.DictComp
import HandS.Zip
import KE.GoesNew
import KE.GoesNewDict
import HandS.Star
import HandS.Ends
import HandS.EndBits
import PySem.Challenge.RW_gatesums_k09_whole_values_of_words
import KE.BitLaws
set_option Elab.async false
set_option linter.all false
set_option maxRecDepth 100000
set_option maxHeartbeats 2000000
/-! T layer 1: values as trees, a store of mutable cells, the monad, the relation to the abstract heap, what is wanted behind a run. -/
namespace TL
open PySem PySem.Spec PyProof.Rows L2

inductive T where
  | non
  | bl (b : Bool)
  | int (i : Int)
  | str (x : Str)
  | lst (xs : List T)
  | fls (xs : List T)
  | tup (xs : List T)
  | ftp (xs : List T)
  | dic (tk : Bool) (kvs : List (T × T))
  | cell (k : Nat)
  | ref (a : Addr)
  | ty (n : String)
  deriving Inhabited

abbrev Env := List (Option T)
inductive Ob where
  | lst (xs : List T)
  | dic (tk : Bool) (kvs : List (T × T))
structure Cel where
  live : Bool
  o : Ob
abbrev Store := List Cel
structure Exn where
  cls : Str
  fs : List (Str × T)
inductive R (α : Type) where
  | ok (a : α) (μ : Store)
  | err (e : Exn) (μ : Store)
  | no
abbrev M (α : Type) := Store → R α
def M.pure {α : Type} (a : α) : M α := fun μ => .ok a μ
def M.bind {α β : Type} (m : M α) (k : α → M β) : M β := fun μ => match m μ with
  | .ok a μ' => k a μ'
  | .err e μ' => .err e μ'
  | .no => .no
def M.no {α : Type} : M α := fun _ => .no
instance : Monad M where
  pure := M.pure
  bind := M.bind
theorem bind_def {α β : Type} (m : M α) (k : α → M β) : (m >>= k) = M.bind m k := rfl
theorem pure_def {α : Type} (a : α) : (pure a : M α) = M.pure a := rfl

/-! ### trees and the abstract heap -/
def keyT : Key → T
  | .inl i => .int i
  | .inr x => .str x
mutual
inductive Rp (K : PySem.W.Frag) (F : Hp) (ι : List Addr) : V → T → Prop
  | non : Rp K F ι .non .non
  | bl (b : Bool) : Rp K F ι (.bl b) (.bl b)
  | int (i : Int) : Rp K F ι (.int i) (.int i)
  | str (x : Str) : Rp K F ι (.str x) (.str x)
  | lst {a : Addr} {xs : List V} {ds : List T} : F a = some (.lst xs) → Rps K F ι xs ds → Rp K F ι (.ref a) (.lst ds)
  | fls {a : Addr} {xs : List V} {ds : List T} : SqL K F a xs → Rps K F ι xs ds → Rp K F ι (.ref a) (.fls ds)
  | tup {a : Addr} {xs : List V} {ds : List T} : F a = some (.tup xs) → Rps K F ι xs ds → Rp K F ι (.ref a) (.tup ds)
  | ftp {a : Addr} {xs : List V} {ds : List T} : SqT K F a xs → Rps K F ι xs ds → Rp K F ι (.ref a) (.ftp ds)
  | dic {a : Addr} {kvs : List (Key × V)} {ps : List (T × T)} : Rd F a (.dK kvs) → Rpk K F ι kvs ps → Rp K F ι (.ref a) (.dic false ps)
  | dit {a : Addr} {kvs : List (List Key × V)} {ps : List (T × T)} : Rd F a (.dT kvs) → Rpt K F ι kvs ps → Rp K F ι (.ref a) (.dic true ps)
  | cell {k : Nat} {a : Addr} : ι[k]? = some a → Rp K F ι (.ref a) (.cell k)
  | ref (a : Addr) : Rp K F ι (.ref a) (.ref a)
  | ty (n : String) : Rp K F ι (.ty n) (.ty n)
inductive Rps (K : PySem.W.Frag) (F : Hp) (ι : List Addr) : List V → List T → Prop
  | nil : Rps K F ι [] []
  | cons {v : V} {vs : List V} {d : T} {ds : List T} : Rp K F ι v d → Rps K F ι vs ds → Rps K F ι (v :: vs) (d :: ds)
inductive Rpk (K : PySem.W.Frag) (F : Hp) (ι : List Addr) : List (Key × V) → List (T × T) → Prop
  | nil : Rpk K F ι [] []
  | cons {k : Key} {v : V} {vs : List (Key × V)} {d : T} {ds : List (T × T)} : Rp K F ι v d → Rpk K F ι vs ds → Rpk K F ι ((k, v) :: vs) ((keyT k, d) :: ds)
inductive Rpt (K : PySem.W.Frag) (F : Hp) (ι : List Addr) : List (List Key × V) → List (T × T) → Prop
  | nil : Rpt K F ι [] []
  | cons {k : List Key} {v : V} {vs : List (List Key × V)} {d : T} {ds : List (T × T)} : Rp K F ι v d → Rpt K F ι vs ds → Rpt K F ι ((k, v) :: vs) ((.tup (k.map keyT), d) :: ds)
end

/-- more is known: what could be read can be read -/
def Sub (F F' : Hp) : Prop := (∀ a u, Rd F a u → Rd F' a u) ∧ (∀ a xs, F a = some (.lst xs) → F' a = some (.lst xs)) ∧ ∀ a xs, F a = some (.tup xs) → F' a = some (.tup xs)
def Pre (ι ι' : List Addr) : Prop := ∃ r, ι' = ι ++ r
theorem Pre.refl (ι : List Addr) : Pre ι ι := ⟨[], by simp⟩
theorem Pre.trans {a b c : List Addr} : Pre a b → Pre b c → Pre a c
  | ⟨r, e⟩, ⟨q, g⟩ => ⟨r ++ q, by rw [g, e, List.append_assoc]⟩
theorem Pre.get {a b : List Addr} {k : Nat} {x : Addr} : Pre a b → a[k]? = some x → b[k]? = some x
  | ⟨r, e⟩, h => by
    obtain ⟨hk, _⟩ := List.getElem?_eq_some_iff.mp h
    rw [e, List.getElem?_append_left hk]; exact h
theorem Pre.mem {a b : List Addr} {x : Addr} : Pre a b → x ∈ a → x ∈ b
  | ⟨r, e⟩, h => by rw [e]; exact List.mem_append_left _ h
theorem Pre.len {a b : List Addr} : Pre a b → a.length ≤ b.length
  | ⟨r, e⟩ => by rw [e, List.length_append]; omega
def All (F F' : Hp) : Prop := ∀ a o, F a = some o → F' a = some o
theorem All.sub {F F' : Hp} (h : All F F') : Sub F F' := ⟨fun a u r => by
  rcases r with r | ⟨o, r⟩
  · exact .inl (h _ _ r)
  · exact .inr ⟨o, h _ _ r⟩, fun a xs e => h _ _ e, fun a xs e => h _ _ e⟩
theorem Sub.refl (F : Hp) : Sub F F := ⟨fun _ _ r => r, fun _ _ e => e, fun _ _ e => e⟩
theorem Sub.seqL {K : PySem.W.Frag} {F F' : Hp} {a : Addr} {xs : List V} (h : Sub F F') (s : SqL K F a xs) : SqL K F' a xs := by
  rcases s with s | s
  · exact .inl (h.1 _ _ s)
  · exact .inr s
theorem Sub.seqT {K : PySem.W.Frag} {F F' : Hp} {a : Addr} {xs : List V} (h : Sub F F') (s : SqT K F a xs) : SqT K F' a xs := by
  rcases s with s | s
  · exact .inl (h.1 _ _ s)
  · exact .inr s
mutual
theorem Rp.mono {K : PySem.W.Frag} {F F' : Hp} {ι ι' : List Addr} (hF : Sub F F') (hi : Pre ι ι') {v : V} {d : T} : Rp K F ι v d → Rp K F' ι' v d
  | .non => .non
  | .bl b => .bl b
  | .int i => .int i
  | .str x => .str x
  | .lst s r => .lst (hF.2.1 _ _ s) (Rps.mono hF hi r)
  | .fls s r => .fls (hF.seqL s) (Rps.mono hF hi r)
  | .tup s r => .tup (hF.2.2 _ _ s) (Rps.mono hF hi r)
  | .ftp s r => .ftp (hF.seqT s) (Rps.mono hF hi r)
  | .dic s r => .dic (hF.1 _ _ s) (Rpk.mono hF hi r)
  | .dit s r => .dit (hF.1 _ _ s) (Rpt.mono hF hi r)
  | .cell e => .cell (hi.get e)
  | .ref a => .ref a
  | .ty n => .ty n
theorem Rps.mono {K : PySem.W.Frag} {F F' : Hp} {ι ι' : List Addr} (hF : Sub F F') (hi : Pre ι ι') {v : List V} {d : List T} : Rps K F ι v d → Rps K F' ι' v d
  | .nil => .nil
  | .cons r t => .cons (Rp.mono hF hi r) (Rps.mono hF hi t)
theorem Rpk.mono {K : PySem.W.Frag} {F F' : Hp} {ι ι' : List Addr} (hF : Sub F F') (hi : Pre ι ι') {v : List (Key × V)} {d : List (T × T)} : Rpk K F ι v d → Rpk K F' ι' v d
  | .nil => .nil
  | .cons r t => .cons (Rp.mono hF hi r) (Rpk.mono hF hi t)
theorem Rpt.mono {K : PySem.W.Frag} {F F' : Hp} {ι ι' : List Addr} (hF : Sub F F') (hi : Pre ι ι') {v : List (List Key × V)} {d : List (T × T)} : Rpt K F ι v d → Rpt K F' ι' v d
  | .nil => .nil
  | .cons r t => .cons (Rp.mono hF hi r) (Rpt.mono hF hi t)
end
section
variable {K : PySem.W.Frag} {F : Hp} {ι : List Addr}
theorem Rps.length {vs : List V} : ∀ {ds : List T}, Rps K F ι vs ds → vs.length = ds.length := by
  induction vs with
  | nil => intro ds h; cases h; rfl
  | cons v vs ih => intro ds h; cases h with | cons r t => simp [ih t]
theorem Rps.get : ∀ {vs : List V} {ds : List T} {i : Nat} {d : T}, Rps K F ι vs ds → ds[i]? = some d → ∃ v, vs[i]? = some v ∧ Rp K F ι v d
  | _, _, i, d, .nil, h => by simp at h
  | _, _, 0, d, .cons r t, h => by simp at h; subst h; exact ⟨_, rfl, r⟩
  | _, _, i + 1, d, .cons r t, h => by
    obtain ⟨v, e, q⟩ := Rps.get (i := i) t (by simpa using h)
    exact ⟨v, by simpa using e, q⟩
theorem Rps.getV : ∀ {vs : List V} {ds : List T} {i : Nat} {v : V}, Rps K F ι vs ds → vs[i]? = some v → ∃ d, ds[i]? = some d ∧ Rp K F ι v d
  | _, _, i, d, .nil, h => by simp at h
  | _, _, 0, d, .cons r t, h => by simp at h; subst h; exact ⟨_, rfl, r⟩
  | _, _, i + 1, d, .cons r t, h => by
    obtain ⟨v, e, q⟩ := Rps.getV (i := i) t (by simpa using h)
    exact ⟨v, by simpa using e, q⟩
theorem Rps.append : ∀ {vs ws : List V} {ds es : List T}, Rps K F ι vs ds → Rps K F ι ws es → Rps K F ι (vs ++ ws) (ds ++ es)
  | _, _, _, _, .nil, s => s
  | _, _, _, _, .cons r t, s => .cons r (Rps.append t s)
theorem Rps.take : ∀ {vs : List V} {ds : List T} (n : Nat), Rps K F ι vs ds → Rps K F ι (vs.take n) (ds.take n)
  | _, _, 0, _ => .nil
  | _, _, _ + 1, .nil => .nil
  | _, _, n + 1, .cons r t => .cons r (Rps.take n t)
theorem Rps.drop : ∀ {vs : List V} {ds : List T} (n : Nat), Rps K F ι vs ds → Rps K F ι (vs.drop n) (ds.drop n)
  | _, _, 0, r => r
  | _, _, _ + 1, .nil => .nil
  | _, _, n + 1, .cons r t => Rps.drop n t
theorem Rps.set {v : V} {d : T} (r : Rp K F ι v d) : ∀ {vs : List V} {ds : List T} (i : Nat), Rps K F ι vs ds → Rps K F ι (vs.set i v) (ds.set i d)
  | _, _, _, .nil => .nil
  | _, _, 0, .cons _ t => .cons r t
  | _, _, i + 1, .cons q t => .cons q (Rps.set r i t)
theorem Rps.of_get : ∀ {vs : List V} {ds : List T}, vs.length = ds.length → (∀ (i : Nat) v d, vs[i]? = some v → ds[i]? = some d → Rp K F ι v d) → Rps K F ι vs ds
  | [], [], _, _ => .nil
  | v :: vs, d :: ds, h, f => .cons (f 0 v d rfl rfl) (Rps.of_get (by simpa using h) fun i v d a b => f (i + 1) v d (by simpa using a) (by simpa using b))
  | [], _ :: _, h, _ => by simp at h
  | _ :: _, [], h, _ => by simp at h
end

/-! ### the store -/
inductive RpO (K : PySem.W.Frag) (F : Hp) (ι : List Addr) : HO → Ob → Prop
  | lst {xs : List V} {ds : List T} : Rps K F ι xs ds → RpO K F ι (.lst xs) (.lst ds)
  | dic {kvs : List (Key × V)} {ps : List (T × T)} : Rpk K F ι kvs ps → RpO K F ι (.dK kvs) (.dic false ps)
  | dit {kvs : List (List Key × V)} {ps : List (T × T)} : Rpt K F ι kvs ps → RpO K F ι (.dT kvs) (.dic true ps)
theorem RpO.mono {K : PySem.W.Frag} {F F' : Hp} {ι ι' : List Addr} (hF : Sub F F') (hi : Pre ι ι') {u : HO} {o : Ob} : RpO K F ι u o → RpO K F' ι' u o
  | .lst r => .lst (r.mono hF hi)
  | .dic r => .dic (r.mono hF hi)
  | .dit r => .dit (r.mono hF hi)
def CelOk (K : PySem.W.Frag) (F : Hp) (ι : List Addr) (H : Hp) (a : Addr) (c : Cel) : Prop :=
  ∃ u, H a = some u ∧ RpO K F ι u c.o ∧ (c.live = true → F a = none) ∧ (c.live = false → F a = some u)
structure Rel (K : PySem.W.Frag) (F : Hp) (ι : List Addr) (μ : Store) (H : Hp) : Prop where
  sub : All F H
  nd : ι.Nodup
  len : ι.length = μ.length
  cel : ∀ (k : Nat) (a : Addr) (c : Cel), ι[k]? = some a → μ[k]? = some c → CelOk K F ι H a c
/-- what became of it: what was known is known, cells are added at the end, what is neither stands as it stood -/
structure Ext (F : Hp) (ι : List Addr) (H F' : Hp) (ι' : List Addr) (H' : Hp) : Prop where
  f : All F F'
  i : Pre ι ι'
  h : ∀ a o, H a = some o → a ∉ ι → H' a = some o
  new : ∀ a, a ∈ ι' → a ∈ ι ∨ H a = none
  fnew : ∀ a o, F' a = some o → F a = some o ∨ a ∈ ι ∨ H a = none
theorem Ext.refl (F : Hp) (ι : List Addr) (H : Hp) : Ext F ι H F ι H := ⟨fun _ _ h => h, .refl _, fun _ _ h _ => h, fun _ h => .inl h, fun _ _ h => .inl h⟩
theorem Ext.trans {F F1 F2 : Hp} {ι ι1 ι2 : List Addr} {H H1 H2 : Hp} (a : Ext F ι H F1 ι1 H1) (b : Ext F1 ι1 H1 F2 ι2 H2) : Ext F ι H F2 ι2 H2 where
  f := fun x o h => b.f _ _ (a.f _ _ h)
  i := a.i.trans b.i
  h := fun x o e n => b.h x o (a.h x o e n) fun m => (a.new x m).elim n fun z => by rw [z] at e; cases e
  new := fun x m => by
    rcases b.new x m with m1 | z
    · exact a.new x m1
    · by_cases m0 : x ∈ ι
      · exact .inl m0
      · refine .inr ?_
        cases q : H x with
        | none => rfl
        | some o => rw [a.h x o q m0] at z; cases z
  fnew := fun x o e => by
    rcases b.fnew x o e with e1 | m1 | z
    · exact a.fnew x o e1
    · rcases a.new x m1 with m0 | z0
      · exact .inr (.inl m0)
      · exact .inr (.inr z0)
    · by_cases m0 : x ∈ ι
      · exact .inr (.inl m0)
      · refine .inr (.inr ?_)
        cases q : H x with
        | none => rfl
        | some o => rw [a.h x o q m0] at z; cases z
theorem Ext.sub {F F' : Hp} {ι ι' : List Addr} {H H' : Hp} (x : Ext F ι H F' ι' H') : Sub F F' := x.f.sub

/-! ### exceptions -/
def XRp (K : PySem.W.Frag) (mg : Str → Option Value) (F : Hp) (ι : List Addr) (cls : Value) (dx : Option Addr) (H : Hp) (e : Exn) : Prop :=
  mg e.cls = some cls ∧ ((e.fs = [] ∧ dx = none) ∨ ∃ d fs, dx = some d ∧ H d = some (.xd fs) ∧ fs.map (·.1) = e.fs.map (·.1) ∧ Rps K F ι (fs.map (·.2)) (e.fs.map (·.2)))

/-! ### what is wanted behind a run -/
section
variable (K : PySem.W.Frag) (mg : Str → Option Value) (E : XK)
def Post {α : Type} (r : R α) (F : Hp) (ι : List Addr) (H : Hp) (rp : Hp → List Addr → Store → Hp → α → Prop) : Prop := match r with
  | .ok a μ' => ∀ F' ι' H', Ext F ι H F' ι' H' → Rel K F' ι' μ' H' → rp F' ι' μ' H' a
  | .err e μ' => ∀ F' ι' H' cls dx, Ext F ι H F' ι' H' → Rel K F' ι' μ' H' → XRp K mg F' ι' cls dx H' e → E cls dx H'
  | .no => False
end
section
variable {K : PySem.W.Frag} {mg : Str → Option Value} {E : XK} {α β : Type} {F F1 : Hp} {ι ι1 : List Addr} {H H1 : Hp} {μ : Store}
theorem Post.imp {r : R α} {rp rp' : Hp → List Addr → Store → Hp → α → Prop} (h : Post K mg E r F ι H rp)
    (f : ∀ F' ι' μ' H' a, Ext F ι H F' ι' H' → Rel K F' ι' μ' H' → rp F' ι' μ' H' a → rp' F' ι' μ' H' a) : Post K mg E r F ι H rp' := by
  cases r with
  | ok a μ' => exact fun F' ι' H' x q => f F' ι' μ' H' a x q (h F' ι' H' x q)
  | err e μ' => exact h
  | no => exact h
/-- from a later state -/
theorem Post.later {r : R α} {rp : Hp → List Addr → Store → Hp → α → Prop} (x : Ext F ι H F1 ι1 H1) (h : Post K mg E r F ι H rp) : Post K mg E r F1 ι1 H1 rp := by
  cases r with
  | ok a μ' => exact fun F' ι' H' y q => h F' ι' H' (x.trans y) q
  | err e μ' => exact fun F' ι' H' cls dx y q z => h F' ι' H' cls dx (x.trans y) q z
  | no => exact h
theorem Post.bind {m : M α} {k : α → M β} {rp : Hp → List Addr → Store → Hp → β → Prop} {rp' : Hp → List Addr → Store → Hp → α → Prop} (h : Post K mg E (M.bind m k μ) F ι H rp)
    (hk : ∀ F' ι' μ' H' a, Ext F ι H F' ι' H' → Rel K F' ι' μ' H' → Post K mg E (k a μ') F' ι' H' rp → rp' F' ι' μ' H' a) : Post K mg E (m μ) F ι H rp' := by
  unfold M.bind at h
  cases e : m μ with
  | ok a μ' =>
    rw [e] at h
    exact fun F' ι' H' x q => hk F' ι' μ' H' a x q (h.later x)
  | err x μ' => rw [e] at h; exact h
  | no => rw [e] at h; exact h
theorem Post.pure {a : α} {rp : Hp → List Addr → Store → Hp → α → Prop} (h : Post K mg E (M.pure a μ) F ι H rp) (r : Rel K F ι μ H) : rp F ι μ H a := h F ι H (.refl ..) r
end

/-! ### slots -/
structure ERp (K : PySem.W.Frag) (F : Hp) (ι : List Addr) (σ : L2.St) (ρ : Env) : Prop where
  len : σ.length = ρ.length
  at_ : ∀ (i : Nat) d, ρ[i]? = some (some d) → ∃ v, σ[i]? = some (some v) ∧ Rp K F ι v d
section
variable {K : PySem.W.Frag} {F F' : Hp} {ι ι' : List Addr} {σ : L2.St} {ρ : Env}
theorem ERp.mono (h : ERp K F ι σ ρ) (hF : Sub F F') (hi : Pre ι ι') : ERp K F' ι' σ ρ := ⟨h.len, fun i d e => let ⟨v, a, r⟩ := h.at_ i d e; ⟨v, a, r.mono hF hi⟩⟩
theorem ERp.ext {H H' : Hp} (h : ERp K F ι σ ρ) (x : Ext F ι H F' ι' H') : ERp K F' ι' σ ρ := h.mono x.sub x.i
theorem ERp.set (h : ERp K F ι σ ρ) {v : V} {d : T} (r : Rp K F ι v d) (i : Nat) : ERp K F ι (σ.set i (some v)) (ρ.set i (some d)) := by
  refine ⟨by simp [h.len], fun j e he => ?_⟩
  by_cases hj : j = i
  · subst hj
    by_cases hl : j < ρ.length
    · rw [List.getElem?_set_self hl] at he
      cases he
      exact ⟨v, by rw [List.getElem?_set_self (by rw [h.len]; exact hl)], r⟩
    · rw [List.getElem?_eq_none (by simp; omega)] at he; cases he
  · rw [List.getElem?_set_ne (Ne.symm hj)] at he
    obtain ⟨v', a, q⟩ := h.at_ j e he
    exact ⟨v', by rw [List.getElem?_set_ne (Ne.symm hj)]; exact a, q⟩
def wipeE (ρ : Env) : List Nat → Env
  | [] => ρ
  | i :: r => (wipeE ρ r).set i none
theorem ERp.unset (h : ERp K F ι σ ρ) (i : Nat) : ERp K F ι (σ.set i none) (ρ.set i none) := by
  refine ⟨by simp [h.len], fun j e he => ?_⟩
  by_cases hj : j = i
  · subst hj
    by_cases hl : j < ρ.length
    · rw [List.getElem?_set_self hl] at he; cases he
    · rw [List.getElem?_eq_none (by simp; omega)] at he; cases he
  · rw [List.getElem?_set_ne (Ne.symm hj)] at he
    obtain ⟨v', a, q⟩ := h.at_ j e he
    exact ⟨v', by rw [List.getElem?_set_ne (Ne.symm hj)]; exact a, q⟩
end

end TL

/-! T layer 2: the judgements over trees; names, constants, tests, displays; blocks. -/
namespace TL
open PySem PySem.Spec PyProof.Rows L2

inductive Fl where
  | nx (ρ : Env)
  | rt (d : T)
  | bk (ρ : Env)
  | ct (ρ : Env)

section
variable (K : PySem.W.Frag) (mg : Str → Option Value) (E : XK)
abbrev wT (Q : VK) : Hp → List Addr → Store → Hp → T → Prop := fun F ι _ H d => ∀ v, Rp K F ι v d → Q v H
def tE (f : Env → M T) : TE := fun σ H Q => ∃ F ι μ ρ, Rel K F ι μ H ∧ ERp K F ι σ ρ ∧ Post K mg E (f ρ μ) F ι H (wT K Q)
def tT (f : Env → M Bool) : TT := fun σ H Q => ∃ F ι μ ρ, Rel K F ι μ H ∧ ERp K F ι σ ρ ∧ Post K mg E (f ρ μ) F ι H (fun _ _ _ H' b => Q b H')
def tA (f : Env → M (List T)) : TA := fun σ H Q => ∃ F ι μ ρ, Rel K F ι μ H ∧ ERp K F ι σ ρ ∧ Post K mg E (f ρ μ) F ι H (fun F' ι' _ H' ds => ∀ vs, Rps K F' ι' vs ds → Q vs H')
def wF (D : Ends) : Hp → List Addr → Store → Hp → Fl → Prop := fun F ι _ H fl => match fl with
  | .nx ρ => ∀ σ, ERp K F ι σ ρ → D.nx σ H
  | .rt d => ∀ v, Rp K F ι v d → D.rt v H
  | .bk ρ => ∀ σ, ERp K F ι σ ρ → D.bk σ H
  | .ct ρ => ∀ σ, ERp K F ι σ ρ → D.ct σ H
def tS (g : Env → M Fl) : TS := fun D σ H => ∃ F ι μ ρ, Rel K F ι μ H ∧ ERp K F ι σ ρ ∧ Post K mg E (g ρ μ) F ι H (wF K D)
/-- a new list: its items -/
def tL (f : Env → M (List T)) : TE := fun σ H Q => ∃ F ι μ ρ, Rel K F ι μ H ∧ ERp K F ι σ ρ ∧ Post K mg E (f ρ μ) F ι H
  (fun F' ι' _ H' ds => ∀ p xs H'', (∀ a, a ≠ p → H'' a = H' a) → H' p = none → H'' p = some (.lst xs) → Rps K F' ι' xs ds → Q (.ref p) H'')
/-- a target: the slots vs may change -/
def tG (vs : List Nat) (h : T → Env → M Env) : TG := fun v σ H Q => ∃ F ι μ ρ d, Rel K F ι μ H ∧ ERp K F ι σ ρ ∧ Rp K F ι v d ∧ Post K mg E (h d ρ μ) F ι H
  (fun F' ι' _ H' ρ' => ∀ σ', ERp K F' ι' σ' ρ' → wipe σ' vs = wipe σ vs → Q σ' H')
end
section
variable (X : Cx) (E : XK)
abbrev DE (e : Expr) (f : Env → M T) : Prop := PE X e (tE X.K X.mg E f)
abbrev DT (e : Expr) (f : Env → M Bool) : Prop := PT X e (tT X.K X.mg E f)
abbrev DW (e : Expr) (f : Env → M Bool) : Prop := PW X e (tT X.K X.mg E f)
abbrev DA (es : List Expr) (f : Env → M (List T)) : Prop := PA X es (tA X.K X.mg E f)
abbrev DS (st : Stmt) (g : Env → M Fl) : Prop := PS X st (tS X.K X.mg E g)
abbrev DB (st : List Stmt) (g : Env → M Fl) : Prop := PSs X st (tS X.K X.mg E g)
abbrev DL (e : Expr) (f : Env → M (List T)) : Prop := PE X e (tL X.K X.mg E f)
abbrev DG (target : Expr) (vs : List Nat) (h : T → Env → M Env) : Prop := PG X target (tG X.K X.mg E vs h)
end
theorem pe_imp {X : Cx} {e : Expr} {t u : TE} (h : PE X e t) (f : ∀ σ H Q, u σ H Q → t σ H Q) : PE X e u := ⟨fun pins s σ H Q I q => h.run pins s σ H Q I (f σ H Q q)⟩
theorem pt_imp {X : Cx} {e : Expr} {t u : TT} (h : PT X e t) (f : ∀ σ H Q, u σ H Q → t σ H Q) : PT X e u := ⟨fun pins s σ H Q I q => h.run pins s σ H Q I (f σ H Q q)⟩
theorem pw_imp {X : Cx} {e : Expr} {t u : TT} (h : PW X e t) (f : ∀ σ H Q, u σ H Q → t σ H Q) : PW X e u := ⟨fun wh pins s σ H Q I q => h.run wh pins s σ H Q I (f σ H Q q)⟩
theorem pa_imp {X : Cx} {e : List Expr} {t u : TA} (h : PA X e t) (f : ∀ σ H Q, u σ H Q → t σ H Q) : PA X e u := ⟨fun p pins s σ H Q I q => h.run p pins s σ H Q I (f σ H Q q)⟩
theorem ps_imp {X : Cx} {e : Stmt} {t u : TS} (h : PS X e t) (f : ∀ D σ H, u D σ H → t D σ H) : PS X e u := ⟨fun pins s σ H D I q => h.run pins s σ H D I (f D σ H q)⟩
theorem pss_imp {X : Cx} {e : List Stmt} {t u : TS} (h : PSs X e t) (f : ∀ D σ H, u D σ H → t D σ H) : PSs X e u := ⟨fun pins s σ H D I q => h.run pins s σ H D I (f D σ H q)⟩
theorem pg_imp {X : Cx} {e : Expr} {t u : TG} (h : PG X e t) (f : ∀ v σ H Q, u v σ H Q → t v σ H Q) : PG X e u := ⟨fun pins s σ H v w Q I r q => h.run pins s σ H v w Q I r (f v σ H Q q)⟩

/-! ### names, constants -/
def eVar (i : Nat) : Env → M T := fun ρ => match ρ[i]? with
  | some (some d) => M.pure d
  | _ => M.no
def eC (d : T) : Env → M T := fun _ => M.pure d
section
variable {X : Cx} {E : XK} {pos : Pos}
theorem d_var (i : Nat) {x : Str} (hN : X.N[i]? = some x := by rfl) (hv : Vis X.env.scope x := by first | exact Or.inl rfl | exact Or.inr (Or.inl rfl) | exact Or.inr (Or.inr rfl)) (hd : (x == ("__debug__" : Str)) = false := by decide)
    (hcd : (x == ("__classdict__" : Str)) = false := by decide) : DE X E (.Name x pos) (eVar i) := by
  refine pe_imp (pe_var hN hv hd hcd) fun σ H Q ⟨F, ι, μ, ρ, hr, he, hp⟩ => ?_
  have q : ∀ o, ρ[i]? = o → Post X.K X.mg E ((match o with
    | some (some d) => M.pure d
    | _ => M.no) μ) F ι H (wT X.K Q) := fun o e => by rw [← e]; exact hp
  rcases e : ρ[i]? with _ | _ | d
  · exact (q _ e).elim
  · exact (q _ e).elim
  · obtain ⟨v, a, r⟩ := he.at_ i d e
    exact ⟨v, a, Post.pure (q _ e) hr v r⟩
theorem d_of {e : Expr} {v : V} {d : T} (h : PE X e (tC v)) (r : ∀ F ι, Rp X.K F ι v d) : DE X E e (eC d) :=
  pe_imp h fun σ H Q ⟨F, ι, μ, ρ, hr, he, hp⟩ => Post.pure hp hr v (r F ι)
theorem d_int {i : Int} {j} : DE X E (.Constant (.int i) j pos) (eC (.int i)) := d_of pe_int fun _ _ => .int i
theorem d_bl {b : Bool} {j} : DE X E (.Constant (.bool b) j pos) (eC (.bl b)) := d_of pe_bl fun _ _ => .bl b
theorem d_non {j} : DE X E (.Constant .none j pos) (eC .non) := d_of pe_non fun _ _ => .non
theorem d_str {x : Str} {j} : DE X E (.Constant (.str x) j pos) (eC (.str x)) := d_of pe_str fun _ _ => .str x
/-- a module's constant -/
theorem d_glob {x : Str} {v : V} {d : T} {u : Value} (hm : X.mg x = some u) (r : RelV v u) (rd : ∀ F ι, Rp X.K F ι v d) (hg : Gl X x := by rfl) (hd : (x == ("__debug__" : Str)) = false := by decide) : DE X E (.Name x pos) (eC d) := d_of (pe_glob hg hm r hd) rd
theorem d_bltn {x : Str} {v : V} {d : T} {u : Value} (hm : X.mg x = none) (hv : bootBuiltins x = some u) (r : RelV v u) (rd : ∀ F ι, Rp X.K F ι v d) (hg : Gl X x := by rfl) (hn : x ≠ "__name__" := by decide) (hd : (x == ("__debug__" : Str)) = false := by decide) :
    DE X E (.Name x pos) (eC d) := d_of (pe_bltn hg hm hv r hn hd) rd
end

/-! ### one after another -/
section
variable {K : PySem.W.Frag} {mg : Str → Option Value} {E : XK} {σ : L2.St} {H : Hp} {α : Type} {F : Hp} {ι : List Addr} {μ : Store} {ρ : Env} {rp : Hp → List Addr → Store → Hp → α → Prop}
/-- an expression, then the rest -/
theorem At.e {fa : Env → M T} {k : T → M α} {Q : VK} (hr : Rel K F ι μ H) (he : ERp K F ι σ ρ) (hp : Post K mg E (M.bind (fa ρ) k μ) F ι H rp)
    (hk : ∀ F' ι' μ' H' v d, Ext F ι H F' ι' H' → Rel K F' ι' μ' H' → Rp K F' ι' v d → Post K mg E (k d μ') F' ι' H' rp → Q v H') : tE K mg E fa σ H Q :=
  ⟨F, ι, μ, ρ, hr, he, hp.bind fun F' ι' μ' H' d x q p v r => hk F' ι' μ' H' v d x q r p⟩
theorem At.t {fa : Env → M Bool} {k : Bool → M α} {Q : Bool → Hp → Prop} (hr : Rel K F ι μ H) (he : ERp K F ι σ ρ) (hp : Post K mg E (M.bind (fa ρ) k μ) F ι H rp)
    (hk : ∀ F' ι' μ' H' b, Ext F ι H F' ι' H' → Rel K F' ι' μ' H' → Post K mg E (k b μ') F' ι' H' rp → Q b H') : tT K mg E fa σ H Q :=
  ⟨F, ι, μ, ρ, hr, he, hp.bind fun F' ι' μ' H' d x q p => hk F' ι' μ' H' d x q p⟩
theorem At.a {fa : Env → M (List T)} {k : List T → M α} {Q : List V → Hp → Prop} (hr : Rel K F ι μ H) (he : ERp K F ι σ ρ) (hp : Post K mg E (M.bind (fa ρ) k μ) F ι H rp)
    (hk : ∀ F' ι' μ' H' vs ds, Ext F ι H F' ι' H' → Rel K F' ι' μ' H' → Rps K F' ι' vs ds → Post K mg E (k ds μ') F' ι' H' rp → Q vs H') : tA K mg E fa σ H Q :=
  ⟨F, ι, μ, ρ, hr, he, hp.bind fun F' ι' μ' H' d x q p v r => hk F' ι' μ' H' v d x q r p⟩
theorem At.s {fa : Env → M Fl} {k : Fl → M α} {D : Ends} (hr : Rel K F ι μ H) (he : ERp K F ι σ ρ) (hp : Post K mg E (M.bind (fa ρ) k μ) F ι H rp)
    (hk : ∀ F' ι' μ' H' fl, Ext F ι H F' ι' H' → Rel K F' ι' μ' H' → Post K mg E (k fl μ') F' ι' H' rp → wF K D F' ι' μ' H' fl) : tS K mg E fa D σ H :=
  ⟨F, ι, μ, ρ, hr, he, hp.bind fun F' ι' μ' H' d x q p => hk F' ι' μ' H' d x q p⟩
theorem Rp.ext {F' : Hp} {ι' : List Addr} {H' : Hp} {v : V} {d : T} (r : Rp K F ι v d) (x : Ext F ι H F' ι' H') : Rp K F' ι' v d := r.mono x.sub x.i
theorem Rps.ext {F' : Hp} {ι' : List Addr} {H' : Hp} {v : List V} {d : List T} (r : Rps K F ι v d) (x : Ext F ι H F' ι' H') : Rps K F' ι' v d := r.mono x.sub x.i
end

/-! ### operators by values -/
section
variable (X : Cx) (E : XK)
def rT (g : T → T → M T) : R2 := fun x y H Q => ∃ F ι μ d e, Rel X.K F ι μ H ∧ Rp X.K F ι x d ∧ Rp X.K F ι y e ∧ Post X.K X.mg E (g d e μ) F ι H (wT X.K Q)
def rU1 (g : T → M T) : V → Hp → VK → Prop := fun x H Q => ∃ F ι μ d, Rel X.K F ι μ H ∧ Rp X.K F ι x d ∧ Post X.K X.mg E (g d μ) F ι H (wT X.K Q)
abbrev OpD (f : Value → Value → Sem Value) (g : T → T → M T) : Prop := OpR X f (rT X E g)
abbrev UnD (f : Value → Sem Value) (g : T → M T) : Prop := UnR X f (rU1 X E g)
end
def eOp (g : T → T → M T) (fa fb : Env → M T) : Env → M T := fun ρ => M.bind (fa ρ) fun x => M.bind (fb ρ) fun y => g x y
def eUn (g : T → M T) (fa : Env → M T) : Env → M T := fun ρ => M.bind (fa ρ) g
def eAnd (fa fb : Env → M T) : Env → M T := fun ρ => M.bind (fa ρ) fun x => match x with
  | .bl true => fb ρ
  | .bl false => M.pure (.bl false)
  | _ => M.no
def eOr (fa fb : Env → M T) : Env → M T := fun ρ => M.bind (fa ρ) fun x => match x with
  | .bl true => M.pure (.bl true)
  | .bl false => fb ρ
  | _ => M.no
def asB : T → M Bool
  | .bl b => M.pure b
  | _ => M.no
def eNot (fa : Env → M Bool) : Env → M T := fun ρ => M.bind (fa ρ) fun b => M.pure (.bl (!b))
def bT (fa : Env → M T) : Env → M Bool := fun ρ => M.bind (fa ρ) asB
def bAnd (fa fb : Env → M Bool) : Env → M Bool := fun ρ => M.bind (fa ρ) fun x => bif x then fb ρ else M.pure false
def bOr (fa fb : Env → M Bool) : Env → M Bool := fun ρ => M.bind (fa ρ) fun x => bif x then M.pure true else fb ρ
def bNot (fa : Env → M Bool) : Env → M Bool := fun ρ => M.bind (fa ρ) fun b => M.pure (!b)
def eIf (c : Env → M Bool) (fa fb : Env → M T) : Env → M T := fun ρ => M.bind (c ρ) fun b => bif b then fa ρ else fb ρ
section
variable {X : Cx} {E : XK} {pos : Pos} {a b : Expr} {fa fb : Env → M T} {rest : List Expr} {ta tb : Env → M Bool}
theorem d_op {op : Operator} {g : T → T → M T} (ho : OpD X E (binaryOp op) g) (ha : DE X E a fa) (hb : DE X E b fb) : DE X E (.BinOp a op b pos) (eOp g fa fb) :=
  pe_imp (pe_op ho ha hb) fun σ H Q ⟨F, ι, μ, ρ, hr, he, hp⟩ => At.e hr he hp fun F1 ι1 μ1 H1 v d x1 r1 rv p1 => At.e r1 (he.ext x1) p1 fun F2 ι2 μ2 H2 u e x2 r2 ru p2 => ⟨F2, ι2, μ2, d, e, r2, rv.ext x2, ru, p2⟩
theorem d_cmp {op : CmpOp} {g : T → T → M T} (ho : OpD X E (compareOp op) g) (ha : DE X E a fa) (hb : DE X E b fb) (hm : behindInMarks op b = false := by first | exact nobehind _ (by decide) (by decide) | rfl) : DE X E (.Compare a [op] [b] pos) (eOp g fa fb) :=
  pe_imp (pe_cmpR ho ha hb hm) fun σ H Q ⟨F, ι, μ, ρ, hr, he, hp⟩ => At.e hr he hp fun F1 ι1 μ1 H1 v d x1 r1 rv p1 => At.e r1 (he.ext x1) p1 fun F2 ι2 μ2 H2 u e x2 r2 ru p2 => ⟨F2, ι2, μ2, d, e, r2, rv.ext x2, ru, p2⟩
theorem d_un {op : UnaryOp} {g : T → M T} (ho : UnD X E (unaryOp op) g) (ha : DE X E a fa) : DE X E (.UnaryOp op a pos) (eUn g fa) :=
  pe_imp (pe_un ho ha) fun σ H Q ⟨F, ι, μ, ρ, hr, he, hp⟩ => At.e hr he hp fun F1 ι1 μ1 H1 v d x1 r1 rv p1 => ⟨F1, ι1, μ1, d, r1, rv, p1⟩
/-- a bool's value as a test -/
theorem bT_core {σ : L2.St} {H : Hp} {Q : Bool → Hp → Prop} {K : PySem.W.Frag} {mg : Str → Option Value} (h : tT K mg E (bT fa) σ H Q) : tB (tE K mg E fa) σ H Q := by
  obtain ⟨F, ι, μ, ρ, hr, he, hp⟩ := h
  refine At.e hr he hp fun F1 ι1 μ1 H1 v d x1 r1 rv p1 => ?_
  cases rv with
  | bl b => exact ⟨b, rfl, Post.pure p1 r1⟩
  | _ => exact p1.elim
theorem d_test (h : DE X E a fa) (he : ∀ whole, isTrue a X.env whole = (do let v ← whole; standAt a.pos; holding [v] (truthy v)) := by intro _; rfl) : DT X E a (bT fa) := pt_imp (pt_val h he) fun _ _ _ q => bT_core q
theorem t_cmp {op : CmpOp} {g : T → T → M T} (ho : OpD X E (compareOp op) g) (ha : DE X E a fa) (hb : DE X E b fb) (hm : behindInMarks op b = false := by first | exact nobehind _ (by decide) (by decide) | rfl) : DT X E (.Compare a [op] [b] pos) (bT (eOp g fa fb)) :=
  pt_imp (pt_cmpR ho ha hb hm) fun σ H Q ⟨F, ι, μ, ρ, hr, he, hp⟩ => by
    have hp' : Post X.K X.mg E (M.bind (fa ρ) (fun x => M.bind (fb ρ) fun y => M.bind (g x y) asB) μ) F ι H (fun _ _ _ H' b => Q b H') := by
      have q := hp
      simp only [bT, eOp] at q
      have e : M.bind (M.bind (fa ρ) fun x => M.bind (fb ρ) fun y => g x y) asB = M.bind (fa ρ) (fun x => M.bind (fb ρ) fun y => M.bind (g x y) asB) := by
        funext m
        simp only [M.bind]
        cases fa ρ m with
        | ok x m1 => simp only []; cases fb ρ m1 <;> rfl
        | err _ _ => rfl
        | no => rfl
      rw [e] at q
      exact q
    refine At.e hr he hp' fun F1 ι1 μ1 H1 v d x1 r1 rv p1 => At.e r1 (he.ext x1) p1 fun F2 ι2 μ2 H2 u e x2 r2 ru p2 => ⟨F2, ι2, μ2, d, e, r2, rv.ext x2, ru, ?_⟩
    refine p2.bind fun F3 ι3 μ3 H3 z x3 r3 p3 w rw' => ?_
    cases rw' with
    | bl k => exact ⟨k, rfl, Post.pure p3 r3⟩
    | _ => exact p3.elim
theorem w_and1 (ha : DT X E a ta) : DW X E (.BoolOp .And [a] pos) ta := pw_and1 ha
theorem w_or1 (ha : DT X E a ta) : DW X E (.BoolOp .Or [a] pos) ta := pw_or1 ha
theorem w_and (ha : DT X E a ta) (hb : DW X E (.BoolOp .And (b :: rest) pos) tb) : DW X E (.BoolOp .And (a :: b :: rest) pos) (bAnd ta tb) :=
  pw_imp (pw_and ha hb) fun σ H Q ⟨F, ι, μ, ρ, hr, he, hp⟩ => At.t hr he hp fun F1 ι1 μ1 H1 c x1 r1 p1 => by
    cases c with
    | true => exact iteT ⟨F1, ι1, μ1, ρ, r1, he.ext x1, p1⟩
    | false => exact iteF (Post.pure p1 r1)
theorem w_or (ha : DT X E a ta) (hb : DW X E (.BoolOp .Or (b :: rest) pos) tb) : DW X E (.BoolOp .Or (a :: b :: rest) pos) (bOr ta tb) :=
  pw_imp (pw_or ha hb) fun σ H Q ⟨F, ι, μ, ρ, hr, he, hp⟩ => At.t hr he hp fun F1 ι1 μ1 H1 c x1 r1 p1 => by
    cases c with
    | false => exact iteF ⟨F1, ι1, μ1, ρ, r1, he.ext x1, p1⟩
    | true => exact iteT (Post.pure p1 r1)
theorem t_bool (h : DW X E a ta) : DT X E a ta := h.pt
theorem t_not (ha : DT X E a ta) : DT X E (.UnaryOp .Not a pos) (bNot ta) := pt_imp (pt_not ha) fun σ H Q ⟨F, ι, μ, ρ, hr, he, hp⟩ => At.t hr he hp fun F1 ι1 μ1 H1 c x1 r1 p1 => Post.pure p1 r1
theorem d_one {op} (ha : DE X E a fa) : DE X E (.BoolOp op [a] pos) fa := pe_one ha
theorem d_and (ha : DE X E a fa) (hb : DE X E (.BoolOp .And (b :: rest) pos) fb) : DE X E (.BoolOp .And (a :: b :: rest) pos) (eAnd fa fb) :=
  pe_imp (pe_and ha hb) fun σ H Q ⟨F, ι, μ, ρ, hr, he, hp⟩ => At.e hr he hp fun F1 ι1 μ1 H1 v d x1 r1 rv p1 => by
    cases rv with
    | bl c =>
      refine ⟨c, rfl, ?_⟩
      cases c with
      | true => exact iteT ⟨F1, ι1, μ1, ρ, r1, he.ext x1, p1⟩
      | false => exact iteF (Post.pure p1 r1 _ (.bl false))
    | _ => exact p1.elim
theorem d_or (ha : DE X E a fa) (hb : DE X E (.BoolOp .Or (b :: rest) pos) fb) : DE X E (.BoolOp .Or (a :: b :: rest) pos) (eOr fa fb) :=
  pe_imp (pe_or ha hb) fun σ H Q ⟨F, ι, μ, ρ, hr, he, hp⟩ => At.e hr he hp fun F1 ι1 μ1 H1 v d x1 r1 rv p1 => by
    cases rv with
    | bl c =>
      refine ⟨c, rfl, ?_⟩
      cases c with
      | false => exact iteF ⟨F1, ι1, μ1, ρ, r1, he.ext x1, p1⟩
      | true => exact iteT (Post.pure p1 r1 _ (.bl true))
    | _ => exact p1.elim
/-- not t, t's value a bool -/
theorem d_not (ha : DE X E a fa) : DE X E (.UnaryOp .Not a pos) (eNot (bT fa)) :=
  pe_imp (pe_not ha) fun σ H Q ⟨F, ι, μ, ρ, hr, he, hp⟩ => by
    have hp' : Post X.K X.mg E (M.bind (fa ρ) (fun x => M.bind (asB x) fun b => M.pure (.bl (!b))) μ) F ι H (wT X.K Q) := by
      have q := hp
      simp only [eNot, bT] at q
      have e : M.bind (M.bind (fa ρ) asB) (fun b => M.pure (T.bl (!b))) = M.bind (fa ρ) (fun x => M.bind (asB x) fun b => M.pure (.bl (!b))) := by
        funext m
        simp only [M.bind]
        cases fa ρ m <;> rfl
      rw [e] at q
      exact q
    refine At.e hr he hp' fun F1 ι1 μ1 H1 v d x1 r1 rv p1 => ?_
    cases rv with
    | bl c => exact ⟨c, rfl, Post.pure (a := T.bl (!c)) p1 r1 _ (.bl _)⟩
    | _ => exact p1.elim
theorem d_if {c : Expr} (hc : DT X E c ta) (ha : DE X E a fa) (hb : DE X E b fb) : DE X E (.IfExp c a b pos) (eIf ta fa fb) :=
  pe_imp (pe_ifExp hc ha hb) fun σ H Q ⟨F, ι, μ, ρ, hr, he, hp⟩ => At.t hr he hp fun F1 ι1 μ1 H1 c x1 r1 p1 => by
    cases c with
    | true => exact iteT ⟨F1, ι1, μ1, ρ, r1, he.ext x1, p1⟩
    | false => exact iteF ⟨F1, ι1, μ1, ρ, r1, he.ext x1, p1⟩
end

/-! ### argument lists, displays -/
def aNil : Env → M (List T) := fun _ => M.pure []
def aCons (f : Env → M T) (g : Env → M (List T)) : Env → M (List T) := fun ρ => M.bind (f ρ) fun x => M.bind (g ρ) fun xs => M.pure (x :: xs)
def fits (n : Nat) : Bool := decide (n ≤ 16777216)
theorem fits_le {n : Nat} (h : fits n = true) : n ≤ sizeLine := by rw [sizeLine_eq]; exact of_decide_eq_true h
def okL (ds : List T) : M (List T) := bif fits ds.length then M.pure ds else M.no
def eTup (f : Env → M (List T)) : Env → M T := fun ρ => M.bind (f ρ) fun ds => bif fits ds.length then M.pure (.tup ds) else M.no
def lLst (f : Env → M (List T)) : Env → M (List T) := fun ρ => M.bind (f ρ) okL
/-- a new list as a tree; as a cell -/
def eTree (f : Env → M (List T)) : Env → M T := fun ρ => M.bind (f ρ) fun ds => M.pure (.lst ds)
def newC (o : Ob) : M T := fun μ => .ok (.cell μ.length) (μ ++ [⟨true, o⟩])
def eCell (f : Env → M (List T)) : Env → M T := fun ρ => M.bind (f ρ) fun ds => newC (.lst ds)
section
variable {K : PySem.W.Frag} {F : Hp} {ι : List Addr} {μ : Store} {H H' : Hp} {p : Addr} {u : HO}
theorem Rel.noF (r : Rel K F ι μ H) (hp : H p = none) : F p = none := by
  cases e : F p with
  | none => rfl
  | some o => rw [r.sub _ _ e] at hp; cases hp
theorem Rel.noI (r : Rel K F ι μ H) (hp : H p = none) : p ∉ ι := fun m => by
  obtain ⟨k, hk, e⟩ := List.getElem_of_mem m
  have hk' : k < μ.length := by rw [← r.len]; exact hk
  obtain ⟨u, hu, _⟩ := r.cel k p μ[k] (by rw [List.getElem?_eq_getElem hk, e]) (List.getElem?_eq_getElem hk')
  rw [hu] at hp; cases hp
/-- a new object is laid: it is known from now on -/
theorem Rel.newF (r : Rel K F ι μ H) (hp : H p = none) (ho : ∀ a, a ≠ p → H' a = H a) (hn : H' p = some u) : Ext F ι H (upd F p u) ι H' ∧ Rel K (upd F p u) ι μ H' := by
  have nF := r.noF hp
  have nI := r.noI hp
  have sub : All F (upd F p u) := fun a o e => by rw [upd_ne (fun z => by rw [z, nF] at e; cases e)]; exact e
  have keep : ∀ a o, H a = some o → H' a = some o := fun a o e => by rw [ho a (fun z => by rw [z, hp] at e; cases e)]; exact e
  refine ⟨⟨sub, .refl _, fun a o e _ => keep a o e, fun a m => .inl m, fun a o e => ?_⟩, ⟨fun a o e => ?_, r.nd, r.len, fun k a c h1 h2 => ?_⟩⟩
  · by_cases z : a = p
    · subst z; exact .inr (.inr hp)
    · rw [upd_ne z] at e; exact .inl e
  · by_cases z : a = p
    · subst z; rw [upd_same] at e; rw [hn]; exact e
    · rw [upd_ne z] at e; exact keep _ _ (r.sub _ _ e)
  · obtain ⟨v, e1, e2, e3, e4⟩ := r.cel k a c h1 h2
    have ne : a ≠ p := fun z => by rw [z, hp] at e1; cases e1
    exact ⟨v, keep _ _ e1, e2.mono sub.sub (.refl _), fun z => by rw [upd_ne ne]; exact e3 z, fun z => by rw [upd_ne ne]; exact e4 z⟩
/-- .. or a new cell -/
theorem Rel.newI {o : Ob} (r : Rel K F ι μ H) (hp : H p = none) (ho : ∀ a, a ≠ p → H' a = H a) (hn : H' p = some u) (ru : RpO K F ι u o) : Ext F ι H F (ι ++ [p]) H' ∧ Rel K F (ι ++ [p]) (μ ++ [⟨true, o⟩]) H' := by
  have nF := r.noF hp
  have nI := r.noI hp
  have keep : ∀ a o, H a = some o → H' a = some o := fun a o e => by rw [ho a (fun z => by rw [z, hp] at e; cases e)]; exact e
  have pre : Pre ι (ι ++ [p]) := ⟨[p], rfl⟩
  refine ⟨⟨fun a o e => e, pre, fun a o e _ => keep a o e, fun a m => ?_, fun a o e => .inl e⟩, ⟨fun a o e => keep _ _ (r.sub _ _ e), ?_, by simp [r.len], fun k a c h1 h2 => ?_⟩⟩
  · rcases List.mem_append.mp m with m | m
    · exact .inl m
    · have e : a = p := by simpa using m
      subst e; exact .inr hp
  · rw [List.nodup_append]
    refine ⟨r.nd, by simp, fun a m b n z => ?_⟩
    have e : b = p := by simpa using n
    subst e; subst z; exact nI m
  · by_cases hk : k < ι.length
    · rw [List.getElem?_append_left hk] at h1
      rw [List.getElem?_append_left (by rw [← r.len]; exact hk)] at h2
      obtain ⟨v, e1, e2, e3, e4⟩ := r.cel k a c h1 h2
      exact ⟨v, keep _ _ e1, e2.mono (Sub.refl _) pre, e3, e4⟩
    · rw [List.getElem?_append_right (by omega)] at h1
      rw [List.getElem?_append_right (by rw [← r.len]; omega)] at h2
      have hk2 : k - ι.length = 0 := by
        obtain ⟨z, _⟩ := List.getElem?_eq_some_iff.mp h1
        simp at z; omega
      rw [hk2] at h1
      rw [← r.len, hk2] at h2
      simp at h1 h2
      subst h1 h2
      exact ⟨u, hn, ru.mono (Sub.refl _) pre, fun _ => nF, fun z => by cases z⟩
end
section
variable {X : Cx} {E : XK} {pos : Pos} {e : Expr} {es : List Expr} {f : Env → M T} {g fl : Env → M (List T)}
theorem a_nil : DA X E [] aNil := pa_imp pa_nil fun σ H Q ⟨F, ι, μ, ρ, hr, he, hp⟩ => Post.pure (a := ([] : List T)) hp hr [] .nil
theorem a_cons (ha : DE X E e f) (hb : DA X E es g) (hs : starEach (e :: es) X.env = (false, eval e X.env) :: starEach es X.env := by rfl) : DA X E (e :: es) (aCons f g) :=
  pa_imp (pa_cons ha hb hs) fun σ H Q ⟨F, ι, μ, ρ, hr, he, hp⟩ => At.e hr he hp fun F1 ι1 μ1 H1 v d x1 r1 rv p1 => At.a r1 (he.ext x1) p1 fun F2 ι2 μ2 H2 vs ds x2 r2 rvs p2 =>
    Post.pure p2 r2 _ (.cons (rv.ext x2) rvs)
theorem d_tup {x1} (h : DA X E es g) : DE X E (.Tuple es x1 pos) (eTup g) :=
  pe_imp (pe_tup h) fun σ H Q ⟨F, ι, μ, ρ, hr, he, hp⟩ => At.a hr he hp fun F1 ι1 μ1 H1 vs ds x1 r1 rvs p1 => by
    cases hz : fits ds.length with
    | false => rw [hz] at p1; exact p1.elim
    | true =>
      rw [hz] at p1
      refine ⟨by rw [rvs.length]; exact fits_le hz, fun p np => ?_⟩
      obtain ⟨x2, r2⟩ := r1.newF (u := .tup vs) np (fun a z => upd_ne z) upd_same
      exact p1 _ _ _ x2 r2 _ (.tup upd_same (rvs.ext x2))
theorem l_lst (h : DA X E es g) : DL X E (.List es pos) (lLst g) :=
  pe_imp (pe_lst h) fun σ H Q ⟨F, ι, μ, ρ, hr, he, hp⟩ => At.a hr he hp fun F1 ι1 μ1 H1 vs ds x1 r1 rvs p1 => by
    unfold okL at p1
    cases hz : fits ds.length with
    | false => rw [hz] at p1; exact p1.elim
    | true =>
      rw [hz] at p1
      refine ⟨by rw [rvs.length]; exact fits_le hz, fun p np => ?_⟩
      exact p1 _ _ _ (.refl ..) r1 p vs _ (fun a z => upd_ne z) np upd_same rvs
theorem d_tree (h : DL X E e fl) : DE X E e (eTree fl) :=
  pe_imp h fun σ H Q ⟨F, ι, μ, ρ, hr, he, hp⟩ => ⟨F, ι, μ, ρ, hr, he, hp.bind fun F1 ι1 μ1 H1 ds x1 r1 p1 p xs H2 ho hn h2 rs => by
    obtain ⟨x2, r2⟩ := r1.newF hn ho h2
    exact p1 _ _ _ x2 r2 _ (.lst upd_same (rs.ext x2))⟩
theorem d_cell (h : DL X E e fl) : DE X E e (eCell fl) :=
  pe_imp h fun σ H Q ⟨F, ι, μ, ρ, hr, he, hp⟩ => ⟨F, ι, μ, ρ, hr, he, hp.bind fun F1 ι1 μ1 H1 ds x1 r1 p1 p xs H2 ho hn h2 rs => by
    obtain ⟨x2, r2⟩ := r1.newI hn ho h2 (.lst rs)
    refine p1 _ _ _ x2 r2 _ (.cell ?_)
    rw [← r1.len]; simp⟩
end

/-! ### blocks -/
def sNil : Env → M Fl := fun ρ => M.pure (.nx ρ)
def sSeq (g h : Env → M Fl) : Env → M Fl := fun ρ => M.bind (g ρ) fun fl => match fl with
  | .nx ρ' => h ρ'
  | o => M.pure o
def sRet (f : Env → M T) : Env → M Fl := fun ρ => M.bind (f ρ) fun d => M.pure (.rt d)
def sExp (f : Env → M T) : Env → M Fl := fun ρ => M.bind (f ρ) fun _ => M.pure (.nx ρ)
def sIf (c : Env → M Bool) (g h : Env → M Fl) : Env → M Fl := fun ρ => M.bind (c ρ) fun b => bif b then g ρ else h ρ
def sSet (i : Nat) (f : Env → M T) : Env → M Fl := fun ρ => M.bind (f ρ) fun d => M.pure (.nx (ρ.set i (some d)))
def sTgt (h : T → Env → M Env) (f : Env → M T) : Env → M Fl := fun ρ => M.bind (f ρ) fun d => M.bind (h d ρ) fun ρ' => M.pure (.nx ρ')
section
variable {X : Cx} {E : XK} {pos : Pos} {e : Expr} {st : Stmt} {rest : List Stmt} {f : Env → M T} {g h : Env → M Fl}
theorem b_nil : DB X E [] sNil := pss_imp pss_nil fun D σ H ⟨F, ι, μ, ρ, hr, he, hp⟩ => Post.pure (a := Fl.nx ρ) hp hr σ he
theorem b_one (h1 : DS X E st g) : DB X E [st] g := pss_one h1
theorem b_cons (h1 : DS X E st g) (h2 : DB X E rest h) : DB X E (st :: rest) (sSeq g h) :=
  pss_imp (pss_cons h1 h2) fun D σ H ⟨F, ι, μ, ρ, hr, he, hp⟩ => At.s hr he hp fun F1 ι1 μ1 H1 fl x1 r1 p1 => by
    cases fl with
    | nx ρ' => exact fun σ' he' => ⟨F1, ι1, μ1, ρ', r1, he', p1⟩
    | rt d => exact Post.pure (mg := X.mg) (E := E) (a := Fl.rt d) p1 r1
    | bk ρ' => exact Post.pure (mg := X.mg) (E := E) (a := Fl.bk ρ') p1 r1
    | ct ρ' => exact Post.pure (mg := X.mg) (E := E) (a := Fl.ct ρ') p1 r1
theorem s_pass : DS X E (.Pass pos) sNil := ps_imp ps_pass fun D σ H ⟨F, ι, μ, ρ, hr, he, hp⟩ => Post.pure (a := Fl.nx ρ) hp hr σ he
theorem s_break : DS X E (.Break pos) (fun ρ => M.pure (.bk ρ)) := ps_imp ps_break fun D σ H ⟨F, ι, μ, ρ, hr, he, hp⟩ => Post.pure (a := Fl.bk ρ) hp hr σ he
theorem s_cont : DS X E (.Continue pos) (fun ρ => M.pure (.ct ρ)) := ps_imp ps_continue fun D σ H ⟨F, ι, μ, ρ, hr, he, hp⟩ => Post.pure (a := Fl.ct ρ) hp hr σ he
theorem s_ret (h : DE X E e f) : DS X E (.Return (some e) pos) (sRet f) :=
  ps_imp (ps_ret h) fun D σ H ⟨F, ι, μ, ρ, hr, he, hp⟩ => At.e hr he hp fun F1 ι1 μ1 H1 v d x1 r1 rv p1 => Post.pure (a := Fl.rt d) p1 r1 v rv
theorem s_expr (h : DE X E e f) (hs : swapsWith e none pos.line X.env = pure false := by rfl) : DS X E (.Expr e pos) (sExp f) :=
  ps_imp (ps_expr h hs) fun D σ H ⟨F, ι, μ, ρ, hr, he, hp⟩ => At.e hr he hp fun F1 ι1 μ1 H1 v d x1 r1 rv p1 => Post.pure (a := Fl.nx ρ) p1 r1 σ (he.ext x1)
theorem s_if {c : Expr} {a b : List Stmt} {tc : Env → M Bool} (hc : DT X E c tc) (ha : DB X E a g) (hb : DB X E b h) : DS X E (.If c a b pos) (sIf tc g h) :=
  ps_imp (ps_if hc ha hb) fun D σ H ⟨F, ι, μ, ρ, hr, he, hp⟩ => At.t hr he hp fun F1 ι1 μ1 H1 c x1 r1 p1 => by
    cases c with
    | true => exact iteT ⟨F1, ι1, μ1, ρ, r1, he.ext x1, p1⟩
    | false => exact iteF ⟨F1, ι1, μ1, ρ, r1, he.ext x1, p1⟩
theorem s_set {i : Nat} {x : Str} {pos' : Pos} (hN : X.N.Nodup) (he : DE X E e f) (hi : X.N[i]? = some x := by rfl) (hx : Loc X.env.scope x := by first | exact .inl rfl | exact .inr rfl) (hs : swapsWith e (some (.Name x pos')) pos.line X.env = pure false := by rfl)
    (hf : X.fn x = true ∨ X.env.scope.names.lookup x = some .local := by first | exact .inl rfl | exact .inr rfl) : DS X E (.Assign [.Name x pos'] e pos) (sSet i f) :=
  ps_imp (ps_set hN hi hx he hs hf) fun D σ H ⟨F, ι, μ, ρ, hr, he, hp⟩ => At.e hr he hp fun F1 ι1 μ1 H1 v d x1 r1 rv p1 => Post.pure (a := Fl.nx (ρ.set i (some d))) p1 r1 _ ((he.ext x1).set rv i)
/-- a target that is no plain name (or a plain name) -/
theorem s_tgt {tg : Expr} {vs : List Nat} {t : T → Env → M Env} (he : DE X E e f) (hg : DG X E tg vs t) (hs : swapsWithSole [tg] e pos.line X.env = pure false := by rfl) (hw : swappedStores [tg] e X.env = pure none := by rfl)
    (h1 : (assignEach [tg] X.env).map (·.2) = [assign tg X.env] := by rfl) : DS X E (.Assign [tg] e pos) (sTgt t f) :=
  ps_imp (ps_asg he hg hs hw h1) fun D σ H ⟨F, ι, μ, ρ, hr, he, hp⟩ => At.e hr he hp fun F1 ι1 μ1 H1 v d x1 r1 rv p1 =>
    ⟨F1, ι1, μ1, ρ, d, r1, he.ext x1, rv, p1.bind fun F2 ι2 μ2 H2 ρ' x2 r2 p2 σ' he' _ => Post.pure (a := Fl.nx ρ') p2 r2 σ' he'⟩
end
end TL

/-! T layer 3: operators on trees. -/
namespace TL
open PySem PySem.Spec PyProof.Rows L2

/-- what every rule asks of the context -/
structure XO (X : Cx) (E : XK) (k : Nat) : Prop where
  calm : X.calm = true
  nd : X.N.Nodup
  gd : X.A.guards = some []
  room : Room k X.A
  tk : Takes X (fun cls d _ H => E cls d H)
  own : PassesOwn (model X.prog X.w) X.A X.env X.xe

/-! ### cells are read -/
def obT : Ob → T
  | .lst xs => .lst xs
  | .dic tk kvs => .dic tk kvs
def ld (d : T) : M T := fun μ => match d with
  | .cell k => match μ[k]? with
    | some c => .ok (obT c.o) μ
    | none => .no
  | d => .ok d μ
inductive Lp (K : PySem.W.Frag) (F : Hp) (ι : List Addr) (H : Hp) : V → T → Prop
  | non : Lp K F ι H .non .non
  | bl (b : Bool) : Lp K F ι H (.bl b) (.bl b)
  | int (i : Int) : Lp K F ι H (.int i) (.int i)
  | str (x : Str) : Lp K F ι H (.str x) (.str x)
  | lst {a : Addr} {xs : List V} {ds : List T} : H a = some (.lst xs) → Rps K F ι xs ds → Lp K F ι H (.ref a) (.lst ds)
  | fls {a : Addr} {xs : List V} {ds : List T} : SqL K F a xs → Rps K F ι xs ds → Lp K F ι H (.ref a) (.fls ds)
  | tup {a : Addr} {xs : List V} {ds : List T} : F a = some (.tup xs) → Rps K F ι xs ds → Lp K F ι H (.ref a) (.tup ds)
  | ftp {a : Addr} {xs : List V} {ds : List T} : SqT K F a xs → Rps K F ι xs ds → Lp K F ι H (.ref a) (.ftp ds)
  | dic {a : Addr} {kvs : List (Key × V)} {ps : List (T × T)} : Rd H a (.dK kvs) → Rpk K F ι kvs ps → Lp K F ι H (.ref a) (.dic false ps)
  | dit {a : Addr} {kvs : List (List Key × V)} {ps : List (T × T)} : Rd H a (.dT kvs) → Rpt K F ι kvs ps → Lp K F ι H (.ref a) (.dic true ps)
  | ref (a : Addr) : Lp K F ι H (.ref a) (.ref a)
  | ty (n : String) : Lp K F ι H (.ty n) (.ty n)
section
variable {K : PySem.W.Frag} {mg : Str → Option Value} {E : XK} {F : Hp} {ι : List Addr} {μ : Store} {H : Hp} {α : Type} {rp : Hp → List Addr → Store → Hp → α → Prop}
theorem ld_post {v : V} {d : T} {k : T → M α} (r : Rel K F ι μ H) (rv : Rp K F ι v d) (hp : Post K mg E (M.bind (ld d) k μ) F ι H rp) : ∃ d', Lp K F ι H v d' ∧ Post K mg E (k d' μ) F ι H rp := by
  have sub := r.sub.sub
  cases rv with
  | non => exact ⟨_, .non, hp⟩
  | bl b => exact ⟨_, .bl b, hp⟩
  | int i => exact ⟨_, .int i, hp⟩
  | str x => exact ⟨_, .str x, hp⟩
  | lst s t => exact ⟨_, .lst (r.sub _ _ s) t, hp⟩
  | fls s t => exact ⟨_, .fls s t, hp⟩
  | tup s t => exact ⟨_, .tup s t, hp⟩
  | ftp s t => exact ⟨_, .ftp s t, hp⟩
  | dic s t => exact ⟨_, .dic (sub.1 _ _ s) t, hp⟩
  | dit s t => exact ⟨_, .dit (sub.1 _ _ s) t, hp⟩
  | ref a => exact ⟨_, .ref a, hp⟩
  | ty n => exact ⟨_, .ty n, hp⟩
  | @cell k' a e =>
    have hk : k' < μ.length := by
      obtain ⟨z, _⟩ := List.getElem?_eq_some_iff.mp e
      rw [← r.len]; exact z
    have e2 : μ[k']? = some μ[k'] := List.getElem?_eq_getElem hk
    obtain ⟨u, hu, ro, _, _⟩ := r.cel k' a _ e e2
    have hl : ld (.cell k') μ = .ok (obT μ[k'].o) μ := by simp [ld, e2]
    have hp' : Post K mg E (k (obT μ[k'].o) μ) F ι H rp := by
      unfold M.bind at hp
      rw [hl] at hp
      exact hp
    generalize μ[k'].o = ob at ro hp'
    cases ro with
    | lst t => exact ⟨_, .lst hu t, hp'⟩
    | dic t => exact ⟨_, .dic (.inl hu) t, hp'⟩
    | dit t => exact ⟨_, .dit (.inl hu) t, hp'⟩
end

/-! ### data -/
mutual
def toD : T → PyData
  | .non => .none
  | .bl b => .bool b
  | .int i => .int i
  | .str x => .str x
  | .lst xs => .list (toDs xs)
  | .fls xs => .list (toDs xs)
  | .tup xs => .tuple (toDs xs)
  | .ftp xs => .tuple (toDs xs)
  | .dic _ kvs => .dict (toDk kvs)
  | .cell _ => .none
  | .ref _ => .none
  | .ty _ => .none
def toDs : List T → List PyData
  | [] => []
  | x :: xs => toD x :: toDs xs
def toDk : List (T × T) → List (PyData × PyData)
  | [] => []
  | (a, b) :: r => (toD a, toD b) :: toDk r
end
mutual
/-- no cells, no dicts within -/
def okT : T → Bool
  | .non => true
  | .bl _ => true
  | .int _ => true
  | .str x => PyData.strOk x
  | .lst xs => okTs xs
  | .fls xs => okTs xs
  | .tup xs => okTs xs
  | .ftp xs => okTs xs
  | .dic _ _ => false
  | .cell _ => false
  | .ref _ => false
  | .ty _ => false
def okTs : List T → Bool
  | [] => true
  | x :: xs => okT x && okTs xs
end
mutual
theorem okT_lay : ∀ d : T, okT d = true → PyData.canLay0 (toD d) = true
  | .non, _ => by simp [toD, PyData.canLay0]
  | .bl _, _ => by simp [toD, PyData.canLay0]
  | .int _, _ => by simp [toD, PyData.canLay0]
  | .str x, h => by simpa [toD, PyData.canLay0, okT] using h
  | .lst xs, h => by simp only [toD, PyData.canLay0]; exact okTs_lay xs (by simpa [okT] using h)
  | .fls xs, h => by simp only [toD, PyData.canLay0]; exact okTs_lay xs (by simpa [okT] using h)
  | .tup xs, h => by simp only [toD, PyData.canLay0]; exact okTs_lay xs (by simpa [okT] using h)
  | .ftp xs, h => by simp only [toD, PyData.canLay0]; exact okTs_lay xs (by simpa [okT] using h)
  | .dic _ _, h => by simp [okT] at h
  | .cell _, h => by simp [okT] at h
  | .ref _, h => by simp [okT] at h
  | .ty _, h => by simp [okT] at h
theorem okTs_lay : ∀ ds : List T, okTs ds = true → PyData.canLayAll0 (toDs ds) = true
  | [], _ => by simp [toDs, PyData.canLayAll0]
  | x :: xs, h => by
    have h' : okT x = true ∧ okTs xs = true := by simpa [okTs] using h
    simp only [toDs, PyData.canLayAll0, Bool.and_eq_true]
    exact ⟨okT_lay x h'.1, okTs_lay xs h'.2⟩
end
/-- == can be told of it -/
def shp (d : T) : Bool := okT d && decide ((toD d).depth ≤ 64)
theorem shp_shaped {d : T} (h : shp d = true) : SeqAt.shaped (toD d) = true := by
  unfold shp at h
  rw [Bool.and_eq_true] at h
  unfold SeqAt.shaped
  rw [Bool.and_eq_true]
  exact ⟨okT_lay d h.1, h.2⟩
theorem shp_ok {d : T} (h : shp d = true) : okT d = true := by
  unfold shp at h
  rw [Bool.and_eq_true] at h
  exact h.1
section
variable {K : PySem.W.Frag} {F : Hp} {ι : List Addr} {H : Hp}
mutual
theorem Rp.dp (hF : All F H) : ∀ {d : T} {v : V}, Rp K F ι v d → okT d = true → Dp K H v (toD d)
  | .non, _, h, _ => by cases h; simp only [toD]; exact .non
  | .bl b, _, h, _ => by cases h; simp only [toD]; exact .bl b
  | .int i, _, h, _ => by cases h; simp only [toD]; exact .int i
  | .str x, _, h, _ => by cases h; simp only [toD]; exact .str x
  | .lst xs, _, h, ok => by
    cases h with
    | lst s t => simp only [toD]; exact .lst (SqL.of (hF _ _ s)) (Rps.dps hF t (by simpa [okT] using ok))
  | .fls xs, _, h, ok => by
    cases h with
    | fls s t => simp only [toD]; exact .lst (hF.sub.seqL s) (Rps.dps hF t (by simpa [okT] using ok))
  | .tup xs, _, h, ok => by
    cases h with
    | tup s t => simp only [toD]; exact .tup (SqT.of (hF _ _ s)) (Rps.dps hF t (by simpa [okT] using ok))
  | .ftp xs, _, h, ok => by
    cases h with
    | ftp s t => simp only [toD]; exact .tup (hF.sub.seqT s) (Rps.dps hF t (by simpa [okT] using ok))
  | .dic _ _, _, _, ok => by simp [okT] at ok
  | .cell _, _, _, ok => by simp [okT] at ok
  | .ref _, _, _, ok => by simp [okT] at ok
  | .ty _, _, _, ok => by simp [okT] at ok
theorem Rps.dps (hF : All F H) : ∀ {ds : List T} {vs : List V}, Rps K F ι vs ds → okTs ds = true → DpAll K H vs (toDs ds)
  | [], _, h, _ => by cases h; simp only [toDs]; exact .nil
  | d :: ds, _, h, ok => by
    cases h with
    | cons r t =>
      have h' : okT d = true ∧ okTs ds = true := by simpa [okTs] using ok
      simp only [toDs]
      exact .cons (Rp.dp hF r h'.1) (Rps.dps hF t h'.2)
end
theorem Lp.dp (hF : All F H) {d : T} {v : V} (h : Lp K F ι H v d) (ok : okT d = true) : Dp K H v (toD d) := by
  cases h with
  | non => simp only [toD]; exact .non
  | bl b => simp only [toD]; exact .bl b
  | int i => simp only [toD]; exact .int i
  | str x => simp only [toD]; exact .str x
  | lst s t => simp only [toD]; exact .lst (SqL.of s) (Rps.dps hF t (by simpa [okT] using ok))
  | fls s t => simp only [toD]; exact .lst (hF.sub.seqL s) (Rps.dps hF t (by simpa [okT] using ok))
  | tup s t => simp only [toD]; exact .tup (SqT.of (hF _ _ s)) (Rps.dps hF t (by simpa [okT] using ok))
  | ftp s t => simp only [toD]; exact .tup (hF.sub.seqT s) (Rps.dps hF t (by simpa [okT] using ok))
  | dic _ _ => simp [okT] at ok
  | dit _ _ => simp [okT] at ok
  | ref _ => simp [okT] at ok
  | ty _ => simp [okT] at ok
end

/-! ### the operators, as functions of trees -/
def lgs (i j : Int) : Nat := i.natAbs.log2 + j.natAbs.log2
def gAdd : T → T → M T
  | .int i, .int j => M.pure (.int (i + j))
  | .int i, .bl b => M.pure (.int (i + bif b then 1 else 0))
  | .str x, .str y => bif fits (x.length + y.length) then M.pure (.str (x ++ y)) else M.no
  | .lst xs, .lst ys => bif fits (xs.length + ys.length) then M.pure (.lst (xs ++ ys)) else M.no
  | .tup xs, .tup ys => bif fits (xs.length + ys.length) then M.pure (.tup (xs ++ ys)) else M.no
  | _, _ => M.no
def gSub : T → T → M T
  | .int i, .int j => M.pure (.int (i - j))
  | _, _ => M.no
def gMul : T → T → M T
  | .int i, .int j => bif decide (lgs i j < 1000000) then M.pure (.int (i * j)) else M.no
  | .lst xs, .int k => bif decide (-(2 ^ 63) ≤ k) && decide (k < 2 ^ 63) && fits (xs.length * k.toNat) then M.pure (.lst (List.replicate k.toNat xs).flatten) else M.no
  | .tup xs, .int k => bif !xs.isEmpty && decide (2 ≤ k) && decide (k ≤ 1000) && decide (xs.length ≤ 1000) then M.pure (.tup (List.replicate k.toNat xs).flatten) else M.no
  | _, _ => M.no
def gFdiv : T → T → M T
  | .int i, .int j => bif decide (0 < j) && decide (j.natAbs.log2 < 9000) then M.pure (.int (i / j)) else M.no
  | _, _ => M.no
def gMod : T → T → M T
  | .int i, .int j => bif decide (0 < j) then M.pure (.int (i % j)) else M.no
  | _, _ => M.no
def gPow : T → T → M T
  | .int i, .int j => bif decide (0 ≤ j) && decide (j ≤ 1000000) && decide (i.natAbs < 2 ^ 64) then M.pure (.int (i ^ j.toNat)) else M.no
  | _, _ => M.no
def gShl : T → T → M T
  | .int i, .int j => bif decide (0 ≤ j) && decide ((Builtin.Int.intBits i : Int) + j ≤ 2 ^ 27) then M.pure (.int (i * 2 ^ j.toNat)) else M.no
  | _, _ => M.no
def gShr : T → T → M T
  | .int i, .int j => bif decide (0 ≤ j) then M.pure (.int (i / 2 ^ j.toNat)) else M.no
  | _, _ => M.no
def gBit (f : Int → Int → Int) : T → T → M T
  | .int i, .int j => M.pure (.int (f i j))
  | _, _ => M.no
def gCmp (p : Int → Int → Bool) : T → T → M T
  | .int i, .int j => M.pure (.bl (p i j))
  | _, _ => M.no
def notNon : T → Bool
  | .non => false
  | _ => true
def gLt : T → T → M T
  | .int i, .int j => M.pure (.bl (decide (i < j)))
  | .int _, _ => M.no
  | _, .int _ => M.no
  | x, y => bif shp x && shp y && PySem.W.alike (toD x) (toD y) && notNon x then M.pure (.bl (PySem.W.dataLt (toD x) (toD y))) else M.no
def gEqD (x y : T) : M T := bif shp x && shp y then M.pure (.bl (PyData.eqv (toD x) (toD y))) else M.no
def gNeD (x y : T) : M T := bif shp x && shp y then M.pure (.bl (!PyData.eqv (toD x) (toD y))) else M.no
def gEq (x y : T) : M T := match x, y with
  | .str a, .str b => M.pure (.bl (decide (a = b)))
  | x, y => gEqD x y
def gNe (x y : T) : M T := match x, y with
  | .str a, .str b => M.pure (.bl (!decide (a = b)))
  | x, y => gNeD x y
def gIs : T → T → M T
  | x, .non => M.pure (.bl (match x with | .non => true | _ => false))
  | .bl a, .bl b => M.pure (.bl (a == b))
  | _, _ => M.no
def gIsN : T → T → M T
  | x, .non => M.pure (.bl (match x with | .non => false | _ => true))
  | .bl a, .bl b => M.pure (.bl (!(a == b)))
  | _, _ => M.no
/-- a key that a dict can bear: which dict, which key -/
def key1 : T → Option Key
  | .int i => some (.inl i)
  | .str x => some (.inr x)
  | _ => none
def keysOf : List T → Option (List Key)
  | [] => some []
  | x :: xs => match key1 x, keysOf xs with
    | some k, some ks => some (k :: ks)
    | _, _ => none
def keyOf : T → Option (Key ⊕ List Key)
  | .int i => some (.inl (.inl i))
  | .str x => some (.inl (.inr x))
  | .tup xs => (keysOf xs).map .inr
  | _ => none
def gNeg : T → M T
  | .int i => M.pure (.int (-i))
  | _ => M.no
def ld2 (g : T → T → M T) (x y : T) : M T := M.bind (ld x) fun x => M.bind (ld y) fun y => g x y

section
variable {X : Cx} {E : XK} {k : Nat}
/-- an operator on trees, from its ways -/
theorem OpD.of {f : Value → Value → Sem Value} {g : T → T → M T}
    (h : ∀ (pins : List (Addr × Obj)) (s : Shared) (σ : L2.St) (H : Hp) (x y : V) (v u : Value) (Q : VK) F ι μ d e, Inv X pins σ H s → RelV x v → RelV y u → Rel X.K F ι μ H → Lp X.K F ι H x d → Lp X.K F ι H y e →
      Post X.K X.mg E (g d e μ) F ι H (wT X.K Q) → wpAny (model X.prog X.w) X.A (f v u) (EP X pins σ Q) X.xe s) : OpD X E f (ld2 g) := by
  intro pins s σ H x y v u Q I rx ry hh
  obtain ⟨F, ι, μ, d, e, hr, hx, hy, hp⟩ := hh
  obtain ⟨d', lx, hp1⟩ := ld_post hr hx hp
  obtain ⟨e', ly, hp2⟩ := ld_post hr hy hp1
  exact h pins s σ H x y v u Q F ι μ d' e' I rx ry hr lx ly hp2
/-- where only ints are let -/
theorem OpD.ints {f : Value → Value → Sem Value} {c : Int → Int → Bool} {C : Int → Int → Prop} {r : Int → Int → V} {q : Int → Int → T} (ho : OpR X f (rI C r)) (hc : ∀ i j, c i j = true → C i j) (hq : ∀ F ι i j, Rp X.K F ι (r i j) (q i j))
    {g : T → T → M T} (hg : ∀ i j, g (.int i) (.int j) = bif c i j then M.pure (q i j) else M.no) (hn : ∀ d e, (∀ i j, ¬ (d = .int i ∧ e = .int j)) → g d e = M.no) : OpD X E f (ld2 g) :=
  .of fun pins s σ H x y v u Q F ι μ d e I rx ry hr lx ly hp => by
    by_cases hij : ∃ i j, d = .int i ∧ e = .int j
    · obtain ⟨i, j, rfl, rfl⟩ := hij
      cases lx
      cases ly
      rw [hg] at hp
      cases hcc : c i j with
      | false => rw [hcc] at hp; exact hp.elim
      | true =>
        rw [hcc] at hp
        exact ho pins s σ H _ _ v u Q I rx ry ⟨i, j, rfl, rfl, hc _ _ hcc, Post.pure (a := q i j) hp hr _ (hq _ _ _ _)⟩
    · rw [hn d e fun i j ⟨h1, h2⟩ => hij ⟨i, j, h1, h2⟩] at hp
      exact hp.elim
theorem OpD.ints0 {f : Value → Value → Sem Value} {r : Int → Int → V} {q : Int → Int → T} (ho : OpR X f (rI0 r)) (hq : ∀ F ι i j, Rp X.K F ι (r i j) (q i j))
    {g : T → T → M T} (hg : ∀ i j, g (.int i) (.int j) = M.pure (q i j)) (hn : ∀ d e, (∀ i j, ¬ (d = .int i ∧ e = .int j)) → g d e = M.no) : OpD X E f (ld2 g) :=
  .of fun pins s σ H x y v u Q F ι μ d e I rx ry hr lx ly hp => by
    by_cases hij : ∃ i j, d = .int i ∧ e = .int j
    · obtain ⟨i, j, rfl, rfl⟩ := hij
      cases lx
      cases ly
      rw [hg] at hp
      exact ho pins s σ H _ _ v u Q I rx ry ⟨i, j, rfl, rfl, Post.pure (a := q i j) hp hr _ (hq _ _ _ _)⟩
    · rw [hn d e fun i j ⟨h1, h2⟩ => hij ⟨i, j, h1, h2⟩] at hp
      exact hp.elim
theorem o_sub : OpD X E (binaryOp .Sub) (ld2 gSub) := .ints0 op_sub (fun _ _ _ _ => .int _) (fun _ _ => rfl) fun d e h => by unfold gSub; split; exact (h _ _ ⟨rfl, rfl⟩).elim; rfl
theorem o_fdiv : OpD X E (binaryOp .FloorDiv) (ld2 gFdiv) := .ints (c := fun _ j => decide (0 < j) && decide (j.natAbs.log2 < 9000)) op_fdivW (fun i j h => by simpa [CDivW] using h) (fun _ _ _ _ => .int _) (fun _ _ => rfl) fun d e h => by unfold gFdiv; split; exact (h _ _ ⟨rfl, rfl⟩).elim; rfl
theorem o_mod : OpD X E (binaryOp .Mod) (ld2 gMod) := .ints (c := fun _ j => decide (0 < j)) op_mod (fun i j h => by simpa using h) (fun _ _ _ _ => .int _) (fun _ _ => rfl) fun d e h => by unfold gMod; split; exact (h _ _ ⟨rfl, rfl⟩).elim; rfl
theorem o_pow : OpD X E (binaryOp .Pow) (ld2 gPow) := .ints (c := fun i j => decide (0 ≤ j) && decide (j ≤ 1000000) && decide (i.natAbs < 2 ^ 64)) op_pow (fun i j h => by simp only [Bool.and_eq_true, decide_eq_true_eq] at h; exact ⟨h.1.1, h.1.2, h.2⟩) (fun _ _ _ _ => .int _) (fun _ _ => rfl) fun d e h => by unfold gPow; split; exact (h _ _ ⟨rfl, rfl⟩).elim; rfl
theorem o_shl : OpD X E (binaryOp .LShift) (ld2 gShl) := .ints (c := fun i j => decide (0 ≤ j) && decide ((Builtin.Int.intBits i : Int) + j ≤ 2 ^ 27)) op_shlW (fun i j h => by simpa [CShl] using h) (fun _ _ _ _ => .int _) (fun _ _ => rfl) fun d e h => by unfold gShl; split; exact (h _ _ ⟨rfl, rfl⟩).elim; rfl
theorem o_shr : OpD X E (binaryOp .RShift) (ld2 gShr) := .ints (c := fun i j => decide (0 ≤ j)) op_shr (fun i j h => by simpa using h) (fun _ _ _ _ => .int _) (fun _ _ => rfl) fun d e h => by unfold gShr; split; exact (h _ _ ⟨rfl, rfl⟩).elim; rfl
theorem o_and : OpD X E (binaryOp .BitAnd) (ld2 (gBit Builtin.bitAnd)) := .ints0 op_and (fun _ _ _ _ => .int _) (fun _ _ => rfl) fun d e h => by unfold gBit; split; exact (h _ _ ⟨rfl, rfl⟩).elim; rfl
theorem o_or : OpD X E (binaryOp .BitOr) (ld2 (gBit Builtin.bitOr)) := .ints0 op_or (fun _ _ _ _ => .int _) (fun _ _ => rfl) fun d e h => by unfold gBit; split; exact (h _ _ ⟨rfl, rfl⟩).elim; rfl
theorem o_xor : OpD X E (binaryOp .BitXor) (ld2 (gBit Builtin.bitXor)) := .ints0 op_xor (fun _ _ _ _ => .int _) (fun _ _ => rfl) fun d e h => by unfold gBit; split; exact (h _ _ ⟨rfl, rfl⟩).elim; rfl
theorem o_le : OpD X E (compareOp .LtE) (ld2 (gCmp fun i j => decide (i ≤ j))) := .ints0 op_le (fun _ _ _ _ => .bl _) (fun _ _ => rfl) fun d e h => by unfold gCmp; split; exact (h _ _ ⟨rfl, rfl⟩).elim; rfl
theorem o_gt : OpD X E (compareOp .Gt) (ld2 (gCmp fun i j => decide (j < i))) := .ints0 op_gt (fun _ _ _ _ => .bl _) (fun _ _ => rfl) fun d e h => by unfold gCmp; split; exact (h _ _ ⟨rfl, rfl⟩).elim; rfl
theorem o_ge : OpD X E (compareOp .GtE) (ld2 (gCmp fun i j => decide (j ≤ i))) := .ints0 op_ge (fun _ _ _ _ => .bl _) (fun _ _ => rfl) fun d e h => by unfold gCmp; split; exact (h _ _ ⟨rfl, rfl⟩).elim; rfl
theorem o_eq (o : XO X E k) : OpD X E (compareOp .Eq) (ld2 gEq) := .of fun pins s σ H x y v u Q F ι μ d e I rx ry hr lx ly hp => by
  have hD : gEq d e = gEqD d e → wpAny (model X.prog X.w) X.A (compareOp .Eq v u) (EP X pins σ Q) X.xe s := fun e1 => by
    rw [e1] at hp
    unfold gEqD at hp
    cases hs : shp d && shp e with
    | false => rw [hs] at hp; exact hp.elim
    | true =>
      rw [hs] at hp
      rw [Bool.and_eq_true] at hs
      exact op_eqD o.room.units pins s σ H x y v u Q I rx ry ⟨_, _, lx.dp hr.sub (shp_ok hs.1), ly.dp hr.sub (shp_ok hs.2), shp_shaped hs.1, shp_shaped hs.2, Post.pure hp hr _ (.bl _)⟩
  cases lx with
  | str a =>
    cases ly with
    | str b =>
      have hp : Post X.K X.mg E (M.pure (T.bl (decide (a = b))) μ) F ι H (wT X.K Q) := hp
      have e : decide (V.str a = V.str b) = decide (a = b) := by by_cases h : a = b <;> simp [h]
      refine op_eq pins s σ H _ _ v u Q I rx ry ⟨rfl, ?_⟩
      rw [e]
      exact Post.pure hp hr _ (.bl _)
    | _ => exact hD rfl
  | _ => exact hD (by cases ly <;> rfl)
theorem o_ne (o : XO X E k) : OpD X E (compareOp .NotEq) (ld2 gNe) := .of fun pins s σ H x y v u Q F ι μ d e I rx ry hr lx ly hp => by
  have hD : gNe d e = gNeD d e → wpAny (model X.prog X.w) X.A (compareOp .NotEq v u) (EP X pins σ Q) X.xe s := fun e1 => by
    rw [e1] at hp
    unfold gNeD at hp
    cases hs : shp d && shp e with
    | false => rw [hs] at hp; exact hp.elim
    | true =>
      rw [hs] at hp
      rw [Bool.and_eq_true] at hs
      exact op_neD o.room.units pins s σ H x y v u Q I rx ry ⟨_, _, lx.dp hr.sub (shp_ok hs.1), ly.dp hr.sub (shp_ok hs.2), shp_shaped hs.1, shp_shaped hs.2, Post.pure hp hr _ (.bl _)⟩
  cases lx with
  | str a =>
    cases ly with
    | str b =>
      have hp : Post X.K X.mg E (M.pure (T.bl (!decide (a = b))) μ) F ι H (wT X.K Q) := hp
      have e : decide (V.str a = V.str b) = decide (a = b) := by by_cases h : a = b <;> simp [h]
      refine op_ne pins s σ H _ _ v u Q I rx ry ⟨rfl, ?_⟩
      rw [e]
      exact Post.pure hp hr _ (.bl _)
    | _ => exact hD rfl
  | _ => exact hD (by cases ly <;> rfl)
theorem o_add : OpD X E (binaryOp .Add) (ld2 gAdd) := .of fun pins s σ H x y v u Q F ι μ d e I rx ry hr lx ly hp => by
  unfold gAdd at hp
  split at hp
  · cases lx; cases ly
    exact op_add pins s σ H _ _ v u Q I rx ry ⟨_, _, rfl, rfl, Post.pure hp hr _ (.int _)⟩
  · rename_i i b
    cases lx; cases ly
    refine op_add_ib pins s σ H _ _ v u Q I rx ry ⟨_, _, rfl, rfl, ?_⟩
    have q := Post.pure hp hr
    cases b <;> exact q _ (.int _)
  · cases lx; cases ly
    cases hz : fits _ with
    | false => rw [hz] at hp; exact hp.elim
    | true =>
      rw [hz] at hp
      exact op_add_str pins s σ H _ _ v u Q I rx ry ⟨_, _, rfl, rfl, fits_le hz, Post.pure hp hr _ (.str _)⟩
  · cases lx with
    | lst ha ra =>
      cases ly with
      | lst hb rb =>
        cases hz : fits _ with
        | false => rw [hz] at hp; exact hp.elim
        | true =>
          rw [hz] at hp
          refine op_cat pins s σ H _ _ v u Q I rx ry ⟨_, _, _, _, rfl, rfl, ha, hb, ?_, fun p np => ?_⟩
          · rw [ra.length, rb.length]; exact fits_le hz
          · obtain ⟨x2, r2⟩ := hr.newF np (fun a z => upd_ne z) upd_same
            exact hp _ _ _ x2 r2 _ (.lst upd_same ((ra.append rb).ext x2))
  · rename_i xs ys
    cases lx with
    | @tup a vs _ ha ra =>
      cases ly with
      | @tup b ws _ hb rb =>
        cases hz : fits _ with
        | false => rw [hz] at hp; exact hp.elim
        | true =>
          rw [hz] at hp
          refine op_catA pins s σ H _ _ v u Q I rx ry ⟨_, _, _, _, rfl, rfl, SqT.of (hr.sub _ _ ha), SqT.of (hr.sub _ _ hb), ?_, fun e => ?_, fun e1 e2 => ?_, fun _ _ p np => ?_⟩
          · rw [ra.length, rb.length]; exact fits_le hz
          · subst e
            cases ra
            exact Post.pure (a := T.tup ([] ++ ys)) hp hr _ (.tup hb rb)
          · subst e2
            cases rb
            exact Post.pure (a := T.tup (xs ++ [])) hp hr _ (.tup ha (by rw [List.append_nil]; exact ra))
          · obtain ⟨x2, r2⟩ := hr.newF np (fun a z => upd_ne z) upd_same
            exact hp _ _ _ x2 r2 _ (.tup upd_same ((ra.append rb).ext x2))
  · exact hp.elim
end
end TL

set_option maxHeartbeats 4000000
namespace TL
open PySem PySem.Spec PyProof.Rows L2
theorem mulSame (l : Addr) (items : Array Value) (n : Nat) (dd : Option Addr) (sl : Array (Option Value)) (x : Int) (u : Tok) (c0 : (decide (x < -(2 ^ 63)) || decide (x ≥ 2 ^ 63)) = false) (c1 : (items.isEmpty || x == 1) = true) :
    Meets (Builtin.«tuple.__mul__» ⟨[.ref l, .int x u], []⟩) (fun _ R s => s.heap.get? l = some { cls := .type "tuple", dict := dd, data := .seq items n, slots := sl } ∧ R (.ok (.ret (.ref l))) s) :=
  .of_wp fun prog w A R s h => by
    obtain ⟨hp, g, d, tk, os⟩ := s
    obtain ⟨hl, h⟩ := h
    have f1 := AutoSeq1.idx_int
    wp_walk using wpAny_loadPart' hl
    repeat (first
      | (refine wpAny_ite_false (decide_eq_false (by rw [c0]; exact Bool.false_ne_true)) ?_; wp_walk using wpAny_loadPart' hl)
      | (refine wpAny_ite_true (decide_eq_true c1) ?_; wp_walk using wpAny_loadPart' hl))
    exact ⟨_, rfl, h⟩
theorem mulNone (l : Addr) (items : Array Value) (n : Nat) (dd : Option Addr) (sl : Array (Option Value)) (x : Int) (u : Tok) (c0 : (decide (x < -(2 ^ 63)) || decide (x ≥ 2 ^ 63)) = false) (c1 : (items.isEmpty || x == 1) = false) (c2 : (decide (x ≤ 0) || items.isEmpty) = true) :
    Meets (Builtin.«tuple.__mul__» ⟨[.ref l, .int x u], []⟩) (fun _ R s => s.heap.get? l = some { cls := .type "tuple", dict := dd, data := .seq items n, slots := sl } ∧
      R (.ok (.ret (Value.ref s.heap.objs.size))) { s with heap := s.heap.push { cls := Value.type "tuple", data := Data.seq #[] }, toks := s.toks }) :=
  .of_wp fun prog w A R s h => by
    obtain ⟨hp, g, d, tk, os⟩ := s
    obtain ⟨hl, h⟩ := h
    have f1 := AutoSeq1.idx_int
    have hz : (#[] : Array Value).size ≤ sizeLine := Nat.zero_le _
    wp_walk using wpAny_loadPart' hl
    repeat (first
      | (refine wpAny_ite_false (decide_eq_false (by rw [c0]; exact Bool.false_ne_true)) ?_; wp_walk using wpAny_loadPart' hl)
      | (refine wpAny_ite_false (decide_eq_false (by rw [c1]; exact Bool.false_ne_true)) ?_; wp_walk using wpAny_loadPart' hl)
      | (refine wpAny_ite_true (decide_eq_true c2) ?_; wp_walk using wpAny_loadPart' hl)
      | (refine wpAny_ite_false (decide_eq_false (Nat.not_lt.mpr hz)) ?_; wp_walk using wpAny_loadPart' hl))
    exact ⟨_, rfl, h⟩

section
variable {X : Cx}
/-- a tuple any number of times -/
def rRepA (K : PySem.W.Frag) : R2 := fun x y H Q => ∃ a k xs, x = .ref a ∧ y = .int k ∧ SqT K H a xs ∧ -(2 ^ 63) ≤ k ∧ k < 2 ^ 63 ∧ xs.length * k.toNat ≤ sizeLine ∧
  ((xs = [] ∨ k = 1) → Q (.ref a) H) ∧ (¬ (xs = [] ∨ k = 1) → ∀ p, H p = none → Q (.ref p) (upd H p (.tup (List.replicate k.toNat xs).flatten)))
theorem op_repA : OpR X (binaryOp .Mult) (rRepA X.K) := by
  intro pins s σ H x y v u Q I rx ry hh
  obtain ⟨a, k, xs, rfl, rfl, hT, b1, b2, hz, q1, q2⟩ := hh
  obtain rfl : v = Value.ref a := rx
  obtain ⟨t, rfl⟩ := ry
  obtain ⟨its, rv, ⟨⟨cl, dd, dt, sl⟩, ho, hc, n, hd⟩, hs⟩ := I.tuple hT
  simp only at hc hd
  subst hc
  subst hd
  have hle := rv.length
  have hem : its.toArray.isEmpty = decide (xs = []) := by
    cases rv with
    | nil => rfl
    | cons _ _ => rfl
  have c0 : (decide (k < -(2 ^ 63)) || decide (k ≥ 2 ^ 63)) = false := by
    rw [decide_eq_false (by omega), decide_eq_false (by omega)]; rfl
  have go : ∀ {G : Value → Shared → Prop}, Meets (Builtin.«tuple.__mul__» ⟨[.ref a, .int k t], []⟩) (fun _ R s' => s'.heap.get? a = some { cls := .type "tuple", dict := dd, data := .seq its.toArray n, slots := sl } ∧ R (.ok (.ret (.ref a))) s') →
      G (.ref a) s → wpAny (model X.prog X.w) X.A (binaryOp .Mult (.ref a) (.int k t)) G X.xe s := fun {G} hm hG =>
    wpAny_binaryOp_repeat_ref (T := "tuple") (U := "int") (by decide) ⟨_, ho, rfl⟩ (fun z => typeIs_int z k t) noFill_tuple_mul F.fills_int_mul F.slot_int_rmul repeat_tuple F.slot_int_index.lookup
      (call_meets F.slot_int_rmul (typeIs_int s k t) F.entry_int_rmul (F.args_int_rmul_2 _ _) (int_rmul_tuple k t a its.toArray n dd sl) ⟨ho, rfl, ⟨_, ho, rfl⟩, call_meets F.slot_tuple_mul ⟨_, ho, rfl⟩ F.entry_tuple_mul (F.args_tuple_mul_2 _ _) hm ⟨ho, hG⟩⟩)
  have go2 : ∀ {G : Value → Shared → Prop} {its2 : Array Value}, Meets (Builtin.«tuple.__mul__» ⟨[.ref a, .int k t], []⟩) (fun _ R s' => s'.heap.get? a = some { cls := .type "tuple", dict := dd, data := .seq its.toArray n, slots := sl } ∧
        R (.ok (.ret (.ref s'.heap.objs.size))) { s' with heap := s'.heap.push { cls := .type "tuple", data := .seq its2 }, toks := s'.toks }) →
      G (.ref s.heap.objs.size) { s with heap := s.heap.push { cls := .type "tuple", data := .seq its2 }, toks := s.toks } → wpAny (model X.prog X.w) X.A (binaryOp .Mult (.ref a) (.int k t)) G X.xe s := fun {G its2} hm hG =>
    wpAny_binaryOp_repeat_ref (T := "tuple") (U := "int") (by decide) ⟨_, ho, rfl⟩ (fun z => typeIs_int z k t) noFill_tuple_mul F.fills_int_mul F.slot_int_rmul repeat_tuple F.slot_int_index.lookup
      (call_meets F.slot_int_rmul (typeIs_int s k t) F.entry_int_rmul (F.args_int_rmul_2 _ _) (int_rmul_tuple k t a its.toArray n dd sl) ⟨ho, rfl, ⟨_, ho, rfl⟩, call_meets F.slot_tuple_mul ⟨_, ho, rfl⟩ F.entry_tuple_mul (F.args_tuple_mul_2 _ _) hm ⟨ho, hG⟩⟩)
  by_cases hk : xs = [] ∨ k = 1
  · refine go (mulSame a its.toArray n dd sl k t c0 ?_) ⟨.ref a, H, I, rfl, q1 hk⟩
    rw [hem, Bool.or_eq_true]
    rcases hk with e | e
    · exact .inl (decide_eq_true e)
    · exact .inr (by rw [e]; rfl)
  · have hx : xs ≠ [] := fun e => hk (.inl e)
    have hk1 : k ≠ 1 := fun e => hk (.inr e)
    have c1 : (its.toArray.isEmpty || k == 1) = false := by
      rw [hem, decide_eq_false hx, Bool.false_or]
      exact beq_eq_false_iff_ne.mpr hk1
    have flen : (List.replicate k.toNat its).flatten.length ≤ sizeLine := by
      rw [PyProof.Rows.lm_len_rep_flat, ← hle, Nat.mul_comm]
      exact hz
    have fin : ∀ {its2 : List Value}, its2 = (List.replicate k.toNat its).flatten → EP X pins σ Q (.ref s.heap.objs.size) { s with heap := s.heap.push { cls := .type "tuple", data := .seq its2.toArray }, toks := s.toks } := fun {its2} e => by
      refine ⟨.ref _, _, I.laid (t' := s.toks) (o := .tup (List.replicate k.toNat xs).flatten) (fun b ob q => Heap.get?_push_of_some _ q) (Nat.le_refl _) ?_, rfl, q2 hk _ (I.hok.fresh (Nat.le_refl _))⟩
      subst e
      exact ⟨by rw [PyProof.Rows.lm_len_rep_flat, Nat.mul_comm]; exact hz, _, rv.rep k.toNat, IsTup.new _ _⟩
    by_cases hk0 : k ≤ 0
    · have e0 : k.toNat = 0 := by omega
      exact go2 (its2 := ([] : List Value).toArray) (mulNone a its.toArray n dd sl k t c0 c1 (by rw [decide_eq_true hk0]; rfl)) (fin (by rw [e0]; rfl))
    · have hi : its.toArray.isEmpty = false := by rw [hem]; exact decide_eq_false hx
      have c2 : (decide (k ≤ 0) || its.toArray.isEmpty) = false := by rw [hi, decide_eq_false hk0]; rfl
      have hmul : ((its.toArray.size : Nat) : Int) * k ≤ sizeLine := by
        have e1 : (k.toNat : Int) = k := Int.toNat_of_nonneg (by omega)
        rw [List.size_toArray, ← hle, ← e1]
        exact_mod_cast hz
      have hsl := sizeLine_eq
      have c4 : Builtin.Tuple.tupleTooMany (((its.toArray.size : Nat) : Int) * k) = false := by
        unfold Builtin.Tuple.tupleTooMany
        exact decide_eq_false (by omega)
      exact go2 (its2 := (List.replicate k.toNat its).flatten.toArray) (by
        have z := tuple_mulW a its.toArray n dd sl k t c0 c1 c2 (by omega) c4 (by rw [size_rep, List.size_toArray]; exact flen)
        rw [size_rep] at z
        exact z) (fin rfl)
end
end TL

/-! T layer 4: times, less, is, in, subscripts, slices. -/
namespace TL
open PySem PySem.Spec PyProof.Rows L2

theorem lt_le_line {n : Nat} (h : n ≤ 16777216) : n ≤ sizeLine := by rw [sizeLine_eq]; exact h
section
variable {K : PySem.W.Frag} {F : Hp} {ι : List Addr}
theorem Rps.rep {vs : List V} {ds : List T} (r : Rps K F ι vs ds) : ∀ n : Nat, Rps K F ι (List.replicate n vs).flatten (List.replicate n ds).flatten
  | 0 => .nil
  | n + 1 => by
    rw [List.replicate_succ, List.replicate_succ, List.flatten_cons, List.flatten_cons]
    exact r.append (Rps.rep r n)
end
/-- times: a tuple any number of times -/
def gMulA : T → T → M T
  | .int i, .int j => bif decide (lgs i j < 1000000) then M.pure (.int (i * j)) else M.no
  | .lst xs, .int k => bif decide (-(2 ^ 63) ≤ k) && decide (k < 2 ^ 63) && fits (xs.length * k.toNat) then M.pure (.lst (List.replicate k.toNat xs).flatten) else M.no
  | .tup xs, .int k => bif decide (-(2 ^ 63) ≤ k) && decide (k < 2 ^ 63) && fits (xs.length * k.toNat) then M.pure (.tup (bif xs.isEmpty || k == 1 then xs else (List.replicate k.toNat xs).flatten)) else M.no
  | _, _ => M.no
section
variable {X : Cx} {E : XK} {k : Nat}
theorem o_mul : OpD X E (binaryOp .Mult) (ld2 gMulA) := .of fun pins s σ H x y v u Q F ι μ d e I rx ry hr lx ly hp => by
  unfold gMulA at hp
  split at hp
  · rename_i i j
    cases lx; cases ly
    cases hz : decide (lgs i j < 1000000) with
    | false => rw [hz] at hp; exact hp.elim
    | true =>
      rw [hz] at hp
      exact op_mulW pins s σ H _ _ v u Q I rx ry ⟨_, _, rfl, rfl, of_decide_eq_true (p := lgs i j < 1000000) hz, Post.pure hp hr _ (.int _)⟩
  · rename_i xs n
    cases lx with
    | lst ha ra =>
      cases ly
      cases hz : (decide (-(2 ^ 63) ≤ n) && decide (n < 2 ^ 63) && fits (xs.length * n.toNat)) with
      | false => rw [hz] at hp; exact hp.elim
      | true =>
        rw [hz] at hp
        simp only [Bool.and_eq_true, decide_eq_true_eq] at hz
        refine op_rep pins s σ H _ _ v u Q I rx ry ⟨_, _, _, rfl, rfl, ha, hz.1.1, hz.1.2, by rw [ra.length]; exact fits_le hz.2, fun p np => ?_⟩
        obtain ⟨x2, r2⟩ := hr.newF np (fun a z => upd_ne z) upd_same
        exact hp _ _ _ x2 r2 _ (.lst upd_same ((ra.rep _).ext x2))
  · rename_i xs n
    cases lx with
    | @tup a vs _ ha ra =>
      cases ly
      cases hz : (decide (-(2 ^ 63) ≤ n) && decide (n < 2 ^ 63) && fits (xs.length * n.toNat)) with
      | false => rw [hz] at hp; exact hp.elim
      | true =>
        rw [hz] at hp
        simp only [Bool.and_eq_true, decide_eq_true_eq] at hz
        have hem : vs = [] ↔ xs = [] := by
          cases ra with
          | nil => simp
          | cons _ _ => simp
        refine op_repA pins s σ H _ _ v u Q I rx ry ⟨_, _, _, rfl, rfl, SqT.of (hr.sub _ _ ha), hz.1.1, hz.1.2, by rw [ra.length]; exact fits_le hz.2, fun c => ?_, fun c p np => ?_⟩
        · have e : (xs.isEmpty || n == 1) = true := by
            rw [Bool.or_eq_true]
            rcases c with c | c
            · exact .inl (by rw [hem.mp c]; rfl)
            · exact .inr (by rw [c]; rfl)
          rw [e] at hp
          exact Post.pure hp hr _ (.tup ha ra)
        · have e : (xs.isEmpty || n == 1) = false := by
            rw [Bool.or_eq_false_iff]
            refine ⟨?_, beq_eq_false_iff_ne.mpr fun z => c (.inr z)⟩
            cases xs with
            | nil => exact (c (.inl (hem.mpr rfl))).elim
            | cons _ _ => rfl
          rw [e] at hp
          obtain ⟨x2, r2⟩ := hr.newF np (fun a z => upd_ne z) upd_same
          exact hp _ _ _ x2 r2 _ (.tup upd_same ((ra.rep _).ext x2))
  · exact hp.elim
theorem compareLt_eq (a b : Value) : compareOp .Lt a b = richCompare .Lt a b := by first | rfl | (unfold compareOp; rfl)
theorem o_lt (o : XO X E k) : OpD X E (compareOp .Lt) (ld2 gLt) := .of fun pins s σ H x y v u Q F ι μ d e I rx ry hr lx ly hp => by
  unfold gLt at hp
  split at hp
  · cases lx; cases ly
    exact op_lt pins s σ H _ _ v u Q I rx ry ⟨_, _, rfl, rfl, Post.pure hp hr _ (.bl _)⟩
  · exact hp.elim
  · exact hp.elim
  · cases hz : (shp d && shp e && PySem.W.alike (toD d) (toD e) && notNon d) with
    | false => rw [hz] at hp; exact hp.elim
    | true =>
      rw [hz] at hp
      simp only [Bool.and_eq_true] at hz
      obtain ⟨as, r1⟩ := Dp.reads I _ x v (lx.dp hr.sub (shp_ok hz.1.1.1)) rx
      obtain ⟨bs, r2⟩ := Dp.reads I _ y u (ly.dp hr.sub (shp_ok hz.1.1.2)) ry
      have nn : toD d ≠ .none := by
        intro z
        have h1 := shp_ok hz.1.1.1
        cases d <;> simp [toD] at z
        · simp [notNon] at hz
        · simp [okT] at h1
        · simp [okT] at h1
        · simp [okT] at h1
      rw [compareLt_eq]
      refine PySem.W.rcLt_alike _ _ X.A s v u as bs r1 r2 hz.1.2 nn ?_ X.prog X.w _ _ ⟨.bl _, H, I, rfl, Post.pure hp hr _ (.bl _)⟩
      exact SeqAt.room_of_shaped (shp_shaped hz.1.1.1) o.room.units
theorem o_is : OpD X E (compareOp .Is) (ld2 gIs) := .of fun pins s σ H x y v u Q F ι μ d e I rx ry hr lx ly hp => by
  unfold gIs at hp
  split at hp
  · cases ly
    refine op_isN pins s σ H _ _ v u Q I rx ry ⟨rfl, ?_⟩
    have q := Post.pure hp hr
    cases lx <;> exact q _ (.bl _)
  · cases lx; cases ly
    refine op_is_bl pins s σ H _ _ v u Q I rx ry ⟨_, _, rfl, rfl, ?_⟩
    have q := Post.pure hp hr _ (.bl _)
    rw [Bool.beq_eq_decide_eq] at q
    exact q
  · exact hp.elim
theorem o_isN : OpD X E (compareOp .IsNot) (ld2 gIsN) := .of fun pins s σ H x y v u Q F ι μ d e I rx ry hr lx ly hp => by
  unfold gIsN at hp
  split at hp
  · cases ly
    refine op_notN pins s σ H _ _ v u Q I rx ry ⟨rfl, ?_⟩
    have q := Post.pure hp hr
    cases lx <;> exact q _ (.bl _)
  · cases lx; cases ly
    refine op_isnot_bl pins s σ H _ _ v u Q I rx ry ⟨_, _, rfl, rfl, ?_⟩
    have q := Post.pure hp hr _ (.bl _)
    rw [Bool.beq_eq_decide_eq] at q
    exact q
  · exact hp.elim
theorem u_neg : UnD X E (unaryOp .USub) (fun x => M.bind (ld x) gNeg) := by
  intro pins s σ H x v Q I rx hh
  obtain ⟨F, ι, μ, d, hr, hx, hp⟩ := hh
  obtain ⟨d', lx, hp⟩ := ld_post hr hx hp
  unfold gNeg at hp
  split at hp
  · cases lx
    exact un_neg pins s σ H _ v Q I rx ⟨_, rfl, Post.pure hp hr _ (.int _)⟩
  · exact hp.elim
end

/-! ### dicts -/
def lookP (kvs : List (T × T)) (k : Key ⊕ List Key) : Option T := (kvs.find? fun p => decide (keyOf p.1 = some k)).map (·.2)
def dGet (tk : Bool) (kvs : List (T × T)) (y : T) : Option (Option T) := match keyOf y with
  | some (.inl k) => bif tk then none else some (lookP kvs (.inl k))
  | some (.inr ks) => bif tk then some (lookP kvs (.inr ks)) else none
  | none => none
theorem key1_keyT (k : Key) : key1 (keyT k) = some k := by cases k <;> rfl
theorem keyOf_keyT (k : Key) : keyOf (keyT k) = some (.inl k) := by cases k <;> rfl
theorem keysOf_map : ∀ ks : List Key, keysOf (ks.map keyT) = some ks
  | [] => rfl
  | k :: ks => by simp only [List.map_cons, keysOf, key1_keyT, keysOf_map ks]
theorem keyOf_tup (ks : List Key) : keyOf (.tup (ks.map keyT)) = some (.inr ks) := by simp only [keyOf, keysOf_map, Option.map_some]
theorem key1_some {d : T} {k : Key} (h : key1 d = some k) : d = keyT k := by
  unfold key1 at h
  split at h <;> first | (cases h; rfl) | cases h
theorem keysOf_some : ∀ {ds : List T} {ks : List Key}, keysOf ds = some ks → ds = ks.map keyT
  | [], ks, h => by cases h; rfl
  | d :: ds, ks, h => by
    simp only [keysOf] at h
    split at h
    · rename_i k r h1 h2
      cases h
      rw [key1_some h1, keysOf_some h2]
      rfl
    · cases h
section
variable {K : PySem.W.Frag} {F : Hp} {ι : List Addr}
theorem Rpk.look : ∀ {kvs : List (Key × V)} {ps : List (T × T)} (k : Key), Rpk K F ι kvs ps → (valV kvs k = none ∧ lookP ps (.inl k) = none) ∨ ∃ v d, valV kvs k = some v ∧ lookP ps (.inl k) = some d ∧ Rp K F ι v d
  | _, _, k, .nil => .inl ⟨rfl, rfl⟩
  | _, _, k, @Rpk.cons _ _ _ k' v vs d ds r t => by
    by_cases e : k' = k
    · subst e
      refine .inr ⟨v, d, valV_pos rfl, ?_, r⟩
      simp [lookP, List.find?_cons, keyOf_keyT]
    · have e2 : ¬ (keyOf (keyT k') = some (.inl k)) := by
        rw [keyOf_keyT]
        intro z
        cases z
        exact e rfl
      have e3 : lookP ((keyT k', d) :: ds) (.inl k) = lookP ds (.inl k) := by simp [lookP, List.find?_cons, e2]
      rw [valV_neg (p := (k', v)) e, e3]
      exact Rpk.look k t
theorem Rpt.look : ∀ {kvs : List (List Key × V)} {ps : List (T × T)} (k : List Key), Rpt K F ι kvs ps → (valV kvs k = none ∧ lookP ps (.inr k) = none) ∨ ∃ v d, valV kvs k = some v ∧ lookP ps (.inr k) = some d ∧ Rp K F ι v d
  | _, _, k, .nil => .inl ⟨rfl, rfl⟩
  | _, _, k, @Rpt.cons _ _ _ k' v vs d ds r t => by
    by_cases e : k' = k
    · subst e
      refine .inr ⟨v, d, valV_pos rfl, ?_, r⟩
      simp [lookP, List.find?_cons, keyOf_tup]
    · have e2 : ¬ (keyOf (.tup (k'.map keyT)) = some (.inr k)) := by
        rw [keyOf_tup]
        intro z
        cases z
        exact e rfl
      have e3 : lookP ((.tup (k'.map keyT), d) :: ds) (.inr k) = lookP ds (.inr k) := by simp [lookP, List.find?_cons, e2]
      rw [valV_neg (p := (k', v)) e, e3]
      exact Rpt.look k t
theorem Rp.key {v : V} {k : Key} (r : Rp K F ι v (keyT k)) : v = kV k := by
  cases k with
  | inl i => cases r; rfl
  | inr x => cases r; rfl
theorem Rps.keys : ∀ {ks : List Key} {vs : List V}, Rps K F ι vs (ks.map keyT) → vs = ks.map kV
  | [], _, h => by cases h; rfl
  | k :: ks, _, h => by
    cases h with
    | cons r t => rw [r.key, Rps.keys t]; rfl
end
section
variable {K : PySem.W.Frag} {F : Hp} {ι : List Addr} {H : Hp}
/-- what a dict answers of a key. A tuple that is a key must be tracked -/
theorem dget_of {a : Addr} {y : V} {tk : Bool} {ps : List (T × T)} {e : T} {o : Option T} (lx : Lp K F ι H (.ref a) (.dic tk ps)) (ly : Lp K F ι H y e) (h : dGet tk ps e = some o)
    (hF : All F H) :
    ∃ r : Option V, DGet H a y r ∧ ((r = none ∧ o = none) ∨ ∃ v d, r = some v ∧ o = some d ∧ Rp K F ι v d) := by
  unfold dGet at h
  cases hk : keyOf e with
  | none => rw [hk] at h; cases h
  | some kk =>
    rw [hk] at h
    cases kk with
    | inl k =>
      cases tk with
      | true => cases h
      | false =>
        cases h
        have ey : y = kV k := by
          cases ly with
          | int i => cases hk; rfl
          | str x => cases hk; rfl
          | tup ha ra =>
            simp only [keyOf] at hk
            rename_i ds
            cases h2 : keysOf ds with
            | none => rw [h2] at hk; cases hk
            | some q => rw [h2] at hk; cases hk
          | _ => cases hk
        cases lx with
        | dic hd rd =>
          rcases rd.look k with ⟨h1, h2⟩ | ⟨v, d, h1, h2, h3⟩
          · exact ⟨none, .inl ⟨_, k, hd, ey, h1.symm⟩, .inl ⟨rfl, h2⟩⟩
          · exact ⟨some v, .inl ⟨_, k, hd, ey, h1.symm⟩, .inr ⟨v, d, rfl, h2, h3⟩⟩
    | inr ks =>
      cases tk with
      | false => cases h
      | true =>
        cases h
        cases ly with
        | @tup b vs ds ha ra =>
          simp only [keyOf] at hk
          cases h2 : keysOf ds with
          | none => rw [h2] at hk; cases hk
          | some q =>
            rw [h2] at hk
            cases hk
            have eds := keysOf_some h2
            subst eds
            have evs := ra.keys
            subst evs
            have hb := hF _ _ ha
            cases lx with
            | dit hd rd =>
              rcases rd.look ks with ⟨h1, h2⟩ | ⟨v, d, h1, h2, h3⟩
              · exact ⟨none, .inr ⟨_, ks, b, hd, rfl, hb, h1.symm⟩, .inl ⟨rfl, h2⟩⟩
              · exact ⟨some v, .inr ⟨_, ks, b, hd, rfl, hb, h1.symm⟩, .inr ⟨v, d, rfl, h2, h3⟩⟩
        | int i => cases hk
        | str x => cases hk
        | _ => cases hk
end

/-! ### in -/
def inDs (x : T) (ys : List T) : M Bool := bif shp x && shp (.lst ys) then M.pure ((toDs ys).any fun z => PyData.eqv z (toD x)) else M.no
def gIn (neg : Bool) (x : T) : T → M T
  | .lst ys => M.bind (inDs x ys) fun b => M.pure (.bl (b != neg))
  | .fls ys => M.bind (inDs x ys) fun b => M.pure (.bl (b != neg))
  | .tup ys => M.bind (inDs x ys) fun b => M.pure (.bl (b != neg))
  | .ftp ys => M.bind (inDs x ys) fun b => M.pure (.bl (b != neg))
  | .dic tk ps => match dGet tk ps x with
    | some o => M.pure (.bl (o.isSome != neg))
    | none => M.no
  | _ => M.no
section
variable {X : Cx} {E : XK} {k : Nat}
theorem shp_list {ys : List T} {d : T} (h : shp (.lst ys) = true) (e : toD d = .list (toDs ys) ∨ toD d = .tuple (toDs ys)) : SeqAt.shaped (.list (toDs ys)) = true := by
  have z := shp_shaped h
  simpa only [toD] using z
theorem in_run {neg : Bool} (o : XO X E k) {pins : List (Addr × Obj)} {s : Shared} {σ : L2.St} {H : Hp} {x y : V} {v u : Value} {Q : VK} {F : Hp} {ι : List Addr} {μ : Store} {d e : T} (I : Inv X pins σ H s) (rx : RelV x v) (ry : RelV y u) (hr : Rel X.K F ι μ H)
    (lx : Lp X.K F ι H x d) (ly : Lp X.K F ι H y e) (hp : Post X.K X.mg E (gIn neg d e μ) F ι H (wT X.K Q)) : wpAny (model X.prog X.w) X.A (compareOp (if neg then .NotIn else .In) v u) (EP X pins σ Q) X.xe s := by
  have seq : ∀ {ys : List T} {r : List Addr} (tp : Bool), Reads s.heap u (if tp then .tuple (toDs ys) else .list (toDs ys)) r → Post X.K X.mg E (M.bind (inDs d ys) (fun b => M.pure (T.bl (b != neg))) μ) F ι H (wT X.K Q) →
      wpAny (model X.prog X.w) X.A (compareOp (if neg then .NotIn else .In) v u) (EP X pins σ Q) X.xe s := fun {ys r} tp ru hp => by
    unfold M.bind inDs at hp
    cases hz : shp d && shp (.lst ys) with
    | false => rw [hz] at hp; exact hp.elim
    | true =>
      rw [hz] at hp
      rw [Bool.and_eq_true] at hz
      obtain ⟨bs, r1⟩ := Dp.reads I _ x v (lx.dp hr.sub (shp_ok hz.1)) rx
      have sd := shp_shaped hz.1
      have sl : SeqAt.shaped (.list (toDs ys)) = true := by simpa only [toD] using shp_shaped hz.2
      have h1 : PyData.canLayAll0 (toDs ys) = true := SeqAt.canLay_of_shaped sl
      have hu : X.A.units + 65 < cLine := by have := o.room.un; omega
      have h3 : X.A.units + 1 + min (PyData.depthAll (toDs ys)) (toD d).depth < cLine := room_in_shaped sd hu
      have q : EP X pins σ Q (.bool (((toDs ys).any fun z => PyData.eqv z (toD d)) != neg)) s := ⟨.bl _, H, I, rfl, Post.pure hp hr _ (.bl _)⟩
      cases neg with
      | false =>
        rw [Bool.bne_false] at q
        cases tp with
        | true => exact SeqAt.in_tuple_reads ru r1 h1 (SeqAt.canLay_of_shaped sd) h3 q
        | false => exact SeqAt.in_list_reads ru r1 h1 (SeqAt.canLay_of_shaped sd) h3 q
      | true =>
        rw [Bool.bne_true] at q
        cases tp with
        | true => exact SeqAt.notIn_tuple_reads ru r1 h1 (SeqAt.canLay_of_shaped sd) h3 q
        | false => exact SeqAt.notIn_list_reads ru r1 h1 (SeqAt.canLay_of_shaped sd) h3 q
  have okl : ∀ {ys : List T}, Post X.K X.mg E (M.bind (inDs d ys) (fun b => M.pure (T.bl (b != neg))) μ) F ι H (wT X.K Q) → okTs ys = true := fun {ys} hp => by
    unfold M.bind inDs at hp
    cases hz : shp d && shp (.lst ys) with
    | false => rw [hz] at hp; exact hp.elim
    | true =>
      rw [Bool.and_eq_true] at hz
      simpa [okT] using shp_ok hz.2
  cases ly with
  | lst ha ra =>
    have hp' : Post X.K X.mg E (M.bind (inDs d _) (fun b => M.pure (T.bl (b != neg))) μ) F ι H (wT X.K Q) := hp
    obtain ⟨as, r2⟩ := Dp.reads I _ _ u (Dp.lst (SqL.of ha) (ra.dps hr.sub (okl hp'))) ry
    exact seq false r2 hp'
  | fls ha ra =>
    have hp' : Post X.K X.mg E (M.bind (inDs d _) (fun b => M.pure (T.bl (b != neg))) μ) F ι H (wT X.K Q) := hp
    obtain ⟨as, r2⟩ := Dp.reads I _ _ u (Dp.lst (hr.sub.sub.seqL ha) (ra.dps hr.sub (okl hp'))) ry
    exact seq false r2 hp'
  | tup ha ra =>
    have hp' : Post X.K X.mg E (M.bind (inDs d _) (fun b => M.pure (T.bl (b != neg))) μ) F ι H (wT X.K Q) := hp
    obtain ⟨as, r2⟩ := Dp.reads I _ _ u (Dp.tup (SqT.of (hr.sub _ _ ha)) (ra.dps hr.sub (okl hp'))) ry
    exact seq true r2 hp'
  | ftp ha ra =>
    have hp' : Post X.K X.mg E (M.bind (inDs d _) (fun b => M.pure (T.bl (b != neg))) μ) F ι H (wT X.K Q) := hp
    obtain ⟨as, r2⟩ := Dp.reads I _ _ u (Dp.tup (hr.sub.sub.seqT ha) (ra.dps hr.sub (okl hp'))) ry
    exact seq true r2 hp'
  | dic ha ra =>
    rename_i a kvs ps
    have hp' : Post X.K X.mg E ((match dGet false ps d with
      | some o => M.pure (T.bl (o.isSome != neg))
      | none => M.no) μ) F ι H (wT X.K Q) := hp
    cases hg : dGet false ps d with
    | none => rw [hg] at hp'; exact hp'.elim
    | some ov =>
      rw [hg] at hp'
      obtain ⟨r, g, hro⟩ := dget_of (Lp.dic ha ra) lx hg hr.sub
      have es : r.isSome = ov.isSome := by rcases hro with ⟨e1, e2⟩ | ⟨v', d', e1, e2, _⟩ <;> rw [e1, e2] <;> rfl
      have q := Post.pure hp' hr _ (.bl _)
      rw [← es] at q
      obtain rfl : u = Value.ref a := ry
      cases neg with
      | false => exact d_in (hu_of o.room) I g rx fun s3 I3 => ⟨.bl r.isSome, H, I3, rfl, by rw [Bool.bne_false] at q; exact q⟩
      | true => exact d_notIn (hu_of o.room) I g rx fun s3 I3 => ⟨.bl (!r.isSome), H, I3, rfl, by rw [Bool.bne_true] at q; exact q⟩
  | dit ha ra =>
    rename_i a kvs ps
    have hp' : Post X.K X.mg E ((match dGet true ps d with
      | some o => M.pure (T.bl (o.isSome != neg))
      | none => M.no) μ) F ι H (wT X.K Q) := hp
    cases hg : dGet true ps d with
    | none => rw [hg] at hp'; exact hp'.elim
    | some ov =>
      rw [hg] at hp'
      obtain ⟨r, g, hro⟩ := dget_of (Lp.dit ha ra) lx hg hr.sub
      have es : r.isSome = ov.isSome := by rcases hro with ⟨e1, e2⟩ | ⟨v', d', e1, e2, _⟩ <;> rw [e1, e2] <;> rfl
      have q := Post.pure hp' hr _ (.bl _)
      rw [← es] at q
      obtain rfl : u = Value.ref a := ry
      cases neg with
      | false => exact d_in (hu_of o.room) I g rx fun s3 I3 => ⟨.bl r.isSome, H, I3, rfl, by rw [Bool.bne_false] at q; exact q⟩
      | true => exact d_notIn (hu_of o.room) I g rx fun s3 I3 => ⟨.bl (!r.isSome), H, I3, rfl, by rw [Bool.bne_true] at q; exact q⟩
  | non => exact hp.elim
  | bl _ => exact hp.elim
  | int _ => exact hp.elim
  | str _ => exact hp.elim
  | ref _ => exact hp.elim
  | ty _ => exact hp.elim
theorem o_in (o : XO X E k) : OpD X E (compareOp .In) (ld2 (gIn false)) := .of fun pins s σ H x y v u Q F ι μ d e I rx ry hr lx ly hp => in_run (neg := false) o I rx ry hr lx ly hp
theorem o_notIn (o : XO X E k) : OpD X E (compareOp .NotIn) (ld2 (gIn true)) := .of fun pins s σ H x y v u Q F ι μ d e I rx ry hr lx ly hp => in_run (neg := true) o I rx ry hr lx ly hp
end

/-! ### subscripts -/
def ofO : Option T → M T
  | some d => M.pure d
  | none => M.no
def ofOO : Option (Option T) → M T
  | some (some d) => M.pure d
  | _ => M.no
def strAt (z : Str) (i : Int) : Option T := bif fits z.length then (atI z.cps.toList i).map fun c => .str ⟨#[c]⟩ else none
def gIx : T → T → M T
  | .lst xs, .int i => ofO (atI xs i)
  | .fls xs, .int i => ofO (atI xs i)
  | .tup xs, .int i => ofO (atI xs i)
  | .ftp xs, .int i => ofO (atI xs i)
  | .str z, .int i => ofO (strAt z i)
  | .dic tk ps, y => ofOO (dGet tk ps y)
  | _, _ => M.no
theorem sub_any {P : Program} {w : World} {A : Around} {E : Value → Shared → Prop} {s : Shared} {ve se : Expr} {o i : Value} {T id : String} {Q : Value → Shared → Prop} (hT : s.TypeIs o T)
    (hl : typeLookup (.type T) "__getitem__" = pure (some (.builtin id))) (h : wpAny (model P w) A (getItem o i) Q E s) (hs : subscripted se false o i = operate [o, i] (getItem o i)) : wpAny (model P w) A (subscriptTail ve se o i) Q E s := by
  have last : wpAny (model P w) A (subscripted se false o i) (fun r z => wpAny (model P w) A (letTemporaryGo ve o r >>= fun _ => pure r) Q E z) E s :=
    hs ▸ wpAny_operating (wpAny_mono h (fun r z hz => wpAny_bind (wpAny_letTemporaryGo (wpAny_pure hz))) (fun _ _ q => q))
  unfold subscriptTail
  refine wpAny_bind (by rw [getitemInPython_of_ne hT.not_modules]; refine wpAny_bind (wpAny_specialOf hT hl ?_); first | exact wpAny_pure (wpAny_bind last) | exact wpAny_bind (wpAny_pure (wpAny_bind last)) | exact wpAny_bind last)
section
variable {K : PySem.W.Frag} {F : Hp} {ι : List Addr}
theorem Rps.atI {vs : List V} {ds : List T} {i : Int} {d : T} (r : Rps K F ι vs ds) (h : L2.atI ds i = some d) : ∃ v, L2.atI vs i = some v ∧ Rp K F ι v d := by
  have el := r.length
  unfold L2.atI at h ⊢
  rw [el]
  cases hx : ixN ds.length i with
  | none => rw [hx] at h; cases h
  | some j =>
    rw [hx] at h
    obtain ⟨v, e, q⟩ := r.get (i := j) (d := d) (by simpa using h)
    exact ⟨v, by simpa using e, q⟩
end
section
variable {X : Cx} {E : XK} {k : Nat} {a b : Expr} {fa fb : Env → M T} {pos : Pos}
theorem ix_of (o : XO X E k) : IxR X (rT X E (ld2 gIx)) := by
  intro value slice pins s σ H x y v u Q I rx ry hh hs
  obtain ⟨F, ι, μ, d0, e0, hr, hx, hy, hp⟩ := hh
  obtain ⟨d, lx, hp1⟩ := ld_post hr hx hp
  obtain ⟨e, ly, hp⟩ := ld_post hr hy hp1
  have got : ∀ {o : Option T}, Post X.K X.mg E (ofO o μ) F ι H (wT X.K Q) → ∃ d, o = some d ∧ ∀ z, Rp X.K F ι z d → Q z H := fun {o} q => by
    cases o with
    | none => exact q.elim
    | some d => exact ⟨d, rfl, Post.pure q hr⟩
  have pick : ∀ {ds : List T} {vs : List V} {i : Int}, Post X.K X.mg E (ofO (atI ds i) μ) F ι H (wT X.K Q) → Rps X.K F ι vs ds → ∃ z, atI vs i = some z ∧ Q z H := fun q ra => by
    obtain ⟨d, hd, hq⟩ := got q
    obtain ⟨z, hz, rz⟩ := ra.atI hd
    exact ⟨z, hz, hq z rz⟩
  have dic : ∀ {tk : Bool} {ps : List (T × T)} {a : Addr}, x = .ref a → Lp X.K F ι H (.ref a) (.dic tk ps) → Post X.K X.mg E (ofOO (dGet tk ps e) μ) F ι H (wT X.K Q) → wpAny (model X.prog X.w) X.A (subscriptTail value slice v u) (EP X pins σ Q) X.xe s := fun {tk ps a} ex lz hp => by
    subst ex
    cases hd : dGet tk ps e with
    | none => rw [hd] at hp; exact hp.elim
    | some od =>
      cases od with
      | none => rw [hd] at hp; exact hp.elim
      | some d' =>
        rw [hd] at hp
        obtain ⟨r, g, hro⟩ := dget_of lz ly hd hr.sub
        rcases hro with ⟨_, e2⟩ | ⟨v', d'', e1, e2, rr⟩
        · cases e2
        · cases e2
          subst e1
          obtain rfl : v = Value.ref a := rx
          exact sub_any (dict_typeIs I g) PySem.F.slot_dict_getitem.lookup (d_getItem (hu_of o.room) I g ry fun w' s3 I3 rw' => ⟨v', H, I3, rw', Post.pure hp hr _ rr⟩) hs
  cases lx with
  | lst ha ra =>
    cases ly with
    | int i =>
      obtain ⟨z, hz, q⟩ := pick hp ra
      exact ix_list value slice pins s σ H _ _ v u Q I rx ry ⟨_, _, _, z, rfl, rfl, SqL.of ha, hz, q⟩ hs
    | _ => exact hp.elim
  | fls ha ra =>
    cases ly with
    | int i =>
      obtain ⟨z, hz, q⟩ := pick hp ra
      exact ix_list value slice pins s σ H _ _ v u Q I rx ry ⟨_, _, _, z, rfl, rfl, hr.sub.sub.seqL ha, hz, q⟩ hs
    | _ => exact hp.elim
  | tup ha ra =>
    cases ly with
    | int i =>
      obtain ⟨z, hz, q⟩ := pick hp ra
      exact ix_tup value slice pins s σ H _ _ v u Q I rx ry ⟨_, _, _, z, rfl, rfl, SqT.of (hr.sub _ _ ha), hz, q⟩ hs
    | _ => exact hp.elim
  | ftp ha ra =>
    cases ly with
    | int i =>
      obtain ⟨z, hz, q⟩ := pick hp ra
      exact ix_tup value slice pins s σ H _ _ v u Q I rx ry ⟨_, _, _, z, rfl, rfl, hr.sub.sub.seqT ha, hz, q⟩ hs
    | _ => exact hp.elim
  | str z =>
    cases ly with
    | int i =>
      have hp : Post X.K X.mg E (ofO (strAt z i) μ) F ι H (wT X.K Q) := hp
      obtain ⟨d, hd, hq⟩ := got hp
      unfold strAt at hd
      cases hz : fits z.length with
      | false => rw [hz] at hd; cases hd
      | true =>
        rw [hz] at hd
        obtain ⟨c, hc, e2⟩ := Option.map_eq_some_iff.mp (show (atI z.cps.toList i).map (fun c => T.str ⟨#[c]⟩) = some d from hd)
        subst e2
        exact ix_str value slice pins s σ H _ _ v u Q I rx ry ⟨_, _, _, rfl, rfl, fits_le hz, hc, hq _ (.str _)⟩ hs
    | _ => exact hp.elim
  | dic ha ra => exact dic rfl (.dic ha ra) hp
  | dit ha ra => exact dic rfl (.dit ha ra) hp
  | non => exact hp.elim
  | bl _ => exact hp.elim
  | int _ => exact hp.elim
  | ref _ => exact hp.elim
  | ty _ => exact hp.elim
theorem d_ix (o : XO X E k) (ha : DE X E a fa) (hb : DE X E b fb) (hs : PlainIx b := by exact fun _ _ => rfl) : DE X E (.Subscript a b pos) (eOp (ld2 gIx) fa fb) :=
  pe_imp (pe_ix (ix_of o) ha hb hs) fun σ H Q ⟨F, ι, μ, ρ, hr, he, hp⟩ => At.e hr he hp fun F1 ι1 μ1 H1 v d x1 r1 rv p1 => At.e r1 (he.ext x1) p1 fun F2 ι2 μ2 H2 u e x2 r2 ru p2 => ⟨F2, ι2, μ2, d, e, r2, rv.ext x2, ru, p2⟩
end
end TL

/-! T layer 5: defs and their calls. -/
namespace TL
open PySem PySem.Spec PyProof.Rows L2

section
variable (P : Program) (w : World) (K : PySem.W.Frag) (mg : Str → Option Value) (base : Heap)
/-- a def does what m says of trees, at most k calls deep -/
def FnG (k : Nat) (f : Addr) (fd : FuncData) (ps : List Str) (m : List T → M T) : Prop :=
  ∀ (A : Around) (outer : List PySem.Env) (s : Shared) (H : Hp) (args : Args) (us : List Value) (vs : List V) (Q : VK) (E : XK) (F : Hp) (ι : List Addr) (μ : Store) (ds : List T),
    Room k A → A.guards = some [] → L2.Env0 P w K mg base A outer s H → BindsTo s fd args (ps.zip us) → Vals vs us → vs.length = ps.length → Rel K F ι μ H → Rps K F ι vs ds → Post K mg E (m ds μ) F ι H (wT K Q) →
    codeAny (model P w) A (.call (.ref f) args) (CR (L2.CX P w) outer P w H s Q E) s
/-- .. and stands at its name -/
def Def (x : Str) (k n : Nat) (m : List T → M T) : Prop :=
  ∃ f fd ps, mg x = some (.ref f) ∧ PySem.W.keepIn K (.ref f) = true ∧ Binds K fd ps [] ∧ ps.length = n ∧ FnG P w K mg base k f fd ps m
end
def eCall (n : Nat) (m : List T → M T) (fa : Env → M (List T)) : Env → M T := fun ρ => M.bind (fa ρ) fun ds => bif ds.length == n then m ds else M.no
def atEnd : Fl → M T
  | .rt d => M.pure d
  | .nx _ => M.pure .non
  | _ => M.no
def slots0 (n : Nat) (ds : List T) : Env := ds.map some ++ List.replicate (n - ds.length) none
def mkFn (n : Nat) (g : Env → M Fl) : List T → M T := fun ds => M.bind (g (slots0 n ds)) atEnd
section
variable {X : Cx} {E : XK} {k k' : Nat} {x : Str} {p pos : Pos} {e : Expr} {es : List Expr} {fa : Env → M (List T)} {n : Nat} {m : List T → M T} {f : Addr} {fd : FuncData} {ps : List Str}
theorem run_fnG {pins : List (Addr × Obj)} {σ : L2.St} {H : Hp} {s : Shared} {Q : VK} {us : List Value} {vs : List V} {F : Hp} {ι : List Addr} {μ : Store} {ds : List T} (G : FnG X.prog X.w X.K X.mg X.base k f fd ps m) (o : XO X E k') (hk : k ≤ k') (hb : Binds X.K fd ps [])
    (I : Inv X pins σ H s) (r : Vals vs us) (hl : vs.length = ps.length) (hr : Rel X.K F ι μ H) (rs : Rps X.K F ι vs ds) (hp : Post X.K X.mg E (m ds μ) F ι H (wT X.K Q)) : wpAny (model X.prog X.w) X.A (call (.ref f) us) (EP X pins σ Q) X.xe s := by
  have hb' := hb s us I.kIn (by rw [List.append_nil, ← r.length]; exact hl)
  rw [List.append_nil] at hb'
  refine wpAny_call (codeAny_mono (G X.A X.stack s H ⟨us, []⟩ us vs Q E F ι μ ds (o.room.mono hk) o.gd I.env0 hb' r hl hr rs hp) fun z s' hz => ?_)
  rcases z with e | fl
  · exact passes_call o.tk (fun _ _ _ _ q => q) pins σ H s e s' I hz
  · cases fl with
    | ret u => exact I.after hz
    | next => exact hz.elim
    | brk => exact hz.elim
    | cont => exact hz.elim
theorem d_call (D : Def X.prog X.w X.K X.mg X.base x k n m) (o : XO X E k') (ha : DA X E (e :: es) fa) (hk : k ≤ k' := by decide) (hg : Gl X x := by rfl) (hdb : (x == ("__debug__" : Str)) = false := by decide)
    (he : starEach (e :: es) X.env = (false, eval e X.env) :: starEach es X.env := by rfl) (hpl : (backTo pos (starEach es X.env)).any (·.1) = false := by rfl) : DE X E (.Call (.Name x p) (e :: es) [] pos) (eCall n m fa) := by
  obtain ⟨f, fd, ps, hm, kp, hb, hn, G⟩ := D
  refine ⟨fun pins s σ H Q I ⟨F, ι, μ, ρ, hr, hen, hp⟩ => wpAny_Call_Name_kw (ld_glob I hg hm ?_ hdb)⟩
  refine PySem.W.callWith_K (h₀ := X.base) I.ok.mod.kin kp (thn (ha.run pos pins s σ H (fun vs H1 => ∃ F1 ι1 μ1 ds, Rel X.K F1 ι1 μ1 H1 ∧ Rps X.K F1 ι1 vs ds ∧ vs.length = n ∧ Post X.K X.mg E (m ds μ1) F1 ι1 H1 (wT X.K Q)) I (At.a hr hen hp fun F1 ι1 μ1 H1 vs ds x1 r1 rs p1 => ?_)) fun us s1 hh => ?_) he hpl
  · cases hz : (ds.length == n) with
    | false => rw [hz] at p1; exact p1.elim
    | true => rw [hz] at p1; exact ⟨F1, ι1, μ1, ds, r1, rs, by rw [rs.length]; exact beq_iff_eq.mp hz, p1⟩
  · obtain ⟨vs, H1, I1, r, F1, ι1, μ1, ds, r1, rs, hl, p1⟩ := hh
    exact ⟨I1.kIn, run_fnG G o hk hb I1 r (hl.trans hn.symm) r1 rs p1⟩
theorem d_call0 (D : Def X.prog X.w X.K X.mg X.base x k 0 m) (o : XO X E k') (hk : k ≤ k' := by decide) (hg : Gl X x := by rfl) (hdb : (x == ("__debug__" : Str)) = false := by decide) : DE X E (.Call (.Name x p) [] [] pos) (eCall 0 m aNil) := by
  obtain ⟨f, fd, ps, hm, kp, hb, hn, G⟩ := D
  refine ⟨fun pins s σ H Q I ⟨F, ι, μ, ρ, hr, hen, hp⟩ => wpAny_Call_Name_kw (ld_glob I hg hm ?_ hdb)⟩
  exact PySem.W.callWith_K0 I.kIn kp (run_fnG (us := []) (vs := []) (ds := []) G o hk hb I .nil hn.symm hr .nil hp)
end
section
variable {P : Program} {w : World} {K : PySem.W.Frag} {mg : Str → Option Value} {base : Heap}
theorem ERp.begin {F : Hp} {ι : List Addr} {vs : List V} {ds : List T} {N : List Str} (r : Rps K F ι vs ds) : ERp K F ι (L2.start N vs) (slots0 N.length ds) := by
  have hl := r.length
  refine ⟨by simp [L2.start, slots0, hl], fun i d h => ?_⟩
  unfold slots0 at h
  by_cases hi : i < ds.length
  · rw [List.getElem?_append_left (by simpa using hi), List.getElem?_map] at h
    obtain ⟨d', e1, e2⟩ := Option.map_eq_some_iff.mp h
    cases e2
    obtain ⟨v, e3, q⟩ := r.get e1
    refine ⟨v, ?_, q⟩
    unfold L2.start
    rw [List.getElem?_append_left (by simpa [hl] using hi), List.getElem?_map, e3]
    rfl
  · rw [List.getElem?_append_right (by simpa using hi), List.getElem?_replicate] at h
    split at h <;> cases h
/-- a def by its body -/
theorem fnG {x qual : Str} {st : Stmt} {f : Addr} {fd : FuncData} {N ps : List Str} {k : Nat} {g : Env → M Fl} (Fu : Fun K x qual st f fd) (S : FnScope N ps (defScope st))
    (hb : ∀ (cdv : Value) (A : Around) (outer : List PySem.Env) (s : Shared) (H : Hp) (E : XK), XO (cxOf (L2.CX P w) P w K mg base N qual (defScope st) f cdv A outer s H E) E k →
      DB (cxOf (L2.CX P w) P w K mg base N qual (defScope st) f cdv A outer s H E) E (defBody st) g) : FnG P w K mg base (k + 1) f fd ps (mkFn N.length g) := by
  obtain ⟨oc, od, kV, doc, pm, an, cdv, ct, osl, rfl, lk, hcd⟩ := Fu.ex
  intro A outer s H args us vs Q E F ι μ ds hro hgu e0 hbi rv hl hr rs hp
  have kIn : K.In s.heap := e0.mod.kin.keeps (fun b o e => (e0.bs b o e).1)
  have lim : s.heap.NoLimit := e0.mod.nolimit.keeps (fun b o e => (e0.bs b o e).1)
  refine codeAny_call_function hro.depth (kIn _ _ lk) rfl S.co S.gen rfl (PySem.W.codeRec_of kIn hcd) (hbi _ _ _ _ (wpAny_newFunctionEnv_cells S.kind (fun ⟨nm, vv⟩ hy => ?_) (fun env he s1 x => ?_)))
  · rcases S.par nm (List.of_mem_zip hy).1 with q | q
    · exact .inl q
    · exact .inr ⟨q, PySem.W.cellsFrom_some _ _ _ (.inl q)⟩
  · subst he
    refine ⟨lim.keeps x.toInCall.keep, codeAny_func ?_⟩
    have I : Inv (cxOf (L2.CX P w) P w K mg base N qual (defScope st) f cdv A outer s H E) [] (start N vs) H s1 := inv_start S hro.hd e0 hl rv x
    have o : XO (cxOf (L2.CX P w) P w K mg base N qual (defScope st) f cdv A outer s H E) E k := ⟨rfl, S.nd, hgu, hro.deeper _, takes_of rfl rfl rfl rfl, passes_of rfl⟩
    have fin : ∀ {σ' : L2.St} {H' : Hp} {s' : Shared} {v : V} {u : Value}, Inv (cxOf (L2.CX P w) P w K mg base N qual (defScope st) f cdv A outer s H E) [] σ' H' s' → RelV v u → Q v H' → CE outer P w H s Q u s' :=
      fun {σ' H' s' v u} J rvu q => ⟨v, H', J.os, J.bare, J.base, J.hok, rvu, q⟩
    refine wpAny_mono ((hb cdv A outer s H E o).run [] s1 (start N vs) H { nx := fun _ H' => Q .non H', rt := Q } I
      ⟨F, ι, μ, slots0 N.length ds, hr, .begin rs, hp.bind fun F1 ι1 μ1 H1 fl x1 r1 p1 => ?_⟩) (fun fl s' hs => ?_) (fun _ _ hs => hs)
    · cases fl with
      | nx ρ' => exact fun _ _ => Post.pure (mg := mg) (E := E) (a := T.non) p1 r1 _ .non
      | rt d => exact Post.pure (mg := mg) (E := E) (a := d) p1 r1
      | bk ρ' => exact p1.elim
      | ct ρ' => exact p1.elim
    · cases fl with
      | ret u => obtain ⟨v, σ', H', J, q1, q2⟩ := hs; exact fin J q1 q2
      | next => obtain ⟨σ', H', J, q2⟩ := hs; exact fin (v := V.non) (u := Value.none) J rfl q2
      | brk => obtain ⟨_, _, _, q⟩ := hs; exact q.elim
      | cont => obtain ⟨_, _, _, q⟩ := hs; exact q.elim
theorem def_mk {x : Str} {st : Stmt} {f : Addr} {fd : FuncData} {N ps : List Str} {k n : Nat} {g : Env → M Fl} {m : List T → M T} (gf : mg x = some (.ref f)) (Fu : Fun K x x st f fd) (S : FnScope N ps (defScope st)) (hn : ps.length = n)
    (hbi : ∀ (kV doc pm : Value) (an : Option Addr) (cdv ct : Value) (us : List Value), us.length = ps.length → bindArgs (PySem.W.fnOf x x (defArgs st) (defBody st) (defScope st) .none kV doc pm an cdv ct) ⟨us, []⟩ = pure (ps.zip us))
    (hb : ∀ (cdv : Value) (A : Around) (outer : List PySem.Env) (s : Shared) (H : Hp) (E : XK), XO (cxOf (L2.CX P w) P w K mg base N x (defScope st) f cdv A outer s H E) E k →
      DB (cxOf (L2.CX P w) P w K mg base N x (defScope st) f cdv A outer s H E) E (defBody st) g) (hm : m = mkFn N.length g) : Def P w K mg base x (k + 1) n m :=
  ⟨f, fd, ps, gf, Fu.kp, Fu.binds hbi, hn, by rw [hm]; exact fnG Fu S hb⟩
end
end TL

/-! T layer 6: built-in functions on trees. -/
namespace TL
open PySem PySem.Spec PyProof.Rows L2

section
variable (X : Cx) (E : XK)
def rC (g : List T → M T) : List V → Hp → VK → Prop := fun xs H Q => ∃ F ι μ ds, Rel X.K F ι μ H ∧ Rps X.K F ι xs ds ∧ Post X.K X.mg E (g ds μ) F ι H (wT X.K Q)
abbrev CallD (f : Value) (g : List T → M T) : Prop := CallR X f (rC X E g)
/-- a new list's items -/
def rCL (g : List T → M (List T)) : List V → Hp → VK → Prop := fun xs H Q => ∃ F ι μ ds, Rel X.K F ι μ H ∧ Rps X.K F ι xs ds ∧ Post X.K X.mg E (g ds μ) F ι H
  (fun F' ι' _ H' es => ∀ p ys H'', (∀ a, a ≠ p → H'' a = H' a) → H' p = none → H'' p = some (.lst ys) → Rps X.K F' ι' ys es → Q (.ref p) H'')
abbrev CallL (f : Value) (g : List T → M (List T)) : Prop := CallR X f (rCL X E g)
end
def eB (g : List T → M T) (fa : Env → M (List T)) : Env → M T := fun ρ => M.bind (fa ρ) g
def lB (g : List T → M (List T)) (fa : Env → M (List T)) : Env → M (List T) := fun ρ => M.bind (fa ρ) g
section
variable {X : Cx} {E : XK} {x : Str} {p pos : Pos} {e : Expr} {es : List Expr} {fa : Env → M (List T)} {id : String} {g : List T → M T} {gl : List T → M (List T)}
theorem d_bi (hc : CallD X E (.builtin id) g) (hm : X.mg x = none) (hv : bootBuiltins x = some (.builtin id)) (ha : DA X E (e :: es) fa) (hg : Gl X x := by rfl) (hn : x ≠ "__name__" := by decide) (hdb : (x == ("__debug__" : Str)) = false := by decide)
    (he : starEach (e :: es) X.env = (false, eval e X.env) :: starEach es X.env := by rfl) (hpl : (backTo pos (starEach es X.env)).any (·.1) = false := by rfl) : DE X E (.Call (.Name x p) (e :: es) [] pos) (eB g fa) :=
  pe_imp (pe_callB hc hg hm hv ha hn hdb he hpl) fun σ H Q ⟨F, ι, μ, ρ, hr, hen, hp⟩ => At.a hr hen hp fun F1 ι1 μ1 H1 vs ds x1 r1 rs p1 => ⟨F1, ι1, μ1, ds, r1, rs, p1⟩
theorem d_bty {T₀ : String} (hc : CallD X E (.type T₀) g) (hm : X.mg x = none) (hv : bootBuiltins x = some (.type T₀)) (ha : DA X E (e :: es) fa) (hg : Gl X x := by rfl) (hn : x ≠ "__name__" := by decide) (hdb : (x == ("__debug__" : Str)) = false := by decide)
    (he : starEach (e :: es) X.env = (false, eval e X.env) :: starEach es X.env := by rfl) (hpl : (backTo pos (starEach es X.env)).any (·.1) = false := by rfl) : DE X E (.Call (.Name x p) (e :: es) [] pos) (eB g fa) :=
  pe_imp (pe_callTy hc hg hm hv ha hn hdb he hpl) fun σ H Q ⟨F, ι, μ, ρ, hr, hen, hp⟩ => At.a hr hen hp fun F1 ι1 μ1 H1 vs ds x1 r1 rs p1 => ⟨F1, ι1, μ1, ds, r1, rs, p1⟩
theorem l_bi (hc : CallL X E (.builtin id) gl) (hm : X.mg x = none) (hv : bootBuiltins x = some (.builtin id)) (ha : DA X E (e :: es) fa) (hg : Gl X x := by rfl) (hn : x ≠ "__name__" := by decide) (hdb : (x == ("__debug__" : Str)) = false := by decide)
    (he : starEach (e :: es) X.env = (false, eval e X.env) :: starEach es X.env := by rfl) (hpl : (backTo pos (starEach es X.env)).any (·.1) = false := by rfl) : DL X E (.Call (.Name x p) (e :: es) [] pos) (lB gl fa) :=
  pe_imp (pe_callB hc hg hm hv ha hn hdb he hpl) fun σ H Q ⟨F, ι, μ, ρ, hr, hen, hp⟩ => At.a hr hen hp fun F1 ι1 μ1 H1 vs ds x1 r1 rs p1 => ⟨F1, ι1, μ1, ds, r1, rs, p1⟩
theorem l_bty {T₀ : String} (hc : CallL X E (.type T₀) gl) (hm : X.mg x = none) (hv : bootBuiltins x = some (.type T₀)) (ha : DA X E (e :: es) fa) (hg : Gl X x := by rfl) (hn : x ≠ "__name__" := by decide) (hdb : (x == ("__debug__" : Str)) = false := by decide)
    (he : starEach (e :: es) X.env = (false, eval e X.env) :: starEach es X.env := by rfl) (hpl : (backTo pos (starEach es X.env)).any (·.1) = false := by rfl) : DL X E (.Call (.Name x p) (e :: es) [] pos) (lB gl fa) :=
  pe_imp (pe_callTy hc hg hm hv ha hn hdb he hpl) fun σ H Q ⟨F, ι, μ, ρ, hr, hen, hp⟩ => At.a hr hen hp fun F1 ι1 μ1 H1 vs ds x1 r1 rs p1 => ⟨F1, ι1, μ1, ds, r1, rs, p1⟩
end

/-- one argument, read -/
def g1 (g : T → M T) : List T → M T
  | [d] => M.bind (ld d) g
  | _ => M.no
def g2 (g : T → T → M T) : List T → M T
  | [d, e] => M.bind (ld d) fun d => M.bind (ld e) fun e => g d e
  | _ => M.no
section
variable {X : Cx} {E : XK} {k : Nat}
theorem CallD.one {f : Value} {g : T → M T} (h : ∀ (pins : List (Addr × Obj)) (s : Shared) (σ : L2.St) (H : Hp) (x : V) (us : List Value) (Q : VK) F ι μ d, Inv X pins σ H s → Vals [x] us → Rel X.K F ι μ H → Lp X.K F ι H x d →
    Post X.K X.mg E (g d μ) F ι H (wT X.K Q) → wpAny (model X.prog X.w) X.A (call f us) (EP X pins σ Q) X.xe s) : CallD X E f (g1 g) := by
  intro pins s σ H xs us Q I rv hh
  obtain ⟨F, ι, μ, ds, hr, rs, hp⟩ := hh
  unfold g1 at hp
  split at hp
  · cases rs with
    | cons r t =>
      cases t
      obtain ⟨d, lx, hp⟩ := ld_post hr r hp
      exact h pins s σ H _ us Q F ι μ d I rv hr lx hp
  · exact hp.elim
theorem CallD.two {f : Value} {g : T → T → M T} (h : ∀ (pins : List (Addr × Obj)) (s : Shared) (σ : L2.St) (H : Hp) (x y : V) (us : List Value) (Q : VK) F ι μ d e, Inv X pins σ H s → Vals [x, y] us → Rel X.K F ι μ H → Lp X.K F ι H x d → Lp X.K F ι H y e →
    Post X.K X.mg E (g d e μ) F ι H (wT X.K Q) → wpAny (model X.prog X.w) X.A (call f us) (EP X pins σ Q) X.xe s) : CallD X E f (g2 g) := by
  intro pins s σ H xs us Q I rv hh
  obtain ⟨F, ι, μ, ds, hr, rs, hp⟩ := hh
  unfold g2 at hp
  split at hp
  · cases rs with
    | cons r t =>
      cases t with
      | cons r2 t =>
        cases t
        obtain ⟨d, lx, hp⟩ := ld_post hr r hp
        obtain ⟨e, ly, hp⟩ := ld_post hr r2 hp
        exact h pins s σ H _ _ us Q F ι μ d e I rv hr lx ly hp
  · exact hp.elim

def gLen : T → M T
  | .lst xs => M.pure (.int xs.length)
  | .fls xs => M.pure (.int xs.length)
  | .tup xs => M.pure (.int xs.length)
  | .ftp xs => M.pure (.int xs.length)
  | .dic _ kvs => M.pure (.int kvs.length)
  | .str z => bif fits z.length then M.pure (.int z.length) else M.no
  | _ => M.no
theorem Rpk.length {K : PySem.W.Frag} {F : Hp} {ι : List Addr} : ∀ {kvs : List (Key × V)} {ps : List (T × T)}, Rpk K F ι kvs ps → kvs.length = ps.length
  | _, _, .nil => rfl
  | _, _, .cons _ t => by simp [Rpk.length t]
theorem Rpt.length {K : PySem.W.Frag} {F : Hp} {ι : List Addr} : ∀ {kvs : List (List Key × V)} {ps : List (T × T)}, Rpt K F ι kvs ps → kvs.length = ps.length
  | _, _, .nil => rfl
  | _, _, .cons _ t => by simp [Rpt.length t]
theorem c_len : CallD X E (.builtin "len") (g1 gLen) := .one fun pins s σ H x us Q F ι μ d I rv hr lx hp => by
  cases lx with
  | lst ha ra =>
    refine call_len_seq pins s σ H _ us Q I rv ⟨_, _, rfl, .inl (SqL.of ha), ?_⟩
    rw [ra.length]
    exact Post.pure hp hr _ (.int _)
  | fls ha ra =>
    refine call_len_seq pins s σ H _ us Q I rv ⟨_, _, rfl, .inl (hr.sub.sub.seqL ha), ?_⟩
    rw [ra.length]
    exact Post.pure hp hr _ (.int _)
  | tup ha ra =>
    refine call_len_seq pins s σ H _ us Q I rv ⟨_, _, rfl, .inr (SqT.of (hr.sub _ _ ha)), ?_⟩
    rw [ra.length]
    exact Post.pure hp hr _ (.int _)
  | ftp ha ra =>
    refine call_len_seq pins s σ H _ us Q I rv ⟨_, _, rfl, .inr (hr.sub.sub.seqT ha), ?_⟩
    rw [ra.length]
    exact Post.pure hp hr _ (.int _)
  | dic ha ra =>
    obtain ⟨u, rfl, ru⟩ := vals1 rv
    cases ru
    refine d_len I ha fun t s' I' => ⟨.int _, H, I', ⟨t, rfl⟩, ?_⟩
    rw [ra.length]
    exact Post.pure hp hr _ (.int _)
  | dit ha ra =>
    obtain ⟨u, rfl, ru⟩ := vals1 rv
    cases ru
    obtain ⟨z, hd, ys, rel, dd⟩ := dt_rd I.hok ha
    have hl := Paired.length rel
    refine call_len_dictH hd dd (by rw [← hl]; rw [sizeLine_eq] at z; omega) ?_
    rw [← hl]
    refine ⟨.int _, H, I.tok _, ⟨_, rfl⟩, ?_⟩
    rw [ra.length]
    exact Post.pure hp hr _ (.int _)
  | str z =>
    have hp : Post X.K X.mg E ((bif fits z.length then M.pure (T.int z.length) else M.no) μ) F ι H (wT X.K Q) := hp
    cases hz : fits z.length with
    | false => rw [hz] at hp; exact hp.elim
    | true =>
      rw [hz] at hp
      exact call_len_str pins s σ H _ us Q I rv ⟨_, rfl, fits_le hz, Post.pure hp hr _ (.int _)⟩
  | non => exact hp.elim
  | bl _ => exact hp.elim
  | int _ => exact hp.elim
  | ref _ => exact hp.elim
  | ty _ => exact hp.elim
def gInt : T → M T
  | .int i => M.pure (.int i)
  | .bl b => M.pure (.int (bif b then 1 else 0))
  | _ => M.no
theorem c_int : CallD X E (.type "int") (g1 gInt) := .one fun pins s σ H x us Q F ι μ d I rv hr lx hp => by
  cases lx with
  | int i => exact call_int1 pins s σ H _ us Q I rv (.inl ⟨_, rfl, Post.pure hp hr _ (.int _)⟩)
  | bl b =>
    refine call_int1 pins s σ H _ us Q I rv (.inr ⟨_, rfl, ?_⟩)
    have q := Post.pure hp hr
    cases b <;> exact q _ (.int _)
  | _ => exact hp.elim
def gAbs : T → M T
  | .int i => M.pure (.int (if i < 0 then -i else i))
  | _ => M.no
theorem c_abs : CallD X E (.builtin "abs") (g1 gAbs) := .one fun pins s σ H x us Q F ι μ d I rv hr lx hp => by
  cases lx with
  | int i => exact call_abs pins s σ H _ us Q I rv ⟨_, rfl, Post.pure hp hr _ (.int _)⟩
  | _ => exact hp.elim
def gMax2 : T → T → M T
  | .int i, .int j => M.pure (.int (if j > i then j else i))
  | _, _ => M.no
def gMin2 : T → T → M T
  | .int i, .int j => M.pure (.int (if j < i then j else i))
  | _, _ => M.no
theorem c_max2 (o : XO X E k) : CallD X E (.builtin "max") (g2 gMax2) := .two fun pins s σ H x y us Q F ι μ d e I rv hr lx ly hp => by
  unfold gMax2 at hp
  split at hp
  · cases lx; cases ly
    exact call_max2 o.calm pins s σ H _ us Q I rv ⟨_, _, rfl, Post.pure hp hr _ (.int _)⟩
  · exact hp.elim
theorem c_min2 (o : XO X E k) : CallD X E (.builtin "min") (g2 gMin2) := .two fun pins s σ H x y us Q F ι μ d e I rv hr lx ly hp => by
  unfold gMin2 at hp
  split at hp
  · cases lx; cases ly
    exact call_min2 o.calm pins s σ H _ us Q I rv ⟨_, _, rfl, Post.pure hp hr _ (.int _)⟩
  · exact hp.elim

/-! ### lists of ints, of bools -/
def intsOf : List T → Option (List Int)
  | [] => some []
  | .int i :: r => (intsOf r).map (i :: ·)
  | _ :: _ => none
def boolsOf : List T → Option (List Bool)
  | [] => some []
  | .bl b :: r => (boolsOf r).map (b :: ·)
  | _ :: _ => none
theorem Rps.ints {K : PySem.W.Frag} {F : Hp} {ι : List Addr} : ∀ {vs : List V} {ds : List T} {ns : List Int}, Rps K F ι vs ds → intsOf ds = some ns → vs = ns.map V.int
  | _, [], ns, h, e => by cases h; cases e; rfl
  | _, d :: ds, ns, h, e => by
    cases h with
    | cons r t =>
      cases d with
      | int i =>
        simp only [intsOf] at e
        obtain ⟨ms, e1, e2⟩ := Option.map_eq_some_iff.mp e
        subst e2
        cases r
        rw [Rps.ints t e1]
        rfl
      | _ => cases e
theorem Rps.bools {K : PySem.W.Frag} {F : Hp} {ι : List Addr} : ∀ {vs : List V} {ds : List T} {ns : List Bool}, Rps K F ι vs ds → boolsOf ds = some ns → vs = ns.map V.bl
  | _, [], ns, h, e => by cases h; cases e; rfl
  | _, d :: ds, ns, h, e => by
    cases h with
    | cons r t =>
      cases d with
      | bl i =>
        simp only [boolsOf] at e
        obtain ⟨ms, e1, e2⟩ := Option.map_eq_some_iff.mp e
        subst e2
        cases r
        rw [Rps.bools t e1]
        rfl
      | _ => cases e
theorem Rps.of_ints {K : PySem.W.Frag} {F : Hp} {ι : List Addr} : ∀ ns : List Int, Rps K F ι (ns.map V.int) (ns.map T.int)
  | [] => .nil
  | n :: ns => .cons (.int n) (Rps.of_ints ns)
/-- a list that may be read -/
theorem Lp.seq {K : PySem.W.Frag} {F : Hp} {ι : List Addr} {H : Hp} (hF : All F H) {x : V} {ds : List T} (h : Lp K F ι H x (.lst ds) ∨ Lp K F ι H x (.fls ds)) : ∃ a vs, x = .ref a ∧ SqL K H a vs ∧ Rps K F ι vs ds := by
  rcases h with h | h
  · cases h with | lst ha ra => exact ⟨_, _, rfl, SqL.of ha, ra⟩
  · cases h with | fls ha ra => exact ⟨_, _, rfl, hF.sub.seqL ha, ra⟩
def listOf : T → Option (List T)
  | .lst xs => some xs
  | .fls xs => some xs
  | _ => none
theorem listOf_lp {K : PySem.W.Frag} {F : Hp} {ι : List Addr} {H : Hp} (hF : All F H) {x : V} {d : T} {ds : List T} (lx : Lp K F ι H x d) (h : listOf d = some ds) : ∃ a vs, x = .ref a ∧ SqL K H a vs ∧ Rps K F ι vs ds := by
  cases lx with
  | lst ha ra => cases h; exact ⟨_, _, rfl, SqL.of ha, ra⟩
  | fls ha ra => cases h; exact ⟨_, _, rfl, hF.sub.seqL ha, ra⟩
  | _ => cases h
def onInts (d : T) (f : List Int → M T) : M T := match (listOf d).bind intsOf with
  | some ns => f ns
  | none => M.no
def onBools (d : T) (f : List Bool → M T) : M T := match (listOf d).bind boolsOf with
  | some ns => f ns
  | none => M.no
theorem onInts_lp {K : PySem.W.Frag} {mg : Str → Option Value} {F : Hp} {ι : List Addr} {H : Hp} {μ : Store} {Q : VK} (hF : All F H) {x : V} {d : T} {f : List Int → M T} (lx : Lp K F ι H x d) (hp : Post K mg E (onInts d f μ) F ι H (wT K Q)) :
    ∃ a ns, x = .ref a ∧ SqL K H a (ns.map V.int) ∧ Post K mg E (f ns μ) F ι H (wT K Q) := by
  unfold onInts at hp
  cases h1 : listOf d with
  | none => rw [h1] at hp; exact hp.elim
  | some ds =>
    rw [h1] at hp
    cases h2 : intsOf ds with
    | none => simp only [Option.bind_some, h2] at hp; exact hp.elim
    | some ns =>
      simp only [Option.bind_some, h2] at hp
      obtain ⟨a, vs, e1, e2, e3⟩ := listOf_lp hF lx h1
      rw [e3.ints h2] at e2
      exact ⟨a, ns, e1, e2, hp⟩
theorem onBools_lp {K : PySem.W.Frag} {mg : Str → Option Value} {F : Hp} {ι : List Addr} {H : Hp} {μ : Store} {Q : VK} (hF : All F H) {x : V} {d : T} {f : List Bool → M T} (lx : Lp K F ι H x d) (hp : Post K mg E (onBools d f μ) F ι H (wT K Q)) :
    ∃ a ns, x = .ref a ∧ SqL K H a (ns.map V.bl) ∧ Post K mg E (f ns μ) F ι H (wT K Q) := by
  unfold onBools at hp
  cases h1 : listOf d with
  | none => rw [h1] at hp; exact hp.elim
  | some ds =>
    rw [h1] at hp
    cases h2 : boolsOf ds with
    | none => simp only [Option.bind_some, h2] at hp; exact hp.elim
    | some ns =>
      simp only [Option.bind_some, h2] at hp
      obtain ⟨a, vs, e1, e2, e3⟩ := listOf_lp hF lx h1
      rw [e3.bools h2] at e2
      exact ⟨a, ns, e1, e2, hp⟩
def gSum (d : T) : M T := onInts d fun ns => M.pure (.int ns.sum)
theorem c_sum (o : XO X E k) : CallD X E (.builtin "sum") (g1 gSum) := .one fun pins s σ H x us Q F ι μ d I rv hr lx hp => by
  obtain ⟨a, ns, rfl, hs, hp⟩ := onInts_lp hr.sub lx hp
  exact cr_sum o.calm pins s σ H _ us Q I rv ⟨a, ns, rfl, hs, Post.pure hp hr _ (.int _)⟩
def gAll (d : T) : M T := onBools d fun bs => M.pure (.bl (bs.all id))
def gAny (d : T) : M T := onBools d fun bs => M.pure (.bl (bs.any id))
theorem c_all (o : XO X E k) : CallD X E (.builtin "all") (g1 gAll) := .one fun pins s σ H x us Q F ι μ d I rv hr lx hp => by
  obtain ⟨a, ns, rfl, hs, hp⟩ := onBools_lp hr.sub lx hp
  exact cr_all o.calm pins s σ H _ us Q I rv ⟨a, ns, rfl, hs, Post.pure hp hr _ (.bl _)⟩
theorem c_any (o : XO X E k) : CallD X E (.builtin "any") (g1 gAny) := .one fun pins s σ H x us Q F ι μ d I rv hr lx hp => by
  obtain ⟨a, ns, rfl, hs, hp⟩ := onBools_lp hr.sub lx hp
  exact cr_any o.calm pins s σ H _ us Q I rv ⟨a, ns, rfl, hs, Post.pure hp hr _ (.bl _)⟩
/-- the greatest, the least of ints -/
def gMax (d : T) : M T := onInts d fun ns => match ns with
  | [] => M.no
  | n :: r => M.pure (.int (r.foldl max n))
def gMin (d : T) : M T := onInts d fun ns => match ns with
  | [] => M.no
  | n :: r => M.pure (.int (r.foldl min n))
theorem foldl_max_spec : ∀ (r : List Int) (n m : Int), m ∈ n :: r → (∀ y, y ∈ n :: r → y ≤ m) → r.foldl max n = m
  | [], n, m, h, _ => by simp at h; exact h.symm
  | a :: r, n, m, h, hm => by
    show r.foldl max (max n a) = m
    have h1 := hm n (by simp)
    have h2 := hm a (by simp)
    refine foldl_max_spec r (max n a) m ?_ fun y hy => ?_
    · rcases List.mem_cons.mp h with e | h
      · subst e
        have : max m a = m := by omega
        rw [this]; simp
      · rcases List.mem_cons.mp h with e | h
        · subst e
          have : max n m = m := by omega
          rw [this]; simp
        · exact List.mem_cons_of_mem _ h
    · rcases List.mem_cons.mp hy with e | hy
      · subst e; omega
      · exact hm y (List.mem_cons_of_mem _ (List.mem_cons_of_mem _ hy))
theorem foldl_min_spec : ∀ (r : List Int) (n m : Int), m ∈ n :: r → (∀ y, y ∈ n :: r → m ≤ y) → r.foldl min n = m
  | [], n, m, h, _ => by simp at h; exact h.symm
  | a :: r, n, m, h, hm => by
    show r.foldl min (min n a) = m
    have h1 := hm n (by simp)
    have h2 := hm a (by simp)
    refine foldl_min_spec r (min n a) m ?_ fun y hy => ?_
    · rcases List.mem_cons.mp h with e | h
      · subst e
        have : min m a = m := by omega
        rw [this]; simp
      · rcases List.mem_cons.mp h with e | h
        · subst e
          have : min n m = m := by omega
          rw [this]; simp
        · exact List.mem_cons_of_mem _ h
    · rcases List.mem_cons.mp hy with e | hy
      · subst e; omega
      · exact hm y (List.mem_cons_of_mem _ (List.mem_cons_of_mem _ hy))
theorem c_max (o : XO X E k) : CallD X E (.builtin "max") (g1 gMax) := .one fun pins s σ H x us Q F ι μ d I rv hr lx hp => by
  obtain ⟨a, ns, rfl, hs, hp⟩ := onInts_lp hr.sub lx hp
  cases ns with
  | nil => exact hp.elim
  | cons n r =>
    refine cr_max o.calm pins s σ H _ us Q I rv ⟨a, n :: r, rfl, hs, by simp, fun m hm h => ?_⟩
    have q := Post.pure hp hr _ (.int _)
    rw [foldl_max_spec r n m hm h] at q
    exact q
theorem c_min (o : XO X E k) : CallD X E (.builtin "min") (g1 gMin) := .one fun pins s σ H x us Q F ι μ d I rv hr lx hp => by
  obtain ⟨a, ns, rfl, hs, hp⟩ := onInts_lp hr.sub lx hp
  cases ns with
  | nil => exact hp.elim
  | cons n r =>
    refine cr_min o.calm pins s σ H _ us Q I rv ⟨a, n :: r, rfl, hs, by simp, fun m hm h => ?_⟩
    have q := Post.pure hp hr _ (.int _)
    rw [foldl_min_spec r n m hm h] at q
    exact q
/-- two of max, min: one argument or two -/
def gMaxA : List T → M T
  | [d] => g1 gMax [d]
  | ds => g2 gMax2 ds
def gMinA : List T → M T
  | [d] => g1 gMin [d]
  | ds => g2 gMin2 ds

/-! ### tuple(..), list(..) -/
def seqOf : T → Option (List T)
  | .lst xs => some xs
  | .fls xs => some xs
  | .tup xs => some xs
  | .ftp xs => some xs
  | _ => none
theorem seqOf_lp {K : PySem.W.Frag} {F : Hp} {ι : List Addr} {H : Hp} (hF : All F H) {x : V} {d : T} {ds : List T} (lx : Lp K F ι H x d) (h : seqOf d = some ds) : ∃ a vs, x = .ref a ∧ (SqL K H a vs ∨ SqT K H a vs) ∧ Rps K F ι vs ds := by
  cases lx with
  | lst ha ra => cases h; exact ⟨_, _, rfl, .inl (SqL.of ha), ra⟩
  | fls ha ra => cases h; exact ⟨_, _, rfl, .inl (hF.sub.seqL ha), ra⟩
  | tup ha ra => cases h; exact ⟨_, _, rfl, .inr (SqT.of (hF _ _ ha)), ra⟩
  | ftp ha ra => cases h; exact ⟨_, _, rfl, .inr (hF.sub.seqT ha), ra⟩
  | _ => cases h
def gTuple : T → M T
  | .lst xs => M.pure (.tup xs)
  | .fls xs => M.pure (.tup xs)
  | .tup xs => M.pure (.tup xs)
  | .ftp xs => M.pure (.ftp xs)
  | _ => M.no
theorem c_tuple : CallD X E (.type "tuple") (g1 gTuple) := .one fun pins s σ H x us Q F ι μ d I rv hr lx hp => by
  cases lx with
  | lst ha ra =>
    refine call_tuple_of pins s σ H _ us Q I rv ⟨_, _, rfl, .inl ⟨SqL.of ha, fun p np => ?_⟩⟩
    obtain ⟨x2, r2⟩ := hr.newF np (fun a z => upd_ne z) upd_same
    exact hp _ _ _ x2 r2 _ (.tup upd_same (ra.ext x2))
  | fls ha ra =>
    refine call_tuple_of pins s σ H _ us Q I rv ⟨_, _, rfl, .inl ⟨hr.sub.sub.seqL ha, fun p np => ?_⟩⟩
    obtain ⟨x2, r2⟩ := hr.newF np (fun a z => upd_ne z) upd_same
    exact hp _ _ _ x2 r2 _ (.tup upd_same (ra.ext x2))
  | tup ha ra => exact call_tuple_of pins s σ H _ us Q I rv ⟨_, _, rfl, .inr ⟨SqT.of (hr.sub _ _ ha), Post.pure hp hr _ (.tup ha ra)⟩⟩
  | ftp ha ra => exact call_tuple_of pins s σ H _ us Q I rv ⟨_, _, rfl, .inr ⟨hr.sub.sub.seqT ha, Post.pure hp hr _ (.ftp ha ra)⟩⟩
  | _ => exact hp.elim
/-- list(..): the items of a new list -/
def glList : List T → M (List T)
  | [d] => M.bind (ld d) fun d => match seqOf d with
    | some xs => M.pure xs
    | none => M.no
  | _ => M.no
theorem CallL.one {f : Value} {g : T → M (List T)} {gl : List T → M (List T)} (hgl : ∀ ds, gl ds = (match ds with | [d] => M.bind (ld d) g | _ => M.no)) (h : ∀ (pins : List (Addr × Obj)) (s : Shared) (σ : L2.St) (H : Hp) (x : V) (us : List Value) (Q : VK) F ι μ d, Inv X pins σ H s → Vals [x] us → Rel X.K F ι μ H → Lp X.K F ι H x d →
    Post X.K X.mg E (g d μ) F ι H (fun F' ι' _ H' es => ∀ p ys H'', (∀ a, a ≠ p → H'' a = H' a) → H' p = none → H'' p = some (.lst ys) → Rps X.K F' ι' ys es → Q (.ref p) H'') → wpAny (model X.prog X.w) X.A (call f us) (EP X pins σ Q) X.xe s) : CallL X E f gl := by
  intro pins s σ H xs us Q I rv hh
  obtain ⟨F, ι, μ, ds, hr, rs, hp⟩ := hh
  rw [hgl] at hp
  split at hp
  · cases rs with
    | cons r t =>
      cases t
      obtain ⟨d, lx, hp⟩ := ld_post hr r hp
      exact h pins s σ H _ us Q F ι μ d I rv hr lx hp
  · exact hp.elim
theorem cl_list : CallL X E (.type "list") glList := .one (g := fun d => match seqOf d with
    | some xs => M.pure xs
    | none => M.no) (fun ds => by unfold glList; rfl) fun pins s σ H x us Q F ι μ d I rv hr lx hp => by
  cases h1 : seqOf d with
  | none => rw [h1] at hp; exact hp.elim
  | some xs =>
    rw [h1] at hp
    obtain ⟨a, vs, rfl, hs, ra⟩ := seqOf_lp hr.sub lx h1
    refine call_list_of pins s σ H _ us Q I rv ⟨a, vs, rfl, hs, fun p np => ?_⟩
    exact Post.pure hp hr p vs _ (fun a z => upd_ne z) np upd_same ra
end
end TL

/-! T layer 7: what is walked; for, while, comprehensions. -/
namespace TL
open PySem PySem.Spec PyProof.Rows L2

/-- a walk whose items are the trees ds -/
structure Wk (K : PySem.W.Frag) (F : Hp) (ι : List Addr) (J : It) (ds : List T) : Prop where
  go : ∀ i F' ι' μ' H', All F F' → Pre ι ι' → Rel K F' ι' μ' H' → i < ds.length → J.go i H'
  yld : ∀ i F' ι' μ' H' x H'', All F F' → Pre ι ι' → Rel K F' ι' μ' H' → i < ds.length → J.yld i H' x H'' → ∃ d F'', ds[i]? = some d ∧ Ext F' ι' H' F'' ι' H'' ∧ Rel K F'' ι' μ' H'' ∧ Rp K F'' ι' x d
  stop : ∀ i F' ι' μ' H', All F F' → Pre ι ι' → Rel K F' ι' μ' H' → ds.length ≤ i → J.stop i H'
def tI (K : PySem.W.Frag) (mg : Str → Option Value) (E : XK) (fi : Env → M (List T)) : TI := fun σ H R => ∃ F ι μ ρ, Rel K F ι μ H ∧ ERp K F ι σ ρ ∧ Post K mg E (fi ρ μ) F ι H (fun F' ι' _ H' ds => ∀ J, Wk K F' ι' J ds → R J H')
abbrev DI (X : Cx) (E : XK) (tg iter : Expr) (fi : Env → M (List T)) : Prop := PI X tg iter (tI X.K X.mg E fi)
theorem pi_imp {X : Cx} {tg e : Expr} {t u : TI} (h : PI X tg e t) (f : ∀ σ H R, u σ H R → t σ H R) : PI X tg e u := ⟨fun pins s σ H R I q => h.run pins s σ H R I (f σ H R q)⟩
theorem M.assoc {α β γ : Type} (a : M α) (b : α → M β) (c : β → M γ) : M.bind (M.bind a b) c = M.bind a fun x => M.bind (b x) c := by
  funext μ
  simp only [M.bind]
  cases a μ <;> rfl

/-! ### for -/
def forL (step : T → Env → M Fl) : List T → Env → M Fl
  | [], ρ => M.pure (.nx ρ)
  | x :: xs, ρ => M.bind (step x ρ) fun fl => match fl with
    | .nx ρ' => forL step xs ρ'
    | .ct ρ' => forL step xs ρ'
    | .bk ρ' => M.pure (.nx ρ')
    | .rt d => M.pure (.rt d)
def sFor (fi : Env → M (List T)) (h : T → Env → M Env) (g : Env → M Fl) : Env → M Fl := fun ρ => M.bind (fi ρ) fun ds => forL (fun d ρ => M.bind (h d ρ) g) ds ρ
section
variable {X : Cx} {E : XK} {k : Nat} {tg iter : Expr} {body : List Stmt} {vs : List Nat} {fi : Env → M (List T)} {h : T → Env → M Env} {g : Env → M Fl} {pos : Pos}
theorem s_for (o : XO X E k) (hi : DI X E tg iter fi) (hg : DG X E tg vs h) (hb : DB X E body g) (hs : ∀ x, foldedSetIterable iter X.env x = pure x := by intro _; rfl) : DS X E (.For tg iter body [] pos) (sFor fi h g) :=
  ps_imp (ps_for o.own o.calm hi hg hb hs) fun D σ H ⟨F, ι, μ, ρ, hr, he, hp⟩ => by
    refine ⟨F, ι, μ, ρ, hr, he, hp.bind fun F1 ι1 μ1 H1 ds x1 r1 p1 J wk => ?_⟩
    refine ⟨fun i m σ H => m = ds.length - i ∧ i ≤ ds.length ∧ ∃ F ι μ ρ, All F1 F ∧ Pre ι1 ι ∧ Rel X.K F ι μ H ∧ ERp X.K F ι σ ρ ∧ Post X.K X.mg E (forL (fun d ρ => M.bind (h d ρ) g) (ds.drop i) ρ μ) F ι H (wF X.K D),
      ⟨ds.length, rfl, Nat.zero_le _, F1, ι1, μ1, ρ, fun _ _ e => e, .refl _, r1, he.ext x1, p1⟩, ?_⟩
    rintro i m σ2 H2 ⟨rfl, hle, F2, ι2, μ2, ρ2, a2, b2, r2, e2, p2⟩
    by_cases hlt : i < ds.length
    · refine .inr ⟨wk.go i F2 ι2 μ2 H2 a2 b2 r2 hlt, fun σ' H' => ds.length - (i + 1) = ds.length - (i + 1) ∧ i + 1 ≤ ds.length ∧ ∃ F ι μ ρ, All F1 F ∧ Pre ι1 ι ∧ Rel X.K F ι μ H' ∧ ERp X.K F ι σ' ρ ∧
        Post X.K X.mg E (forL (fun d ρ => M.bind (h d ρ) g) (ds.drop (i + 1)) ρ μ) F ι H' (wF X.K D), fun σ' H' q => ⟨ds.length - (i + 1), by omega, q⟩, fun x H3 y => ?_⟩
      obtain ⟨d, F3, hd, x3, r3, rx⟩ := wk.yld i F2 ι2 μ2 H2 x H3 a2 b2 r2 hlt y
      have ed : ds.drop i = d :: ds.drop (i + 1) := by
        obtain ⟨hh, e⟩ := List.getElem?_eq_some_iff.mp hd
        rw [List.drop_eq_getElem_cons hh, e]
      rw [ed] at p2
      have p3 := p2.later x3
      simp only [forL] at p3
      rw [M.assoc] at p3
      refine ⟨F3, ι2, μ2, ρ2, d, r3, e2.ext x3, rx, p3.bind fun F4 ι4 μ4 H4 ρ4 x4 r4 p4 σ4 e4 _ => ⟨F4, ι4, μ4, ρ4, r4, e4, p4.bind fun F5 ι5 μ5 H5 fl x5 r5 p5 => ?_⟩⟩
      have a5 : All F1 F5 := fun a o e => x5.f _ _ (x4.f _ _ (x3.f _ _ (a2 _ _ e)))
      have b5 : Pre ι1 ι5 := b2.trans (x4.i.trans x5.i)
      cases fl with
      | nx ρ5 => exact fun σ5 e5 => ⟨rfl, hlt, F5, ι5, μ5, ρ5, a5, b5, r5, e5, p5⟩
      | ct ρ5 => exact fun σ5 e5 => ⟨rfl, hlt, F5, ι5, μ5, ρ5, a5, b5, r5, e5, p5⟩
      | bk ρ5 => exact fun σ5 e5 => Post.pure (mg := X.mg) (E := E) (a := Fl.nx ρ5) p5 r5 σ5 e5
      | rt d5 => exact Post.pure (mg := X.mg) (E := E) (a := Fl.rt d5) p5 r5
    · have e : ds.drop i = [] := List.drop_eq_nil_of_le (by omega)
      rw [e] at p2
      exact .inl ⟨wk.stop i F2 ι2 μ2 H2 a2 b2 r2 (by omega), Post.pure (mg := X.mg) (E := E) (a := Fl.nx ρ2) p2 r2 σ2 e2⟩

/-! ### while -/
def whileM (c : Env → M Bool) (g : Env → M Fl) : Nat → Env → M Fl
  | 0, _ => M.no
  | n + 1, ρ => M.bind (c ρ) fun b => bif b then M.bind (g ρ) (fun fl => match fl with
      | .nx ρ' => whileM c g n ρ'
      | .ct ρ' => whileM c g n ρ'
      | .bk ρ' => M.pure (.nx ρ')
      | .rt d => M.pure (.rt d)) else M.pure (.nx ρ)
theorem s_while (n : Nat) {c : Expr} {tc : Env → M Bool} (o : XO X E k) (hc : DT X E c tc) (hb : DB X E body g) : DS X E (.While c body [] pos) (whileM tc g n) :=
  ps_imp (ps_while o.own hc hb) fun D σ H ⟨F, ι, μ, ρ, hr, he, hp⟩ => by
    refine ⟨fun m σ H => ∃ F ι μ ρ, Rel X.K F ι μ H ∧ ERp X.K F ι σ ρ ∧ Post X.K X.mg E (whileM tc g m ρ μ) F ι H (wF X.K D), ⟨n, F, ι, μ, ρ, hr, he, hp⟩, ?_⟩
    rintro m σ2 H2 ⟨F2, ι2, μ2, ρ2, r2, e2, p2⟩
    cases m with
    | zero => exact p2.elim
    | succ m =>
      simp only [whileM] at p2
      refine At.t r2 e2 p2 fun F3 ι3 μ3 H3 b x3 r3 p3 => ?_
      cases b with
      | false => exact iteF (Post.pure (mg := X.mg) (E := E) (a := Fl.nx ρ2) p3 r3 σ2 (e2.ext x3))
      | true =>
        refine iteT ⟨fun σ' H' => ∃ F ι μ ρ, Rel X.K F ι μ H' ∧ ERp X.K F ι σ' ρ ∧ Post X.K X.mg E (whileM tc g m ρ μ) F ι H' (wF X.K D), fun σ' H' q => ⟨m, Nat.lt_succ_self m, q⟩, F3, ι3, μ3, ρ2, r3, e2.ext x3, p3.bind fun F5 ι5 μ5 H5 fl x5 r5 p5 => ?_⟩
        cases fl with
        | nx ρ5 => exact fun σ5 e5 => ⟨F5, ι5, μ5, ρ5, r5, e5, p5⟩
        | ct ρ5 => exact fun σ5 e5 => ⟨F5, ι5, μ5, ρ5, r5, e5, p5⟩
        | bk ρ5 => exact fun σ5 e5 => Post.pure (mg := X.mg) (E := E) (a := Fl.nx ρ5) p5 r5 σ5 e5
        | rt d5 => exact Post.pure (mg := X.mg) (E := E) (a := Fl.rt d5) p5 r5
end

/-! ### targets -/
def hName (i : Nat) : T → Env → M Env := fun d ρ => M.pure (ρ.set i (some d))
def hsNil : List T → Env → M Env
  | [], ρ => M.pure ρ
  | _ :: _, _ => M.no
def hsCons (h : T → Env → M Env) (hs : List T → Env → M Env) : List T → Env → M Env
  | d :: ds, ρ => M.bind (h d ρ) fun ρ' => hs ds ρ'
  | [], _ => M.no
def hTup (n : Nat) (hs : List T → Env → M Env) : T → Env → M Env := fun d ρ => match d with
  | .tup ds => bif ds.length == n then hs ds ρ else M.no
  | .ftp ds => bif ds.length == n then hs ds ρ else M.no
  | _ => M.no
section
variable {X : Cx} {E : XK} {k : Nat} {pos : Pos}
def tGs (K : PySem.W.Frag) (mg : Str → Option Value) (E : XK) (vs : List Nat) (h : List T → Env → M Env) : TGs := fun us σ H Q => ∃ F ι μ ρ ds, Rel K F ι μ H ∧ ERp K F ι σ ρ ∧ Rps K F ι us ds ∧ Post K mg E (h ds ρ μ) F ι H
  (fun F' ι' _ H' ρ' => ∀ σ', ERp K F' ι' σ' ρ' → wipe σ' vs = wipe σ vs → Q σ' H')
theorem pgs_imp {X : Cx} {es : List Expr} {t u : TGs} (h : PGs X es t) (f : ∀ v σ H Q, u v σ H Q → t v σ H Q) : PGs X es u := ⟨fun pins s σ H v w Q I r q => h.run pins s σ H v w Q I r (f v σ H Q q)⟩
theorem wipe_set_any : ∀ (ws : List Nat) (σ : L2.St) (j : Nat) (o : Option V), wipe (σ.set j o) ws = if j ∈ ws then wipe σ ws else (wipe σ ws).set j o
  | [], σ, j, o => by simp [wipe]
  | w :: ws, σ, j, o => by
    show (wipe (σ.set j o) ws).set w none = _
    rw [wipe_set_any ws]
    by_cases e : j = w
    · subst e
      rw [if_pos (show j ∈ j :: ws from List.mem_cons_self)]
      show _ = (wipe σ ws).set j none
      split
      · rfl
      · rw [List.set_set]
    · by_cases m : j ∈ ws
      · rw [if_pos m, if_pos (show j ∈ w :: ws from List.mem_cons_of_mem _ m)]
        rfl
      · rw [if_neg m, if_neg (show ¬ j ∈ w :: ws by simp [m, e])]
        show _ = ((wipe σ ws).set w none).set j o
        rw [List.set_comm _ _ (Ne.symm e)]
theorem wipe_set_self {σ : L2.St} {i : Nat} {o : Option V} {vs : List Nat} (h : i ∈ vs) : wipe (σ.set i o) vs = wipe σ vs := by rw [wipe_set_any, if_pos h]
theorem wipe_sub (σ : L2.St) (ws : List Nat) : ∀ vs : List Nat, (∀ v ∈ vs, v ∈ ws) → wipe (wipe σ vs) ws = wipe σ ws
  | [], _ => rfl
  | v :: vs, h => by
    show wipe ((wipe σ vs).set v none) ws = _
    rw [wipe_set_self (h v List.mem_cons_self)]
    exact wipe_sub σ ws vs fun u hu => h u (List.mem_cons_of_mem _ hu)
theorem wipe_idem (σ : L2.St) (vs : List Nat) : wipe (wipe σ vs) vs = wipe σ vs := wipe_sub σ vs vs fun _ h => h
theorem g_name {i : Nat} {x : Str} {vs : List Nat} (o : XO X E k) (hv : i ∈ vs := by decide) (hi : X.N[i]? = some x := by rfl) (hx : Loc X.env.scope x := by first | exact .inl rfl | exact .inr rfl) (hf : X.fn x = true ∨ X.env.scope.names.lookup x = some .local := by first | exact .inl rfl | exact .inr rfl) :
    DG X E (.Name x pos) vs (hName i) := pg_imp (pg_name o.nd hi hx hf) fun v σ H Q ⟨F, ι, μ, ρ, d, hr, he, rv, hp⟩ => Post.pure (mg := X.mg) (E := E) (a := ρ.set i (some d)) hp hr _ (he.set rv i) (wipe_set_self hv)
theorem gs_nil {vs : List Nat} : PGs X [] (tGs X.K X.mg E vs hsNil) := pgs_imp pgs_nil fun us σ H Q ⟨F, ι, μ, ρ, ds, hr, he, rv, hp⟩ => by
  cases rv with
  | nil => exact ⟨rfl, Post.pure (mg := X.mg) (E := E) (a := ρ) hp hr σ he rfl⟩
  | cons _ _ => exact hp.elim
theorem gs_cons {e : Expr} {es : List Expr} {vs : List Nat} {h : T → Env → M Env} {hs : List T → Env → M Env} (h1 : DG X E e vs h) (h2 : PGs X es (tGs X.K X.mg E vs hs))
    (he : (assignEach (e :: es) X.env).map (·.2) = assign e X.env :: (assignEach es X.env).map (·.2) := by rfl) : PGs X (e :: es) (tGs X.K X.mg E vs (hsCons h hs)) := pgs_imp (pgs_cons h1 h2 he) fun us σ H Q ⟨F, ι, μ, ρ, ds, hr, he, rv, hp⟩ => by
  cases rv with
  | nil => exact hp.elim
  | cons r t =>
    refine ⟨_, _, rfl, F, ι, μ, ρ, _, hr, he, r, hp.bind fun F1 ι1 μ1 H1 ρ1 x1 r1 p1 σ1 e1 w1 => ?_⟩
    refine ⟨F1, ι1, μ1, ρ1, _, r1, e1, t.ext x1, p1.imp fun F2 ι2 μ2 H2 ρ2 x2 r2 q2 σ2 e2 w2 => q2 σ2 e2 (w2.trans w1)⟩
theorem g_tup {es : List Expr} {kk : Nat} {vs : List Nat} {hs : List T → Env → M Env} {n : Nat} (o : XO X E k) (h : PGs X es (tGs X.K X.mg E vs hs)) (hn : (assignEach es X.env).length = n := by rfl) (hst : (assignEach es X.env).findIdx? (·.1) = none := by rfl) :
    DG X E (.Tuple es kk pos) vs (hTup n hs) := pg_imp (pg_tup o.calm h hn hst) fun v σ H Q ⟨F, ι, μ, ρ, d, hr, he, rv, hp⟩ => by
  have go : ∀ {a : Addr} {us : List V} {ds : List T}, SqT X.K H a us → Rps X.K F ι us ds → v = .ref a → Post X.K X.mg E ((bif ds.length == n then hs ds ρ else M.no) μ) F ι H (fun F' ι' _ H' ρ' => ∀ σ', ERp X.K F' ι' σ' ρ' → wipe σ' vs = wipe σ vs → Q σ' H') →
      gTup X.K n (tGs X.K X.mg E vs hs) v σ H Q := fun {a us ds} hs' ra ev hp => by
    cases hz : (ds.length == n) with
    | false => rw [hz] at hp; exact hp.elim
    | true =>
      rw [hz] at hp
      exact ⟨a, us, ev, hs', by rw [ra.length]; exact beq_iff_eq.mp hz, F, ι, μ, ρ, ds, hr, he, ra, hp⟩
  cases rv with
  | tup ha ra => exact go (SqT.of (hr.sub _ _ ha)) ra rfl hp
  | ftp ha ra => exact go (hr.sub.sub.seqT ha) ra rfl hp
  | _ => exact hp.elim
end

/-! ### comprehensions -/
/-- the heap without what stands at p -/
def hide (H : Hp) (p : Addr) : Hp := fun a => if a = p then none else H a
theorem hide_same (H : Hp) (p : Addr) : hide H p p = none := by unfold hide; rw [if_pos rfl]
theorem hide_ne {H : Hp} {p a : Addr} (h : a ≠ p) : hide H p a = H a := by unfold hide; rw [if_neg h]
theorem upd_hide (H : Hp) (p : Addr) (o : HO) : upd (hide H p) p o = upd H p o := by
  funext a
  by_cases h : a = p
  · subst h; rw [upd_same, upd_same]
  · rw [upd_ne h, upd_ne h, hide_ne h]
section
variable {K : PySem.W.Frag} {F F' : Hp} {ι ι' : List Addr} {μ μ' : Store} {H H' : Hp} {p : Addr} {o : HO}
/-- an object that is neither known nor a cell is laid beside -/
theorem Rel.beside (r : Rel K F ι μ H) (hp : H p = none) : Rel K F ι μ (upd H p o) := by
  have nF := r.noF hp
  have nI := r.noI hp
  refine ⟨fun a u e => ?_, r.nd, r.len, fun k a c h1 h2 => ?_⟩
  · rw [upd_ne (fun z => by rw [z, nF] at e; cases e)]; exact r.sub _ _ e
  · obtain ⟨u, e1, e2, e3, e4⟩ := r.cel k a c h1 h2
    exact ⟨u, by rw [upd_ne (fun z => by rw [z, hp] at e1; cases e1)]; exact e1, e2, e3, e4⟩
theorem Rel.away (r : Rel K F ι μ H) (nF : F p = none) (nI : p ∉ ι) : Rel K F ι μ (hide H p) := by
  refine ⟨fun a u e => ?_, r.nd, r.len, fun k a c h1 h2 => ?_⟩
  · rw [hide_ne (fun z => by rw [z, nF] at e; cases e)]; exact r.sub _ _ e
  · obtain ⟨u, e1, e2, e3, e4⟩ := r.cel k a c h1 h2
    exact ⟨u, by rw [hide_ne (fun z => nI (by rw [← z]; exact List.mem_of_getElem? h1))]; exact e1, e2, e3, e4⟩
/-- behind a run beside it: it stands as it stood, and the rest ran as if it had not been there -/
theorem Ext.away (x : Ext F ι (upd H p o) F' ι' H') (r : Rel K F ι μ H) (hp : H p = none) (r' : Rel K F' ι' μ' H') : H' p = some o ∧ Ext F ι H F' ι' (hide H' p) ∧ Rel K F' ι' μ' (hide H' p) := by
  have nF := r.noF hp
  have nI := r.noI hp
  have nF' : F' p = none := by
    cases e : F' p with
    | none => rfl
    | some u =>
      rcases x.fnew p u e with z | z | z
      · rw [nF] at z; cases z
      · exact (nI z).elim
      · rw [upd_same] at z; cases z
  have nI' : p ∉ ι' := fun m => by
    rcases x.new p m with z | z
    · exact nI z
    · rw [upd_same] at z; cases z
  have back : ∀ a, upd H p o a = none → H a = none := fun a z => by
    by_cases e : a = p
    · rw [e]; exact hp
    · rw [upd_ne e] at z; exact z
  refine ⟨x.h p o upd_same nI, ⟨x.f, x.i, fun a u e n => ?_, fun a m => (x.new a m).imp id (back a), fun a u e => (x.fnew a u e).imp id (Or.imp id (back a))⟩, r'.away nF' nI'⟩
  have ne : a ≠ p := fun z => by rw [z, hp] at e; cases e
  rw [hide_ne ne]
  exact x.h a u (by rw [upd_ne ne]; exact e) n
end
def noErr {α : Type} (m : M α) : M α := fun μ => match m μ with
  | .ok a μ' => .ok a μ'
  | _ => .no
abbrev EF : XK := fun _ _ _ => False
section
variable {K : PySem.W.Frag} {mg : Str → Option Value} {E E' : XK} {α β : Type} {F : Hp} {ι : List Addr} {H : Hp} {μ : Store} {p : Addr} {o : HO}
/-- a part that lets no error out, run beside an object -/
theorem Post.part {m : M α} {c : α → M β} {rp : Hp → List Addr → Store → Hp → β → Prop} {rp' : Hp → List Addr → Store → Hp → α → Prop} (r : Rel K F ι μ H) (hp : H p = none) (h : Post K mg E (M.bind (noErr m) c μ) F ι H rp)
    (hk : ∀ F' ι' μ' H' a, Ext F ι H F' ι' (hide H' p) → Rel K F' ι' μ' (hide H' p) → Rel K F' ι' μ' H' → Ext F ι (upd H p o) F' ι' H' → H' p = some o → Post K mg E (c a μ') F' ι' (hide H' p) rp → rp' F' ι' μ' H' a) :
    Post K mg E' (m μ) F ι (upd H p o) rp' := by
  unfold M.bind noErr at h
  cases e : m μ with
  | ok a μ' =>
    rw [e] at h
    intro F' ι' H' x r'
    obtain ⟨h1, h2, h3⟩ := x.away r hp r'
    exact hk F' ι' μ' H' a h2 h3 r' x h1 (h.later h2)
  | err _ _ => rw [e] at h; exact h.elim
  | no => rw [e] at h; exact h.elim
end
/-- one turn: what it adds -/
def lcTurn (h : T → Env → M Env) (t : Env → M Bool) (f : Env → M T) (ρ : Env) (d : T) : M (Option T) := M.bind (h d ρ) fun ρ2 => M.bind (t ρ2) fun b => bif b then M.bind (f ρ2) fun y => M.pure (some y) else M.pure none
def lcL (step : T → M (Option T)) : List T → M (List T)
  | [] => M.pure []
  | x :: xs => M.bind (noErr (step x)) fun o => M.bind (lcL step xs) fun r => M.pure (o.toList ++ r)
def lComp (vs : List Nat) (fi : Env → M (List T)) (h : T → Env → M Env) (t : Env → M Bool) (f : Env → M T) : Env → M (List T) := fun ρ => M.bind (fi ρ) fun ds => M.bind (lcL (lcTurn h t f (wipeE ρ vs)) ds) okL
def bYes : Env → M Bool := fun _ => M.pure true
abbrev DTs (X : Cx) (E : XK) (ifs : List Expr) (t : Env → M Bool) : Prop := PTs X ifs (tT X.K X.mg E t)
theorem ts_nil {X : Cx} {E : XK} : DTs X E [] bYes := ⟨fun pins s σ H Q I ⟨F, ι, μ, ρ, hr, he, hp⟩ => pts_nil.run pins s σ H Q I (Post.pure (mg := X.mg) (E := E) (a := true) hp hr)⟩
theorem ts_one {X : Cx} {E : XK} {c : Expr} {t : Env → M Bool} (h : DT X E c t) : DTs X E [c] t := pts_one h
section
variable {K : PySem.W.Frag} {F : Hp} {ι : List Addr} {σ : L2.St} {ρ : Env}
theorem ERp.wipe (h : ERp K F ι σ ρ) : ∀ vs : List Nat, ERp K F ι (L2.wipe σ vs) (wipeE ρ vs)
  | [] => h
  | i :: r => (ERp.wipe h r).unset i
end
/-- the continuation behind the turns: room for all -/
def lcEnd (acc : List T) (r : List T) : M (List T) := okL (acc ++ r)
theorem lcL_end (step : T → M (Option T)) (x : T) (xs acc : List T) : M.bind (lcL step (x :: xs)) (lcEnd acc) = M.bind (noErr (step x)) fun o => M.bind (lcL step xs) (lcEnd (acc ++ o.toList)) := by
  simp only [lcL]
  rw [M.assoc]
  congr 1
  funext o
  rw [M.assoc]
  congr 1
  funext r
  show lcEnd acc (o.toList ++ r) = lcEnd (acc ++ o.toList) r
  unfold lcEnd
  rw [List.append_assoc]
theorem lcL_room {K : PySem.W.Frag} {mg : Str → Option Value} {E : XK} {F : Hp} {ι : List Addr} {H : Hp} {μ : Store} {rp : Hp → List Addr → Store → Hp → List T → Prop} {step : T → M (Option T)} {xs acc : List T} (h : Post K mg E (M.bind (lcL step xs) (lcEnd acc) μ) F ι H rp) : acc.length ≤ sizeLine := by
  unfold M.bind at h
  have nerr : ∀ (xs : List T) (μ : Store) e μ', lcL step xs μ ≠ .err e μ' := by
    intro xs
    induction xs with
    | nil => intro μ e μ' z; cases z
    | cons x xs ih =>
      intro μ e μ' z
      simp only [lcL, M.bind, noErr] at z
      cases h1 : step x μ with
      | ok a μ1 =>
        rw [h1] at z
        simp only at z
        cases h2 : lcL step xs μ1 with
        | ok b μ2 => rw [h2] at z; cases z
        | err e2 μ2 => exact ih μ1 e2 μ2 h2
        | no => rw [h2] at z; cases z
      | err _ _ => rw [h1] at z; cases z
      | no => rw [h1] at z; cases z
  cases e : lcL step xs μ with
  | ok r μ' =>
    rw [e] at h
    unfold lcEnd okL at h
    cases hz : fits (acc ++ r).length with
    | false => simp only [hz] at h; exact h.elim
    | true =>
      have := fits_le hz
      rw [List.length_append] at this
      omega
  | err e2 μ' => exact (nerr _ _ _ _ e).elim
  | no => rw [e] at h; exact h.elim
section
variable {X : Cx} {E : XK} {k : Nat} {elt tg iter : Expr} {ifs : List Expr} {scope : Scope} {own : List (Str × Nat)} {pos : Pos} {fi : Env → M (List T)} {h : T → Env → M Env} {t : Env → M Bool} {f : Env → M T}
theorem XO.blk (o : XO X E k) {s : Shared} {H : Hp} {cenv : PySem.Env} {fp : List Addr} : XO (X.blk s H scope cenv fp) EF k :=
  ⟨o.calm, o.nd, o.gd, o.room, fun _ _ ⟨_, _, _, _, _, _, _, _, _, _, _, _, _, _, _, _, z⟩ => z.elim, PassesOwn.never⟩
theorem lc_core_t {σ : L2.St} {H : Hp} {Q : VK} {vs : List Nat} (hq : tL X.K X.mg E (lComp vs fi h t f) σ H Q) : tLc (tI X.K X.mg E fi) (tG X.K X.mg EF vs h) (tT X.K X.mg EF t) (tE X.K X.mg EF f) vs σ H Q := by
  obtain ⟨F, ι, μ, ρ, hr, he, hp⟩ := hq
  refine ⟨F, ι, μ, ρ, hr, he, hp.bind fun F1 ι1 μ1 H1 ds x1 r1 p1 J wk D hD => ?_⟩
  have e0 : ∀ (r : List T), okL r = lcEnd [] r := fun r => rfl
  have p1 : Post X.K X.mg E (M.bind (lcL (lcTurn h t f (wipeE ρ vs)) ds) (lcEnd []) μ1) F1 ι1 H1 _ := p1
  refine ⟨fun i m H => m = ds.length - i ∧ i ≤ ds.length ∧ ∃ F ι μ H0 acc ac, All F1 F ∧ Pre ι1 ι ∧ Rel X.K F ι μ H0 ∧ H0 D = none ∧ H = upd H0 D (.lst acc) ∧ Rps X.K F ι acc ac ∧ ERp X.K F ι (L2.wipe σ vs) (wipeE ρ vs) ∧
      Post X.K X.mg E (M.bind (lcL (lcTurn h t f (wipeE ρ vs)) (ds.drop i)) (lcEnd ac) μ) F ι H0 _, ⟨ds.length, rfl, Nat.zero_le _, F1, ι1, μ1, H1, [], [], fun _ _ e => e, .refl _, r1, hD, rfl, .nil, (he.ext x1).wipe vs, p1⟩, ?_⟩
  rintro i m H2 ⟨rfl, hle, F2, ι2, μ2, H0, acc, ac, a2, b2, r2, hD2, rfl, ra, e2, p2⟩
  have r2' : Rel X.K F2 ι2 μ2 (upd H0 D (.lst acc)) := r2.beside hD2
  by_cases hlt : i < ds.length
  · refine .inr ⟨wk.go i F2 ι2 μ2 _ a2 b2 r2' hlt, fun H' => ∃ F ι μ H0 acc ac, All F1 F ∧ Pre ι1 ι ∧ Rel X.K F ι μ H0 ∧ H0 D = none ∧ H' = upd H0 D (.lst acc) ∧ Rps X.K F ι acc ac ∧ ERp X.K F ι (L2.wipe σ vs) (wipeE ρ vs) ∧
      Post X.K X.mg E (M.bind (lcL (lcTurn h t f (wipeE ρ vs)) (ds.drop (i + 1))) (lcEnd ac) μ) F ι H0 _, fun H' q => ⟨ds.length - (i + 1), by omega, rfl, hlt, q⟩, fun x H3 y => ?_⟩
    obtain ⟨d, F3, hd, x3, r3, rx⟩ := wk.yld i F2 ι2 μ2 _ x H3 a2 b2 r2' hlt y
    have ed : ds.drop i = d :: ds.drop (i + 1) := by
      obtain ⟨hh, e⟩ := List.getElem?_eq_some_iff.mp hd
      rw [List.drop_eq_getElem_cons hh, e]
    rw [ed, lcL_end] at p2
    obtain ⟨hD3, x3', r3'⟩ := x3.away r2 hD2 r3
    have p3 := p2.later x3'
    have eH3 : H3 = upd (hide H3 D) D (.lst acc) := by
      rw [upd_hide]
      funext a
      by_cases e : a = D
      · subst e; rw [upd_same]; exact hD3
      · rw [upd_ne e]
    -- the turn's parts, one after another
    have parts := p3
    unfold lcTurn at parts
    have e3 := e2.ext x3'
    have a3 : All F1 F3 := fun a o e => x3.f _ _ (a2 _ _ e)
    have b3 : Pre ι1 ι2 := b2
    have hh : hide H3 D D = none := hide_same _ _
    have step1 : ∀ {α β : Type} (m : M α) (g : α → M β), noErr (M.bind m g) = M.bind (noErr m) fun x => noErr (g x) := fun m g => by
      funext μ
      simp only [noErr, M.bind]
      cases m μ <;> rfl
    rw [step1, M.assoc] at parts
    refine ⟨F3, ι2, μ2, wipeE ρ vs, d, r3, e3, rx, ?_⟩
    rw [eH3]
    refine Post.part r3' hh parts fun F4 ι4 μ4 H4 ρ4 x4 r4 r4' x4' hD4 p4 σ4 e4 w4 => ⟨?_, F4, ι4, μ4, ρ4, r4', e4, ?_⟩
    · rw [w4, wipe_idem]
    · rw [step1, M.assoc] at p4
      have eH4 : H4 = upd (hide H4 D) D (.lst acc) := by
        rw [upd_hide]
        funext a
        by_cases e : a = D
        · subst e; rw [upd_same]; exact hD4
        · rw [upd_ne e]
      rw [eH4]
      refine Post.part r4 (hide_same _ _) p4 fun F5 ι5 μ5 H5 b x5 r5 r5' x5' hD5 p5 => ?_
      have eH5 : H5 = upd (hide H5 D) D (.lst acc) := by
        rw [upd_hide]
        funext a
        by_cases e : a = D
        · subst e; rw [upd_same]; exact hD5
        · rw [upd_ne e]
      have a5 : All F1 F5 := fun a o e => x5.f _ _ (x4.f _ _ (a3 _ _ e))
      have b5 : Pre ι1 ι5 := b3.trans (x4.i.trans x5.i)
      have ra5 : Rps X.K F5 ι5 acc ac := ((ra.ext x3').ext x4).ext x5
      have ew : ERp X.K F5 ι5 (L2.wipe σ vs) (wipeE ρ vs) := (e3.ext x4).ext x5
      cases b with
      | false =>
        refine iteF ⟨F5, ι5, μ5, hide H5 D, acc, ac, a5, b5, r5, hide_same _ _, eH5, ra5, ew, ?_⟩
        have q := p5
        simp only [cond_false] at q
        have q' : Post X.K X.mg E (M.bind (lcL (lcTurn h t f (wipeE ρ vs)) (ds.drop (i + 1))) (lcEnd (ac ++ [])) μ5) F5 ι5 (hide H5 D) _ := q
        rw [List.append_nil] at q'
        exact q'
      | true =>
        refine iteT ⟨F5, ι5, μ5, ρ4, r5', e4.mono x5'.f.sub x5'.i, ?_⟩
        have q := p5
        simp only [cond_true] at q
        rw [step1, M.assoc] at q
        rw [eH5]
        refine Post.part r5 (hide_same _ _) q fun F6 ι6 μ6 H6 yT x6 r6 r6' x6' hD6 p6 v rv => ⟨acc, hD6, ?_, ?_⟩
        · have p6' : Post X.K X.mg E (M.bind (lcL (lcTurn h t f (wipeE ρ vs)) (ds.drop (i + 1))) (lcEnd (ac ++ [yT])) μ6) F6 ι6 (hide H6 D) _ := p6
          have z := lcL_room p6'
          rw [List.length_append] at z
          have z2 := ra5.length
          simp only [List.length_cons, List.length_nil] at z
          omega
        · refine ⟨F6, ι6, μ6, hide H6 D, acc ++ [v], ac ++ [yT], fun a o e => x6.f _ _ (a5 _ _ e), b5.trans x6.i, r6, hide_same _ _, ?_, (ra5.ext x6).append (.cons rv .nil), ew.ext x6, p6⟩
          rw [upd_hide]
  · have e : ds.drop i = [] := List.drop_eq_nil_of_le (by omega)
    rw [e] at p2
    have p2' : Post X.K X.mg E (okL (ac ++ []) μ2) F2 ι2 H0 _ := p2
    rw [List.append_nil] at p2'
    unfold okL at p2'
    refine .inl ⟨wk.stop i F2 ι2 μ2 _ a2 b2 r2' (by omega), ?_⟩
    cases hz : fits ac.length with
    | false => rw [hz] at p2'; exact p2'.elim
    | true =>
      rw [hz] at p2'
      exact Post.pure (mg := X.mg) (E := E) (a := ac) p2' r2 D acc _ (fun a z => upd_ne z) hD2 upd_same ra
theorem l_comp (o : XO X E k) (hi : DI X E tg iter fi) (ok : blkC X.N X.env.scope scope own = true)
    (hg : ∀ (s : Shared) (H : Hp) (C : Addr) (cl : List (Str × Addr)) (fp : List Addr), XO (X.blk s H scope (compEnvC scope cl C X.env) fp) EF k → DG (X.blk s H scope (compEnvC scope cl C X.env) fp) EF tg (own.map (·.2)) h)
    (ht : ∀ (s : Shared) (H : Hp) (C : Addr) (cl : List (Str × Addr)) (fp : List Addr), XO (X.blk s H scope (compEnvC scope cl C X.env) fp) EF k → DTs (X.blk s H scope (compEnvC scope cl C X.env) fp) EF ifs t)
    (he : ∀ (s : Shared) (H : Hp) (C : Addr) (cl : List (Str × Addr)) (fp : List Addr), XO (X.blk s H scope (compEnvC scope cl C X.env) fp) EF k → DE (X.blk s H scope (compEnvC scope cl C X.env) fp) EF elt f) (hs : ∀ x, foldedSetIterable iter X.env x = pure x := by intro _; rfl) :
    DL X E (.ListComp elt [⟨tg, iter, ifs, 0⟩] scope pos) (lComp (own.map (·.2)) fi h t f) :=
  pe_imp (pe_lc o.calm o.nd hi (blkOk_by ok) (fun s H C cl fp => hg s H C cl fp o.blk) (fun s H C cl fp => ht s H C cl fp o.blk) (fun s H C cl fp => he s H C cl fp o.blk) hs) fun σ H Q q => lc_core_t q
end
end TL

/-! T layer: slices, also from the end to the beginning. -/
namespace TL
open PySem PySem.Spec PyProof.Rows L2 HT
section
variable {prog : Program} {w : World} {A : Around} {E : Value → Shared → Prop} {s : Shared}
theorem back_adjust (n : Nat) : Builtin.Slice.sliceAdjust none none (-1) (n : Int) = ((n : Int) - 1, -1) := by
  first | rfl | (unfold Builtin.Slice.sliceAdjust; simp)
theorem back_places (n : Nat) : Builtin.Slice.slicePlaces ((n : Int) - 1) (-1) (-1) = n := by
  unfold Builtin.Slice.slicePlaces
  by_cases h : n = 0
  · subst h; decide
  · have h1 : ¬ ((-1 : Int) > 0) := by decide
    simp only [h1, if_false]
    split
    · have e : ((n : Int) - 1 - -1 - 1) = (n : Int) - 1 := by omega
      first
        | omega
        | (rw [show (- -1 : Int) = 1 by decide]; simp; done)
        | (rw [show (- -1 : Int) = 1 by decide]; simp; omega)
    · omega
theorem back_applied {sl : Addr} {va vb vc : Value} {n : Nat} {Q : Int × Int × Nat → Shared → Prop} (hs : s.heap.IsSliceOf sl va vb vc) (pa : IsPart va none) (pb : IsPart vb none) (pc : IsPart vc (some (-1)))
    (h : Q ((n : Int) - 1, -1, n) s) : wpAny (model prog w) A (Builtin.Slice.sliceApplied (.ref sl) (pure (n : Int))) Q E s := by
  obtain ⟨o1, e1, _, d1⟩ := id hs
  unfold Builtin.Slice.sliceApplied Builtin.Slice.sliceFields
  refine wpAny_bind (wpAny_bind (wpAny_field e1 d1 (x := va) rfl (wpAny_bind (wpAny_field e1 d1 (x := vb) rfl (wpAny_bind (wpAny_field e1 d1 (x := vc) rfl (wpAny_pure ?_)))))))
  refine wpAny_bind (slicePart_ pc ?_)
  show wpAny _ _ (if ((-1 : Int) == 0) = true then _ else _) _ _ s
  rw [if_neg (by decide)]
  refine wpAny_bind (slicePart_ pa (wpAny_bind (slicePart_ pb (wpAny_bind (wpAny_pure ?_)))))
  show wpAny _ _ (match Builtin.Slice.sliceAdjust none none (-1) (n : Int) with | (a, b) => pure (a, (-1 : Int), Builtin.Slice.slicePlaces a b (-1))) _ _ s
  rw [back_adjust]
  show wpAny _ _ (pure ((n : Int) - 1, (-1 : Int), Builtin.Slice.slicePlaces ((n : Int) - 1) (-1) (-1))) _ _ s
  rw [back_places]
  exact wpAny_pure h
theorem filterMap_same {α β : Type} {f g : α → Option β} : ∀ {l : List α}, (∀ m ∈ l, f m = g m) → l.filterMap f = l.filterMap g
  | [], _ => rfl
  | a :: l, h => by
    have ih := filterMap_same (l := l) fun m hm => h m (List.mem_cons_of_mem _ hm)
    rw [List.filterMap_cons, List.filterMap_cons, h a List.mem_cons_self, ih]
theorem back_pick (xs : Array Value) : ((List.range xs.size).filterMap fun (m : Nat) => xs[(((xs.size : Nat) : Int) - 1 + (m : Int) * -1).toNat]?).toArray = xs.toList.reverse.toArray := by
  have e : (List.range xs.size).filterMap (fun (m : Nat) => xs[(((xs.size : Nat) : Int) - 1 + (m : Int) * -1).toNat]?) = ((List.range xs.size).map fun m => xs.size - 1 - m).filterMap (xs[·]?) := by
    rw [List.filterMap_map]
    refine filterMap_same fun m hm => ?_
    have hm' := List.mem_range.mp hm
    have e : (((xs.size : Nat) : Int) - 1 + (m : Int) * -1).toNat = xs.size - 1 - m := by omega
    show xs[(((xs.size : Nat) : Int) - 1 + (m : Int) * -1).toNat]? = xs[xs.size - 1 - m]?
    rw [e]
  rw [e, PySem.W.krv_range, List.filterMap_reverse, PySem.W.krv_all]
theorem tuple_back {t sl : Addr} {items : Array Value} {va vb vc : Value} {Q : Value → Shared → Prop} (ht : IsTup s.heap t items) (hs : s.heap.IsSliceOf sl va vb vc) (pa : IsPart va none) (pb : IsPart vb none) (pc : IsPart vc (some (-1)))
    (h : Q (.ref s.heap.objs.size) { s with heap := s.heap.push { cls := .type "tuple", data := .seq items.toList.reverse.toArray } }) (hsz : items.size ≤ sizeLine) : wpAny (model prog w) A (getItem (.ref t) (.ref sl)) Q E s := by
  have fit : sizeOk (.seq items.toList.reverse.toArray) := by
    show items.toList.reverse.toArray.size ≤ sizeLine
    simpa using hsz
  obtain ⟨o1, e1, c1, d1⟩ := id hs
  have tS : s.TypeIs (.ref sl) "slice" := ⟨o1, e1, c1⟩
  unfold getItem
  try with_reducible refine wpAny_holding ?_
  first | refine wpAny_bind (wpAny_pure ?_) | skip
  refine wpAny_bind (wpAny_sequenceKey ht.typeIs (by decide) (wpAny_bind (wpAny_callSpecial?_slot (name := Str.ofString "__getitem__") ht.typeIs PyProof.Rows.slot_tuple_getitem (wpAny_call_entry PyProof.Rows.slot_tuple_getitem ht.typeIs entry_tuple_getitem ?_ (args_tuple_getitem _ _)))))
  show wpAny _ _ (Builtin.Tuple.tupleItemsOf (.ref t) >>= _) _ _ s
  refine wpAny_bind (tupleItemsOf_ ht (wpAny_bind (wpAny_typeOf tS ?_)))
  rw [if_pos (by decide)]
  refine wpAny_bind (back_applied hs pa pb pc ?_)
  have no : ¬ (((((items.size : Nat) : Int) - 1) == 0 && (-1 : Int) == 1 && items.size == items.size) = true) := by
    rw [show ((-1 : Int) == 1) = false from by decide, Bool.and_false, Bool.false_and]
    exact Bool.false_ne_true
  show wpAny _ _ (if ((((items.size : Nat) : Int) - 1) == 0 && (-1 : Int) == 1 && items.size == items.size) = true then _ else _) _ _ s
  rw [if_neg no, back_pick]
  first
    | exact wpAny_bind (m := Builtin.Tuple.tupleExact _) (wpAny_newObj_type (wpAny_pure ⟨_, rfl, wpAny_pure h⟩) fit)
    | exact wpAny_bind (m := Builtin.Tuple.tupleExact _) (wpAny_newObj_type (wpAny_bind (wpAny_pure (wpAny_pure ⟨_, rfl, wpAny_pure h⟩))) fit)
    | exact wpAny_bind (wpAny_bind (m := Builtin.Tuple.tupleExact _) (wpAny_newObj_type (wpAny_pure (wpAny_pure ⟨_, rfl, wpAny_pure h⟩)) fit))
    | exact wpAny_bind (wpAny_bind (m := Builtin.Tuple.tupleExact _) (wpAny_newObj_type (wpAny_pure ⟨_, rfl, wpAny_pure h⟩) fit))
end
def gRev : T → M T
  | .lst xs => M.pure (.lst xs.reverse)
  | .fls xs => M.pure (.lst xs.reverse)
  | .tup xs => M.pure (.tup xs.reverse)
  | .ftp xs => M.pure (.tup xs.reverse)
  | _ => M.no
theorem Rps.reverse {K : PySem.W.Frag} {F : Hp} {ι : List Addr} : ∀ {vs : List V} {ds : List T}, Rps K F ι vs ds → Rps K F ι vs.reverse ds.reverse
  | _, _, .nil => .nil
  | _, _, .cons r t => by
    rw [List.reverse_cons, List.reverse_cons]
    exact (Rps.reverse t).append (.cons r .nil)
section
variable {X : Cx} {E : XK} {k : Nat} {e : Expr} {f : Env → M T}
theorem d_rev {j : Nat} {z1 z2 z3 pos : Pos} (he : DE X E e f) : DE X E (.Subscript e (.Slice none none (some (.UnaryOp .USub (.Constant (.int 1) j z1) z2)) z3) pos) (eUn (fun d => M.bind (ld d) gRev) f) := by
  refine ⟨fun pins s σ H Q I hh => ?_⟩
  obtain ⟨F, ι, μ, ρ, hr, hen, hp⟩ := hh
  refine Subscript_ (thn (he.run pins s σ H (fun v H1 => ∃ F1 ι1 μ1 d, Rel X.K F1 ι1 μ1 H1 ∧ Lp X.K F1 ι1 H1 v d ∧ Post X.K X.mg E (gRev d μ1) F1 ι1 H1 (wT X.K Q)) I (At.e hr hen hp fun F1 ι1 μ1 H1 v d x1 r1 rv p1 => ?_)) fun v s1 hx => ?_)
  · obtain ⟨d', lx, p2⟩ := ld_post r1 rv p1
    exact ⟨F1, ι1, μ1, d', r1, lx, p2⟩
  obtain ⟨x, H1, I1, rx, F1, ι1, μ1, d, r1, lx, p1⟩ := hx
  have cst : PO X (some (.UnaryOp .USub (.Constant (.int 1) j z1) z2)) (tPart (tUn (rU fun i => .int (-i)) (tC (.int 1)))) := po_some (pe_un un_neg pe_int)
  refine wpAny_Slice (thn (po_none.run pins s1 σ H1 (fun o H2 => o = none ∧ H2 = H1) I1 ⟨rfl, rfl⟩) fun va s2 ha => thn (po_none.run pins s2 σ H1 (fun o H3 => o = none ∧ H3 = H1) ?_ ⟨rfl, rfl⟩) fun vb s3 hb => thn (cst.run pins s3 σ H1 (fun o H4 => o = some (-1) ∧ H4 = H1) ?_ ⟨1, rfl, -1, rfl, rfl, rfl⟩) fun vc s4 hc => ?_)
  · obtain ⟨_, H2, I2, _, _, e2⟩ := ha
    rw [e2] at I2
    exact I2
  · obtain ⟨_, H3, I3, _, _, e3⟩ := hb
    rw [e3] at I3
    exact I3
  obtain ⟨_, _, _, pa, ea, _⟩ := ha
  obtain ⟨_, _, _, pb, eb, _⟩ := hb
  obtain ⟨_, H4, I4, pc, ec, e4⟩ := hc
  subst ea eb ec
  rw [e4] at I4
  have I5 : Inv X pins σ H1 { s4 with heap := s4.heap.push { cls := .type "slice", data := .fields #[va, vb, vc] } } := I4.kept (t' := s4.toks) fun b ob q => Heap.get?_push_of_some _ q
  have sl := Heap.IsSliceOf.new s4.heap va vb vc
  have lst : ∀ {a : Addr} {vs : List V} {ds : List T}, x = .ref a → SqL X.K H1 a vs → Rps X.K F1 ι1 vs ds → Post X.K X.mg E (M.pure (T.lst ds.reverse) μ1) F1 ι1 H1 (wT X.K Q) →
      wpAny (model X.prog X.w) X.A (subscriptTail e (.Slice none none (some (.UnaryOp .USub (.Constant (.int 1) j z1) z2)) z3) v (.ref s4.heap.objs.size)) (EP X pins σ Q) X.xe { s4 with heap := s4.heap.push { cls := .type "slice", data := .fields #[va, vb, vc] } } := fun {a vs ds} ex hq ra p1 => by
    subst ex
    obtain rfl : v = Value.ref a := rx
    obtain ⟨its, r, pl, hz⟩ := I5.list hq
    have hlen := r.length
    refine tail_any (ops := [.ref a, .ref s4.heap.objs.size]) pl.isList.typeIs (PySem.slot_list_getitem.lookup) (wpAny_getItem_list_slice pl.isList sl pa pb pc (by decide) ?_ (by rw [List.size_toArray]; omega)) (by with_unfolding_all rfl)
    rw [PySem.W.krv_pick]
    have np := I5.hok.fresh (Nat.le_refl _)
    obtain ⟨x2, r2⟩ := r1.newF (u := .lst vs.reverse) np (fun a z => upd_ne z) upd_same
    exact ⟨.ref _, _, I5.laid (t' := s4.toks) (o := .lst vs.reverse) (fun b ob q => Heap.get?_push_of_some _ q) (Nat.le_refl _) ⟨by rw [List.length_reverse]; exact hz, _, 0, r.reverse, Heap.get?_push_size _ rfl⟩, rfl, p1 _ _ _ x2 r2 _ (.lst upd_same (ra.reverse.ext x2))⟩
  have tup : ∀ {a : Addr} {vs : List V} {ds : List T}, x = .ref a → SqT X.K H1 a vs → Rps X.K F1 ι1 vs ds → Post X.K X.mg E (M.pure (T.tup ds.reverse) μ1) F1 ι1 H1 (wT X.K Q) →
      wpAny (model X.prog X.w) X.A (subscriptTail e (.Slice none none (some (.UnaryOp .USub (.Constant (.int 1) j z1) z2)) z3) v (.ref s4.heap.objs.size)) (EP X pins σ Q) X.xe { s4 with heap := s4.heap.push { cls := .type "slice", data := .fields #[va, vb, vc] } } := fun {a vs ds} ex hq ra p1 => by
    subst ex
    obtain rfl : v = Value.ref a := rx
    obtain ⟨its, r, pl, hz⟩ := I5.tuple hq
    have hlen := r.length
    refine tail_any (ops := [.ref a, .ref s4.heap.objs.size]) pl.typeIs PyProof.Rows.slot_tuple_getitem.lookup (tuple_back pl sl pa pb pc ?_ (by rw [List.size_toArray]; omega)) (by with_unfolding_all rfl)
    have np := I5.hok.fresh (Nat.le_refl _)
    obtain ⟨x2, r2⟩ := r1.newF (u := .tup vs.reverse) np (fun a z => upd_ne z) upd_same
    exact ⟨.ref _, _, I5.laid (t' := s4.toks) (o := .tup vs.reverse) (fun b ob q => Heap.get?_push_of_some _ q) (Nat.le_refl _) ⟨by rw [List.length_reverse]; exact hz, _, r.reverse, IsTup.new _ _⟩, rfl, p1 _ _ _ x2 r2 _ (.tup upd_same (ra.reverse.ext x2))⟩
  cases lx with
  | lst ha ra => exact lst rfl (SqL.of ha) ra p1
  | fls ha ra => exact lst rfl (r1.sub.sub.seqL ha) ra p1
  | tup ha ra => exact tup rfl (SqT.of (r1.sub _ _ ha)) ra p1
  | ftp ha ra => exact tup rfl (r1.sub.sub.seqT ha) ra p1
  | _ => exact p1.elim
end
end TL

/-! T layer 8: what a for or a comprehension walks. -/
namespace TL
open PySem PySem.Spec PyProof.Rows L2

def gIter (d : T) : M (List T) := match seqOf d with
  | some xs => M.pure xs
  | none => M.no
def iSeq (f : Env → M T) : Env → M (List T) := fun ρ => M.bind (f ρ) gIter
/-- a list's walk, a tuple's -/
theorem wk_list {K : PySem.W.Frag} {F : Hp} {ι : List Addr} {a : Addr} {vs : List V} {ds : List T} (h : SqL K F a vs) (r : Rps K F ι vs ds) : Wk K F ι (Itl K a) ds where
  go := fun i F' ι' μ' H' a1 _ r1 hi => by
    obtain ⟨d, hd⟩ : ∃ d, ds[i]? = some d := ⟨_, List.getElem?_eq_getElem hi⟩
    obtain ⟨v, hv, _⟩ := r.get hd
    exact ⟨vs, v, (r1.sub.sub).seqL (a1.sub.seqL h), hv⟩
  yld := fun i F' ι' μ' H' x H'' a1 b1 r1 _ y => by
    obtain ⟨e, y⟩ := y
    subst e
    have hv := y vs ((r1.sub.sub).seqL (a1.sub.seqL h))
    obtain ⟨d, hd, rd⟩ := r.getV hv
    exact ⟨d, F', hd, .refl .., r1, rd.mono a1.sub b1⟩
  stop := fun i F' ι' μ' H' a1 _ r1 hi => ⟨vs, (r1.sub.sub).seqL (a1.sub.seqL h), by rw [r.length]; exact hi⟩
theorem wk_tup {K : PySem.W.Frag} {F : Hp} {ι : List Addr} {a : Addr} {vs : List V} {ds : List T} (h : SqT K F a vs) (r : Rps K F ι vs ds) : Wk K F ι (Itt K a) ds where
  go := fun i F' ι' μ' H' a1 _ r1 hi => by
    obtain ⟨d, hd⟩ : ∃ d, ds[i]? = some d := ⟨_, List.getElem?_eq_getElem hi⟩
    obtain ⟨v, hv, _⟩ := r.get hd
    exact ⟨vs, v, (r1.sub.sub).seqT (a1.sub.seqT h), hv⟩
  yld := fun i F' ι' μ' H' x H'' a1 b1 r1 _ y => by
    obtain ⟨e, y⟩ := y
    subst e
    have hv := y vs ((r1.sub.sub).seqT (a1.sub.seqT h))
    obtain ⟨d, hd, rd⟩ := r.getV hv
    exact ⟨d, F', hd, .refl .., r1, rd.mono a1.sub b1⟩
  stop := fun i F' ι' μ' H' a1 _ r1 hi => ⟨vs, (r1.sub.sub).seqT (a1.sub.seqT h), by rw [r.length]; exact hi⟩
section
variable {X : Cx} {E : XK} {k : Nat} {tg e : Expr} {f : Env → M T}
/-- an iterator over a list, over a tuple, that stands at a value -/
theorem it_list {pins : List (Addr × Obj)} {σ : L2.St} {H : Hp} {s : Shared} {a : Addr} {xs : List V} {R : It → Hp → Prop} (I : Inv X pins σ H s) (h : SqL X.K H a xs) (q : R (Itl X.K a) H) : wpAny (model X.prog X.w) X.A (pyIter (.ref a)) (PIE X pins σ tg R) X.xe s := by
  obtain ⟨its, rv, pl, _⟩ := I.list h
  refine wpAny_pyIter_list pl.isList ⟨s.heap.objs.size, [s.heap.objs.size], _, _, H, rfl, I.kept (t' := s.toks) (fun b o z => Heap.get?_push_of_some _ z), turn_list a _, ⟨_, Heap.get?_push_size _ rfl, rfl, rfl⟩, (fun b hb => ?_), q⟩
  have eb : b = s.heap.objs.size := List.mem_singleton.mp hb
  subst eb
  exact I.fpOk (Nat.le_refl _) (I.hok.fresh (Nat.le_refl _))
theorem it_tup {pins : List (Addr × Obj)} {σ : L2.St} {H : Hp} {s : Shared} {a : Addr} {xs : List V} {R : It → Hp → Prop} (I : Inv X pins σ H s) (h : SqT X.K H a xs) (q : R (Itt X.K a) H) : wpAny (model X.prog X.w) X.A (pyIter (.ref a)) (PIE X pins σ tg R) X.xe s := by
  obtain ⟨its, rv, pl, _⟩ := I.tuple h
  refine wpAny_pyIter_tuple pl ⟨s.heap.objs.size, [s.heap.objs.size], _, _, H, rfl, I.kept (t' := s.toks) (fun b o z => Heap.get?_push_of_some _ z), turn_tuple a _, ⟨_, Heap.get?_push_size _ rfl, rfl, rfl⟩, (fun b hb => ?_), q⟩
  have eb : b = s.heap.objs.size := List.mem_singleton.mp hb
  subst eb
  exact I.fpOk (Nat.le_refl _) (I.hok.fresh (Nat.le_refl _))
theorem i_seq (he : DE X E e f) : DI X E tg e (iSeq f) := by
  refine ⟨fun pins s σ H R I hh => ?_⟩
  obtain ⟨F, ι, μ, ρ, hr, hen, hp⟩ := hh
  refine thn (he.run pins s σ H (fun v H1 => ∃ F1 ι1 μ1 d, Rel X.K F1 ι1 μ1 H1 ∧ Rp X.K F1 ι1 v d ∧ Post X.K X.mg E (gIter d μ1) F1 ι1 H1 (fun F' ι' _ H' ds => ∀ J, Wk X.K F' ι' J ds → R J H')) I (At.e hr hen hp fun F1 ι1 μ1 H1 v d x1 r1 rv p1 => ⟨F1, ι1, μ1, d, r1, rv, p1⟩)) fun v s1 hx => ?_
  obtain ⟨x, H1, I1, rx, F1, ι1, μ1, d, r1, rv, p1⟩ := hx
  unfold gIter at p1
  cases rv with
  | lst ha ra =>
    obtain rfl : v = Value.ref _ := rx
    exact it_list I1 (SqL.of (r1.sub _ _ ha)) (Post.pure (mg := X.mg) (E := E) p1 r1 _ (wk_list (SqL.of ha) ra))
  | fls ha ra =>
    obtain rfl : v = Value.ref _ := rx
    exact it_list I1 (r1.sub.sub.seqL ha) (Post.pure (mg := X.mg) (E := E) p1 r1 _ (wk_list ha ra))
  | tup ha ra =>
    obtain rfl : v = Value.ref _ := rx
    exact it_tup I1 (SqT.of (r1.sub _ _ ha)) (Post.pure (mg := X.mg) (E := E) p1 r1 _ (wk_tup (SqT.of ha) ra))
  | ftp ha ra =>
    obtain rfl : v = Value.ref _ := rx
    exact it_tup I1 (r1.sub.sub.seqT ha) (Post.pure (mg := X.mg) (E := E) p1 r1 _ (wk_tup ha ra))
  | _ => exact p1.elim

/-! ### ranges -/
def rangeT (lo : Int) (n : Nat) : List T := (List.range n).map fun (i : Nat) => T.int (lo + (i : Int))
def rangeC (lo c : Int) (n : Nat) : List T := (List.range n).map fun (i : Nat) => T.int (lo + (i : Int) * c)
def sm62 (i : Int) : Bool := decide (-(2 ^ 62) ≤ i) && decide (i < 2 ^ 62)
def gRange1 : List T → M (List T)
  | [.int j] => bif sm62 j then M.pure (rangeT 0 j.toNat) else M.no
  | _ => M.no
def gRange2 : List T → M (List T)
  | [.int i, .int j] => bif sm62 i && sm62 j then M.pure (rangeT i (j - i).toNat) else M.no
  | _ => M.no
def iB (g : List T → M (List T)) (fa : Env → M (List T)) : Env → M (List T) := fun ρ => M.bind (fa ρ) g
theorem sm62_of {i : Int} (h : sm62 i = true) : -(2 ^ 62) ≤ i ∧ i < 2 ^ 62 := by
  unfold sm62 at h
  simpa using h
theorem wk_range {K : PySem.W.Frag} {F : Hp} {ι : List Addr} (lo : Int) (n : Nat) : Wk K F ι (Itr lo n) (rangeT lo n) where
  go := fun i F' ι' μ' H' _ _ _ hi => (by simpa [rangeT] using hi : i < n)
  yld := fun i F' ι' μ' H' x H'' _ _ r1 hi y => by
    obtain ⟨e, y⟩ := y
    subst e y
    have hi' : i < n := by simpa [rangeT] using hi
    exact ⟨.int (lo + i), F', by simp [rangeT, hi'], .refl .., r1, .int _⟩
  stop := fun i F' ι' μ' H' _ _ _ hi => (by simpa [rangeT] using hi : n ≤ i)
theorem wk_rangeC {K : PySem.W.Frag} {F : Hp} {ι : List Addr} (lo c : Int) (n : Nat) : Wk K F ι (Itc lo c n) (rangeC lo c n) where
  go := fun i F' ι' μ' H' _ _ _ hi => (by simpa [rangeC] using hi : i < n)
  yld := fun i F' ι' μ' H' x H'' _ _ r1 hi y => by
    obtain ⟨e, y⟩ := y
    subst e y
    have hi' : i < n := by simpa [rangeC] using hi
    exact ⟨.int (lo + (i : Nat) * c), F', by simp [rangeC, hi'], .refl .., r1, .int _⟩
  stop := fun i F' ι' μ' H' _ _ _ hi => (by simpa [rangeC] using hi : n ≤ i)
theorem i_range1 {a : Expr} {fa : Env → M (List T)} {p pos : Pos} (ha : DA X E [a] fa) (hm : X.mg "range" = none) (hg : Gl X "range" := by rfl) (hs : starEach [a] X.env = [(false, eval a X.env)] := by rfl) : DI X E tg (.Call (.Name "range" p) [a] [] pos) (iB gRange1 fa) :=
  pi_imp (pi_range1 hg hm ha hs) fun σ H R ⟨F, ι, μ, ρ, hr, hen, hp⟩ => At.a hr hen hp fun F1 ι1 μ1 H1 vs ds x1 r1 rs p1 => by
    unfold gRange1 at p1
    split at p1
    · rename_i j
      cases rs with
      | cons r t =>
        cases t
        cases r
        cases hz : sm62 j with
        | false => rw [hz] at p1; exact p1.elim
        | true =>
          rw [hz] at p1
          have hb := sm62_of hz
          exact ⟨j, rfl, hb.1, hb.2, Post.pure (mg := X.mg) (E := E) p1 r1 _ (wk_range 0 j.toNat)⟩
    · exact p1.elim
theorem i_range2 {a b : Expr} {fa : Env → M (List T)} {p pos : Pos} (ha : DA X E [a, b] fa) (hm : X.mg "range" = none) (hg : Gl X "range" := by rfl) (hs : starEach [a, b] X.env = [(false, eval a X.env), (false, eval b X.env)] := by rfl) (hs2 : starEach [b] X.env = [(false, eval b X.env)] := by rfl) :
    DI X E tg (.Call (.Name "range" p) [a, b] [] pos) (iB gRange2 fa) :=
  pi_imp (pi_range2 hg hm ha hs hs2) fun σ H R ⟨F, ι, μ, ρ, hr, hen, hp⟩ => At.a hr hen hp fun F1 ι1 μ1 H1 vs ds x1 r1 rs p1 => by
    unfold gRange2 at p1
    split at p1
    · rename_i i j
      cases rs with
      | cons r t =>
        cases r
        cases t with
        | cons r t =>
          cases t
          cases r
          cases hz : (sm62 i && sm62 j) with
          | false => rw [hz] at p1; exact p1.elim
          | true =>
            rw [hz] at p1
            rw [Bool.and_eq_true] at hz
            have h1 := sm62_of hz.1
            have h2 := sm62_of hz.2
            exact ⟨i, j, rfl, ⟨h1.1, h1.2, h2.1, h2.2⟩, Post.pure (mg := X.mg) (E := E) p1 r1 _ (wk_range i (j - i).toNat)⟩
    · exact p1.elim
end

/-! ### sources that hand out new tuples, from KE's GoesN -/
/-- what such a walk leans on: fp, the iterator's own objects; S, their state; D, what is read of the heap; HD, whence it is known -/
structure Src (P : Program) (w : World) (K : PySem.W.Frag) (tg : Expr) (I₀ : Addr) (fp : List Addr) (n : Nat) (S : Nat → Heap → Prop) (HD : Hp → Prop) (PV : Nat → List V → Prop) : Prop where
  mem : I₀ ∈ fp
  keep : ∀ i h h', S i h → (∀ b ∈ fp, ∀ o, h.get? b = some o → h'.get? b = some o) → S i h'
  self : ∀ (A : Around) (i : Nat) (s : Shared) (Q : Value → Shared → Prop) (E : Value → Shared → Prop), S i s.heap → Q (.ref I₀) s → wpAny (model P w) A (pyIter (.ref I₀)) Q E s
  obj : ∀ i h, S i h → ∀ b ∈ fp, ∃ o, h.get? b = some o ∧ ∀ v, o.data ≠ .cell v
  run : ∀ (X : Cx) (pins : List (Addr × Obj)) (s : Shared) (σ : L2.St) (H : Hp), X.prog = P → X.w = w → X.K = K → X.A.handled = none → Inv X pins σ H s → HD H →
    ∃ (gfp wr : List Addr) (Pt : Nat → Array Value → Prop) (St : Nat → Heap → Prop), (∀ b ∈ wr, b ∈ fp) ∧ GoesN P w X.A tg I₀ gfp wr n (fun i h₀ v h => ∃ T vals, v = .ref T ∧ h₀.objs.size ≤ T ∧ Pt i vals ∧ h.IsTuple T vals) St ∧
      (∀ i, S i s.heap → St i s.heap) ∧ (∀ i h, St i h → S i h) ∧ ∀ i vals, i < n → Pt i vals → ∃ xs, Vals xs vals.toList ∧ xs.length ≤ 16 ∧ PV i xs
def ItP (n : Nat) (HD : Hp → Prop) (PV : Nat → List V → Prop) : It :=
  ⟨fun i H => HD H ∧ i < n, fun i H v H' => ∃ T xs, v = .ref T ∧ H T = none ∧ H' = upd H T (.tup xs) ∧ PV i xs, fun i H => HD H ∧ n ≤ i⟩
theorem Src.turn {P : Program} {w : World} {K : PySem.W.Frag} {tg : Expr} {I₀ : Addr} {fp : List Addr} {n : Nat} {S : Nat → Heap → Prop} {HD : Hp → Prop} {PV : Nat → List V → Prop} (Z : Src P w K tg I₀ fp n S HD PV) :
    Turn P w K tg (ItP n HD PV) fp I₀ (fun i h => i ≤ n ∧ S i h) where
  mem := Z.mem
  obj := fun i h st => Z.obj i h st.2
  keep := fun i h h' st k => ⟨st.1, Z.keep i h h' st.2 k⟩
  item := by
    intro X hP hw hK hc i pins s σ H E I hf st hg
    obtain ⟨gfp, wr, Pt, St, sub, G, s1, s2, pv⟩ := Z.run X pins s σ H hP hw hK (I.ok.hd hc) I hg.1
    subst hP hw
    refine thn (G.goes i s (fun v s' => ∃ h' tk, s' = { s with heap := h', toks := tk } ∧ (∃ T vals, v = .ref T ∧ s.heap.objs.size ≤ T ∧ Pt i vals ∧ h'.IsTuple T vals) ∧ St (i + 1) h' ∧ ∀ b o, b ∉ wr → s.heap.get? b = some o → h'.get? b = some o) E hg.2 (s1 i st.2) fun v h' tk y st' k _ => ⟨h', tk, rfl, y, st', k⟩) fun r s1 ⟨v, hr, hv⟩ => ?_
    refine ⟨v, hr, thn hv fun _ z hz => ?_⟩
    obtain ⟨h', tk, rfl, ⟨T, vals, rfl, hT, hP', hI⟩, st', kk⟩ := hz
    obtain ⟨xs, rv, hl, hxs⟩ := pv i vals hg.2 hP'
    have nT : H T = none := I.hok.fresh hT
    have new : ObjOk X.prog X.w (upd H T (.tup xs)) h' T (.tup xs) := ⟨by rw [sizeLine_eq]; omega, vals.toList, rv, by have z : IsTup h' T vals := hI; simpa using z⟩
    have kfp : ∀ b o, b ∉ fp → s.heap.get? b = some o → h'.get? b = some o := fun b o hb e => kk b o (fun z => hb (sub b z)) e
    refine ⟨.ref T, _, I.turnedNew (t' := tk) (ch := fp) kfp hf hT new, rfl, ⟨T, xs, rfl, nT, rfl, hxs⟩, ⟨hg.2, s2 _ _ st'⟩, fun b hb => ?_⟩
    rw [upd_ne (fun z => ?_)]
    · exact (hf b hb).1
    · obtain ⟨o, e, _⟩ := Z.obj i _ st.2 b hb
      rw [z] at e
      exact absurd (Nat.lt_of_lt_of_le (Heap.lt_size e) hT) (Nat.lt_irrefl _)
  done := by
    intro X hP hw hK hc i pins s σ H E I hf st hg
    obtain ⟨gfp, wr, Pt, St, sub, G, s1, s2, pv⟩ := Z.run X pins s σ H hP hw hK (I.ok.hd hc) I hg.1
    subst hP hw
    have ei : i = n := Nat.le_antisymm st.1 hg.2
    subst ei
    refine thn (G.stops s (fun s' => Inv X pins σ H s') E (s1 i st.2) fun h' tk k _ => I.turnedL (ch := fp) (fun b o hb e => k b o (fun z => hb (sub b z)) e) hf) fun r s1 hz => hz
  self := fun A i s Q E st q => Z.self A i s Q E st.2 q

/-! ### a sequence: a list or a tuple -/
def SqB (b : Bool) (K : PySem.W.Frag) (H : Hp) (a : Addr) (xs : List V) : Prop := cond b (SqT K H a xs) (SqL K H a xs)
def SqIt (b : Bool) (h : Heap) (it a : Addr) (i : Nat) : Prop := cond b (h.IsTupleIter it a i) (h.IsListIter it a i)
def SqAt (b : Bool) (h : Heap) (a : Addr) (items : Array Value) : Prop := cond b (h.IsTuple a items) (h.IsList a items)
def sqO (b : Bool) (a : Addr) : Obj := { cls := .type (cond b "tuple_iterator" "list_iterator"), data := .fields #[.ref a, .int 0 0] }
theorem sq_begins (b : Bool) (a : Addr) (items : Array Value) : Begins (.ref a) (sqO b a) fun h => SqAt b h a items := by
  cases b with
  | true => exact begins_tuple a items
  | false => exact begins_list a items
theorem sq_draws {P : Program} {w : World} {A : Around} (hh : A.handled = none) (b : Bool) (it a : Addr) (hne : a ≠ it) (items : Array Value) :
    Draws P w A it [it, a] items.size (fun i v => items[i]? = some v) (fun i h => SqIt b h it a i ∧ SqAt b h a items) := by
  cases b with
  | true => exact Draws.tuple hh it a hne items
  | false => exact Draws.list hh it a hne items
theorem sq_it0 {b : Bool} {h : Heap} {it a : Addr} (e : h.get? it = some (sqO b a)) : SqIt b h it a 0 := by
  cases b with
  | true => exact ⟨_, e, rfl, rfl⟩
  | false => exact ⟨_, e, rfl, rfl⟩
theorem sq_itAt {b : Bool} {h h' : Heap} {it a : Addr} {i : Nat} (x : SqIt b h it a i) (k : ∀ o, h.get? it = some o → h'.get? it = some o) : SqIt b h' it a i := by
  cases b with
  | true => exact Heap.IsTupleIter.at x k
  | false => exact Heap.IsListIter.at x k
theorem sq_itObj {b : Bool} {h : Heap} {it a : Addr} {i : Nat} (x : SqIt b h it a i) : ∃ o, h.get? it = some o ∧ ∀ v, o.data ≠ .cell v := by
  cases b with
  | true => obtain ⟨o, e, _, d⟩ := (show h.IsTupleIter it a i from x); exact ⟨o, e, fun v z => by rw [d] at z; cases z⟩
  | false => obtain ⟨o, e, _, d⟩ := (show h.IsListIter it a i from x); exact ⟨o, e, fun v z => by rw [d] at z; cases z⟩
theorem Inv.sq {X : Cx} {pins : List (Addr × Obj)} {σ : L2.St} {H : Hp} {s : Shared} {b : Bool} {a : Addr} {xs : List V} (I : Inv X pins σ H s) (h : SqB b X.K H a xs) : ∃ its : List Value, Vals xs its ∧ SqAt b s.heap a its.toArray ∧ a < s.heap.objs.size := by
  cases b with
  | true =>
    obtain ⟨its, r, p, _⟩ := I.tuple h
    obtain ⟨o, e, _⟩ := id p
    exact ⟨its, r, p, Heap.lt_size e⟩
  | false =>
    obtain ⟨its, r, p, _⟩ := I.list h
    obtain ⟨o, n, e, _⟩ := id p
    exact ⟨its, r, p.isList, Heap.lt_size e⟩
theorem Vals.at {xs : List V} {us : List Value} {i : Nat} {u : Value} : Vals xs us → us[i]? = some u → ∃ x, xs[i]? = some x ∧ RelV x u := fun r e => by
  have hl := r.length
  obtain ⟨h1, _⟩ := List.getElem?_eq_some_iff.mp e
  obtain ⟨u', e', ru⟩ := r.get (i := i) (x := xs[i]) (List.getElem?_eq_getElem (by omega))
  rw [e] at e'
  cases e'
  exact ⟨_, List.getElem?_eq_getElem (by omega), ru⟩
/-- enumerate over a sequence -/
theorem src_enum {P : Program} {w : World} {K : PySem.W.Frag} {elts : List Expr} {kk : Nat} {tpos : Pos} (b : Bool) (a e it : Addr) (xs : List V) (ne : e ≠ it) (na : a ≠ it) (nea : e ≠ a) :
    Src P w K (.Tuple elts kk tpos) e [e, it] xs.length (fun i h => (∃ old, IsEnum h e it ((0 : Int) + (i : Nat)) old) ∧ SqIt b h it a i) (fun H => SqB b K H a xs) (fun i ys => ∃ x, xs[i]? = some x ∧ ys = [.int ((0 : Int) + (i : Nat)), x]) where
  mem := by simp
  self := fun A i s Q E st q => by
    obtain ⟨⟨_, he⟩, _⟩ := st
    exact wpAny_pyIter_enum he q
  keep := fun i h h' st k => by
    obtain ⟨⟨old, he⟩, hi⟩ := st
    exact ⟨⟨old, k e (by simp) _ he⟩, sq_itAt hi fun o q => k it (by simp) o q⟩
  obj := fun i h st c hc => by
    obtain ⟨⟨old, he⟩, hi⟩ := st
    have e' : c = e ∨ c = it := by simpa using hc
    rcases e' with z | z
    · subst z; exact ⟨_, he, fun v q => nomatch q⟩
    · subst z; exact sq_itObj hi
  run := fun X pins s σ H hP hw hK hh I hD => by
    subst hP hw hK
    obtain ⟨its, rv, hat, _⟩ := Inv.sq I hD
    have hl := rv.length
    have G := GoesN.enumFrom (elts := elts) (x1 := kk) (pos := tpos) 0 (sq_draws (P := X.prog) (w := X.w) (A := X.A.in1) hh b it a na its.toArray) e ne (by simp [ne, nea]) (by simp)
    have hsz : its.toArray.size = xs.length := by simp [hl]
    rw [hsz] at G
    refine ⟨_, _, fun i vals => ∃ t x, its.toArray[i]? = some x ∧ vals = #[.int ((0 : Int) + (i : Nat)) t, x], _, ?_, G.mono fun i h₀ v h _ ⟨T, t, x, ev, hn, hx, hT⟩ => ⟨T, _, ev, hn, ⟨t, x, hx, rfl⟩, hT⟩, fun i st => ⟨st.1, st.2, hat⟩, fun i h st => ⟨st.1, st.2.1⟩, ?_⟩
    · intro c hc; exact hc
    · rintro i vals hi ⟨t, x, hx, rfl⟩
      obtain ⟨y, hy, ry⟩ := Vals.at rv (by simpa using hx)
      exact ⟨[.int ((0 : Int) + (i : Nat)), y], .cons ⟨t, rfl⟩ (.cons ry .nil), by simp, y, hy, rfl⟩
set_option maxHeartbeats 4000000 in
theorem enum_new1 {v : Value} {o : Obj} {H : Heap → Prop} (B : Begins v o H) :
    Meets (Builtin.«enumerate.__new__» ⟨[.type "enumerate", v], []⟩) (fun _ R s => H s.heap ∧
      R (.ok (.ret (.ref (s.heap.push o).objs.size))) { s with heap := (s.heap.push o).push { cls := .type "enumerate", data := .fields #[.none, .bool false, .ref s.heap.objs.size, rawInt 0, .none, .none] } }) :=
  .of_wp fun prog w A R s h => by
    obtain ⟨hp, g, d, tk, os⟩ := s
    obtain ⟨h1, h⟩ := h
    have sb := sub_enumerate
    have it1 : ∀ {A' : Around} {E : Value → Shared → Prop} {Q : Value → Shared → Prop}, Q (.ref hp.objs.size) ⟨hp.push o, g, d, tk, os⟩ → wpAny (model prog w) A' (pyIter v) Q E ⟨hp, g, d, tk, os⟩ := fun q => B.iter prog w _ _ ⟨hp, g, d, tk, os⟩ _ h1 q
    wp_walk using it1
    refine wpAny_stack_any fun st => wpAny_pure ?_
    split
    · rename_i c _ _ _ _ _
      cases (c == Value.type "enumerate") <;> (wp_walk using it1; exact ⟨_, rfl, h⟩)
    · wp_walk using it1
      exact ⟨_, rfl, h⟩
theorem enum_call1 {prog : Program} {w : World} {A : Around} {E : Value → Shared → Prop} {s : Shared} {v : Value} {o : Obj} {H : Heap → Prop} {Q : Value → Shared → Prop} (B : Begins v o H) (h1 : H s.heap)
    (h : ∀ h', IsEnum h' (s.heap.objs.size + 1) s.heap.objs.size 0 .none → h'.get? s.heap.objs.size = some o → h'.objs.size = s.heap.objs.size + 2 → (∀ b o, s.heap.get? b = some o → h'.get? b = some o) → Q (.ref (s.heap.objs.size + 1)) { s with heap := h' }) :
    wpAny (model prog w) A (call (.type "enumerate") [v]) Q E s := by
  refine callType_new F.called_enumerate (by decide) (F.typeCall_enumerate_1 _) (F.newCall_enumerate_1 _) (fun obj => F.args_object_init_2 obj _) F.entry_enumerate_new (enum_new1 B) ⟨h1, ?_⟩
  have sz : (s.heap.push o).objs.size = s.heap.objs.size + 1 := Heap.size_push ..
  have at1 := Heap.get?_push_size (s.heap.push o) (o := { cls := .type "enumerate", data := .fields #[.none, .bool false, .ref s.heap.objs.size, rawInt 0, .none, .none] }) rfl
  rw [sz] at at1
  show _ ∧ _
  rw [sz]
  exact ⟨⟨_, at1, rfl⟩, h _ at1 (Heap.get?_push_of_some _ (Heap.get?_push_size _ B.free)) (by rw [Heap.size_push, sz]) fun b o x => Heap.get?_push_of_some _ (Heap.get?_push_of_some _ x)⟩
def enumT (ds : List T) : List T := (ds.zipIdx).map fun p => .tup [.int ((p.2 : Nat) : Int), p.1]
def gEnum : List T → M (List T)
  | [d] => M.bind (gIter d) fun ds => M.pure (enumT ds)
  | _ => M.no
def gZip : List T → M (List T)
  | [d, e] => M.bind (gIter d) fun xs => M.bind (gIter e) fun ys => M.pure (List.zipWith (fun x y => .tup [x, y]) xs ys)
  | _ => M.no
section
variable {K : PySem.W.Frag} {F : Hp} {ι : List Addr}
theorem wk_pairs {n : Nat} {HD : Hp → Prop} {PV : Nat → List V → Prop} {es : List (List T)} (hn : es.length = n) (hD : ∀ F' H' : Hp, All F F' → All F' H' → HD H') (hv : ∀ i ys, PV i ys → ∃ ts, es[i]? = some ts ∧ Rps K F ι ys ts) :
    Wk K F ι (ItP n HD PV) (es.map T.tup) where
  go := fun i F' ι' μ' H' a1 _ r1 hi => ⟨hD F' H' a1 r1.sub, by rw [List.length_map] at hi; omega⟩
  yld := fun i F' ι' μ' H' x H'' a1 b1 r1 hi y => by
    obtain ⟨T₀, xs, rfl, nT, rfl, hx⟩ := y
    obtain ⟨ts, e1, rs⟩ := hv i xs hx
    obtain ⟨x2, r2⟩ := r1.newF (u := .tup xs) nT (fun a z => upd_ne z) upd_same
    exact ⟨.tup ts, _, by rw [List.getElem?_map, e1]; rfl, x2, r2, .tup upd_same ((rs.mono a1.sub b1).ext x2)⟩
  stop := fun i F' ι' μ' H' a1 _ r1 hi => ⟨hD F' H' a1 r1.sub, by rw [List.length_map] at hi; omega⟩
theorem seq_b {d : T} {v : V} {ds : List T} (rv : Rp K F ι v d) (h : seqOf d = some ds) : ∃ b a xs, v = .ref a ∧ SqB b K F a xs ∧ Rps K F ι xs ds := by
  cases rv with
  | lst ha ra => cases h; exact ⟨false, _, _, rfl, SqL.of ha, ra⟩
  | fls ha ra => cases h; exact ⟨false, _, _, rfl, ha, ra⟩
  | tup ha ra => cases h; exact ⟨true, _, _, rfl, SqT.of ha, ra⟩
  | ftp ha ra => cases h; exact ⟨true, _, _, rfl, ha, ra⟩
  | _ => cases h
theorem SqB.sub {b : Bool} {F' : Hp} {a : Addr} {xs : List V} (h : SqB b K F a xs) (s : Sub F F') : SqB b K F' a xs := by
  cases b with
  | true => exact s.seqT h
  | false => exact s.seqL h
end
section
variable {X : Cx} {E : XK} {k : Nat}
theorem gIter_post {α : Type} {K : PySem.W.Frag} {mg : Str → Option Value} {E : XK} {F : Hp} {ι : List Addr} {H : Hp} {μ : Store} {d : T} {c : List T → M α} {rp : Hp → List Addr → Store → Hp → α → Prop} (hp : Post K mg E (M.bind (gIter d) c μ) F ι H rp) : ∃ ds, seqOf d = some ds ∧ Post K mg E (c ds μ) F ι H rp := by
  unfold M.bind gIter at hp
  cases h : seqOf d with
  | none => rw [h] at hp; exact hp.elim
  | some ds => rw [h] at hp; exact ⟨ds, rfl, hp⟩
theorem i_enum {e : Expr} {fa : Env → M (List T)} {p pos tpos : Pos} {elts : List Expr} {kk : Nat} (ha : DA X E [e] fa) (hm : X.mg "enumerate" = none) (hg : Gl X "enumerate" := by rfl) (hs : starEach [e] X.env = [(false, eval e X.env)] := by rfl) :
    DI X E (.Tuple elts kk tpos) (.Call (.Name "enumerate" p) [e] [] pos) (iB gEnum fa) := by
  refine ⟨fun pins s σ H R I hh => ?_⟩
  obtain ⟨F, ι, μ, ρ, hr, hen, hp⟩ := hh
  refine Call_ (ld_blt I hg hm boot_enumerate (PyProof.Rows.callWith_type1 (thn (ha.run pos pins s σ H (fun vs H1 => ∃ F1 ι1 μ1 ds, Rel X.K F1 ι1 μ1 H1 ∧ Rps X.K F1 ι1 vs ds ∧ Post X.K X.mg E (gEnum ds μ1) F1 ι1 H1 (fun F' ι' _ H' ds => ∀ J, Wk X.K F' ι' J ds → R J H')) I (At.a hr hen hp fun F1 ι1 μ1 H1 vs ds x1 r1 rs p1 => ⟨F1, ι1, μ1, ds, r1, rs, p1⟩)) fun us s1 hx => ?_) hs rfl))
  obtain ⟨vs, H1, I1, rv, F1, ι1, μ1, ds, r1, rs, p1⟩ := hx
  unfold gEnum at p1
  split at p1
  · cases rs with
    | cons r t =>
      cases t
      cases rv with
      | cons q t =>
        cases t
        obtain ⟨es, h1, p2⟩ := gIter_post p1
        obtain ⟨b, a, xs, rfl, hsq, ra⟩ := seq_b r h1
        cases q
        have hsH : SqB b X.K H1 a xs := hsq.sub r1.sub.sub
        obtain ⟨its, rv, hat, hlt⟩ := Inv.sq I1 hsH
        refine enum_call1 (sq_begins b a its.toArray) hat fun h' he hit hsz hk => wpAny_pyIter_enum he ?_
        have I2 : Inv X pins σ H1 { s1 with heap := h' } := I1.kept (t' := s1.toks) hk
        have S := src_enum (P := X.prog) (w := X.w) (K := X.K) (elts := elts) (kk := kk) (tpos := tpos) b a (s1.heap.objs.size + 1) s1.heap.objs.size xs (Nat.succ_ne_self _) (Nat.ne_of_lt hlt) (Nat.ne_of_gt (Nat.lt_succ_of_lt hlt))
        refine ⟨s1.heap.objs.size + 1, [s1.heap.objs.size + 1, s1.heap.objs.size], _, _, H1, rfl, I2, S.turn, ⟨Nat.zero_le _, ⟨.none, he⟩, sq_it0 hit⟩, fun c hc => ?_, ?_⟩
        · have hle : s1.heap.objs.size ≤ c := by
            rcases List.mem_cons.mp hc with z | z
            · rw [z]; exact Nat.le_succ _
            · rw [List.mem_singleton.mp z]; exact Nat.le_refl _
          exact I1.fpOk hle (I1.hok.fresh hle)
        · have q := Post.pure (mg := X.mg) (E := E) (a := enumT es) p2 r1
          refine q _ ?_
          have ee : enumT es = ((es.zipIdx).map fun (p : T × Nat) => [T.int ((p.2 : Nat) : Int), p.1]).map T.tup := by
            unfold enumT
            rw [List.map_map]
            rfl
          rw [ee]
          refine wk_pairs (by simp [ra.length]) (fun F' H' a1 a2 => (hsq.sub a1.sub).sub a2.sub) fun i ys hy => ?_
          obtain ⟨x, hx, rfl⟩ := hy
          obtain ⟨d, hd, rd⟩ := ra.getV hx
          refine ⟨[.int ((i : Nat) : Int), d], by simp [hd], .cons ?_ (.cons rd .nil)⟩
          rw [Int.zero_add]
          exact .int _
  · exact p1.elim
end
end TL

/-! T layer 9: isinstance, chains, stores into cells, methods of cells, slices, starred displays, several names at once. -/
namespace TL
open PySem PySem.Spec PyProof.Rows L2

/-! ### isinstance -/
def tyT : T → Option String
  | .non => some "NoneType"
  | .bl _ => some "bool"
  | .int _ => some "int"
  | .str _ => some "str"
  | .lst _ => some "list"
  | .fls _ => some "list"
  | .tup _ => some "tuple"
  | .ftp _ => some "tuple"
  | .dic _ _ => some "dict"
  | _ => none
def isiP (t n : String) : Bool := t == n || (t == "bool" && n == "int")
def tyNames : List String := ["NoneType", "bool", "int", "str", "list", "tuple", "dict"]
def clsNames : List String := ["bool", "int", "str", "list", "tuple", "dict"]
theorem kitB_ok : ∀ t ∈ tyNames, ∀ n ∈ clsNames, kitB t n = some (isiP t n) := by decide +kernel
theorem tyT_mem {d : T} {t : String} (h : tyT d = some t) : t ∈ tyNames := by
  cases d <;> cases h <;> decide
def gIsi : T → T → M T := fun d c => match c with
  | .ty n => match tyT d with
    | some t => bif clsNames.contains n then M.pure (.bl (isiP t n)) else M.no
    | none => M.no
  | _ => M.no
section
variable {X : Cx} {E : XK} {k : Nat}
theorem ty_of {pins : List (Addr × Obj)} {σ : L2.St} {H : Hp} {s : Shared} {F : Hp} {ι : List Addr} {μ : Store} {x : V} {u : Value} {d : T} {t : String} (I : Inv X pins σ H s) (rx : RelV x u) (hr : Rel X.K F ι μ H) (lx : Lp X.K F ι H x d) (h : tyT d = some t) :
    ∃ P : Heap → Prop, PySem.W.KitX X.K u (.type t) P ∧ P s.heap ∧ u ≠ .builtin "__main__.__loader__#opaque" := by
  cases lx with
  | non => cases h; exact kit_of I rx (.base .non)
  | bl b => cases h; exact kit_of I rx (.base (.bl b))
  | int i => cases h; exact kit_of I rx (.base (.int i))
  | str z => cases h; exact kit_of I rx (.base (.str z))
  | lst ha _ => cases h; exact kit_of I rx (.base (.lst ha))
  | fls ha _ =>
    cases h
    rcases hr.sub.sub.seqL ha with (e | ⟨o, e⟩) | ⟨o, its, n, e, c, _⟩
    · exact kit_of I rx (.base (.lst e))
    · exact kit_of I rx (.base (.frz e))
    · exact kit_of I rx (.kList e c)
  | tup ha _ => cases h; exact kit_of I rx (.base (.tup (hr.sub _ _ ha)))
  | ftp ha _ =>
    cases h
    rcases hr.sub.sub.seqT ha with (e | ⟨o, e⟩) | ⟨o, its, n, e, c, _⟩
    · exact kit_of I rx (.base (.tup e))
    · exact kit_of I rx (.fTuple e)
    · exact kit_of I rx (.kTuple e c)
  | dic ha _ =>
    cases h
    cases (show u = Value.ref _ from rx)
    obtain ⟨_, _, vs, _, dd⟩ := dk_rd I.hok ha
    obtain ⟨o, h1, h2⟩ := dd.typeIs
    exact ⟨_, PySem.W.kitx_dict, ⟨o, h1, h2⟩, fun z => nomatch z⟩
  | dit ha _ =>
    cases h
    cases (show u = Value.ref _ from rx)
    obtain ⟨_, _, xs, _, dd⟩ := dt_rd I.hok ha
    obtain ⟨o, h1, h2⟩ := dd.typeIs
    exact ⟨_, PySem.W.kitx_dict, ⟨o, h1, h2⟩, fun z => nomatch z⟩
  | ref a => cases h
  | ty n => cases h
theorem c_isi : CallD X E (.builtin "isinstance") (g2 gIsi) := .two fun pins s σ H x y us Q F ι μ d e I rv hr lx ly hp => by
  obtain ⟨u1, u2, rfl, r1, r2⟩ := vals2 rv
  cases ly with
  | ty n =>
    simp only [gIsi] at hp
    cases ht : tyT d with
    | none => rw [ht] at hp; exact hp.elim
    | some t =>
      rw [ht] at hp
      simp only at hp
      cases hc : clsNames.contains n with
      | false => rw [hc] at hp; exact hp.elim
      | true =>
        rw [hc] at hp
        obtain ⟨P, Z, p, hx⟩ := ty_of I r1 hr lx ht
        cases (show u2 = Value.type n from r2)
        exact PySem.W.kia_one Z I.kIn p (kit_ty (kitB_ok t (tyT_mem ht) n (by simpa using hc))) hx fun tk => ⟨.bl _, H, I.tok tk, rfl, Post.pure hp hr _ (.bl _)⟩
  | _ => exact hp.elim

/-! ### chained compares -/
def eChain (g g' : T → T → M T) (fa fb fc : Env → M T) : Env → M T := fun ρ => M.bind (fa ρ) fun x => M.bind (fb ρ) fun y => M.bind (g x y) fun b => M.bind (asB b) fun b => bif b then M.bind (fc ρ) fun z => g' y z else M.pure (.bl false)
def bChain (g g' : T → T → M T) (fa fb fc : Env → M T) : Env → M Bool := fun ρ => M.bind (fa ρ) fun x => M.bind (fb ρ) fun y => M.bind (g x y) fun b => M.bind (asB b) fun b => bif b then M.bind (fc ρ) fun z => M.bind (g' y z) asB else M.pure false
variable {a b c : Expr} {pos : Pos} {fa fb fc : Env → M T} {g g' : T → T → M T} {op op' : CmpOp}
theorem d_chain (ho : OpD X E (compareOp op) g) (ho' : OpD X E (compareOp op') g') (ha : DE X E a fa) (hb : DE X E b fb) (hc : DE X E c fc) (hm : lastMarks [op, op'] [b, c] = false := by with_unfolding_all rfl) :
    DE X E (.Compare a [op, op'] [b, c] pos) (eChain g g' fa fb fc) :=
  pe_imp (pe_chain ho ho' ha hb hc hm) fun σ H Q ⟨F, ι, μ, ρ, hr, he, hp⟩ => At.e hr he hp fun F1 ι1 μ1 H1 v d x1 r1 rv p1 => At.e r1 (he.ext x1) p1 fun F2 ι2 μ2 H2 u e x2 r2 ru p2 =>
    ⟨F2, ι2, μ2, d, e, r2, rv.ext x2, ru, p2.bind fun F3 ι3 μ3 H3 z x3 r3 p3 w rw' => by
      cases rw' with
      | bl q =>
        refine ⟨q, rfl, ?_⟩
        cases q with
        | true => exact iteT (At.e r3 (((he.ext x1).ext x2).ext x3) p3 fun F4 ι4 μ4 H4 w' d' x4 r4 rw4 p4 => ⟨F4, ι4, μ4, e, d', r4, (ru.ext x3).ext x4, rw4, p4⟩)
        | false => exact iteF (Post.pure (mg := X.mg) (E := E) (a := T.bl false) p3 r3 _ (.bl false))
      | _ => exact p3.elim⟩
theorem t_chain (ho : OpD X E (compareOp op) g) (ho' : OpD X E (compareOp op') g') (ha : DE X E a fa) (hb : DE X E b fb) (hc : DE X E c fc) (hm : lastMarks [op, op'] [b, c] = false := by with_unfolding_all rfl) :
    DT X E (.Compare a [op, op'] [b, c] pos) (bChain g g' fa fb fc) :=
  pt_imp (pt_chain ho ho' ha hb hc hm) fun σ H Q ⟨F, ι, μ, ρ, hr, he, hp⟩ => At.e hr he hp fun F1 ι1 μ1 H1 v d x1 r1 rv p1 => At.e r1 (he.ext x1) p1 fun F2 ι2 μ2 H2 u e x2 r2 ru p2 =>
    ⟨F2, ι2, μ2, d, e, r2, rv.ext x2, ru, p2.bind fun F3 ι3 μ3 H3 z x3 r3 p3 w rw' => by
      cases rw' with
      | bl q =>
        refine ⟨q, rfl, ?_⟩
        cases q with
        | true => exact iteT (At.e r3 (((he.ext x1).ext x2).ext x3) p3 fun F4 ι4 μ4 H4 w' d' x4 r4 rw4 p4 => ⟨F4, ι4, μ4, e, d', r4, (ru.ext x3).ext x4, rw4, p4.bind fun F5 ι5 μ5 H5 z5 x5 r5 p5 w5 rw5 => by
            cases rw5 with
            | bl q5 => exact ⟨q5, rfl, Post.pure (mg := X.mg) (E := E) (a := q5) p5 r5⟩
            | _ => exact p5.elim⟩)
        | false => exact iteF ⟨false, rfl, Post.pure (mg := X.mg) (E := E) (a := false) p3 r3⟩
      | _ => exact p3.elim⟩
end

/-! ### stores into cells -/
theorem Rel.write {K : PySem.W.Frag} {F : Hp} {ι : List Addr} {μ : Store} {H : Hp} {a : Addr} {u : HO} {o : Ob} {k : Nat} {c : Cel} (r : Rel K F ι μ H) (h1 : ι[k]? = some a) (h2 : μ[k]? = some c) (hl : c.live = true) (ru : RpO K F ι u o) :
    Ext F ι H F ι (upd H a u) ∧ Rel K F ι (μ.set k ⟨true, o⟩) (upd H a u) := by
  obtain ⟨u0, e1, e2, e3, e4⟩ := r.cel k a c h1 h2
  have nF := e3 hl
  have hm : a ∈ ι := List.mem_of_getElem? h1
  refine ⟨⟨fun _ _ e => e, .refl _, fun b x e n => ?_, fun b m => .inl m, fun b x e => .inl e⟩, ⟨fun b x e => ?_, r.nd, by simp [r.len], fun j b c' g1 g2 => ?_⟩⟩
  · rw [upd_ne (fun z => n (by rw [z]; exact hm))]; exact e
  · rw [upd_ne (fun z => by rw [z, nF] at e; cases e)]; exact r.sub _ _ e
  · by_cases hj : j = k
    · subst hj
      rw [h1] at g1
      cases g1
      obtain ⟨hk, _⟩ := List.getElem?_eq_some_iff.mp h2
      rw [List.getElem?_set_self hk] at g2
      cases g2
      exact ⟨u, upd_same, ru, fun _ => nF, fun z => by cases z⟩
    · rw [List.getElem?_set_ne (Ne.symm hj)] at g2
      obtain ⟨v, q1, q2, q3, q4⟩ := r.cel j b c' g1 g2
      have ne : b ≠ a := fun z => by
        subst z
        obtain ⟨i1, j1⟩ := List.getElem?_eq_some_iff.mp h1
        obtain ⟨i2, j2⟩ := List.getElem?_eq_some_iff.mp g1
        exact hj ((List.getElem_inj r.nd).mp (j2.trans j1.symm))
      exact ⟨v, by rw [upd_ne ne]; exact q1, q2, q3, q4⟩
/-- the list in a cell -/
def onCell {α : Type} (k : Nat) (f : List T → Option (α × List T)) : M α := fun μ => match μ[k]? with
  | some ⟨true, .lst xs⟩ => match f xs with
    | some (a, ys) => .ok a (μ.set k ⟨true, .lst ys⟩)
    | none => .no
  | _ => .no
theorem onCell_post {K : PySem.W.Frag} {mg : Str → Option Value} {E : XK} {F : Hp} {ι : List Addr} {μ : Store} {H : Hp} {α : Type} {k : Nat} {v : V} {f : List T → Option (α × List T)} {rp : Hp → List Addr → Store → Hp → α → Prop}
    (r : Rel K F ι μ H) (rv : Rp K F ι v (.cell k)) (hp : Post K mg E (onCell k f μ) F ι H rp) : ∃ a xs ds y ys, v = .ref a ∧ H a = some (.lst xs) ∧ Rps K F ι xs ds ∧ f ds = some (y, ys) ∧ ∀ zs, Rps K F ι zs ys →
      Ext F ι H F ι (upd H a (.lst zs)) ∧ Rel K F ι (μ.set k ⟨true, .lst ys⟩) (upd H a (.lst zs)) ∧ rp F ι (μ.set k ⟨true, .lst ys⟩) (upd H a (.lst zs)) y := by
  cases rv with
  | @cell _ a e =>
    unfold onCell at hp
    rcases hc : μ[k]? with _ | ⟨lv, o⟩
    · rw [hc] at hp; exact hp.elim
    · rw [hc] at hp
      cases lv with
      | false => cases o <;> exact hp.elim
      | true =>
        cases o with
        | dic tk kvs => exact hp.elim
        | lst ds =>
          simp only at hp
          cases hf : f ds with
          | none => rw [hf] at hp; exact hp.elim
          | some p =>
            obtain ⟨y, ys⟩ := p
            rw [hf] at hp
            obtain ⟨u, e1, e2, e3, e4⟩ := r.cel k a _ e hc
            cases e2 with
            | lst rs =>
              refine ⟨a, _, ds, y, ys, rfl, e1, rs, hf, fun zs rz => ?_⟩
              obtain ⟨x2, r2⟩ := r.write (o := .lst ys) e hc rfl (.lst rz)
              exact ⟨x2, r2, hp _ _ _ x2 r2⟩
def gSetI : T → T → T → M Unit := fun o i v => match o, i with
  | .cell k, .int i => onCell k fun xs => match ixN xs.length i with
    | some j => some ((), xs.set j v)
    | none => none
  | _, _ => M.no
section
variable {X : Cx} {E : XK} {k : Nat} {a b e : Expr} {pos : Pos} {fa fb fe : Env → M T}
def rSetT (X : Cx) (E : XK) (g : T → T → T → M Unit) : TSet := fun o i v H Q => ∃ F ι μ d e w, Rel X.K F ι μ H ∧ Rp X.K F ι o d ∧ Rp X.K F ι i e ∧ Rp X.K F ι v w ∧ Post X.K X.mg E (g d e w μ) F ι H (fun _ _ _ H' _ => Q H')
abbrev SetD (X : Cx) (E : XK) (g : T → T → T → M Unit) : Prop := PSet X (rSetT X E g)
theorem set_ix : SetD X E gSetI := by
  intro pins s σ H o i v ov iv u Q I ro ri rv ⟨F, ι, μ, d, e, w, hr, rd, re, rw', hp⟩
  unfold gSetI at hp
  split at hp
  · cases re with
    | int =>
      rename_i i
      obtain ⟨a, xs, ds, y, ys, rfl, ha, rs, hf, fin⟩ := onCell_post hr rd hp
      cases hx : ixN ds.length i with
      | none => rw [hx] at hf; cases hf
      | some j =>
        rw [hx] at hf
        cases hf
        obtain ⟨_, _, q⟩ := fin _ (rs.set rw' j)
        exact set_list pins s σ H _ _ v ov iv u Q I ro ri rv ⟨a, xs, i, j, rfl, rfl, ha, by rw [rs.length]; exact hx, q⟩
  · exact hp.elim
def hSub (fa fb : Env → M T) (g : T → T → T → M Unit) : T → Env → M Env := fun d ρ => M.bind (fa ρ) fun o => M.bind (fb ρ) fun i => M.bind (g o i d) fun _ => M.pure ρ
theorem g_sub {vs : List Nat} {g : T → T → T → M Unit} (ha : DE X E a fa) (hb : DE X E b fb) (hs : SetD X E g) (hh : ∀ v, assign (.Subscript a b pos) X.env v = (do
      let ov ← holding [v] (eval a X.env)
      let iv ← holding [v, ov] (eval b X.env)
      standAt pos
      holding [v, ov, iv] (setItem ov iv v)
      release [v, ov, iv] []) := by intro _; rfl) : DG X E (.Subscript a b pos) vs (hSub fa fb g) :=
  pg_imp (pg_sub ha hb hs hh) fun v σ H Q ⟨F, ι, μ, ρ, d, hr, he, rv, hp⟩ => At.e hr he hp fun F1 ι1 μ1 H1 o od x1 r1 ro p1 => At.e r1 (he.ext x1) p1 fun F2 ι2 μ2 H2 i id x2 r2 ri p2 =>
    ⟨F2, ι2, μ2, od, id, d, r2, ro.ext x2, ri, (rv.ext x1).ext x2, p2.bind fun F3 ι3 μ3 H3 _ x3 r3 p3 => Post.pure (mg := X.mg) (E := E) (a := ρ) p3 r3 σ (((he.ext x1).ext x2).ext x3) rfl⟩
end
end TL

/-! T layer 10: slices, starred displays, several names at once, a comprehension to a name. -/
namespace TL
open PySem PySem.Spec PyProof.Rows L2 StX

/-! ### slices -/
def oNone : Env → M (Option Int) := fun _ => M.pure none
def asO : T → M (Option Int)
  | .int i => M.pure (some i)
  | _ => M.no
def oSome (f : Env → M T) : Env → M (Option Int) := fun ρ => M.bind (f ρ) asO
def cutT (xs : List T) (lo hi : Option Int) : List T := (xs.drop (HT.sIx xs.length 0 lo)).take (HT.sIx xs.length xs.length hi - HT.sIx xs.length 0 lo)
def whole (n : Nat) (lo hi : Option Int) : Bool := decide (HT.sIx n 0 lo = 0) && decide (HT.sIx n n hi = n)
def gSl (lo hi : Option Int) : T → M T
  | .lst xs => M.pure (.lst (cutT xs lo hi))
  | .fls xs => M.pure (.lst (cutT xs lo hi))
  | .tup xs => M.pure (.tup (cutT xs lo hi))
  | .ftp xs => bif whole xs.length lo hi then M.pure (.ftp xs) else M.pure (.tup (cutT xs lo hi))
  | _ => M.no
def eSl (f : Env → M T) (l h : Env → M (Option Int)) : Env → M T := fun ρ => M.bind (f ρ) fun d => M.bind (l ρ) fun lo => M.bind (h ρ) fun hi => M.bind (ld d) (gSl lo hi)
section
variable {K : PySem.W.Frag} {F : Hp} {ι : List Addr}
theorem Rps.cut {vs : List V} {ds : List T} (lo hi : Option Int) (r : Rps K F ι vs ds) : Rps K F ι (cutV vs lo hi) (cutT ds lo hi) := by
  unfold cutV cutT
  rw [r.length]
  exact (r.drop _).take _
theorem cut_whole {ds : List T} {lo hi : Option Int} (h : HT.sIx ds.length 0 lo = 0 ∧ HT.sIx ds.length ds.length hi = ds.length) : cutT ds lo hi = ds := by
  unfold cutT
  rw [h.1, h.2]
  simp
end
section
variable {X : Cx} {E : XK} {k : Nat}
abbrev DO (e : Option Expr) (f : Env → M (Option Int)) (X : Cx) (E : XK) : Prop := PO X e (fun σ H Q => ∃ F ι μ ρ, Rel X.K F ι μ H ∧ ERp X.K F ι σ ρ ∧ Post X.K X.mg E (f ρ μ) F ι H (fun _ _ _ H' o => Q o H'))
theorem o_none : DO none oNone X E := ⟨fun pins s σ H Q I ⟨F, ι, μ, ρ, hr, he, hp⟩ => po_none.run pins s σ H Q I (Post.pure (mg := X.mg) (E := E) (a := (none : Option Int)) hp hr)⟩
theorem o_some {e : Expr} {f : Env → M T} (h : DE X E e f) : DO (some e) (oSome f) X E := ⟨fun pins s σ H Q I ⟨F, ι, μ, ρ, hr, he, hp⟩ => (po_some h).run pins s σ H Q I (At.e hr he hp fun F1 ι1 μ1 H1 v d x1 r1 rv p1 => by
  cases rv with
  | int i => exact ⟨i, rfl, Post.pure (mg := X.mg) (E := E) (a := some i) p1 r1⟩
  | _ => exact p1.elim)⟩
def rSl (X : Cx) (E : XK) : V → Option Int → Option Int → Hp → VK → Prop := fun x lo hi H Q => ∃ F ι μ d, Rel X.K F ι μ H ∧ Rp X.K F ι x d ∧ Post X.K X.mg E (M.bind (ld d) (gSl lo hi) μ) F ι H (wT X.K Q)
theorem sl_all : SlR X (rSl X E) := by
  intro pins s σ H x v vl vu lo hi sl Q I rx hs pl pu ⟨F, ι, μ, d0, hr, rd, hp⟩
  obtain ⟨d, lx, hp⟩ := ld_post hr rd hp
  have lst : ∀ {a : Addr} {xs : List V} {ds : List T}, SqL X.K H a xs → Rps X.K F ι xs ds → Post X.K X.mg E (M.pure (T.lst (cutT ds lo hi)) μ) F ι H (wT X.K Q) → ∀ p, H p = none → Q (.ref p) (upd H p (.lst (cutV xs lo hi))) := fun {a xs ds} ha ra hp p hn => by
    obtain ⟨x2, r2⟩ := hr.newF (u := .lst (cutV xs lo hi)) hn (fun a z => upd_ne z) upd_same
    exact hp _ _ _ x2 r2 _ (.lst upd_same ((ra.cut lo hi).ext x2))
  have tup : ∀ {a : Addr} {xs : List V} {ds : List T}, SqT X.K H a xs → Rps X.K F ι xs ds → Post X.K X.mg E (M.pure (T.tup (cutT ds lo hi)) μ) F ι H (wT X.K Q) → ∀ p, H p = none → Q (.ref p) (upd H p (.tup (cutV xs lo hi))) := fun {a xs ds} ha ra hp p hn => by
    obtain ⟨x2, r2⟩ := hr.newF (u := .tup (cutV xs lo hi)) hn (fun a z => upd_ne z) upd_same
    exact hp _ _ _ x2 r2 _ (.tup upd_same ((ra.cut lo hi).ext x2))
  cases lx with
  | lst ha ra => exact sl_list pins s σ H _ v vl vu lo hi sl Q I rx hs pl pu ⟨_, _, rfl, SqL.of ha, lst (SqL.of ha) ra hp⟩
  | fls ha ra => exact sl_list pins s σ H _ v vl vu lo hi sl Q I rx hs pl pu ⟨_, _, rfl, hr.sub.sub.seqL ha, lst (hr.sub.sub.seqL ha) ra hp⟩
  | @tup a xs ds ha ra =>
    have sq : SqT X.K H a xs := SqT.of (hr.sub _ _ ha)
    refine sl_tupA pins s σ H _ v vl vu lo hi sl Q I rx hs pl pu ⟨_, _, rfl, sq, fun h => ?_, fun _ => tup sq ra hp⟩
    rw [ra.length] at h
    have q : Post X.K X.mg E (M.pure (T.tup (cutT ds lo hi)) μ) F ι H (wT X.K Q) := hp
    rw [cut_whole h] at q
    exact Post.pure q hr _ (.tup ha ra)
  | @ftp a xs ds ha ra =>
    have sq : SqT X.K H a xs := hr.sub.sub.seqT ha
    have hp : Post X.K X.mg E ((bif whole ds.length lo hi then M.pure (T.ftp ds) else M.pure (.tup (cutT ds lo hi))) μ) F ι H (wT X.K Q) := hp
    refine sl_tupA pins s σ H _ v vl vu lo hi sl Q I rx hs pl pu ⟨_, _, rfl, sq, fun h => ?_, fun h => ?_⟩
    · rw [ra.length] at h
      have e : whole ds.length lo hi = true := by unfold whole; rw [h.1, h.2]; simp
      rw [e] at hp
      exact Post.pure (a := T.ftp ds) hp hr _ (.ftp ha ra)
    · rw [ra.length] at h
      have e : whole ds.length lo hi = false := by
        cases z : whole ds.length lo hi with
        | false => rfl
        | true =>
          unfold whole at z
          simp only [Bool.and_eq_true, decide_eq_true_eq] at z
          exact (h z).elim
      rw [e] at hp
      exact tup sq ra hp
  | _ => exact hp.elim
theorem d_sl {a : Expr} {lo hi : Option Expr} {f : Env → M T} {l h : Env → M (Option Int)} {p2 pos : Pos} (ha : DE X E a f) (hl : DO lo l X E) (hh : DO hi h X E) : DE X E (.Subscript a (.Slice lo hi none p2) pos) (eSl f l h) :=
  pe_imp (pe_slice sl_all ha hl hh) fun σ H Q ⟨F, ι, μ, ρ, hr, he, hp⟩ => At.e hr he hp fun F1 ι1 μ1 H1 v d x1 r1 rv p1 =>
    ⟨F1, ι1, μ1, ρ, r1, he.ext x1, p1.bind fun F2 ι2 μ2 H2 lo x2 r2 p2 => ⟨F2, ι2, μ2, ρ, r2, (he.ext x1).ext x2, p2.bind fun F3 ι3 μ3 H3 hi x3 r3 p3 => ⟨F3, ι3, μ3, d, r3, (rv.ext x2).ext x3, p3⟩⟩⟩

/-! ### starred displays -/
def aStar (f : Env → M T) (g : Env → M (List T)) : Env → M (List T) := fun ρ => M.bind (f ρ) fun d => M.bind (ld d) fun d => M.bind (gIter d) fun xs => M.bind (g ρ) fun ys => M.pure (xs ++ ys)
theorem a_star {e : Expr} {es : List Expr} {p : Pos} {f : Env → M T} {g : Env → M (List T)} (he : DE X E e f) (hr : DA X E es g) (hs : starEach (.Starred e p :: es) X.env = (true, eval e X.env) :: starEach es X.env := by rfl) : DA X E (.Starred e p :: es) (aStar f g) :=
  pa_imp (pa_star he hr hs) fun σ H Q ⟨F, ι, μ, ρ, hr, he, hp⟩ => At.e hr he hp fun F1 ι1 μ1 H1 v d x1 r1 rv p1 => by
    obtain ⟨d', lx, p2⟩ := ld_post r1 rv p1
    have go : ∀ {a : Addr} {us : List V} {ds : List T}, (SqT X.K H1 a us ∨ SqL X.K H1 a us) → Rps X.K F1 ι1 us ds → v = .ref a → Post X.K X.mg E (M.bind (g ρ) (fun ys => M.pure (ds ++ ys)) μ1) F1 ι1 H1 (fun F' ι' _ H' es => ∀ ws, Rps X.K F' ι' ws es → Q ws H') →
        ∃ p xs, v = V.ref p ∧ (SqT X.K H1 p xs ∨ SqL X.K H1 p xs) ∧ tA X.K X.mg E g σ H1 fun ys H2 => Q (xs ++ ys) H2 := fun {a us ds} hs ra ev p3 =>
      ⟨a, us, ev, hs, At.a r1 (he.ext x1) p3 fun F2 ι2 μ2 H2 ws es x2 r2 rw2 p4 => Post.pure p4 r2 _ ((ra.ext x2).append rw2)⟩
    cases lx with
    | lst ha ra => exact go (.inr (SqL.of ha)) ra rfl p2
    | fls ha ra => exact go (.inr (r1.sub.sub.seqL ha)) ra rfl p2
    | tup ha ra => exact go (.inl (SqT.of (r1.sub _ _ ha))) ra rfl p2
    | ftp ha ra => exact go (.inl (r1.sub.sub.seqT ha)) ra rfl p2
    | _ => exact p2.elim

/-! ### a, b = x, y -/
def sPar (i j : Nat) (fa : Env → M (List T)) : Env → M Fl := fun ρ => M.bind (fa ρ) fun ds => match ds with
  | [x, y] => M.pure (.nx ((ρ.set i (some x)).set j (some y)))
  | _ => M.no
def sPar3 (i j l : Nat) (fa : Env → M (List T)) : Env → M Fl := fun ρ => M.bind (fa ρ) fun ds => match ds with
  | [x, y, z] => M.pure (.nx (((ρ.set i (some x)).set j (some y)).set l (some z)))
  | _ => M.no
variable {a b c : Expr} {x y z : Str} {i j l : Nat} {fa : Env → M (List T)} {px py pz pt pos : Pos} {kt k2 pt2}
theorem s_par (o : XO X E k) (i j : Nat) (ha : DA X E [a, b] fa) (hi : X.N[i]? = some x := by rfl) (hj : X.N[j]? = some y := by rfl) (hij : i ≠ j := by decide) (hx : X.env.scope.names.lookup x = some .local := by rfl) (hy : X.env.scope.names.lookup y = some .local := by rfl)
    (hw : swappedStores [.Tuple [.Name x px, .Name y py] kt pt] (.Tuple [a, b] k2 pt2) X.env = pure (some [x, y]) := by rfl)
    (hs : swapsWithSole [.Tuple [.Name x px, .Name y py] kt pt] (.Tuple [a, b] k2 pt2) pos.line X.env = pure false := by rfl) : DS X E (.Assign [.Tuple [.Name x px, .Name y py] kt pt] (.Tuple [a, b] k2 pt2) pos) (sPar i j fa) :=
  ps_imp (ps_par o.calm o.nd hi hj hij hx hy ha hw hs) fun D σ H ⟨F, ι, μ, ρ, hr, he, hp⟩ => At.a hr he hp fun F1 ι1 μ1 H1 vs ds x1 r1 rs p1 => by
    cases rs with
    | nil => exact p1.elim
    | cons ra rs =>
      cases rs with
      | nil => exact p1.elim
      | cons rb rs =>
        cases rs with
        | nil => exact ⟨_, _, rfl, Post.pure (mg := X.mg) (E := E) (a := Fl.nx _) p1 r1 _ (((he.ext x1).set ra i).set rb j)⟩
        | cons _ _ => exact p1.elim
theorem s_par3 (o : XO X E k) (i j l : Nat) (ha : DA X E [a, b, c] fa) (hi : X.N[i]? = some x := by rfl) (hj : X.N[j]? = some y := by rfl) (hl : X.N[l]? = some z := by rfl) (hij : i ≠ j := by decide) (hil : i ≠ l := by decide) (hjl : j ≠ l := by decide) (hx : X.env.scope.names.lookup x = some .local := by rfl) (hy : X.env.scope.names.lookup y = some .local := by rfl)
    (hz : X.env.scope.names.lookup z = some .local := by rfl)
    (hw : swappedStores [.Tuple [.Name x px, .Name y py, .Name z pz] kt pt] (.Tuple [a, b, c] k2 pt2) X.env = pure (some [x, y, z]) := by rfl)
    (hs : swapsWithSole [.Tuple [.Name x px, .Name y py, .Name z pz] kt pt] (.Tuple [a, b, c] k2 pt2) pos.line X.env = pure false := by rfl) : DS X E (.Assign [.Tuple [.Name x px, .Name y py, .Name z pz] kt pt] (.Tuple [a, b, c] k2 pt2) pos) (sPar3 i j l fa) :=
  ps_imp (ps_par3 o.calm o.nd hi hj hl hij hil hjl hx hy hz ha hw hs) fun D σ H ⟨F, ι, μ, ρ, hr, he, hp⟩ => At.a hr he hp fun F1 ι1 μ1 H1 vs ds x1 r1 rs p1 => by
    cases rs with
    | nil => exact p1.elim
    | cons ra rs =>
      cases rs with
      | nil => exact p1.elim
      | cons rb rs =>
        cases rs with
        | nil => exact p1.elim
        | cons rc rs =>
          cases rs with
          | nil => exact ⟨_, _, _, rfl, Post.pure (mg := X.mg) (E := E) (a := Fl.nx _) p1 r1 _ ((((he.ext x1).set ra i).set rb j).set rc l)⟩
          | cons _ _ => exact p1.elim
/-- code that is not come to -/
def sNever : Env → M Fl := fun _ => M.no
theorem s_never {st : Stmt} : DS X E st sNever := ps_imp ps_never fun D σ H ⟨F, ι, μ, ρ, hr, he, hp⟩ => hp
end
section
variable {X : Cx} {E : XK} {k : Nat} {elt tg iter : Expr} {ifs : List Expr} {scope : Scope} {own : List (Str × Nat)} {pos py spos : Pos} {fi : Env → M (List T)} {h : T → Env → M Env} {t : Env → M Bool} {f : Env → M T} {y : Str}
theorem tL_tree {K : PySem.W.Frag} {mg : Str → Option Value} {fl : Env → M (List T)} {σ : L2.St} {H : Hp} {Q : VK} (h : tE K mg E (eTree fl) σ H Q) : tL K mg E fl σ H Q := by
  obtain ⟨F, ι, μ, ρ, hr, he, hp⟩ := h
  exact ⟨F, ι, μ, ρ, hr, he, hp.bind fun F1 ι1 μ1 H1 ds x1 r1 p1 p xs H2 ho hn h2 rs => by
    obtain ⟨x2, r2⟩ := r1.newF hn ho h2
    exact p1 _ _ _ x2 r2 _ (.lst upd_same (rs.ext x2))⟩
theorem tL_cell {K : PySem.W.Frag} {mg : Str → Option Value} {fl : Env → M (List T)} {σ : L2.St} {H : Hp} {Q : VK} (h : tE K mg E (eCell fl) σ H Q) : tL K mg E fl σ H Q := by
  obtain ⟨F, ι, μ, ρ, hr, he, hp⟩ := h
  exact ⟨F, ι, μ, ρ, hr, he, hp.bind fun F1 ι1 μ1 H1 ds x1 r1 p1 p xs H2 ho hn h2 rs => by
    obtain ⟨x2, r2⟩ := r1.newI hn ho h2 (.lst rs)
    refine p1 _ _ _ x2 r2 _ (.cell ?_)
    rw [← r1.len]; simp⟩
/-- name = [.. for ..], on one line: what is laid is e of the items -/
theorem s_setc (o : XO X E k) (i : Nat) {e : (Env → M (List T)) → Env → M T} (hT : ∀ {σ : L2.St} {H : Hp} {Q : VK}, tE X.K X.mg E (e (lComp (own.map (·.2)) fi h t f)) σ H Q → tL X.K X.mg E (lComp (own.map (·.2)) fi h t f) σ H Q) (hi : DI X E tg iter fi) (ok : blkC X.N X.env.scope scope own = true)
    (hg : ∀ (s : Shared) (H : Hp) (C : Addr) (cl : List (Str × Addr)) (fp : List Addr), XO (X.blk s H scope (compEnvC scope cl C X.env) fp) EF k → DG (X.blk s H scope (compEnvC scope cl C X.env) fp) EF tg (own.map (·.2)) h)
    (ht : ∀ (s : Shared) (H : Hp) (C : Addr) (cl : List (Str × Addr)) (fp : List Addr), XO (X.blk s H scope (compEnvC scope cl C X.env) fp) EF k → DTs (X.blk s H scope (compEnvC scope cl C X.env) fp) EF ifs t)
    (he : ∀ (s : Shared) (H : Hp) (C : Addr) (cl : List (Str × Addr)) (fp : List Addr), XO (X.blk s H scope (compEnvC scope cl C X.env) fp) EF k → DE (X.blk s H scope (compEnvC scope cl C X.env) fp) EF elt f)
    (hy : X.N[i]? = some y := by rfl) (hyl : X.env.scope.names.lookup y = some .local := by rfl) (hsw : swapsWith (.ListComp elt [⟨tg, iter, ifs, 0⟩] scope pos) (some (.Name y py)) spos.line X.env = pure true := by exact sw_true rfl rfl rfl rfl)
    (hs : ∀ x, foldedSetIterable iter X.env x = pure x := by intro _; rfl) :
    DS X E (.Assign [.Name y py] (.ListComp elt [⟨tg, iter, ifs, 0⟩] scope pos) spos) (sSet i (e (lComp (own.map (·.2)) fi h t f))) :=
  ps_imp (ps_setLc o.calm o.nd hy hyl hsw hi (blkOk_by ok) (fun s H C cl fp => hg s H C cl fp o.blk) (fun s H C cl fp => ht s H C cl fp o.blk) (fun s H C cl fp => he s H C cl fp o.blk) hs) fun D σ H ⟨F, ι, μ, ρ, hr, hen, hp⟩ =>
    lc_core_t (hT (At.e hr hen hp fun F1 ι1 μ1 H1 v d x1 r1 rv p1 => Post.pure (mg := X.mg) (E := E) (a := Fl.nx (ρ.set i (some d))) p1 r1 _ ((hen.ext x1).set rv i)))
end
end TL

/-! T layer: sum with a start that is a list or a tuple. -/
namespace TL
open PySem PySem.Spec PyProof.Rows L2 StX

theorem args_sum_two (a b : Value) : argsOk "sum" ⟨[a, b], []⟩ := by unfold argsOk; kernel_rfl
theorem sl_str : isSubtype (.type "list") (.type "str") = pure false := by rw [isSubtype_type]; kernel_rfl
theorem sl_bytes : isSubtype (.type "list") (.type "bytes") = pure false := by rw [isSubtype_type]; kernel_rfl
theorem sl_ba : isSubtype (.type "list") (.type "bytearray") = pure false := by rw [isSubtype_type]; kernel_rfl
theorem st_str : isSubtype (.type "tuple") (.type "str") = pure false := by rw [isSubtype_type]; kernel_rfl
theorem st_bytes : isSubtype (.type "tuple") (.type "bytes") = pure false := by rw [isSubtype_type]; kernel_rfl
theorem st_ba : isSubtype (.type "tuple") (.type "bytearray") = pure false := by rw [isSubtype_type]; kernel_rfl
abbrev Keep (h h' : Heap) : Prop := ∀ b o, h.get? b = some o → h'.get? b = some o
/-- the running total, and its step -/
structure SumSt (prog : Program) (w : World) (A : Around) (h0 : Heap) (I S : Addr) (items : Array Value) (Tot : Nat → Heap → Addr → Prop) : Prop where
  mono : ∀ i h h' q, Tot i h q → (∀ b o, b ≠ I → b ≠ S → h.get? b = some o → h'.get? b = some o) → Tot i h' q
  step : ∀ i (s : Shared) v q (Q : Value → Shared → Prop) (E : Value → Shared → Prop), items[i]? = some v → Keep h0 s.heap → S < s.heap.objs.size → Tot i s.heap q →
    (∀ h' q', Keep s.heap h' → Tot (i + 1) h' q' → Q (.ref q') { s with heap := h' }) → wpAny (model prog w) A (binaryOp .Add (.ref q) v) Q E s
section
variable {prog : Program} {w : World} {A : Around} {R : Result → Shared → Prop} {h0 : Heap} {I S a : Addr} {items : Array Value} {Tot : Nat → Heap → Addr → Prop}
theorem sum_loop2 (Z : SumSt prog w A.in1 h0 I S items Tot) (hh : A.in1.handled = none) (fI : h0.get? I = none) (fS : h0.get? S = none) (neS : S ≠ I) (hl : h0.IsList a items) :
    ∀ (k i : Nat) (s : Shared) (q : Addr) (c : Nat), items.size - i = k → i ≤ items.size → Keep h0 s.heap → s.heap.IsListIter I a i → s.heap.get? S = some { cls := .type "list", dict := none, data := .seq #[.ref q] c, slots := #[] } → Tot i s.heap q →
    (∀ h' q', Keep h0 h' → Tot items.size h' q' → R (.ok (.ret (.ref q'))) { s with heap := h' }) → codeAny (model prog w) A (.builtin "sum.loop" ⟨[.ref I, .ref S, rawInt 2, rawInt 0], []⟩) R s := by
  have hl' : ∀ {h : Heap}, Keep h0 h → h.IsList a items := fun {h} k => by
    obtain ⟨o, e, r⟩ := hl
    exact ⟨o, k _ _ e, r⟩
  intro k
  induction k with
  | zero =>
    intro i s q c hk hi kp hit hS hT hR
    have hin : i = items.size := by omega
    subst hin
    refine codeAny_builtin F.entry_sum_loop ?_
    rw [Around.under_plainId F.plain_sum_loop _]
    show wpAny _ A.in1 (seqItems? (.ref S) >>= _) _ _ s
    refine wpAny_bind (wpAny_seqItems hS rfl ?_)
    show wpAny _ A.in1 (tryCatch (pyNext (.ref I)) _ >>= _) _ _ s
    refine wpAny_bind (wpAny_tryCatch (wpAny_pyNext_list_end hh hit (hl' kp) (by simp) fun h' eb => ?_))
    have kI : ∀ b o, b ≠ I → b ≠ S → s.heap.get? b = some o → h'.get? b = some o := fun b o n1 _ e => eb b o n1 e
    exact wpAny_pure (hR h' q (fun b o e => eb b o (fun z => by rw [z, fI] at e; cases e) (kp b o e)) (Z.mono _ _ _ _ hT kI))
  | succ k ih =>
    intro i s q c hk hi kp hit hS hT hR
    have hlt : i < items.size := by omega
    have hx : items[i]? = some items[i] := Array.getElem?_eq_getElem hlt
    refine codeAny_builtin F.entry_sum_loop ?_
    rw [Around.under_plainId F.plain_sum_loop _]
    show wpAny _ A.in1 (seqItems? (.ref S) >>= _) _ _ s
    refine wpAny_bind (wpAny_seqItems hS rfl ?_)
    show wpAny _ A.in1 (tryCatch (pyNext (.ref I)) _ >>= _) _ _ s
    refine wpAny_bind (wpAny_tryCatch (wpAny_pyNext_list_item hit (hl' kp) hx fun h' hit' sb => ?_))
    have kp1 : Keep h0 h' := fun b o e => (sb.2 b (fun z => by rw [z, fI] at e; cases e)).trans (kp b o e)
    have hS1 : h'.get? S = some { cls := .type "list", dict := none, data := .seq #[.ref q] c, slots := #[] } := (sb.2 S neS).trans hS
    have hT1 : Tot i h' q := Z.mono _ _ _ _ hT fun b o n1 _ e => (sb.2 b n1).trans e
    have fin : ∀ (v : Value), items[i]? = some v → wpAny (model prog w) A.in1 ((holding [v] (binaryOp .Add (.ref q) v)).attempt >>= fun r => match r with
        | .ok r => (updateSeq S fun _ => #[r]) >>= fun _ => letGo [.ref q, v] >>= fun _ => (updateSeq S fun _ => #[r]) >>= fun _ => again (.builtin "sum.loop" ⟨[.ref I, .ref S, rawInt 2, rawInt 0], []⟩)
        | .error e => (updateSeq S fun _ => #[]) >>= fun _ => letGo [.ref q, v] [e] >>= fun _ => throw e) (fun fin s' => match fin with
      | .done f => R (.ok f) s'
      | .again c' => c'.quiet = true ∧ codeAny (model prog w) A c' R s') (fun e s' => R (.error e) s') { s with heap := h' } := fun v hv => by
      refine wpAny_bind (wpAny_attempt (wpAny_holding (Z.step i { s with heap := h' } v q _ _ hv kp1 (Heap.lt_size hS1) hT1 fun h2 q2 k2 hT2 => ?_)))
      have hS2 := k2 _ _ hS1
      refine wpAny_bind (wpAny_updateSeq hS2 rfl ?_)
      have hS3 := Heap.get?_update_self (Obj.mapSeq fun _ => #[Value.ref q2]) hS2 rfl
      refine wpAny_bind (wpAny_letGo ?_)
      refine wpAny_bind (wpAny_updateSeq hS3 rfl (wpAny_pure ⟨plainId_quiet F.plain_sum_loop _, ?_⟩))
      have oth : ∀ b o, b ≠ S → h2.get? b = some o → ((h2.update S (Obj.mapSeq fun _ => #[Value.ref q2])).update S (Obj.mapSeq fun _ => #[Value.ref q2])).get? b = some o := fun b o n e => (Heap.get?_update_other _ _ (Ne.symm n)).trans ((Heap.get?_update_other _ _ (Ne.symm n)).trans e)
      refine ih (i + 1) _ q2 _ (by omega) hlt (fun b o e => oth b o (fun z => by rw [z, fS] at e; cases e) (k2 _ _ (kp1 b o e))) (hit'.at fun o e => oth I o (Ne.symm neS) (k2 _ _ e)) (Heap.get?_update_self _ hS3 rfl) (Z.mono _ _ _ _ hT2 fun b o _ n e => oth b o n e) fun h3 q3 k3 t3 => hR h3 q3 k3 t3
    have e0 := fin items[i] hx
    cases hv : items[i] with
    | _ => rw [hv] at e0; exact e0
end

section
variable {prog : Program} {w : World} {A : Around} {E : Value → Shared → Prop} {s : Shared} {a q : Addr} {items : Array Value} {Q : Value → Shared → Prop} {T : String}
theorem call_sum2 (hh : A.in1.handled = none) (hl : s.heap.IsList a items) (hT : s.TypeIs (.ref q) T) (s1 : isSubtype (.type T) (.type "str") = pure false) (s2 : isSubtype (.type T) (.type "bytes") = pure false) (s3 : isSubtype (.type T) (.type "bytearray") = pure false)
    {Tot : Nat → Heap → Addr → Prop} (Z : SumSt prog w A.in1 s.heap s.heap.objs.size (s.heap.objs.size + 1) items Tot) (h0 : ∀ h', Keep s.heap h' → Tot 0 h' q)
    (hQ : ∀ h' q', Keep s.heap h' → Tot items.size h' q' → Q (.ref q') { s with heap := h' }) : wpAny (model prog w) A (call (.builtin "sum") [.ref a, .ref q]) Q E s := by
  refine call_function_tree F.kind_sum F.plain_sum F.entry_sum (args_sum_two _ _) ?_
  unfold Builtin.«sum»
  simp only [List.length_cons, List.length_nil]
  rw [if_neg (by decide)]
  refine wpAny_bind (wpAny_of_eq (show Builtin.Builtins.bindParams "sum" ["start"] 0 ⟨[Value.ref q], []⟩ = pure [some (Value.ref q)] from rfl) ?_)
  refine wpAny_bind ((begins_list a items).iter prog w _ _ s _ hl ?_)
  refine wpAny_bind (wpAny_pure ?_)
  have hT2 : ∀ {h' : Heap}, Keep s.heap h' → ({ s with heap := h' } : Shared).TypeIs (.ref q) T := fun {h'} k => by
    obtain ⟨o, e, c⟩ := hT
    exact ⟨o, k _ _ e, c⟩
  have k1 : Keep s.heap (s.heap.push { cls := .type "list_iterator", data := .fields #[.ref a, .int 0 0] }) := fun b o e => Heap.get?_push_of_some _ e
  simp only [List.forIn_cons, List.forIn_nil]
  refine wpAny_bind (wpAny_bind (wpAny_bind (wpAny_isInstance (T := T) (b := false) (hT2 k1) s1 ?_)))
  simp only [Bool.false_eq_true, if_false]
  refine wpAny_pure (wpAny_bind (wpAny_bind (wpAny_isInstance (T := T) (b := false) (hT2 k1) s2 ?_)))
  simp only [Bool.false_eq_true, if_false]
  refine wpAny_pure (wpAny_bind (wpAny_bind (wpAny_isInstance (T := T) (b := false) (hT2 k1) s3 ?_)))
  simp only [Bool.false_eq_true, if_false]
  refine wpAny_pure (wpAny_pure ?_)
  refine wpAny_bind (wpAny_newObj_type ?_)
  have fI : s.heap.get? s.heap.objs.size = none := by
    cases e : s.heap.get? s.heap.objs.size with
    | none => rfl
    | some o => exact absurd (Heap.lt_size e) (Nat.lt_irrefl _)
  have fS : s.heap.get? (s.heap.objs.size + 1) = none := by
    cases e : s.heap.get? (s.heap.objs.size + 1) with
    | none => rfl
    | some o => exact absurd (Nat.lt_of_succ_lt (Heap.lt_size e)) (Nat.lt_irrefl _)
  have sz : (s.heap.push { cls := .type "list_iterator", data := .fields #[.ref a, .int 0 0] }).objs.size = s.heap.objs.size + 1 := Heap.size_push ..
  refine wpAny_pure ⟨plainId_quiet F.plain_sum_loop _, ?_⟩
  show codeAny (model prog w) A (.builtin "sum.loop" ⟨[.ref s.heap.objs.size, .ref (s.heap.push { cls := .type "list_iterator", data := .fields #[.ref a, .int 0 0] }).objs.size, rawInt 2, rawInt 0], []⟩) _ _
  rw [sz]
  have k2 : Keep s.heap ((s.heap.push { cls := .type "list_iterator", data := .fields #[.ref a, .int 0 0] }).push { cls := .type "list", data := .seq #[.ref q] }) := fun b o e => Heap.get?_push_of_some _ (k1 b o e)
  have atI : (s.heap.push { cls := .type "list_iterator", data := .fields #[.ref a, .int 0 0] }).get? s.heap.objs.size = some { cls := .type "list_iterator", data := .fields #[.ref a, .int 0 0] } := Heap.get?_push_size _ rfl
  have atS := Heap.get?_push_size (s.heap.push { cls := .type "list_iterator", data := .fields #[.ref a, .int 0 0] }) (o := { cls := .type "list", data := .seq #[.ref q] }) rfl
  rw [sz] at atS
  exact sum_loop2 Z hh fI fS (Nat.succ_ne_self _) hl items.size 0 _ q _ (by omega) (Nat.zero_le _) k2 ⟨_, Heap.get?_push_of_some _ atI, rfl, rfl⟩ atS (h0 _ k2) hQ
end
/-- lists -/
def accV (xss : List (List Value)) : Nat → List Value
  | 0 => []
  | i + 1 => accV xss i ++ (xss[i]?).getD []
section
variable {prog : Program} {w : World} {A : Around} {q0 : Addr} {items : Array Value} {its0 : List Value} {xss : List (List Value)}
def TotL (h0 : Heap) (q0 : Addr) (its0 : List Value) (xss : List (List Value)) : Nat → Heap → Addr → Prop := fun i h q => (∃ n, IsL h q (its0 ++ accV xss i).toArray n) ∧ ((q = q0 ∧ accV xss i = []) ∨ h0.objs.size + 2 ≤ q)
theorem accV_le (xss : List (List Value)) : ∀ i j, i ≤ j → (accV xss i).length ≤ (accV xss j).length
  | i, 0, h => by
    have e : i = 0 := by omega
    subst e
    exact Nat.le_refl _
  | i, j + 1, h => by
    by_cases e : i = j + 1
    · subst e; exact Nat.le_refl _
    · refine Nat.le_trans (accV_le xss i j (by omega)) ?_
      show _ ≤ (accV xss j ++ _).length
      rw [List.length_append]
      omega
theorem sumL {h0 : Heap} (hq0 : ∃ n, IsL h0 q0 its0.toArray n) (hx : ∀ (i : Nat) (v : Value), items[i]? = some v → ∃ (b : Addr) (its : List Value) (n : Nat), v = Value.ref b ∧ xss[i]? = some its ∧ IsL h0 b its.toArray n) (hz : its0.length + (accV xss items.size).length ≤ sizeLine) :
    SumSt prog w A h0 h0.objs.size (h0.objs.size + 1) items (TotL h0 q0 its0 xss) where
  mono := fun i h h' q ⟨⟨n, e⟩, hq⟩ k => by
    refine ⟨⟨n, k q _ ?_ ?_ e⟩, hq⟩
    · rcases hq with ⟨rfl, _⟩ | hq
      · obtain ⟨n, e0⟩ := hq0
        exact Nat.ne_of_lt (Heap.lt_size e0)
      · exact fun z => absurd (show h0.objs.size + 2 ≤ h0.objs.size by rw [z] at hq; exact hq) (by omega)
    · rcases hq with ⟨rfl, _⟩ | hq
      · obtain ⟨n, e0⟩ := hq0
        exact Nat.ne_of_lt (Nat.lt_succ_of_lt (Heap.lt_size e0))
      · exact fun z => absurd (show h0.objs.size + 2 ≤ h0.objs.size + 1 by rw [z] at hq; exact hq) (by omega)
  step := fun i s v q Q E hv kp hS ⟨⟨n, e⟩, hq⟩ h => by
    obtain ⟨b, its, m, rfl, hi, hb⟩ := hx i v hv
    have hlt : i < items.size := (Array.getElem?_eq_some_iff.mp hv).1
    have z : (accV xss (i + 1)).length ≤ (accV xss items.size).length := accV_le xss _ _ hlt
    have z1 : accV xss (i + 1) = accV xss i ++ its := by show accV xss i ++ (xss[i]?).getD [] = _; rw [hi]; rfl
    rw [z1, List.length_append] at z
    refine PySem.P.add_list e (kp _ _ hb) ?_ (by simp only [List.size_toArray, List.length_append]; omega)
    refine h _ _ (fun b o e => Heap.get?_push_of_some _ e) ⟨⟨0, ?_⟩, .inr hS⟩
    have z2 : (its0 ++ accV xss i).toArray ++ its.toArray = (its0 ++ accV xss (i + 1)).toArray := by rw [z1]; simp
    rw [z2]
    exact Heap.get?_push_size _ rfl
def TotT (h0 : Heap) (its0 : List Value) (xss : List (List Value)) : Nat → Heap → Addr → Prop := fun i h q => IsTup h q (its0 ++ accV xss i).toArray ∧ (h0.get? q ≠ none ∨ h0.objs.size + 2 ≤ q)
theorem sumT {h0 : Heap} (hx : ∀ (i : Nat) (v : Value), items[i]? = some v → ∃ (b : Addr) (its : List Value), v = Value.ref b ∧ xss[i]? = some its ∧ IsTup h0 b its.toArray) (hz : its0.length + (accV xss items.size).length ≤ sizeLine) :
    SumSt prog w A h0 h0.objs.size (h0.objs.size + 1) items (TotT h0 its0 xss) where
  mono := fun i h h' q ⟨e, hq⟩ k => by
    obtain ⟨o, eo, r⟩ := e
    refine ⟨⟨o, k q _ ?_ ?_ eo, r⟩, hq⟩
    · rcases hq with hq | hq
      · cases e0 : h0.get? q with
        | none => exact (hq e0).elim
        | some o => exact Nat.ne_of_lt (Heap.lt_size e0)
      · exact fun z => absurd (show h0.objs.size + 2 ≤ h0.objs.size by rw [z] at hq; exact hq) (by omega)
    · rcases hq with hq | hq
      · cases e0 : h0.get? q with
        | none => exact (hq e0).elim
        | some o => exact Nat.ne_of_lt (Nat.lt_succ_of_lt (Heap.lt_size e0))
      · exact fun z => absurd (show h0.objs.size + 2 ≤ h0.objs.size + 1 by rw [z] at hq; exact hq) (by omega)
  step := fun i s v q Q E hv kp hS ⟨e, hq⟩ h => by
    obtain ⟨b, its, rfl, hi, hb⟩ := hx i v hv
    have hlt : i < items.size := (Array.getElem?_eq_some_iff.mp hv).1
    have z : (accV xss (i + 1)).length ≤ (accV xss items.size).length := accV_le xss _ _ hlt
    have z1 : accV xss (i + 1) = accV xss i ++ its := by show accV xss i ++ (xss[i]?).getD [] = _; rw [hi]; rfl
    rw [z1, List.length_append] at z
    obtain ⟨ob, eb, rb⟩ := hb
    have hb' : IsTup s.heap b its.toArray := ⟨ob, kp _ _ eb, rb⟩
    by_cases h1 : its0 ++ accV xss i = []
    · have hb2 : h0.get? b ≠ none := fun z => by rw [z] at eb; cases eb
      have e2 : IsTup s.heap q ([] : List Value).toArray := by rw [h1] at e; exact e
      refine cat_tup0 e2 hb' (h s.heap b (fun _ _ q => q) ⟨?_, .inl hb2⟩)
      rw [z1, ← List.append_assoc, h1, List.nil_append]
      exact hb'
    · refine HT.cat_tup e hb' h1 (fun h2 => h s.heap q (fun _ _ q => q) ⟨?_, hq⟩) (fun h2 => h _ _ (fun b o e => Heap.get?_push_of_some _ e) ⟨?_, .inr hS⟩) (by rw [List.length_append]; omega)
      · rw [z1, h2, List.append_nil]; exact e
      · rw [z1, ← List.append_assoc]; exact IsTup.new _ _
end

theorem accV_take (iss : List (List Value)) : ∀ i, i ≤ iss.length → accV iss i = (iss.take i).flatten
  | 0, _ => by simp [accV]
  | i + 1, h => by
    show accV iss i ++ (iss[i]?).getD [] = _
    rw [accV_take iss i (by omega), List.take_add_one, List.flatten_append, List.getElem?_eq_getElem (by omega)]
    simp
theorem accV_all (iss : List (List Value)) : accV iss iss.length = iss.flatten := by rw [accV_take iss _ (Nat.le_refl _), List.take_length]
def lstsOf : List T → Option (List (List T))
  | [] => some []
  | .lst xs :: r => (lstsOf r).map (xs :: ·)
  | _ => none
def tupsOf : List T → Option (List (List T))
  | [] => some []
  | .tup xs :: r => (tupsOf r).map (xs :: ·)
  | .ftp xs :: r => (tupsOf r).map (xs :: ·)
  | _ => none
def gSum2 : List T → M T
  | [d, e] => M.bind (ld d) fun d => match listOf d, e with
    | some ds, .lst ys => (match lstsOf ds with
      | some xss => bif fits (ys.length + xss.flatten.length) then M.pure (.lst (ys ++ xss.flatten)) else M.no
      | none => M.no)
    | _, _ => M.no
  | _ => M.no
section
variable {X : Cx} {E : XK} {pins : List (Addr × Obj)} {σ : L2.St} {H : Hp} {s : Shared} {F : Hp} {ι : List Addr} {μ : Store}
theorem items_lst (I : Inv X pins σ H s) (hr : Rel X.K F ι μ H) : ∀ {vs : List V} {ds : List T} {us : List Value} {xss : List (List T)}, Rps X.K F ι vs ds → lstsOf ds = some xss → Vals vs us →
    ∃ (iss : List (List Value)) (ws : List V), iss.length = us.length ∧ (∀ (i : Nat) (u : Value), us[i]? = some u → ∃ (b : Addr) (its : List Value) (n : Nat), u = Value.ref b ∧ iss[i]? = some its ∧ IsL s.heap b its.toArray n) ∧ Vals ws iss.flatten ∧ Rps X.K F ι ws xss.flatten
  | _, _, _, xss, .nil, h, .nil => by
    cases h
    exact ⟨[], [], rfl, fun i u e => by simp at e, .nil, .nil⟩
  | _, _, _, xss, .cons (d := d) r t, h, .cons ru rt => by
    cases d with
    | lst xs =>
      simp only [lstsOf, Option.map_eq_some_iff] at h
      obtain ⟨xr, h1, rfl⟩ := h
      obtain ⟨iss, ws, hl, hi, hv, hp⟩ := items_lst I hr t h1 rt
      cases r with
      | lst ha ra =>
        obtain ⟨z, its, n, rv, e⟩ := I.hok _ _ (hr.sub _ _ ha)
        cases ru
        refine ⟨its :: iss, _ ++ ws, by simp [hl], fun i u e' => ?_, by rw [List.flatten_cons]; exact rv.append hv, by rw [List.flatten_cons]; exact ra.append hp⟩
        cases i with
        | zero => simp at e'; subst e'; exact ⟨_, its, n, rfl, rfl, e⟩
        | succ i => simp only [List.getElem?_cons_succ] at e' ⊢; exact hi i u e'
    | _ => cases h
theorem items_tup (I : Inv X pins σ H s) (hr : Rel X.K F ι μ H) : ∀ {vs : List V} {ds : List T} {us : List Value} {xss : List (List T)}, Rps X.K F ι vs ds → tupsOf ds = some xss → Vals vs us →
    ∃ (iss : List (List Value)) (ws : List V), iss.length = us.length ∧ (∀ (i : Nat) (u : Value), us[i]? = some u → ∃ (b : Addr) (its : List Value), u = Value.ref b ∧ iss[i]? = some its ∧ IsTup s.heap b its.toArray) ∧ Vals ws iss.flatten ∧ Rps X.K F ι ws xss.flatten
  | _, _, _, xss, .nil, h, .nil => by
    cases h
    exact ⟨[], [], rfl, fun i u e => by simp at e, .nil, .nil⟩
  | _, _, _, xss, .cons (d := d) r t, h, .cons ru rt => by
    have go : ∀ {a : Addr} {us1 : List V} {xs : List T} {v : V} {u0 : Value} {us : List Value} {vs : List V} {ds : List T} {xr : List (List T)}, SqT X.K H a us1 → Rps X.K F ι us1 xs → RelV (.ref a) u0 → Rps X.K F ι vs ds → tupsOf ds = some xr → Vals vs us →
        (∃ (iss : List (List Value)) (ws : List V), iss.length = us.length ∧ (∀ (i : Nat) (u : Value), us[i]? = some u → ∃ (b : Addr) (its : List Value), u = Value.ref b ∧ iss[i]? = some its ∧ IsTup s.heap b its.toArray) ∧ Vals ws iss.flatten ∧ Rps X.K F ι ws xr.flatten) →
        ∃ (iss : List (List Value)) (ws : List V), iss.length = (u0 :: us).length ∧ (∀ (i : Nat) (u : Value), (u0 :: us)[i]? = some u → ∃ (b : Addr) (its : List Value), u = Value.ref b ∧ iss[i]? = some its ∧ IsTup s.heap b its.toArray) ∧ Vals ws iss.flatten ∧ Rps X.K F ι ws (xs :: xr).flatten :=
      fun {a us1 xs v u0 us vs ds xr} sq ra ru t h1 rt ⟨iss, ws, hl, hi, hv, hp⟩ => by
        obtain ⟨its, rv, e, z⟩ := I.tuple sq
        cases ru
        refine ⟨its :: iss, _ ++ ws, by simp [hl], fun i u e' => ?_, by rw [List.flatten_cons]; exact rv.append hv, by rw [List.flatten_cons]; exact ra.append hp⟩
        cases i with
        | zero => simp at e'; subst e'; exact ⟨_, its, rfl, rfl, e⟩
        | succ i => simp only [List.getElem?_cons_succ] at e' ⊢; exact hi i u e'
    cases d with
    | tup xs =>
      simp only [tupsOf, Option.map_eq_some_iff] at h
      obtain ⟨xr, h1, rfl⟩ := h
      cases r with
      | tup ha ra => exact go (v := .non) (SqT.of (hr.sub _ _ ha)) ra ru t h1 rt (items_tup I hr t h1 rt)
    | ftp xs =>
      simp only [tupsOf, Option.map_eq_some_iff] at h
      obtain ⟨xr, h1, rfl⟩ := h
      cases r with
      | ftp ha ra => exact go (v := .non) (hr.sub.sub.seqT ha) ra ru t h1 rt (items_tup I hr t h1 rt)
    | _ => cases h
end
section
variable {X : Cx} {E : XK} {k : Nat}
theorem c_sum2 (o : XO X E k) : CallD X E (.builtin "sum") gSum2 := by
  intro pins s σ H xs us Q I rv ⟨F, ι, μ, ds, hr, rs, hp⟩
  unfold gSum2 at hp
  split at hp
  · rename_i d e
    cases rs with
    | cons r1 t =>
      cases t with
      | cons r2 t =>
        cases t
        obtain ⟨d', lx, hp⟩ := ld_post hr r1 hp
        obtain ⟨u1, u2, rfl, ru1, ru2⟩ := vals2 rv
        have seq : ∀ {es : List T}, listOf d' = some es → ∃ a vs its, (u1 = Value.ref a) ∧ Vals vs its ∧ s.heap.IsList a its.toArray ∧ Rps X.K F ι vs es := fun {es} h => by
          cases lx with
          | lst ha ra =>
            cases h
            obtain ⟨its, r, p, _⟩ := I.list (SqL.of ha)
            cases ru1
            exact ⟨_, _, its, rfl, r, p.isList, ra⟩
          | fls ha ra =>
            cases h
            obtain ⟨its, r, p, _⟩ := I.list (hr.sub.sub.seqL ha)
            cases ru1
            exact ⟨_, _, its, rfl, r, p.isList, ra⟩
          | _ => cases h
        have hh : X.A.in1.handled = none := I.ok.hd o.calm
        cases hd : listOf d' with
        | none => rw [hd] at hp; exact hp.elim
        | some es =>
          rw [hd] at hp
          cases e with
          | lst ys =>
            simp only at hp
            obtain ⟨a, vs, its, rfl, rvs, hl, res⟩ := seq hd
            cases hx : lstsOf es with
            | none => rw [hx] at hp; exact hp.elim
            | some xss =>
              rw [hx] at hp
              simp only at hp
              cases hz : fits (ys.length + xss.flatten.length) with
              | false => rw [hz] at hp; exact hp.elim
              | true =>
                rw [hz] at hp
                have hp : Post X.K X.mg E (M.pure (T.lst (ys ++ xss.flatten)) μ) F ι H (wT X.K Q) := hp
                obtain ⟨iss, ws, hl2, hi, hv, hws⟩ := items_lst I hr res hx rvs
                cases r2 with
                | lst hb rb =>
                  cases ru2
                  obtain ⟨z0, its0, n0, r0, e0⟩ := I.hok _ _ (hr.sub _ _ hb)
                  have sz : its.toArray.size = iss.length := by simp [hl2]
                  have hlen : its0.length + (accV iss its.toArray.size).length ≤ sizeLine := by
                    rw [sz, accV_all, ← r0.length, ← hv.length, hws.length, rb.length]
                    exact fits_le hz
                  refine call_sum2 hh hl (T := "list") ⟨_, e0, rfl⟩ sl_str sl_bytes sl_ba (sumL ⟨n0, e0⟩ (fun i v hiv => hi i v (by simpa using hiv)) hlen) (fun h' kp => ⟨⟨n0, by simpa [accV] using kp _ _ e0⟩, .inl ⟨rfl, rfl⟩⟩) fun h' q' kp ⟨⟨n, e⟩, hq⟩ => ?_
                  rw [sz, accV_all] at e hq
                  rcases hq with ⟨rfl, hq⟩ | hq
                  · refine ⟨.ref q', H, I.kept (t' := s.toks) kp, rfl, ?_⟩
                    have e1 : ws = [] := by
                      have := hv.length
                      rw [hq] at this
                      exact List.length_eq_zero_iff.mp this
                    have e2 : xss.flatten = [] := by
                      have := hws.length
                      rw [e1] at this
                      exact List.length_eq_zero_iff.mp this.symm
                    rw [e2, List.append_nil] at hp
                    exact Post.pure hp hr _ (.lst hb rb)
                  · have nq : H q' = none := I.hok.fresh (by omega)
                    obtain ⟨x2, rr2⟩ := hr.newF (u := .lst (_ ++ ws)) nq (fun a z => upd_ne z) upd_same
                    refine ⟨.ref q', upd H q' (.lst (_ ++ ws)), I.laid (t' := s.toks) (o := .lst (_ ++ ws)) kp (by omega) ?_, rfl, hp _ _ _ x2 rr2 _ (.lst upd_same ((rb.append hws).ext x2))⟩
                    rw [sz, accV_all, ← r0.length, ← hv.length] at hlen
                    exact ⟨by rw [List.length_append]; exact hlen, _, n, r0.append hv, e⟩
          | _ => exact hp.elim
  · exact hp.elim
end
end TL

/-! T layer 11: repr, sorted. -/
namespace TL
open PySem PySem.Spec PyProof.Rows L2 StX

/-! ### repr -/
mutual
theorem okT_noDict : ∀ d : T, okT d = true → (toD d).hasDict = false
  | .non, _ => by simp [toD, PyData.hasDict]
  | .bl _, _ => by simp [toD, PyData.hasDict]
  | .int _, _ => by simp [toD, PyData.hasDict]
  | .str _, _ => by simp [toD, PyData.hasDict]
  | .lst xs, h => by simp only [toD, PyData.hasDict]; exact okTs_noDict xs (by simpa [okT] using h)
  | .fls xs, h => by simp only [toD, PyData.hasDict]; exact okTs_noDict xs (by simpa [okT] using h)
  | .tup xs, h => by simp only [toD, PyData.hasDict]; exact okTs_noDict xs (by simpa [okT] using h)
  | .ftp xs, h => by simp only [toD, PyData.hasDict]; exact okTs_noDict xs (by simpa [okT] using h)
  | .dic _ _, h => by simp [okT] at h
  | .cell _, h => by simp [okT] at h
  | .ref _, h => by simp [okT] at h
  | .ty _, h => by simp [okT] at h
theorem okTs_noDict : ∀ ds : List T, okTs ds = true → PyData.hasDictAll (toDs ds) = false
  | [], _ => by simp [toDs, PyData.hasDictAll]
  | x :: xs, h => by
    have h' : okT x = true ∧ okTs xs = true := by simpa [okTs] using h
    simp only [toDs, PyData.hasDictAll, Bool.or_eq_false_iff]
    exact ⟨okT_noDict x h'.1, okTs_noDict xs h'.2⟩
end
def reprOk (d : T) : Bool := shp d && (toD d).showable && fits (toD d).shown.length
def isRef : T → Bool
  | .lst _ => true
  | .fls _ => true
  | .tup _ => true
  | .ftp _ => true
  | _ => false
def gRepr : T → M T := fun d => bif reprOk d then M.pure (.str (toD d).shown) else M.no
section
variable {X : Cx} {E : XK} {k : Nat}
theorem c_repr (o : XO X E k) : CallD X E (.builtin "repr") (g1 gRepr) := .one fun pins s σ H x us Q F ι μ d I rv hr lx hp => by
  unfold gRepr at hp
  cases hz : reprOk d with
  | false => rw [hz] at hp; exact hp.elim
  | true =>
    rw [hz] at hp
    have hz := hz
    unfold reprOk at hz
    rw [Bool.and_eq_true, Bool.and_eq_true] at hz
    obtain ⟨⟨h1, h2⟩, h3⟩ := hz
    obtain ⟨u, rfl, ru⟩ := vals1 rv
    obtain ⟨as, r⟩ := Dp.reads I _ x u (lx.dp hr.sub (shp_ok h1)) ru
    have hdep : (toD d).depth ≤ 64 := by
      unfold shp at h1
      rw [Bool.and_eq_true] at h1
      exact of_decide_eq_true h1.2
    have fin : ∀ (h' : Heap) (t : Tok) (tk : Nat), (∀ b o, s.heap.get? b = some o → h'.get? b = some o) → EP X pins σ Q (.str (toD d).shown t) { s with heap := h', toks := tk } := fun h' t tk kp => ⟨.str (toD d).shown, H, I.kept (t' := tk) kp, ⟨_, rfl⟩, Post.pure hp hr _ (.str _)⟩
    have go : ∀ a, u = Value.ref a → wpAny (model X.prog X.w) X.A (call (.builtin "repr") [u]) (EP X pins σ Q) X.xe s := fun a ea => by
      subst ea
      exact repr_of_reads' r h2 (fun z => by rw [okT_noDict d (shp_ok h1)] at z; cases z) o.gd (by have := o.room.un; omega) (fun _ _ q => q) (fun h' u tk kp => fin h' u tk kp) (fits_le h3)
    cases lx with
    | non =>
      cases ru
      refine PySem.P.repr_of_none ?_
      have e : (toD .non).shown = ("None" : Str) := by simp [toD, PyData.shown]
      have q := fin s.heap s.toks (s.toks + 1) fun _ _ z => z
      rw [e] at q
      exact q
    | bl b =>
      cases ru
      refine PySem.P.repr_of_bool ?_
      have e : (toD (.bl b)).shown = (if b then "True" else "False" : Str) := by simp [toD, PyData.shown]
      have q := fin s.heap s.toks (s.toks + 1) fun _ _ z => z
      rw [e] at q
      exact q
    | int i =>
      obtain ⟨t, rfl⟩ := ru
      refine PySem.P.repr_of_int (by simpa [toD, PyData.showable] using h2) ?_
      have e : (toD (.int i)).shown = Str.ofString (toString i) := by simp only [toD, PyData.shown]
      have q := fin s.heap s.toks (s.toks + 1) fun _ _ z => z
      rw [e] at q
      exact q
    | str z =>
      obtain ⟨t, rfl⟩ := ru
      have e : (toD (.str z)).shown = reprText z := by simp only [toD, PyData.shown]
      refine PySem.P.repr_of_str ?_ (by rw [← e]; exact fits_le h3)
      have q := fin s.heap s.toks (s.toks + 1) fun _ _ z => z
      rw [e] at q
      exact q
    | lst ha ra => cases ru; exact go _ rfl
    | fls ha ra => cases ru; exact go _ rfl
    | tup ha ra => cases ru; exact go _ rfl
    | ftp ha ra => cases ru; exact go _ rfl
    | dic _ _ => have := shp_ok h1; simp [okT] at this
    | dit _ _ => have := shp_ok h1; simp [okT] at this
    | ref a => have := shp_ok h1; simp [okT] at this
    | ty n => have := shp_ok h1; simp [okT] at this
end

/-! ### sorted -/
def leT (d e : T) : Bool := !PySem.W.dataLt (toD e) (toD d)
def neTup : T → Bool
  | .tup (_ :: _) => true
  | .ftp (_ :: _) => true
  | _ => false
def noTup : T → Bool
  | .tup _ => false
  | .ftp _ => false
  | .non => false
  | _ => true
def alikeTs (ds : List T) : Bool := ds.all fun x => ds.all fun y => PySem.W.alike (toD x) (toD y)
def srtOk (ds : List T) : Bool := ds.all (fun d => shp d) && alikeTs ds && (ds.all neTup || ds.all noTup) && fits ds.length
def gSort (ds : List T) : M (List T) := bif srtOk ds then M.pure (ds.mergeSort leT) else M.no
def gSorted : List T → M (List T)
  | [d] => M.bind (ld d) fun d => match listOf d with
    | some ds => gSort ds
    | none => M.no
  | _ => M.no
theorem each_of {K : PySem.W.Frag} {F : Hp} {ι : List Addr} : ∀ {vs : List V} {us : List Value} {ds : List T}, Vals vs us → Rps K F ι vs ds → PySem.W.EachIs (fun u d => ∃ v, RelV v u ∧ Rp K F ι v d) us ds
  | _, _, _, .nil, .nil => .nil
  | _, _, _, .cons r t, .cons q s => .cons ⟨_, r, q⟩ (each_of t s)
theorem each_back {K : PySem.W.Frag} {F : Hp} {ι : List Addr} : ∀ {us : List Value} {ds : List T}, PySem.W.EachIs (fun u d => ∃ v, RelV v u ∧ Rp K F ι v d) us ds → ∃ vs, Vals vs us ∧ Rps K F ι vs ds
  | _, _, .nil => ⟨[], .nil, .nil⟩
  | _, _, .cons ⟨v, r, q⟩ t => by
    obtain ⟨vs, a, b⟩ := each_back t
    exact ⟨v :: vs, .cons r a, .cons q b⟩
section
variable {X : Cx} {E : XK} {k : Nat}
theorem c_sorted (o : XO X E k) : CallL X E (.builtin "sorted") gSorted := by
  intro pins s σ H xs us Q I rv ⟨F, ι, μ, ds, hr, rs, hp⟩
  unfold gSorted at hp
  split at hp
  · cases rs with
    | cons r1 t =>
      cases t
      obtain ⟨d', lx, hp⟩ := ld_post hr r1 hp
      obtain ⟨u1, rfl, ru1⟩ := vals1 rv
      cases hd : listOf d' with
      | none => rw [hd] at hp; exact hp.elim
      | some es =>
        rw [hd] at hp
        simp only [gSort] at hp
        obtain ⟨a, vs, its, rfl, rvs, hl, res⟩ : ∃ a vs its, (u1 = Value.ref a) ∧ Vals vs its ∧ s.heap.IsList a its.toArray ∧ Rps X.K F ι vs es := by
          cases lx with
          | lst ha ra =>
            cases hd
            obtain ⟨its, r, p, _⟩ := I.list (SqL.of ha)
            cases ru1
            exact ⟨_, _, its, rfl, r, p.isList, ra⟩
          | fls ha ra =>
            cases hd
            obtain ⟨its, r, p, _⟩ := I.list (hr.sub.sub.seqL ha)
            cases ru1
            exact ⟨_, _, its, rfl, r, p.isList, ra⟩
          | _ => cases hd
        cases hz : srtOk es with
        | false => rw [hz] at hp; exact hp.elim
        | true =>
          rw [hz] at hp
          have hp : Post X.K X.mg E (M.pure (es.mergeSort leT) μ) F ι H _ := hp
          unfold srtOk at hz
          rw [Bool.and_eq_true, Bool.and_eq_true, Bool.and_eq_true] at hz
          obtain ⟨⟨⟨h1, h2⟩, h3⟩, h4⟩ := hz
          have shp1 : ∀ d ∈ es, shp d = true := fun d hd => List.all_eq_true.mp h1 d hd
          have er : PySem.W.EachIs (fun u d => ∃ as, Reads s.heap u (toD d) as) its es := by
            have go : ∀ {vs : List V} {us : List Value} {ds : List T}, Vals vs us → Rps X.K F ι vs ds → (∀ d ∈ ds, shp d = true) → PySem.W.EachIs (fun u d => ∃ as, Reads s.heap u (toD d) as) us ds := by
              intro vs us ds a
              induction a generalizing ds with
              | nil => intro b _; cases b; exact .nil
              | cons r t ih =>
                intro b h
                cases b with
                | cons q s => exact .cons (Dp.reads I _ _ _ (q.dp hr.sub (shp_ok (h _ List.mem_cons_self))) r) (ih s fun d hd => h d (List.mem_cons_of_mem _ hd))
            exact go rvs res shp1
          refine PySem.W.sorted_data (enc := toD) hl (each_of rvs res) er ?_ ?_ (fits_le h4) ?_ ?_
          · intro x hx y hy
            obtain ⟨b, hb, rfl⟩ := List.mem_map.mp hx
            obtain ⟨c, hc, rfl⟩ := List.mem_map.mp hy
            exact List.all_eq_true.mp (List.all_eq_true.mp h2 b hb) c hc
          · rw [Bool.or_eq_true] at h3
            rcases h3 with h3 | h3
            · refine .inl fun d hd => ?_
              obtain ⟨b, hb, rfl⟩ := List.mem_map.mp hd
              have q := List.all_eq_true.mp h3 b hb
              unfold neTup at q
              split at q
              · exact ⟨_, _, by simp only [toD, toDs]; rfl⟩
              · exact ⟨_, _, by simp only [toD, toDs]; rfl⟩
              · cases q
            · refine .inr fun d hd => ?_
              obtain ⟨b, hb, rfl⟩ := List.mem_map.mp hd
              have q := List.all_eq_true.mp h3 b hb
              have ok := shp_ok (shp1 b hb)
              unfold noTup at q
              split at q
              · cases q
              · cases q
              · cases q
              · cases b <;> simp_all [toD, okT]
          · intro b hb
            have h := shp1 b hb
            unfold shp at h
            rw [Bool.and_eq_true] at h
            have h5 : (toD b).depth ≤ 64 := of_decide_eq_true h.2
            have := o.room.un
            omega
          · intro out ho eo
            obtain ⟨ws, rw1, rw2⟩ := each_back eo
            obtain ⟨c, hc⟩ := sortedAll_at s.heap its out.toArray
            have nq : H (s.heap.objs.size + 1) = none := I.hok.fresh (Nat.le_succ _)
            have rw3 : Rps X.K F ι ws (es.mergeSort leT) := rw2
            refine ⟨.ref (s.heap.objs.size + 1), upd H (s.heap.objs.size + 1) (.lst ws), I.laid (t' := s.toks) (o := .lst ws) (fun b o e => sortedAll_old e) (Nat.le_succ _) ?_, rfl,
              hp F ι H (.refl ..) hr _ ws _ (fun a z => upd_ne z) nq upd_same rw3⟩
            exact ⟨by rw [rw1.length, ho]; exact fits_le h4, _, c, rw1, hc⟩
  · exact hp.elim
end
end TL

/-! T layer, the end: from the law's mirror to the statement. -/
namespace TL
open PySem PySem.Spec PyProof.Rows L2 StX

def scriptT (ns : List Int) : T := .fls (ns.map T.int)
theorem rps_ints {K : PySem.W.Frag} {F : Hp} {ι : List Addr} : ∀ ns : List Int, Rps K F ι (ns.map V.int) (ns.map T.int)
  | [] => .nil
  | n :: ns => .cons (.int n) (rps_ints ns)
section
variable {P : Program} {w : World} {K : PySem.W.Frag} {mg mb : Str → Option Value} {k : Nat} {fa a : Addr} {fd : FuncData} {x : Str} {m : List T → M T} {t : Shared} {vs : List Value} {ns : List Int} {G : Hp}
/-- the law is called where G is tracked: the script at most -/
theorem top_call (kin : K.In t.heap) (gl : t.heap.Ns mainGlobals mg) (bl : t.heap.Ns builtinsNs mb) (bb : ∀ y : Str, y ≠ "__name__" → mb y = bootBuiltins y) (nl : t.heap.NoLimit) (g0 : t.gens = #[]) (obj : t.heap.get? a = some { cls := .type "list", data := .seq vs.toArray })
    (rm : Room k callerA) (D : ∀ b : Heap, K.In b → b.Ns mainGlobals mg → FnG P w K mg b k fa fd [x] m) (bi : ∀ (s : Shared) (u : Value), BindsTo s fd ⟨[u], []⟩ [(x, u)]) (ans : ∃ μ, m [scriptT ns] [] = .ok (.bl true) μ)
    (gok : HOk P w G t.heap) (ga : ∀ b u, G b = some u → b = a ∧ K.lookup b = none ∧ ∃ o xs, u = .frz o (.lst xs)) (gs : SqL K G a (ns.map V.int)) :
    codeAny (model P w) callerA (.call (.ref fa) ⟨[.ref a], []⟩) (fun r z => r = .ok (.ret (.bool true)) ∧ PySem.OldK t.heap z.heap ∧ z.os = t.os ∧ AllBare z.gens) t := by
  have free : ∀ {b : Addr} {o : Obj}, t.heap.get? b = some o → G b = none → (hidT t.heap G).get? b = some o := fun e n => hidT_get e n
  have noG : ∀ {b : Addr}, (∀ u, G b = some u → False) → G b = none := fun {b} h => by
    cases q : G b with
    | none => rfl
    | some u => exact (h u q).elim
  have ns1 : ∀ {b : Addr} {q : Str → Option Value}, t.heap.Ns b q → (hidT t.heap G).Ns b q := fun {b q} ⟨o, es, ep, e, d, r⟩ =>
    ⟨o, es, ep, free e (noG fun u g => by
      obtain ⟨rfl, _⟩ := ga b u g
      rw [obj] at e
      cases e
      cases (show Data.seq vs.toArray _ = Data.dict es ep from d)), d, r⟩
  have kin1 : K.In (hidT t.heap G) := fun b o e => free (kin b o e) (noG fun u g => by
    obtain ⟨_, z, _⟩ := ga b u g
    rw [z] at e
    cases e)
  obtain ⟨mc, l1, l2⟩ := nl
  have e0 : Env0 P w K mg (hidT t.heap G) callerA [] t G := ⟨rfl, ⟨kin1, ns1 gl, ⟨mb, ns1 bl, bb⟩, ⟨mc, ns1 l1, l2⟩⟩, fun b o e => of_hidT e, Nat.le_of_eq (hidT_size _ _), trivial, fun b hb => (nomatch hb), gok, .of_eq g0⟩
  obtain ⟨μ, ans⟩ := ans
  have rel : Rel K G [] [] G := ⟨fun _ _ e => e, List.nodup_nil, rfl, fun k a c e _ => by simp at e⟩
  refine codeAny_mono (D _ kin1 (ns1 gl) callerA [] t G ⟨[.ref a], []⟩ [.ref a] [.ref a] (fun v _ => v = .bl true) EF G [] [] [scriptT ns] rm rfl e0 (bi t (.ref a)) (.cons rfl .nil) rfl rel (.cons (.fls gs (rps_ints ns)) .nil) ?_) fun r z h => ?_
  · rw [ans]
    exact fun F' ι' H' _ _ v rv => by cases rv; rfl
  · rcases r with e | fl
    · obtain ⟨_, _, _, _, _, _, _, _, _, _, _, _, z⟩ := h
      exact False.elim z
    · cases fl with
      | ret u =>
        obtain ⟨v, G', os, bare, un, gok', rv, rfl⟩ := h
        obtain rfl : u = Value.bool true := rv
        refine ⟨rfl, OldK.of_keep fun b o e => ?_, os, bare⟩
        cases q : G b with
        | none => exact un.keep b o e q (fun z => nomatch z) (by simp)
        | some u =>
          obtain ⟨_, _, ob, xs, rfl⟩ := ga b u q
          have g2 := un.frzs b ob _ q
          obtain ⟨e1, _⟩ := gok b _ q
          obtain ⟨e2, _⟩ := gok' b _ g2
          rw [e] at e1
          cases e1
          exact e2
      | next => exact False.elim h
      | brk => exact False.elim h
      | cont => exact False.elim h
theorem top_any (kin : K.In t.heap) (gl : t.heap.Ns mainGlobals mg) (bl : t.heap.Ns builtinsNs mb) (bb : ∀ y : Str, y ≠ "__name__" → mb y = bootBuiltins y) (nl : t.heap.NoLimit) (g0 : t.gens = #[]) (obj : t.heap.get? a = some { cls := .type "list", data := .seq vs.toArray })
    (ia : IntsAre vs ns) (sz : ns.length ≤ sizeLine) (rm : Room k callerA) (D : ∀ b : Heap, K.In b → b.Ns mainGlobals mg → FnG P w K mg b k fa fd [x] m) (bi : ∀ (s : Shared) (u : Value), BindsTo s fd ⟨[u], []⟩ [(x, u)]) (ans : ∃ μ, m [scriptT ns] [] = .ok (.bl true) μ) :
    codeAny (model P w) callerA (.call (.ref fa) ⟨[.ref a], []⟩) (fun r z => r = .ok (.ret (.bool true)) ∧ PySem.OldK t.heap z.heap ∧ z.os = t.os ∧ AllBare z.gens) t := by
  have rv := vals_ints ia
  have nl2 : ns.length = vs.length := by simpa using rv.length
  cases hk : K.lookup a with
  | some o =>
    have e := kin a o hk
    rw [obj] at e
    cases e
    exact top_call (G := fun _ => none) kin gl bl bb nl g0 obj rm D bi ans (fun _ _ z => nomatch z) (fun _ _ z => nomatch z) (.inr ⟨_, vs.toArray, _, hk, rfl, rfl, rfl, by rw [List.size_toArray, ← nl2]; exact sz, by simpa using rv⟩)
  | none =>
    refine top_call (G := upd (fun _ => none) a (.frz { cls := .type "list", data := .seq vs.toArray } (.lst (ns.map V.int)))) kin gl bl bb nl g0 obj rm D bi ans (fun b u z => ?_) (fun b u z => ?_) (.inl (.inr ⟨_, upd_same⟩))
    · by_cases hb : b = a
      · subst hb
        rw [upd_same] at z
        cases z
        exact ⟨obj, by rw [List.length_map]; exact sz, vs, _, rv, obj⟩
      · rw [upd_ne hb] at z
        cases z
    · by_cases hb : b = a
      · subst hb
        rw [upd_same] at z
        cases z
        exact ⟨rfl, hk, _, _, rfl⟩
      · rw [upd_ne hb] at z
        cases z
end
/-- the goal behind the head -/
theorem walk_T {l : PySem.W.OpenLaw} {n k : Nat} {q : Program} {loose : List Str} {XP : (Str → Option Value) → Heap → Prop} {YP : World → Heap → Prop} {d : DefRec} {K : Params → PySem.W.Frag} {x : Str} {m : List T → M T}
    (hn : l.most = some n) (hn2 : n ≤ sizeLine) (hdf : d.params.defaults = []) (rm : Room k callerA) (hY : ∀ (w : World) (h : Heap), YP w h → (K w.params).In h)
    (D : ∀ (w : World) (mg : Str → Option Value) (fa : Addr) (h : Heap), (K w.params).In h → h.Ns mainGlobals mg → mg d.name = some (.ref fa) →
      ∃ fd : FuncData, (∀ (s : Shared) (u : Value), BindsTo s fd ⟨[u], []⟩ [(x, u)]) ∧ ∀ b : Heap, (K w.params).In b → b.Ns mainGlobals mg → FnG l.prog w (K w.params) mg b k fa fd [x] m)
    (ans : ∀ ns : List Int, ns.length ≤ n → (∀ z ∈ ns, Builtin.Int.intBits z ≤ 1048576) → ∃ μ, m [scriptT ns] [] = .ok (.bl true) μ) : PySem.W.WalkO q loose XP YP l.row.toRowW d [] (fun f vs => PySem.call f vs) := by
  refine Att.attach_callB hn hdf fun w _ t mg mb fa _ _ _ _ a vs ns G Y _ _ _ hmg obj ia len bits g0 => ?_
  obtain ⟨fd, bi, D'⟩ := D w mg fa _ (hY w _ Y) G.T.g hmg
  exact top_any (hY w _ Y) G.T.g G.T.b G.T.builtins G.T.nolimit g0 obj ia (Nat.le_trans len hn2) rm D' bi (ans ns len bits)
end TL

/-! Plain layer 1: how a mirror is run. -/
namespace TL
open PySem PySem.Spec PyProof.Rows L2 StX

def R.bind {α β : Type} (r : R α) (k : α → M β) : R β := match r with
  | .ok a μ => k a μ
  | .err e μ => .err e μ
  | .no => .no
section
variable {α β : Type} {μ : Store} {ρ : Env} {a b c d : T} {ds es : List T} {i j : Int}
theorem x_bind (m : M α) (k : α → M β) : M.bind m k μ = (m μ).bind k := Eq.trans rfl rfl
theorem x_ok (a : α) (k : α → M β) : (R.ok a μ).bind k = k a μ := Eq.trans rfl rfl
theorem x_pure (a : α) : M.pure a μ = .ok a μ := Eq.trans rfl rfl
theorem x_no : (M.no : M α) μ = .no := Eq.trans rfl rfl
theorem x_nob (k : α → M β) : (R.no : R α).bind k = .no := Eq.trans rfl rfl
theorem x_mkFn (n : Nat) (g : Env → M Fl) : mkFn n g ds μ = (g (slots0 n ds) μ).bind atEnd := Eq.trans rfl rfl
theorem x_endr : atEnd (.rt d) μ = .ok d μ := Eq.trans rfl rfl
theorem x_endn : atEnd (.nx ρ) μ = .ok .non μ := Eq.trans rfl rfl
theorem x_sl0 : slots0 0 [] = [] := Eq.trans rfl rfl
theorem x_sl1 (n : Nat) : slots0 (n + 1) [] = none :: slots0 n [] := Eq.trans rfl rfl
theorem x_sl2 (n : Nat) : slots0 (n + 1) (d :: ds) = some d :: slots0 n ds := by simp [slots0, Nat.add_sub_add_right]
def seqK (h : Env → M Fl) : Fl → M Fl := fun fl => match fl with
  | .nx ρ' => h ρ'
  | o => M.pure o
theorem x_seq (g h : Env → M Fl) : sSeq g h ρ μ = (g ρ μ).bind (seqK h) := Eq.trans rfl rfl
theorem x_seqn (h : Env → M Fl) : seqK h (.nx ρ) μ = h ρ μ := Eq.trans rfl rfl
theorem x_seqr (h : Env → M Fl) : seqK h (.rt d) μ = .ok (.rt d) μ := Eq.trans rfl rfl
theorem x_seqb (h : Env → M Fl) : seqK h (.bk ρ) μ = .ok (.bk ρ) μ := Eq.trans rfl rfl
theorem x_seqc (h : Env → M Fl) : seqK h (.ct ρ) μ = .ok (.ct ρ) μ := Eq.trans rfl rfl
theorem x_nil : sNil ρ μ = .ok (.nx ρ) μ := Eq.trans rfl rfl
theorem x_ret (f : Env → M T) : sRet f ρ μ = (f ρ μ).bind fun d => M.pure (.rt d) := Eq.trans rfl rfl
theorem x_exp (f : Env → M T) : sExp f ρ μ = (f ρ μ).bind fun _ => M.pure (.nx ρ) := Eq.trans rfl rfl
theorem x_if (t : Env → M Bool) (g h : Env → M Fl) : sIf t g h ρ μ = (t ρ μ).bind fun b => bif b then g ρ else h ρ := Eq.trans rfl rfl
theorem x_set (n : Nat) (f : Env → M T) : sSet n f ρ μ = (f ρ μ).bind fun d => M.pure (.nx (ρ.set n (some d))) := Eq.trans rfl rfl
theorem x_tgt (h : T → Env → M Env) (f : Env → M T) : sTgt h f ρ μ = (f ρ μ).bind fun d => M.bind (h d ρ) fun ρ' => M.pure (.nx ρ') := Eq.trans rfl rfl
theorem x_par (p q : Nat) (fa : Env → M (List T)) : sPar p q fa ρ μ = (fa ρ μ).bind fun ds => match ds with
  | [x, y] => M.pure (.nx ((ρ.set p (some x)).set q (some y)))
  | _ => M.no := Eq.trans rfl rfl
theorem x_for (fi : Env → M (List T)) (h : T → Env → M Env) (g : Env → M Fl) : sFor fi h g ρ μ = (fi ρ μ).bind fun ds => forL (fun d ρ => M.bind (h d ρ) g) ds ρ := Eq.trans rfl rfl
def varR (o : Option (Option T)) : M T := match o with
  | some (some d) => M.pure d
  | _ => M.no
theorem x_var (n : Nat) : eVar n ρ μ = varR ρ[n]? μ := by
  unfold eVar varR
  rfl
theorem x_varR : varR (some (some d)) μ = .ok d μ := Eq.trans rfl rfl
theorem x_c : eC d ρ μ = .ok d μ := Eq.trans rfl rfl
theorem x_op (g : T → T → M T) (fa fb : Env → M T) : eOp g fa fb ρ μ = (fa ρ μ).bind fun x => M.bind (fb ρ) fun y => g x y := Eq.trans rfl rfl
theorem x_un (g : T → M T) (fa : Env → M T) : eUn g fa ρ μ = (fa ρ μ).bind g := Eq.trans rfl rfl
theorem x_ld2 (g : T → T → M T) : ld2 g a b μ = (ld a μ).bind fun x => M.bind (ld b) fun y => g x y := Eq.trans rfl rfl
theorem x_ldi : ld (.int i) μ = .ok (.int i) μ := Eq.trans rfl rfl
theorem x_ldb (k : Bool) : ld (.bl k) μ = .ok (.bl k) μ := Eq.trans rfl rfl
theorem x_lds (k : Str) : ld (.str k) μ = .ok (.str k) μ := Eq.trans rfl rfl
theorem x_ldn : ld .non μ = .ok .non μ := Eq.trans rfl rfl
theorem x_ldl : ld (.lst ds) μ = .ok (.lst ds) μ := Eq.trans rfl rfl
theorem x_ldf : ld (.fls ds) μ = .ok (.fls ds) μ := Eq.trans rfl rfl
theorem x_ldt : ld (.tup ds) μ = .ok (.tup ds) μ := Eq.trans rfl rfl
theorem x_ldy (n : String) : ld (.ty n) μ = .ok (.ty n) μ := Eq.trans rfl rfl
def andK (f : M T) : T → M T := fun x => match x with
  | .bl true => f
  | .bl false => M.pure (.bl false)
  | _ => M.no
def orK (f : M T) : T → M T := fun x => match x with
  | .bl true => M.pure (.bl true)
  | .bl false => f
  | _ => M.no
theorem x_and (fa fb : Env → M T) : eAnd fa fb ρ μ = (fa ρ μ).bind (andK (fb ρ)) := Eq.trans rfl rfl
theorem x_andt (f : M T) : andK f (.bl true) μ = f μ := Eq.trans rfl rfl
theorem x_andf (f : M T) : andK f (.bl false) μ = .ok (.bl false) μ := Eq.trans rfl rfl
theorem x_or (fa fb : Env → M T) : eOr fa fb ρ μ = (fa ρ μ).bind (orK (fb ρ)) := Eq.trans rfl rfl
theorem x_ort (f : M T) : orK f (.bl true) μ = .ok (.bl true) μ := Eq.trans rfl rfl
theorem x_orf (f : M T) : orK f (.bl false) μ = f μ := Eq.trans rfl rfl
theorem x_not (fa : Env → M Bool) : eNot fa ρ μ = (fa ρ μ).bind fun b => M.pure (.bl (!b)) := Eq.trans rfl rfl
theorem x_bT (fa : Env → M T) : bT fa ρ μ = (fa ρ μ).bind asB := Eq.trans rfl rfl
theorem x_asB (k : Bool) : asB (.bl k) μ = .ok k μ := Eq.trans rfl rfl
theorem x_band (fa fb : Env → M Bool) : bAnd fa fb ρ μ = (fa ρ μ).bind fun x => bif x then fb ρ else M.pure false := Eq.trans rfl rfl
theorem x_bor (fa fb : Env → M Bool) : bOr fa fb ρ μ = (fa ρ μ).bind fun x => bif x then M.pure true else fb ρ := Eq.trans rfl rfl
theorem x_bnot (fa : Env → M Bool) : bNot fa ρ μ = (fa ρ μ).bind fun b => M.pure (!b) := Eq.trans rfl rfl
theorem x_eif (t : Env → M Bool) (fa fb : Env → M T) : eIf t fa fb ρ μ = (t ρ μ).bind fun b => bif b then fa ρ else fb ρ := Eq.trans rfl rfl
theorem x_ct {f g : M α} : (bif true then f else g) μ = f μ := Eq.trans rfl rfl
theorem x_cf {f g : M α} : (bif false then f else g) μ = g μ := Eq.trans rfl rfl
theorem x_echain (g g' : T → T → M T) (fa fb fc : Env → M T) : eChain g g' fa fb fc ρ μ = (fa ρ μ).bind fun x => M.bind (fb ρ) fun y => M.bind (g x y) fun b => M.bind (asB b) fun b => bif b then M.bind (fc ρ) fun z => g' y z else M.pure (.bl false) := Eq.trans rfl rfl
theorem x_bchain (g g' : T → T → M T) (fa fb fc : Env → M T) : bChain g g' fa fb fc ρ μ = (fa ρ μ).bind fun x => M.bind (fb ρ) fun y => M.bind (g x y) fun b => M.bind (asB b) fun b => bif b then M.bind (fc ρ) fun z => M.bind (g' y z) asB else M.pure false := Eq.trans rfl rfl
theorem x_anil : aNil ρ μ = .ok [] μ := Eq.trans rfl rfl
theorem x_acons (f : Env → M T) (g : Env → M (List T)) : aCons f g ρ μ = (f ρ μ).bind fun x => M.bind (g ρ) fun xs => M.pure (x :: xs) := Eq.trans rfl rfl
theorem x_astar (f : Env → M T) (g : Env → M (List T)) : aStar f g ρ μ = (f ρ μ).bind fun d => M.bind (ld d) fun d => M.bind (gIter d) fun xs => M.bind (g ρ) fun ys => M.pure (xs ++ ys) := Eq.trans rfl rfl
theorem x_itl : gIter (.lst ds) μ = .ok ds μ := Eq.trans rfl rfl
theorem x_itf : gIter (.fls ds) μ = .ok ds μ := Eq.trans rfl rfl
theorem x_itt : gIter (.tup ds) μ = .ok ds μ := Eq.trans rfl rfl
theorem x_tup (f : Env → M (List T)) : eTup f ρ μ = (f ρ μ).bind fun ds => bif fits ds.length then M.pure (.tup ds) else M.no := Eq.trans rfl rfl
theorem x_lst (f : Env → M (List T)) : lLst f ρ μ = (f ρ μ).bind okL := Eq.trans rfl rfl
theorem x_okL : okL ds μ = (bif fits ds.length then M.pure ds else M.no) μ := Eq.trans rfl rfl
theorem x_tree (f : Env → M (List T)) : eTree f ρ μ = (f ρ μ).bind fun ds => M.pure (.lst ds) := Eq.trans rfl rfl
theorem x_cell (f : Env → M (List T)) : eCell f ρ μ = (f ρ μ).bind fun ds => newC (.lst ds) := Eq.trans rfl rfl
theorem x_newC (o : Ob) : newC o μ = .ok (.cell μ.length) (μ ++ [⟨true, o⟩]) := Eq.trans rfl rfl
theorem x_eB (g : List T → M T) (fa : Env → M (List T)) : eB g fa ρ μ = (fa ρ μ).bind g := Eq.trans rfl rfl
theorem x_lB (g : List T → M (List T)) (fa : Env → M (List T)) : lB g fa ρ μ = (fa ρ μ).bind g := Eq.trans rfl rfl
theorem x_iB (g : List T → M (List T)) (fa : Env → M (List T)) : iB g fa ρ μ = (fa ρ μ).bind g := Eq.trans rfl rfl
theorem x_iSeq (f : Env → M T) : iSeq f ρ μ = (f ρ μ).bind gIter := Eq.trans rfl rfl
theorem x_g1 (g : T → M T) : g1 g [a] μ = (ld a μ).bind g := Eq.trans rfl rfl
theorem x_g2 (g : T → T → M T) : g2 g [a, b] μ = (ld a μ).bind fun x => M.bind (ld b) fun y => g x y := Eq.trans rfl rfl
theorem x_call (n : Nat) (m : List T → M T) (fa : Env → M (List T)) : eCall n m fa ρ μ = (fa ρ μ).bind fun ds => bif ds.length == n then m ds else M.no := Eq.trans rfl rfl
theorem x_sl (f : Env → M T) (l h : Env → M (Option Int)) : eSl f l h ρ μ = (f ρ μ).bind fun d => M.bind (l ρ) fun lo => M.bind (h ρ) fun hi => M.bind (ld d) (gSl lo hi) := Eq.trans rfl rfl
theorem x_onone : oNone ρ μ = .ok none μ := Eq.trans rfl rfl
theorem x_osome (f : Env → M T) : oSome f ρ μ = (f ρ μ).bind asO := Eq.trans rfl rfl
theorem x_asO : asO (.int i) μ = .ok (some i) μ := Eq.trans rfl rfl
theorem x_name (n : Nat) : hName n d ρ μ = .ok (ρ.set n (some d)) μ := Eq.trans rfl rfl
theorem x_hnil : hsNil [] ρ μ = .ok ρ μ := Eq.trans rfl rfl
theorem x_hcons (h : T → Env → M Env) (hs : List T → Env → M Env) : hsCons h hs (d :: ds) ρ μ = (h d ρ μ).bind fun ρ' => hs ds ρ' := Eq.trans rfl rfl
theorem x_htup (n : Nat) (hs : List T → Env → M Env) : hTup n hs (.tup ds) ρ μ = (bif ds.length == n then hs ds ρ else M.no) μ := Eq.trans rfl rfl
theorem x_hsub (fa fb : Env → M T) (g : T → T → T → M Unit) : hSub fa fb g d ρ μ = (fa ρ μ).bind fun o => M.bind (fb ρ) fun i => M.bind (g o i d) fun _ => M.pure ρ := Eq.trans rfl rfl
theorem x_comp (vs : List Nat) (fi : Env → M (List T)) (h : T → Env → M Env) (t : Env → M Bool) (f : Env → M T) : lComp vs fi h t f ρ μ = (fi ρ μ).bind fun ds => M.bind (lcL (lcTurn h t f (wipeE ρ vs)) ds) okL := Eq.trans rfl rfl
theorem x_turn (h : T → Env → M Env) (t : Env → M Bool) (f : Env → M T) : lcTurn h t f ρ d μ = (h d ρ μ).bind fun ρ2 => M.bind (t ρ2) fun b => bif b then M.bind (f ρ2) fun y => M.pure (some y) else M.pure none := Eq.trans rfl rfl
theorem x_yes : bYes ρ μ = .ok true μ := Eq.trans rfl rfl
theorem x_w0 : wipeE ρ [] = ρ := Eq.trans rfl rfl
theorem x_w1 (n : Nat) (r : List Nat) : wipeE ρ (n :: r) = (wipeE ρ r).set n none := Eq.trans rfl rfl
/-! ints -/
theorem x_add : gAdd (.int i) (.int j) μ = .ok (.int (i + j)) μ := Eq.trans rfl rfl
theorem x_sub : gSub (.int i) (.int j) μ = .ok (.int (i - j)) μ := Eq.trans rfl rfl
theorem x_mul : gMulA (.int i) (.int j) μ = (bif decide (lgs i j < 1000000) then M.pure (.int (i * j)) else M.no) μ := Eq.trans rfl rfl
theorem x_fdiv : gFdiv (.int i) (.int j) μ = (bif decide (0 < j) && decide (j.natAbs.log2 < 9000) then M.pure (.int (i / j)) else M.no) μ := Eq.trans rfl rfl
theorem x_mod : gMod (.int i) (.int j) μ = (bif decide (0 < j) then M.pure (.int (i % j)) else M.no) μ := Eq.trans rfl rfl
theorem x_pow : gPow (.int i) (.int j) μ = (bif decide (0 ≤ j) && decide (j ≤ 1000000) && decide (i.natAbs < 2 ^ 64) then M.pure (.int (i ^ j.toNat)) else M.no) μ := Eq.trans rfl rfl
theorem x_shl : gShl (.int i) (.int j) μ = (bif decide (0 ≤ j) && decide ((Builtin.Int.intBits i : Int) + j ≤ 2 ^ 27) then M.pure (.int (i * 2 ^ j.toNat)) else M.no) μ := Eq.trans rfl rfl
theorem x_shr : gShr (.int i) (.int j) μ = (bif decide (0 ≤ j) then M.pure (.int (i / 2 ^ j.toNat)) else M.no) μ := Eq.trans rfl rfl
theorem x_bit (f : Int → Int → Int) : gBit f (.int i) (.int j) μ = .ok (.int (f i j)) μ := Eq.trans rfl rfl
theorem x_cmp (p : Int → Int → Bool) : gCmp p (.int i) (.int j) μ = .ok (.bl (p i j)) μ := Eq.trans rfl rfl
theorem x_lt : gLt (.int i) (.int j) μ = .ok (.bl (decide (i < j))) μ := Eq.trans rfl rfl
theorem x_neg : gNeg (.int i) μ = .ok (.int (-i)) μ := Eq.trans rfl rfl
theorem shp_int : shp (.int i) = true := by simp [shp, okT, toD, PyData.depth]
theorem x_eqi : gEq (.int i) (.int j) μ = .ok (.bl (decide (i = j))) μ := by
  show gEqD _ _ μ = _
  unfold gEqD
  rw [shp_int, shp_int]
  have e : PyData.eqv (toD (.int i)) (toD (.int j)) = decide (i = j) := by simp only [toD, PyData.eqv]; by_cases h : i = j <;> simp [h]
  rw [e]
  rfl
theorem x_ess (x y : Str) : gEq (.str x) (.str y) μ = .ok (.bl (decide (x = y))) μ := Eq.trans rfl rfl
theorem x_nss (x y : Str) : gNe (.str x) (.str y) μ = .ok (.bl (!decide (x = y))) μ := Eq.trans rfl rfl
theorem x_nei : gNe (.int i) (.int j) μ = .ok (.bl (!decide (i = j))) μ := by
  show gNeD _ _ μ = _
  unfold gNeD
  rw [shp_int, shp_int]
  have e : PyData.eqv (toD (.int i)) (toD (.int j)) = decide (i = j) := by simp only [toD, PyData.eqv]; by_cases h : i = j <;> simp [h]
  rw [e]
  rfl
theorem x_abs : gAbs (.int i) μ = .ok (.int (i.natAbs : Int)) μ := by
  have e : (if i < 0 then -i else i) = (i.natAbs : Int) := by split <;> omega
  rw [← e]
  rfl
theorem x_lenl : gLen (.lst ds) μ = .ok (.int ds.length) μ := Eq.trans rfl rfl
theorem x_lenf : gLen (.fls ds) μ = .ok (.int ds.length) μ := Eq.trans rfl rfl
theorem x_lent : gLen (.tup ds) μ = .ok (.int ds.length) μ := Eq.trans rfl rfl
theorem x_int : gInt (.int i) μ = .ok (.int i) μ := Eq.trans rfl rfl
theorem x_intb (k : Bool) : gInt (.bl k) μ = .ok (.int (bif k then 1 else 0)) μ := Eq.trans rfl rfl
theorem x_max2 : gMax2 (.int i) (.int j) μ = .ok (.int (if j > i then j else i)) μ := Eq.trans rfl rfl
theorem x_min2 : gMin2 (.int i) (.int j) μ = .ok (.int (if j < i then j else i)) μ := Eq.trans rfl rfl
theorem x_tupl : gTuple (.lst ds) μ = .ok (.tup ds) μ := Eq.trans rfl rfl
theorem x_r1 : gRange1 [.int j] μ = (bif sm62 j then M.pure (rangeT 0 j.toNat) else M.no) μ := Eq.trans rfl rfl
theorem x_r2 : gRange2 [.int i, .int j] μ = (bif sm62 i && sm62 j then M.pure (rangeT i (j - i).toNat) else M.no) μ := Eq.trans rfl rfl
theorem x_revl : gRev (.lst ds) μ = .ok (.lst ds.reverse) μ := Eq.trans rfl rfl
theorem x_revt : gRev (.tup ds) μ = .ok (.tup ds.reverse) μ := Eq.trans rfl rfl
theorem x_ixt : gIx (.tup ds) (.int i) μ = ofO (atI ds i) μ := Eq.trans rfl rfl
theorem x_ixl : gIx (.lst ds) (.int i) μ = ofO (atI ds i) μ := Eq.trans rfl rfl
theorem x_ixf : gIx (.fls ds) (.int i) μ = ofO (atI ds i) μ := Eq.trans rfl rfl
theorem x_ofO : ofO (some d) μ = .ok d μ := Eq.trans rfl rfl
theorem x_slt (lo hi : Option Int) : gSl lo hi (.tup ds) μ = .ok (.tup (cutT ds lo hi)) μ := Eq.trans rfl rfl
theorem x_sll (lo hi : Option Int) : gSl lo hi (.lst ds) μ = .ok (.lst (cutT ds lo hi)) μ := Eq.trans rfl rfl
theorem x_isi (n : String) : gIsi (.int i) (.ty n) μ = (bif clsNames.contains n then M.pure (.bl (isiP "int" n)) else M.no) μ := Eq.trans rfl rfl
theorem x_ist (n : String) : gIsi (.tup ds) (.ty n) μ = (bif clsNames.contains n then M.pure (.bl (isiP "tuple" n)) else M.no) μ := Eq.trans rfl rfl
theorem fits_of {n : Nat} (h : n ≤ 16777216) : fits n = true := decide_eq_true h
end

/-! ### loops -/
theorem forL_ints {α : Type} {step : T → Env → M Fl} (P : α → Option T → Env) (f : α → Int → α) (I : α → List Int → Prop) {μ : Store} (h : ∀ a o x r, I a (x :: r) → step (.int x) (P a o) μ = .ok (.nx (P (f a x) (some (.int x)))) μ ∧ I (f a x) r) :
    ∀ (xs : List Int) (a : α) (o : Option T), I a xs → ∃ o', forL step (xs.map T.int) (P a o) μ = .ok (.nx (P (xs.foldl f a) o')) μ ∧ I (xs.foldl f a) []
  | [], a, o, hi => ⟨o, rfl, hi⟩
  | x :: xs, a, o, hi => by
    obtain ⟨h1, h2⟩ := h a o x xs hi
    obtain ⟨o', h3, h4⟩ := forL_ints P f I h xs (f a x) (some (.int x)) h2
    refine ⟨o', ?_, h4⟩
    show M.bind (step (.int x) (P a o)) _ μ = _
    rw [x_bind, h1]
    exact h3
theorem lcL_map {β : Type} {step : T → M (Option T)} {e : β → T} {g : β → T} {μ : Store} : ∀ {xs : List β}, (∀ x ∈ xs, step (e x) μ = .ok (some (g x)) μ) → lcL step (xs.map e) μ = .ok (xs.map g) μ
  | [], _ => rfl
  | x :: xs, h => by
    show M.bind (noErr (step (e x))) _ μ = _
    rw [x_bind]
    unfold noErr
    rw [h x List.mem_cons_self]
    show M.bind (lcL step (xs.map e)) _ μ = _
    rw [x_bind, lcL_map fun y hy => h y (List.mem_cons_of_mem _ hy)]
    rfl

/-! ### guards -/
theorem log2_le {n k : Nat} (h : n < 2 ^ k) : n.log2 ≤ k := by
  by_cases h0 : n = 0
  · subst h0; simp
  · exact Nat.le_of_lt ((Nat.log2_lt h0).mpr h)
theorem x_mulh {i j : Int} {μ : Store} (p q : Nat) (h1 : i.natAbs < 2 ^ p) (h2 : j.natAbs < 2 ^ q) (h3 : p + q < 1000000) : gMulA (.int i) (.int j) μ = .ok (.int (i * j)) μ := by
  rw [x_mul]
  have e : decide (lgs i j < 1000000) = true := decide_eq_true (by
    have a := log2_le h1
    have b := log2_le h2
    unfold lgs
    omega)
  rw [e]
  rfl
theorem x_all {β : Type} (p : β → Bool) (xs : List β) {μ : Store} : gAll (.lst (xs.map fun x => T.bl (p x))) μ = .ok (.bl (xs.all p)) μ := by
  have e : boolsOf (xs.map fun x => T.bl (p x)) = some (xs.map p) := by
    induction xs with
    | nil => rfl
    | cons x xs ih => simp only [List.map_cons, boolsOf, ih]; rfl
  unfold gAll onBools listOf
  simp only [Option.bind_some, e]
  show M.pure _ μ = _
  rw [x_pure, List.all_map]
  rfl
theorem intsOf_map (xs : List Int) : intsOf (xs.map T.int) = some xs := by
  induction xs with
  | nil => rfl
  | cons x xs ih => simp only [List.map_cons, intsOf, ih]; rfl
theorem x_sum (xs : List Int) {μ : Store} : gSum (.lst (xs.map T.int)) μ = .ok (.int xs.sum) μ := by
  unfold gSum onInts listOf
  simp only [Option.bind_some, intsOf_map]
  rfl
/-! ### == of data -/
mutual
theorem eqv_self : ∀ d : T, okT d = true → PyData.eqv (toD d) (toD d) = true
  | .non, _ => by simp [toD, PyData.eqv]
  | .bl _, _ => by simp [toD, PyData.eqv]
  | .int _, _ => by simp [toD, PyData.eqv]
  | .str _, _ => by simp [toD, PyData.eqv]
  | .lst xs, h => by simp only [toD, PyData.eqv]; exact eqvs_self xs (by simpa [okT] using h)
  | .fls xs, h => by simp only [toD, PyData.eqv]; exact eqvs_self xs (by simpa [okT] using h)
  | .tup xs, h => by simp only [toD, PyData.eqv]; exact eqvs_self xs (by simpa [okT] using h)
  | .ftp xs, h => by simp only [toD, PyData.eqv]; exact eqvs_self xs (by simpa [okT] using h)
  | .dic _ _, h => by simp [okT] at h
  | .cell _, h => by simp [okT] at h
  | .ref _, h => by simp [okT] at h
  | .ty _, h => by simp [okT] at h
theorem eqvs_self : ∀ ds : List T, okTs ds = true → PyData.eqvAll (toDs ds) (toDs ds) = true
  | [], _ => by simp [toDs, PyData.eqvAll]
  | x :: xs, h => by
    have h' : okT x = true ∧ okTs xs = true := by simpa [okTs] using h
    simp only [toDs, PyData.eqvAll, Bool.and_eq_true]
    exact ⟨eqv_self x h'.1, eqvs_self xs h'.2⟩
end
theorem x_eqs {d : T} {μ : Store} (h : shp d = true) : gEq d d μ = .ok (.bl true) μ := by
  have e : gEqD d d μ = .ok (.bl true) μ := by
    unfold gEqD
    rw [h, eqv_self d (shp_ok h)]
    rfl
  cases d with
  | str x => rw [x_ess, decide_eq_true rfl]
  | _ => exact e
theorem x_nes {d : T} {μ : Store} (h : shp d = true) : gNe d d μ = .ok (.bl false) μ := by
  have e : gNeD d d μ = .ok (.bl false) μ := by
    unfold gNeD
    rw [h, eqv_self d (shp_ok h)]
    rfl
  cases d with
  | str x => rw [x_nss, decide_eq_true rfl]; rfl
  | _ => exact e
/-! ### sorting: one's own insertion, to reckon with -/
def insT (a : T) : List T → List T
  | [] => [a]
  | b :: r => if leT a b then a :: b :: r else b :: insT a r
def isort : List T → List T
  | [] => []
  | a :: r => insT a (isort r)
theorem leT_total (a b : T) : (leT a b || leT b a) = true := by
  unfold leT
  cases h : PySem.W.dataLt (toD b) (toD a) with
  | false => rfl
  | true =>
    cases h2 : PySem.W.dataLt (toD a) (toD b) with
    | false => rfl
    | true => exact absurd (lex_trans _ _ _ h h2) (by rw [lex_irrefl]; exact Bool.false_ne_true)
theorem leT_trans (a b c : T) (h1 : leT a b = true) (h2 : leT b c = true) : leT a c = true := by
  unfold leT at *
  simp only [Bool.not_eq_true'] at *
  cases h : PySem.W.dataLt (toD c) (toD a) with
  | false => rfl
  | true =>
    exfalso
    unfold PySem.W.dataLt at *
    by_cases e1 : PyProof.Rows.lexLt itemOrd (PySem.W.keyToks (toD a)) (PySem.W.keyToks (toD b)) = true
    · have := lex_trans _ _ _ h e1
      rw [h2] at this
      cases this
    · have e2 := lex_total _ _ (by simpa using e1) h1
      rw [e2] at h
      rw [h] at h2
      cases h2
theorem insT_mid (a : T) : ∀ (l1 l2 : List T), (∀ b ∈ l1, leT a b = false) → (∀ c, l2.head? = some c → leT a c = true) → insT a (l1 ++ l2) = l1 ++ a :: l2
  | [], [], _, _ => rfl
  | [], c :: r, _, h => by
    show (if leT a c then _ else _) = _
    rw [h c rfl, if_pos rfl]
    rfl
  | b :: r, l2, h, h2 => by
    show (if leT a b then _ else b :: insT a (r ++ l2)) = _
    rw [h b List.mem_cons_self, if_neg Bool.false_ne_true, insT_mid a r l2 (fun c hc => h c (List.mem_cons_of_mem _ hc)) h2]
    rfl
theorem sort_is : ∀ l : List T, l.mergeSort leT = isort l
  | [] => by simp [isort]
  | a :: r => by
    obtain ⟨l1, l2, e1, e2, h⟩ := List.mergeSort_cons (le := leT) leT_trans leT_total a r
    have s := List.pairwise_mergeSort (le := leT) leT_trans leT_total (a :: r)
    rw [e1] at s ⊢
    show _ = insT a (isort r)
    rw [← sort_is r, e2, insT_mid a l1 l2 (fun b hb => by simpa using h b hb) fun c hc => ?_]
    cases l2 with
    | nil => cases hc
    | cons d l2 =>
      cases hc
      exact (List.pairwise_cons.mp (List.pairwise_append.mp s).2.1).1 _ List.mem_cons_self
theorem x_sort {ds : List T} {μ : Store} : gSorted [.lst ds] μ = (bif srtOk ds then M.pure (isort ds) else M.no) μ := by
  rw [← sort_is]
  rfl

/-! ### what repr is ready for -/
mutual
def rdy : T → Bool
  | .non => true
  | .bl _ => true
  | .int i => decide (i.natAbs < 2 ^ 1000)
  | .str x => PyData.strOk x
  | .lst xs => rdys xs
  | .fls xs => rdys xs
  | .tup xs => rdys xs
  | .ftp xs => rdys xs
  | _ => false
def rdys : List T → Bool
  | [] => true
  | x :: xs => rdy x && rdys xs
end
mutual
/-- at most so many signs -/
def shw : T → Nat
  | .int i => i.natAbs.log2 + 2
  | .str x => 10 * x.cps.size + 8
  | .lst xs => shws xs + 3
  | .fls xs => shws xs + 3
  | .tup xs => shws xs + 3
  | .ftp xs => shws xs + 3
  | _ => 8
def shws : List T → Nat
  | [] => 0
  | x :: xs => shw x + 2 + shws xs
end
mutual
def dep : T → Nat
  | .lst xs => deps xs + 1
  | .fls xs => deps xs + 1
  | .tup xs => deps xs + 1
  | .ftp xs => deps xs + 1
  | _ => 0
def deps : List T → Nat
  | [] => 0
  | x :: xs => max (dep x) (deps xs)
end
mutual
theorem rdy_ok : ∀ d : T, rdy d = true → okT d = true ∧ (toD d).showable = true ∧ (toD d).depth = dep d
  | .non, _ => by simp [okT, toD, PyData.showable, PyData.depth, dep]
  | .bl _, _ => by simp [okT, toD, PyData.showable, PyData.depth, dep]
  | .int i, h => by
    refine ⟨by simp [okT], ?_, by simp [toD, PyData.depth, dep]⟩
    have h' : i.natAbs < 2 ^ 1000 := by simpa only [rdy, decide_eq_true_eq] using h
    have := log2_le h'
    simp only [toD, PyData.showable, decide_eq_true_eq]
    omega
  | .str x, h => ⟨by simpa only [okT, rdy] using h, by simp [toD, PyData.showable], by simp [toD, PyData.depth, dep]⟩
  | .lst xs, h => by simpa only [okT, toD, PyData.showable, PyData.depth, dep, Nat.add_right_cancel_iff] using rdys_ok xs (by simpa only [rdy] using h)
  | .fls xs, h => by simpa only [okT, toD, PyData.showable, PyData.depth, dep, Nat.add_right_cancel_iff] using rdys_ok xs (by simpa only [rdy] using h)
  | .tup xs, h => by simpa only [okT, toD, PyData.showable, PyData.depth, dep, Nat.add_right_cancel_iff] using rdys_ok xs (by simpa only [rdy] using h)
  | .ftp xs, h => by simpa only [okT, toD, PyData.showable, PyData.depth, dep, Nat.add_right_cancel_iff] using rdys_ok xs (by simpa only [rdy] using h)
  | .dic _ _, h => by simp [rdy] at h
  | .cell _, h => by simp [rdy] at h
  | .ref _, h => by simp [rdy] at h
  | .ty _, h => by simp [rdy] at h
theorem rdys_ok : ∀ ds : List T, rdys ds = true → okTs ds = true ∧ PyData.showableAll (toDs ds) = true ∧ PyData.depthAll (toDs ds) = deps ds
  | [], _ => by simp [okTs, toDs, PyData.showableAll, PyData.depthAll, deps]
  | x :: xs, h => by
    have h' : rdy x = true ∧ rdys xs = true := by simpa [rdys] using h
    obtain ⟨a1, a2, a3⟩ := rdy_ok x h'.1
    obtain ⟨b1, b2, b3⟩ := rdys_ok xs h'.2
    simp only [okTs, toDs, PyData.showableAll, PyData.depthAll, deps, a1, a2, a3, b1, b2, b3, Bool.and_self, and_self]
end
theorem lst_len (ds : List PyData) : (PyData.shownAll ds).length = ds.length := by
  induction ds with
  | nil => rfl
  | cons d ds ih => simp only [PyData.shownAll, List.length_cons, ih]
mutual
theorem shown_shw : ∀ d : T, rdy d = true → (toD d).shown.length ≤ shw d
  | .non, _ => by simp only [toD, PyData.shown, shw]; decide
  | .bl b, _ => by simp only [toD, PyData.shown, shw]; cases b <;> decide
  | .int i, _ => by
    have e := int_text_length_le (a := i) (k := i.natAbs.log2 + 1) (Nat.succ_pos _) (Nat.lt_succ_self _)
    simp only [toD, PyData.shown, shw]
    rw [PySem.ofString_length]
    exact e
  | .str x, h => by
    have h1 : PyData.canLay0 (.str x) = true := by simpa only [rdy, PyData.canLay0] using h
    have e := PyData.shown_le 8 (Nat.le_refl _) (.str x) (PyData.leavesShort_of_canLay0 8 (.str x) h1 (by simp only [PyData.intsShort]))
    simpa only [toD, shw, PyData.weight] using e
  | .lst xs, h => by
    have e := showns_shw xs (by simpa only [rdy] using h)
    simp only [toD, PyData.shown, shw]
    exact Nat.le_trans (listText_len_le _) (by rw [lst_len]; omega)
  | .fls xs, h => by
    have e := showns_shw xs (by simpa only [rdy] using h)
    simp only [toD, PyData.shown, shw]
    exact Nat.le_trans (listText_len_le _) (by rw [lst_len]; omega)
  | .tup xs, h => by
    have e := showns_shw xs (by simpa only [rdy] using h)
    simp only [toD, PyData.shown, shw]
    exact Nat.le_trans (tupleText_len_le _) (by rw [lst_len]; omega)
  | .ftp xs, h => by
    have e := showns_shw xs (by simpa only [rdy] using h)
    simp only [toD, PyData.shown, shw]
    exact Nat.le_trans (tupleText_len_le _) (by rw [lst_len]; omega)
  | .dic _ _, h => by simp [rdy] at h
  | .cell _, h => by simp [rdy] at h
  | .ref _, h => by simp [rdy] at h
  | .ty _, h => by simp [rdy] at h
theorem showns_shw : ∀ ds : List T, rdys ds = true → ((PyData.shownAll (toDs ds)).map (·.length)).sum + 2 * (toDs ds).length ≤ shws ds
  | [], _ => by simp [toDs, PyData.shownAll, shws]
  | x :: xs, h => by
    have h' : rdy x = true ∧ rdys xs = true := by simpa [rdys] using h
    have a := shown_shw x h'.1
    have b := showns_shw xs h'.2
    simp only [toDs, PyData.shownAll, List.map_cons, List.sum_cons, List.length_cons, shws]
    omega
end
theorem reprOk_of {d : T} (h : rdy d = true) (hd : dep d ≤ 64) (hw : shw d ≤ 16777216) : reprOk d = true := by
  obtain ⟨a, b, c⟩ := rdy_ok d h
  have e := shown_shw d h
  unfold reprOk shp
  rw [a, b, c, decide_eq_true hd, fits_of (Nat.le_trans e hw)]
  rfl
theorem shp_of {d : T} (h : rdy d = true) (hd : dep d ≤ 64) : shp d = true := by
  obtain ⟨a, b, c⟩ := rdy_ok d h
  unfold shp
  rw [a, c, decide_eq_true hd]
  rfl
theorem x_repr {d : T} {μ : Store} (h : reprOk d = true) : gRepr d μ = .ok (.str (toD d).shown) μ := by
  unfold gRepr
  rw [h]
  rfl
theorem rdys_ints (xs : List Int) (h : ∀ x ∈ xs, x.natAbs < 2 ^ 1000) : rdys (xs.map T.int) = true := by
  induction xs with
  | nil => rfl
  | cons x xs ih =>
    simp only [List.map_cons, rdys, rdy]
    rw [decide_eq_true (h x List.mem_cons_self), ih fun y hy => h y (List.mem_cons_of_mem _ hy)]
    rfl
theorem deps_ints (xs : List Int) : deps (xs.map T.int) = 0 := by
  induction xs with
  | nil => rfl
  | cons x xs ih => simp only [List.map_cons, deps, dep, ih]; rfl
theorem shws_ints (k : Nat) (xs : List Int) (h : ∀ x ∈ xs, x.natAbs < 2 ^ k) : shws (xs.map T.int) ≤ xs.length * (k + 4) := by
  induction xs with
  | nil => simp [shws]
  | cons x xs ih =>
    have a := log2_le (h x List.mem_cons_self)
    have b := ih fun y hy => h y (List.mem_cons_of_mem _ hy)
    simp only [List.map_cons, shws, shw, List.length_cons]
    rw [Nat.add_one_mul]
    omega

/-! ### cells -/
theorem x_ldc {b : Nat} {μ : Store} {xs : List T} (h : μ[b]? = some ⟨true, .lst xs⟩) : ld (.cell b) μ = .ok (.lst xs) μ := by
  simp only [ld, h, obT]
theorem x_setc {b j : Nat} {μ : Store} {xs : List T} {i : Int} {v : T} (h : μ[b]? = some ⟨true, .lst xs⟩) (hj : ixN xs.length i = some j) : gSetI (.cell b) (.int i) v μ = .ok () (μ.set b ⟨true, .lst (xs.set j v)⟩) := by
  simp only [gSetI, onCell, h, hj]
theorem set_at {b : Nat} {μ : Store} {c d : Cel} (h : μ[b]? = some c) : (μ.set b d)[b]? = some d := by
  obtain ⟨hb, _⟩ := List.getElem?_eq_some_iff.mp h
  rw [List.getElem?_set_self hb]
/-- a bag: three numbers; n bounds the last -/
def Bag (b n : Nat) (μ : Store) : Prop := ∃ x y z : Int, μ[b]? = some ⟨true, .lst [.int x, .int y, .int z]⟩ ∧ 0 ≤ x ∧ 0 ≤ y ∧ y < 2 ^ 100 ∧ 0 ≤ z ∧ z ≤ n
theorem Bag.new {μ : Store} {x y : Int} (hx : 0 ≤ x) (hy : 0 ≤ y) (hy2 : y < 2 ^ 100) : Bag μ.length 0 (μ ++ [⟨true, .lst [.int x, .int y, .int 0]⟩]) :=
  ⟨x, y, 0, by simp, hx, hy, hy2, by decide, by decide⟩
theorem lcL_st {step : T → M (Option T)} {J : Nat → Store → Prop} {N : Nat} {Q : T → Prop} : ∀ {xs : List T}, (∀ x ∈ xs, ∀ n μ, J n μ → n < N → ∃ y μ', step x μ = .ok (some y) μ' ∧ J (n + 1) μ' ∧ Q y) → ∀ n μ, J n μ → n + xs.length ≤ N →
    ∃ ys μ', lcL step xs μ = .ok ys μ' ∧ J (n + xs.length) μ' ∧ ys.length = xs.length ∧ ∀ y ∈ ys, Q y
  | [], _, n, μ, hj, _ => ⟨[], μ, rfl, hj, rfl, fun y hy => nomatch hy⟩
  | x :: xs, h, n, μ, hj, hn => by
    simp only [List.length_cons] at hn
    obtain ⟨y, μ1, e1, j1, q1⟩ := h x List.mem_cons_self n μ hj (by omega)
    obtain ⟨ys, μ2, e2, j2, l2, q2⟩ := lcL_st (fun z hz => h z (List.mem_cons_of_mem _ hz)) (n + 1) μ1 j1 (by omega)
    refine ⟨y :: ys, μ2, ?_, by rw [List.length_cons, show n + (xs.length + 1) = n + 1 + xs.length by omega]; exact j2, by simp [l2], fun z hz => ?_⟩
    · show M.bind (noErr (step x)) _ μ = _
      rw [x_bind]
      unfold noErr
      rw [e1]
      show M.bind (lcL step xs) _ μ1 = _
      rw [x_bind, e2]
      rfl
    · rcases List.mem_cons.mp hz with rfl | hz
      · exact q1
      · exact q2 z hz
/-- turns that add nothing -/
theorem lcL_none {step : T → M (Option T)} {J : Nat → Store → Prop} {k N : Nat} : ∀ {xs : List T}, (∀ x ∈ xs, ∀ n μ, J n μ → n + k ≤ N → ∃ μ', step x μ = .ok none μ' ∧ J (n + k) μ') → ∀ n μ, J n μ → n + xs.length * k ≤ N →
    ∃ μ', lcL step xs μ = .ok [] μ' ∧ J (n + xs.length * k) μ'
  | [], _, n, μ, hj, _ => ⟨μ, rfl, by simpa using hj⟩
  | x :: xs, h, n, μ, hj, hn => by
    have e : (xs.length + 1) * k = k + xs.length * k := by rw [Nat.add_one_mul]; omega
    simp only [List.length_cons] at hn ⊢
    rw [e] at hn ⊢
    obtain ⟨μ1, e1, j1⟩ := h x List.mem_cons_self n μ hj (by omega)
    obtain ⟨μ2, e2, j2⟩ := lcL_none (fun z hz => h z (List.mem_cons_of_mem _ hz)) (n + k) μ1 j1 (by omega)
    refine ⟨μ2, ?_, by rw [← Nat.add_assoc]; exact j2⟩
    show M.bind (noErr (step x)) _ μ = _
    rw [x_bind]
    unfold noErr
    rw [e1]
    show M.bind (lcL step xs) _ μ1 = _
    rw [x_bind, e2]
    rfl
theorem ints_of {ys : List T} {Q : Int → Prop} (h : ∀ y ∈ ys, ∃ b, y = .int b ∧ Q b) : ∃ bs : List Int, ys = bs.map T.int ∧ ∀ b ∈ bs, Q b := by
  induction ys with
  | nil => exact ⟨[], rfl, fun b hb => nomatch hb⟩
  | cons y ys ih =>
    obtain ⟨bs, e, q⟩ := ih fun z hz => h z (List.mem_cons_of_mem _ hz)
    obtain ⟨b, rfl, qb⟩ := h y List.mem_cons_self
    refine ⟨b :: bs, by rw [e]; rfl, fun c hc => ?_⟩
    rcases List.mem_cons.mp hc with rfl | hc
    · exact qb
    · exact q c hc
theorem cut_to (ds : List T) (m : Nat) : cutT ds none (some (m : Int)) = ds.take m := by
  unfold cutT
  rw [HT.sIx_nat]
  show (ds.drop 0).take (min m ds.length - 0) = _
  rw [List.drop_zero, Nat.sub_zero]
  by_cases h : m ≤ ds.length
  · rw [Nat.min_eq_left h]
  · rw [Nat.min_eq_right (by omega), List.take_length, List.take_of_length_le (by omega)]
theorem flat_rep {α : Type} (x : α) (k : Nat) : (List.replicate k [x]).flatten = List.replicate k x := by
  induction k with
  | zero => rfl
  | succ k ih => rw [List.replicate_succ, List.flatten_cons, ih, List.replicate_succ]; rfl
theorem x_repl {d : T} {k : Nat} {μ : Store} (h : k ≤ 1000) : gMulA (.lst [d]) (.int (k : Int)) μ = .ok (.lst (List.replicate k d)) μ := by
  have a : decide (-(2 ^ 63) ≤ (k : Int)) = true := decide_eq_true (by omega)
  have b : decide ((k : Int) < 2 ^ 63) = true := decide_eq_true (by omega)
  have c : fits ([d].length * k) = true := fits_of (by simp; omega)
  simp only [gMulA, a, b, Int.toNat_natCast, c, Bool.and_self, Bool.and_true, x_ct, x_pure, flat_rep]
theorem x_rept {d : T} {k : Nat} {μ : Store} (h : k ≤ 1000) : gMulA (.tup [d]) (.int (k : Int)) μ = .ok (.tup (List.replicate k d)) μ := by
  have a : decide (-(2 ^ 63) ≤ (k : Int)) = true := decide_eq_true (by omega)
  have b : decide ((k : Int) < 2 ^ 63) = true := decide_eq_true (by omega)
  have c : fits ([d].length * k) = true := fits_of (by simp; omega)
  have e : (bif [d].isEmpty || (k : Int) == 1 then [d] else (List.replicate k [d]).flatten) = List.replicate k d := by
    rw [flat_rep]
    by_cases e : k = 1
    · subst e; rfl
    · have z : ((k : Int) == 1) = false := by simp; omega
      rw [z]
      rfl
  simp only [gMulA, a, b, Int.toNat_natCast, c, Bool.and_self, Bool.and_true, x_ct, x_pure, e]
theorem x_addt {xs ys : List T} {μ : Store} (h : xs.length + ys.length ≤ 16777216) : gAdd (.tup xs) (.tup ys) μ = .ok (.tup (xs ++ ys)) μ := by
  have e := congrFun (congrArg (fun b => (bif b then M.pure (T.tup (xs ++ ys)) else M.no : M T)) (fits_of h)) μ
  exact e
theorem x_addl {xs ys : List T} {μ : Store} (h : xs.length + ys.length ≤ 16777216) : gAdd (.lst xs) (.lst ys) μ = .ok (.lst (xs ++ ys)) μ := by
  have e := congrFun (congrArg (fun b => (bif b then M.pure (T.lst (xs ++ ys)) else M.no : M T)) (fits_of h)) μ
  exact e
end TL

namespace TL
open PySem PySem.Spec PyProof.Rows L2 StX
def top (i : Nat) : Stmt := PySem.Challenge.pw_gatesums_k09_whole_values_of_words.main.body.getD i (.Pass ⟨0, 0, 0, 0⟩)
def c_GREAT : Int := 999999999999999999999999999999999999999999999999999999999999
def c_MOST_BITS : Int := 60
def m__law_bag : List T → M T := mkFn 4
    (sSeq (sSet 2 (eIf (bT (eOp (ld2 gLt) (eVar 1) (eB (g1 gLen) (aCons (eVar 0) aNil)))) (eB (g1 gInt) (aCons (eOp (ld2 gIx) (eVar 0) (eVar 1)) aNil)) (eOp (ld2 gAdd) (eOp (ld2 gMulA) (eC (.int 149)) (eVar 1)) (eC (.int 83)))))
    (sSeq (sSet 3 (eOp (ld2 gMod) (eB (g2 gMax2) (aCons (eC (.int 0)) (aCons (eOp (ld2 gSub) (eB (g1 gAbs) (aCons (eVar 2) aNil)) (eOp (ld2 gPow) (eC (.int 10)) (eC (.int 16)))) aNil))) (eOp (ld2 gMulA) (eOp (ld2 gPow) (eC (.int 10)) (eC (.int 58))) (eOp (ld2 gPow) (eC (.int 10)) (eC (.int 59))))))
    (sRet (eCell (lLst (aCons (eVar 3) (aCons (eOp (ld2 gAdd) (eOp (ld2 gAdd) (eOp (ld2 gAdd) (eOp (ld2 gMulA) (eOp (ld2 gMod) (eB (g1 gAbs) (aCons (eVar 2) aNil)) (eC (.int 1152921504606846999))) (eC (.int 101))) (eOp (ld2 gMulA) (eC (.int 1049)) (eVar 1))) (eOp (ld2 gMulA) (eC (.int 59)) (eB (g1 gInt) (aCons (eOp (ld2 gLt) (eVar 2) (eC (.int 0))) aNil)))) (eC (.int 29))) (aCons (eC (.int 0)) aNil))))))))
def m_is_within : List T → M T := mkFn 3
    (sRet (eAnd (eB (g2 gIsi) (aCons (eVar 0) (aCons (eC (.ty "int")) aNil))) (eAnd (eNot (bT (eB (g2 gIsi) (aCons (eVar 0) (aCons (eC (.ty "bool")) aNil))))) (eChain (ld2 (gCmp fun i j => decide (i ≤ j))) (ld2 (gCmp fun i j => decide (i ≤ j))) (eVar 1) (eVar 0) (eVar 2)))))
def m_are_bits : List T → M T := mkFn 3
    (sRet (eAnd (eB (g2 gIsi) (aCons (eVar 0) (aCons (eC (.ty "tuple")) aNil))) (eAnd (eOp (ld2 gEq) (eB (g1 gLen) (aCons (eVar 0) aNil)) (eVar 1)) (eB (g1 gAll) (aCons (eTree (lComp [2] (iSeq (eVar 0)) (hName 2) bYes (eCall 3 m_is_within (aCons (eVar 2) (aCons (eC (.int 0)) (aCons (eC (.int 1)) aNil)))))) aNil)))))
def m_require_bits : List T → M T := mkFn 1
    (sIf (bOr (bNot (bT (eB (g2 gIsi) (aCons (eVar 0) (aCons (eC (.ty "tuple")) aNil))))) (bOr (bNot (bChain (ld2 (gCmp fun i j => decide (i ≤ j))) (ld2 (gCmp fun i j => decide (i ≤ j))) (eC (.int 1)) (eB (g1 gLen) (aCons (eVar 0) aNil)) (eC (.int c_MOST_BITS)))) (bNot (bT (eCall 2 m_are_bits (aCons (eVar 0) (aCons (eB (g1 gLen) (aCons (eVar 0) aNil)) aNil))))))) sNever sNil)
def m_plain_in : List T → M T := mkFn 3
    (sSeq (sSet 1 (eC (.int 0)))
    (sSeq (sFor (iSeq (eUn (fun d => M.bind (ld d) gRev) (eVar 0))) (hName 2) (sSet 1 (eOp (ld2 gAdd) (eOp (ld2 gMulA) (eC (.int 2)) (eVar 1)) (eVar 2))))
    (sRet (eVar 1))))
def m_plain_value : List T → M T := mkFn 1
    (sSeq (sExp (eCall 1 m_require_bits (aCons (eVar 0) aNil)))
    (sRet (eCall 1 m_plain_in (aCons (eVar 0) aNil))))
def m_signed_in : List T → M T := mkFn 1
    (sRet (eOp (ld2 gSub) (eCall 1 m_plain_in (aCons (eVar 0) aNil)) (eOp (ld2 gShl) (eOp (ld2 gIx) (eVar 0) (eUn (fun x => M.bind (ld x) gNeg) (eC (.int 1)))) (eB (g1 gLen) (aCons (eVar 0) aNil)))))
def m_signed_value : List T → M T := mkFn 1
    (sSeq (sExp (eCall 1 m_require_bits (aCons (eVar 0) aNil)))
    (sRet (eCall 1 m_signed_in (aCons (eVar 0) aNil))))
def m_require_number : List T → M T := mkFn 1
    (sIf (bNot (bT (eCall 3 m_is_within (aCons (eVar 0) (aCons (eUn (fun x => M.bind (ld x) gNeg) (eC (.int c_GREAT))) (aCons (eC (.int c_GREAT)) aNil)))))) sNever sNil)
def m_require_wide : List T → M T := mkFn 1
    (sIf (bNot (bT (eCall 3 m_is_within (aCons (eVar 0) (aCons (eC (.int 1)) (aCons (eC (.int c_MOST_BITS)) aNil)))))) sNever sNil)
def m_require_held : List T → M T := mkFn 2
    (sSeq (sExp (eCall 1 m_require_number (aCons (eVar 0) aNil)))
    (sExp (eCall 1 m_require_wide (aCons (eVar 1) aNil))))
def m_bits_by : List T → M T := mkFn 3
    (sRet (eB (g1 gTuple) (aCons (eTree (lComp [2] (iB gRange1 (aCons (eVar 1) aNil)) (hName 2) bYes (eOp (ld2 (gBit Builtin.bitAnd)) (eOp (ld2 gShr) (eVar 0) (eVar 2)) (eC (.int 1))))) aNil)))
def m_plain_bits : List T → M T := mkFn 2
    (sSeq (sExp (eCall 2 m_require_held (aCons (eVar 0) (aCons (eVar 1) aNil))))
    (sSeq (sIf (bT (eOp (ld2 gNe) (eCall 1 m_plain_in (aCons (eCall 2 m_bits_by (aCons (eVar 0) (aCons (eVar 1) aNil))) aNil)) (eVar 0))) sNever sNil)
    (sRet (eCall 2 m_bits_by (aCons (eVar 0) (aCons (eVar 1) aNil))))))
def m_signed_by : List T → M T := mkFn 2
    (sRet (eCall 1 m_signed_in (aCons (eCall 2 m_bits_by (aCons (eVar 0) (aCons (eVar 1) aNil))) aNil)))
def m_signed_bits : List T → M T := mkFn 2
    (sSeq (sExp (eCall 2 m_require_held (aCons (eVar 0) (aCons (eVar 1) aNil))))
    (sSeq (sIf (bT (eOp (ld2 gNe) (eCall 2 m_signed_by (aCons (eVar 0) (aCons (eVar 1) aNil))) (eVar 0))) sNever sNil)
    (sRet (eCall 2 m_bits_by (aCons (eVar 0) (aCons (eVar 1) aNil))))))
def m_wrapped : List T → M T := mkFn 2
    (sSeq (sExp (eCall 2 m_require_held (aCons (eVar 0) (aCons (eVar 1) aNil))))
    (sRet (eCall 1 m_plain_in (aCons (eCall 2 m_bits_by (aCons (eVar 0) (aCons (eVar 1) aNil))) aNil))))
def m_signed_wrapped : List T → M T := mkFn 2
    (sSeq (sExp (eCall 2 m_require_held (aCons (eVar 0) (aCons (eVar 1) aNil))))
    (sRet (eCall 2 m_signed_by (aCons (eVar 0) (aCons (eVar 1) aNil)))))
def m_wider_bits : List T → M T := mkFn 2
    (sSeq (sExp (eCall 1 m_require_bits (aCons (eVar 0) aNil)))
    (sSeq (sExp (eCall 1 m_require_wide (aCons (eVar 1) aNil)))
    (sRet (eB (g1 gTuple) (aCons (eSl (eTree (lLst (aStar (eVar 0) (aStar (eOp (ld2 gMulA) (eTree (lLst (aCons (eC (.int 0)) aNil))) (eVar 1)) aNil)))) oNone (oSome (eVar 1))) aNil)))))
def m_signed_wider : List T → M T := mkFn 2
    (sSeq (sExp (eCall 1 m_require_bits (aCons (eVar 0) aNil)))
    (sSeq (sExp (eCall 1 m_require_wide (aCons (eVar 1) aNil)))
    (sRet (eB (g1 gTuple) (aCons (eSl (eTree (lLst (aStar (eVar 0) (aStar (eOp (ld2 gMulA) (eTree (lLst (aCons (eOp (ld2 gIx) (eVar 0) (eUn (fun x => M.bind (ld x) gNeg) (eC (.int 1)))) aNil))) (eVar 1)) aNil)))) oNone (oSome (eVar 1))) aNil)))))
def m__law_rows : List T → M T := mkFn 4
    (sSeq (sSet 1 (eTree (lLst (aCons (eTup aNil) aNil))))
    (sSeq (sFor (iB gRange1 (aCons (eVar 0) aNil)) (hName 2) (sSet 1 (eB (gSum2) (aCons (eTree (lComp [3] (iSeq (eVar 1)) (hName 3) bYes (eTree (lLst (aCons (eOp (ld2 gAdd) (eVar 3) (eTup (aCons (eC (.int 0)) aNil))) (aCons (eOp (ld2 gAdd) (eVar 3) (eTup (aCons (eC (.int 1)) aNil))) aNil)))))) (aCons (eTree (lLst aNil)) aNil)))))
    (sRet (eVar 1))))
def m__law_power : List T → M T := mkFn 3
    (sSeq (sSet 1 (eC (.int 1)))
    (sSeq (sFor (iB gRange1 (aCons (eVar 0) aNil)) (hName 2) (sSet 1 (eOp (ld2 gMulA) (eVar 1) (eC (.int 2)))))
    (sRet (eVar 1))))
def m__law_plain : List T → M T := mkFn 3
    (sRet (eB (g1 gSum) (aCons (eTree (lComp [1, 2] (iB gEnum (aCons (eVar 0) aNil)) (hTup 2 (hsCons (hName 1) (hsCons (hName 2) hsNil))) bYes (eOp (ld2 gMulA) (eVar 2) (eCall 1 m__law_power (aCons (eVar 1) aNil))))) aNil)))
def m__law_draw : List T → M T := mkFn 5
    (sSeq (sIf (bT (eOp (ld2 (gCmp fun i j => decide (j < i))) (eOp (ld2 gIx) (eVar 0) (eC (.int 0))) (eC (.int 0)))) (sSeq (sSet 2 (eOp (ld2 gMod) (eB (g1 gInt) (aCons (eOp (ld2 gIx) (eVar 0) (eC (.int 0))) aNil)) (eVar 1)))
    (sSeq (sTgt (hSub (eVar 0) (eC (.int 0)) gSetI) (eOp (ld2 gFdiv) (eOp (ld2 gIx) (eVar 0) (eC (.int 0))) (eVar 1)))
    (sRet (eVar 2)))) sNil)
    (sSeq (sTgt (hSub (eVar 0) (eC (.int 2)) gSetI) (eOp (ld2 gAdd) (eOp (ld2 gIx) (eVar 0) (eC (.int 2))) (eC (.int 1))))
    (sSeq (sSet 3 (eOp (ld2 gMod) (eB (g1 gInt) (aCons (eOp (ld2 gAdd) (eOp (ld2 gIx) (eVar 0) (eC (.int 1))) (eOp (ld2 gMulA) (eC (.int 86028121)) (eOp (ld2 gIx) (eVar 0) (eC (.int 2))))) aNil)) (eC (.int 2305843009213693951))))
    (sSeq (sSet 4 (eOp (ld2 gAdd) (eOp (ld2 gMulA) (eOp (ld2 gMod) (eB (g1 gInt) (aCons (eOp (ld2 gAdd) (eOp (ld2 gMulA) (eVar 3) (eVar 3)) (eOp (ld2 gMulA) (eC (.int 107)) (eOp (ld2 gIx) (eVar 0) (eC (.int 2))))) aNil)) (eC (.int 2305843009213693921))) (eC (.int 3999971))) (eVar 3)))
    (sRet (eOp (ld2 gMod) (eB (g1 gInt) (aCons (eOp (ld2 gFdiv) (eVar 4) (eC (.int 65539))) aNil)) (eVar 1)))))))
def m__law_right : List T → M T := mkFn 14
    (sSeq (sPar 1 2 (aCons (eOp (ld2 gAdd) (eC (.int 1)) (eCall 2 m__law_draw (aCons (eVar 0) (aCons (eC (.int 60)) aNil)))) (aCons (eOp (ld2 gAdd) (eC (.int 1)) (eCall 2 m__law_draw (aCons (eVar 0) (aCons (eC (.int 60)) aNil)))) aNil)))
    (sSeq (sSet 3 (eB (g1 gTuple) (aCons (eTree (lComp [4] (iB gRange1 (aCons (eVar 1) aNil)) (hName 4) bYes (eCall 2 m__law_draw (aCons (eVar 0) (aCons (eC (.int 2)) aNil))))) aNil)))
    (sSeq (sSet 5 (eCall 1 m__law_plain (aCons (eVar 3) aNil)))
    (sSeq (sSet 6 (eOp (ld2 gSub) (eVar 5) (eOp (ld2 gMulA) (eOp (ld2 gIx) (eVar 3) (eUn (fun x => M.bind (ld x) gNeg) (eC (.int 1)))) (eCall 1 m__law_power (aCons (eVar 1) aNil)))))
    (sSeq (sIf (bT (eOp (ld2 gNe) (eB (g1 gRepr) (aCons (eTree (lLst (aCons (eCall 1 m_plain_value (aCons (eVar 3) aNil)) (aCons (eCall 1 m_signed_value (aCons (eVar 3) aNil)) (aCons (eCall 2 m_plain_bits (aCons (eVar 5) (aCons (eVar 1) aNil))) (aCons (eCall 2 m_signed_bits (aCons (eVar 6) (aCons (eVar 1) aNil))) aNil)))))) aNil)) (eB (g1 gRepr) (aCons (eTree (lLst (aCons (eVar 5) (aCons (eVar 6) (aCons (eVar 3) (aCons (eVar 3) aNil)))))) aNil)))) (sRet (eC (.bl false))) sNil)
    (sSeq (sSet 7 (eB (g1 gTuple) (aCons (eTree (lComp [8] (iSeq (eVar 3)) (hName 8) bYes (eOp (ld2 gSub) (eC (.int 1)) (eVar 8)))) aNil)))
    (sSeq (sIf (bOr (bT (eOp (ld2 gNe) (eCall 1 m_plain_value (aCons (eVar 7) aNil)) (eOp (ld2 gSub) (eOp (ld2 gSub) (eCall 1 m__law_power (aCons (eVar 1) aNil)) (eC (.int 1))) (eVar 5)))) (bT (eOp (ld2 gNe) (eCall 1 m_signed_value (aCons (eVar 7) aNil)) (eOp (ld2 gSub) (eOp (ld2 gSub) (eC (.int 0)) (eC (.int 1))) (eVar 6))))) (sRet (eC (.bl false))) sNil)
    (sSeq (sSet 9 (eB (g2 gMin2) (aCons (eVar 1) (aCons (eVar 2) aNil))))
    (sSeq (sSet 10 (eTree (lLst (aCons (eOp (ld2 gAdd) (eSl (eVar 3) oNone (oSome (eVar 2))) (eOp (ld2 gMulA) (eTup (aCons (eC (.int 0)) aNil)) (eOp (ld2 gSub) (eVar 2) (eVar 9)))) (aCons (eOp (ld2 gAdd) (eSl (eVar 3) oNone (oSome (eVar 2))) (eOp (ld2 gMulA) (eTup (aCons (eOp (ld2 gIx) (eVar 3) (eUn (fun x => M.bind (ld x) gNeg) (eC (.int 1)))) aNil)) (eOp (ld2 gSub) (eVar 2) (eVar 9)))) aNil)))))
    (sSeq (sIf (bOr (bT (eOp (ld2 gNe) (eB (g1 gRepr) (aCons (eTree (lLst (aCons (eCall 2 m_wider_bits (aCons (eVar 3) (aCons (eVar 2) aNil))) (aCons (eCall 2 m_signed_wider (aCons (eVar 3) (aCons (eVar 2) aNil))) aNil)))) aNil)) (eB (g1 gRepr) (aCons (eVar 10) aNil)))) (bT (eOp (ld2 gNe) (eCall 1 m_plain_value (aCons (eOp (ld2 gIx) (eVar 10) (eC (.int 0))) aNil)) (eOp (ld2 gMod) (eVar 5) (eCall 1 m__law_power (aCons (eVar 2) aNil)))))) (sRet (eC (.bl false))) sNil)
    (sSeq (sIf (bAnd (bT (eOp (ld2 (gCmp fun i j => decide (j ≤ i))) (eVar 2) (eVar 1))) (bT (eOp (ld2 gNe) (eTree (lLst (aCons (eCall 1 m_plain_value (aCons (eOp (ld2 gIx) (eVar 10) (eC (.int 0))) aNil)) (aCons (eCall 1 m_signed_value (aCons (eOp (ld2 gIx) (eVar 10) (eC (.int 1))) aNil)) aNil)))) (eTree (lLst (aCons (eVar 5) (aCons (eVar 6) aNil))))))) (sRet (eC (.bl false))) sNil)
    (sSeq (sSet 11 (eOp (ld2 gSub) (eCall 2 m__law_draw (aCons (eVar 0) (aCons (eCall 1 m__law_power (aCons (eC (.int 62)) aNil)) aNil))) (eCall 1 m__law_power (aCons (eC (.int 61)) aNil))))
    (sSeq (sSet 12 (eOp (ld2 gMod) (eVar 11) (eCall 1 m__law_power (aCons (eVar 1) aNil))))
    (sSeq (sSet 13 (eIf (bT (eOp (ld2 (gCmp fun i j => decide (j ≤ i))) (eVar 12) (eCall 1 m__law_power (aCons (eOp (ld2 gSub) (eVar 1) (eC (.int 1))) aNil)))) (eOp (ld2 gSub) (eVar 12) (eCall 1 m__law_power (aCons (eVar 1) aNil))) (eVar 12)))
    (sRet (eAnd (eOp (ld2 gEq) (eB (g1 gRepr) (aCons (eTree (lLst (aCons (eCall 2 m_wrapped (aCons (eVar 11) (aCons (eVar 1) aNil))) (aCons (eCall 2 m_signed_wrapped (aCons (eVar 11) (aCons (eVar 1) aNil))) aNil)))) aNil)) (eB (g1 gRepr) (aCons (eTree (lLst (aCons (eVar 12) (aCons (eVar 13) aNil)))) aNil))) (eOp (ld2 gEq) (eCall 2 m_plain_bits (aCons (eVar 12) (aCons (eVar 1) aNil))) (eCall 2 m_signed_bits (aCons (eVar 13) (aCons (eVar 1) aNil))))))))))))))))))))
def m_law : List T → M T := mkFn 9
    (sSeq (sFor (iSeq (eTup (aCons (eC (.int 1)) (aCons (eC (.int 2)) (aCons (eC (.int 3)) aNil))))) (hName 1) (sSeq (sSet 2 (eTree (lComp [3] (iB gRange1 (aCons (eCall 1 m__law_power (aCons (eVar 1) aNil)) aNil)) (hName 3) bYes (eCall 2 m_plain_bits (aCons (eVar 3) (aCons (eVar 1) aNil))))))
    (sSeq (sSet 4 (eTree (lComp [3] (iB gRange1 (aCons (eCall 1 m__law_power (aCons (eVar 1) aNil)) aNil)) (hName 3) bYes (eCall 2 m_signed_bits (aCons (eOp (ld2 gSub) (eVar 3) (eCall 1 m__law_power (aCons (eOp (ld2 gSub) (eVar 1) (eC (.int 1))) aNil))) (aCons (eVar 1) aNil))))))
    (sIf (bOr (bT (eOp (ld2 gNe) (eTree (lB gSorted (aCons (eVar 2) aNil))) (eCall 1 m__law_rows (aCons (eVar 1) aNil)))) (bT (eOp (ld2 gNe) (eTree (lB gSorted (aCons (eVar 4) aNil))) (eCall 1 m__law_rows (aCons (eVar 1) aNil))))) (sRet (eC (.bl false))) sNil))))
    (sSeq (sFor (iB gRange1 (aCons (eB (g2 gMax2) (aCons (eC (.int 1)) (aCons (eB (g2 gMin2) (aCons (eC (.int 2)) (aCons (eB (g1 gLen) (aCons (eVar 0) aNil)) aNil))) aNil))) aNil)) (hName 5) (sSeq (sSet 6 (eCall 2 m__law_bag (aCons (eVar 0) (aCons (eVar 5) aNil))))
    (sIf (bT (eOp (ld2 gNe) (eTree (lComp [7] (iB gRange1 (aCons (eC (.int 10)) aNil)) (hName 7) (bNot (bT (eCall 1 m__law_right (aCons (eVar 6) aNil)))) (eC (.int 1)))) (eTree (lLst aNil)))) (sRet (eC (.bl false))) sNil)))
    (sSeq (sSet 8 (eTree (lLst (aCons (eCall 1 m_plain_value (aCons (eTup (aCons (eC (.int 1)) (aCons (eC (.int 0)) (aCons (eC (.int 1)) aNil)))) aNil)) (aCons (eCall 1 m_signed_value (aCons (eTup (aCons (eC (.int 1)) (aCons (eC (.int 0)) (aCons (eC (.int 1)) aNil)))) aNil)) (aCons (eCall 2 m_plain_bits (aCons (eC (.int 6)) (aCons (eC (.int 4)) aNil))) (aCons (eCall 2 m_signed_bits (aCons (eUn (fun x => M.bind (ld x) gNeg) (eC (.int 3))) (aCons (eC (.int 3)) aNil))) (aCons (eCall 2 m_wrapped (aCons (eUn (fun x => M.bind (ld x) gNeg) (eC (.int 1))) (aCons (eC (.int 4)) aNil))) (aCons (eCall 2 m_signed_wrapped (aCons (eC (.int 13)) (aCons (eC (.int 4)) aNil))) (aCons (eCall 2 m_wider_bits (aCons (eTup (aCons (eC (.int 1)) (aCons (eC (.int 1)) aNil))) (aCons (eC (.int 4)) aNil))) (aCons (eCall 2 m_signed_wider (aCons (eTup (aCons (eC (.int 0)) (aCons (eC (.int 1)) aNil))) (aCons (eC (.int 4)) aNil))) aNil)))))))))))
    (sRet (eOp (ld2 gEq) (eB (g1 gRepr) (aCons (eOp (ld2 gAdd) (eVar 8) (eTree (lLst (aCons (eCall 2 m_signed_wider (aCons (eTup (aCons (eC (.int 1)) (aCons (eC (.int 0)) (aCons (eC (.int 1)) (aCons (eC (.int 1)) aNil))))) (aCons (eC (.int 2)) aNil))) (aCons (eCall 2 m_signed_bits (aCons (eUn (fun x => M.bind (ld x) gNeg) (eC (.int 1))) (aCons (eC (.int 1)) aNil))) aNil))))) aNil)) (eB (g1 gRepr) (aCons (eTree (lLst (aCons (eC (.int 5)) (aCons (eUn (fun x => M.bind (ld x) gNeg) (eC (.int 3))) (aCons (eTup (aCons (eC (.int 0)) (aCons (eC (.int 1)) (aCons (eC (.int 1)) (aCons (eC (.int 0)) aNil))))) (aCons (eTup (aCons (eC (.int 1)) (aCons (eC (.int 0)) (aCons (eC (.int 1)) aNil)))) (aCons (eC (.int 15)) (aCons (eUn (fun x => M.bind (ld x) gNeg) (eC (.int 3))) (aCons (eTup (aCons (eC (.int 1)) (aCons (eC (.int 1)) (aCons (eC (.int 0)) (aCons (eC (.int 0)) aNil))))) (aCons (eTup (aCons (eC (.int 0)) (aCons (eC (.int 1)) (aCons (eC (.int 1)) (aCons (eC (.int 1)) aNil))))) (aCons (eTup (aCons (eC (.int 1)) (aCons (eC (.int 0)) aNil))) (aCons (eTup (aCons (eC (.int 1)) aNil)) aNil)))))))))))) aNil)))))))
/-- what stands at the names -/
structure Facts (K : PySem.W.Frag) (mg : Str → Option Value) : Prop where
  f__law_bag : ∃ f fd, mg "_law_bag" = some (.ref f) ∧ Fun K "_law_bag" "_law_bag" (top 29) f fd
  f_is_within : ∃ f fd, mg "is_within" = some (.ref f) ∧ Fun K "is_within" "is_within" (top 7) f fd
  f_are_bits : ∃ f fd, mg "are_bits" = some (.ref f) ∧ Fun K "are_bits" "are_bits" (top 10) f fd
  f_require_bits : ∃ f fd, mg "require_bits" = some (.ref f) ∧ Fun K "require_bits" "require_bits" (top 17) f fd
  f_plain_in : ∃ f fd, mg "plain_in" = some (.ref f) ∧ Fun K "plain_in" "plain_in" (top 13) f fd
  f_plain_value : ∃ f fd, mg "plain_value" = some (.ref f) ∧ Fun K "plain_value" "plain_value" (top 20) f fd
  f_signed_in : ∃ f fd, mg "signed_in" = some (.ref f) ∧ Fun K "signed_in" "signed_in" (top 14) f fd
  f_signed_value : ∃ f fd, mg "signed_value" = some (.ref f) ∧ Fun K "signed_value" "signed_value" (top 21) f fd
  f_require_number : ∃ f fd, mg "require_number" = some (.ref f) ∧ Fun K "require_number" "require_number" (top 8) f fd
  f_require_wide : ∃ f fd, mg "require_wide" = some (.ref f) ∧ Fun K "require_wide" "require_wide" (top 18) f fd
  f_require_held : ∃ f fd, mg "require_held" = some (.ref f) ∧ Fun K "require_held" "require_held" (top 19) f fd
  f_bits_by : ∃ f fd, mg "bits_by" = some (.ref f) ∧ Fun K "bits_by" "bits_by" (top 15) f fd
  f_plain_bits : ∃ f fd, mg "plain_bits" = some (.ref f) ∧ Fun K "plain_bits" "plain_bits" (top 22) f fd
  f_signed_by : ∃ f fd, mg "signed_by" = some (.ref f) ∧ Fun K "signed_by" "signed_by" (top 16) f fd
  f_signed_bits : ∃ f fd, mg "signed_bits" = some (.ref f) ∧ Fun K "signed_bits" "signed_bits" (top 23) f fd
  f_wrapped : ∃ f fd, mg "wrapped" = some (.ref f) ∧ Fun K "wrapped" "wrapped" (top 24) f fd
  f_signed_wrapped : ∃ f fd, mg "signed_wrapped" = some (.ref f) ∧ Fun K "signed_wrapped" "signed_wrapped" (top 25) f fd
  f_wider_bits : ∃ f fd, mg "wider_bits" = some (.ref f) ∧ Fun K "wider_bits" "wider_bits" (top 26) f fd
  f_signed_wider : ∃ f fd, mg "signed_wider" = some (.ref f) ∧ Fun K "signed_wider" "signed_wider" (top 27) f fd
  f__law_rows : ∃ f fd, mg "_law_rows" = some (.ref f) ∧ Fun K "_law_rows" "_law_rows" (top 31) f fd
  f__law_power : ∃ f fd, mg "_law_power" = some (.ref f) ∧ Fun K "_law_power" "_law_power" (top 32) f fd
  f__law_plain : ∃ f fd, mg "_law_plain" = some (.ref f) ∧ Fun K "_law_plain" "_law_plain" (top 33) f fd
  f__law_draw : ∃ f fd, mg "_law_draw" = some (.ref f) ∧ Fun K "_law_draw" "_law_draw" (top 30) f fd
  f__law_right : ∃ f fd, mg "_law_right" = some (.ref f) ∧ Fun K "_law_right" "_law_right" (top 34) f fd
  f_law : ∃ f fd, mg "law" = some (.ref f) ∧ Fun K "law" "law" (top 35) f fd
  z_abs : mg "abs" = none
  z_all : mg "all" = none
  z_bool : mg "bool" = none
  z_enumerate : mg "enumerate" = none
  z_int : mg "int" = none
  z_isinstance : mg "isinstance" = none
  z_len : mg "len" = none
  z_max : mg "max" = none
  z_min : mg "min" = none
  z_range : mg "range" = none
  z_repr : mg "repr" = none
  z_sorted : mg "sorted" = none
  z_sum : mg "sum" = none
  z_tuple : mg "tuple" = none
  c_GREAT : ∃ t, mg "GREAT" = some (.int c_GREAT t)
  c_MOST_BITS : ∃ t, mg "MOST_BITS" = some (.int c_MOST_BITS t)
section
variable {P : Program} {w : World} {K : PySem.W.Frag} {mg : Str → Option Value} {base : Heap}
theorem D__law_bag (h : Facts K mg) : Def P w K mg base "_law_bag" 1 2 m__law_bag := by
  obtain ⟨f, fd, gf, F⟩ := h.f__law_bag
  exact def_mk (N := ["script", "spot", "cell", "great"]) (ps := ["script", "spot"]) gf F ⟨rfl, rfl, rfl, by decide +kernel, rfl, by decide +kernel, by decide +kernel⟩ rfl (fun _ _ _ _ _ _ us hl => match us, hl with | [_, _], _ => rfl) (fun cdv A outer s H E o =>
    (b_cons (s_set (i := 2) o.nd (d_if (t_cmp (o_lt o) (d_var 1) (d_bi c_len h.z_len PySem.boot_len (a_cons (d_var 0) a_nil))) (d_bty c_int h.z_int PyProof.Rows.boot_int (a_cons (d_ix o (d_var 0) (d_var 1)) a_nil)) (d_op o_add (d_op o_mul d_int (d_var 1)) d_int)))
    (b_cons (s_set (i := 3) o.nd (d_op o_mod (d_bi (c_max2 o) h.z_max PyProof.Rows.boot_max (a_cons d_int (a_cons (d_op o_sub (d_bi c_abs h.z_abs PyProof.Rows.boot_abs (a_cons (d_var 2) a_nil)) (d_op o_pow d_int d_int)) a_nil))) (d_op o_mul (d_op o_pow d_int d_int) (d_op o_pow d_int d_int))))
    (b_one (s_ret (d_cell (l_lst (a_cons (d_var 3) (a_cons (d_op o_add (d_op o_add (d_op o_add (d_op o_mul (d_op o_mod (d_bi c_abs h.z_abs PyProof.Rows.boot_abs (a_cons (d_var 2) a_nil)) d_int) d_int) (d_op o_mul d_int (d_var 1))) (d_op o_mul d_int (d_bty c_int h.z_int PyProof.Rows.boot_int (a_cons (d_cmp (o_lt o) (d_var 2) d_int) a_nil)))) d_int) (a_cons d_int a_nil)))))))))) rfl
theorem D_is_within (h : Facts K mg) : Def P w K mg base "is_within" 1 3 m_is_within := by
  obtain ⟨f, fd, gf, F⟩ := h.f_is_within
  exact def_mk (N := ["value", "least", "most"]) (ps := ["value", "least", "most"]) gf F ⟨rfl, rfl, rfl, by decide +kernel, rfl, by decide +kernel, by decide +kernel⟩ rfl (fun _ _ _ _ _ _ us hl => match us, hl with | [_, _, _], _ => rfl) (fun cdv A outer s H E o =>
    (b_one (s_ret (d_and (d_bi c_isi h.z_isinstance PyProof.Rows.boot_isinstance (a_cons (d_var 0) (a_cons (d_bltn (v := .ty "int") (d := .ty "int") h.z_int PyProof.Rows.boot_int rfl (fun _ _ => .ty "int")) a_nil))) (d_and (d_not (d_bi c_isi h.z_isinstance PyProof.Rows.boot_isinstance (a_cons (d_var 0) (a_cons (d_bltn (v := .ty "bool") (d := .ty "bool") h.z_bool PyProof.Rows.boot_bool rfl (fun _ _ => .ty "bool")) a_nil)))) (d_one (d_chain o_le o_le (d_var 1) (d_var 0) (d_var 2)))))))) rfl
theorem D_are_bits (h : Facts K mg) : Def P w K mg base "are_bits" 2 2 m_are_bits := by
  obtain ⟨f, fd, gf, F⟩ := h.f_are_bits
  exact def_mk (N := ["value", "many", "one"]) (ps := ["value", "many"]) gf F ⟨rfl, rfl, rfl, by decide +kernel, rfl, by decide +kernel, by decide +kernel⟩ rfl (fun _ _ _ _ _ _ us hl => match us, hl with | [_, _], _ => rfl) (fun cdv A outer s H E o =>
    (b_one (s_ret (d_and (d_bi c_isi h.z_isinstance PyProof.Rows.boot_isinstance (a_cons (d_var 0) (a_cons (d_bltn (v := .ty "tuple") (d := .ty "tuple") h.z_tuple PyProof.Rows.boot_tuple rfl (fun _ _ => .ty "tuple")) a_nil))) (d_and (d_cmp (o_eq o) (d_bi c_len h.z_len PySem.boot_len (a_cons (d_var 0) a_nil)) (d_var 1)) (d_one (d_bi (c_all o) h.z_all PyProof.Rows.boot_all (a_cons (d_tree (l_comp (own := [("one", 2)]) o (i_seq (d_var 0)) (by kernel_rfl) (fun s H C cl fp o => (g_name (i := 2) o)) (fun s H C cl fp o => ts_nil) (fun s H C cl fp o => (d_call (D_is_within h) o (a_cons (d_var 2) (a_cons d_int (a_cons d_int a_nil))))))) a_nil)))))))) rfl
theorem D_require_bits (h : Facts K mg) : Def P w K mg base "require_bits" 3 1 m_require_bits := by
  obtain ⟨f, fd, gf, F⟩ := h.f_require_bits
  exact def_mk (N := ["bits"]) (ps := ["bits"]) gf F ⟨rfl, rfl, rfl, by decide +kernel, rfl, by decide +kernel, by decide +kernel⟩ rfl (fun _ _ _ _ _ _ us hl => match us, hl with | [_], _ => rfl) (fun cdv A outer s H E o =>
    (b_one (s_if (t_bool (w_or (t_not (d_test (d_bi c_isi h.z_isinstance PyProof.Rows.boot_isinstance (a_cons (d_var 0) (a_cons (d_bltn (v := .ty "tuple") (d := .ty "tuple") h.z_tuple PyProof.Rows.boot_tuple rfl (fun _ _ => .ty "tuple")) a_nil))))) (w_or (t_not (t_chain o_le o_le d_int (d_bi c_len h.z_len PySem.boot_len (a_cons (d_var 0) a_nil)) (d_glob (v := .int c_MOST_BITS) (d := .int c_MOST_BITS) (Classical.choose_spec h.c_MOST_BITS) ⟨_, rfl⟩ (fun _ _ => .int _)))) (w_or1 (t_not (d_test (d_call (D_are_bits h) o (a_cons (d_var 0) (a_cons (d_bi c_len h.z_len PySem.boot_len (a_cons (d_var 0) a_nil)) a_nil))))))))) (b_one s_never) b_nil))) rfl
theorem D_plain_in (h : Facts K mg) : Def P w K mg base "plain_in" 1 1 m_plain_in := by
  obtain ⟨f, fd, gf, F⟩ := h.f_plain_in
  exact def_mk (N := ["bits", "found", "bit"]) (ps := ["bits"]) gf F ⟨rfl, rfl, rfl, by decide +kernel, rfl, by decide +kernel, by decide +kernel⟩ rfl (fun _ _ _ _ _ _ us hl => match us, hl with | [_], _ => rfl) (fun cdv A outer s H E o =>
    (b_cons (s_set (i := 1) o.nd d_int)
    (b_cons (s_for (vs := [2]) o (i_seq (d_rev (d_var 0))) (g_name (i := 2) o) (b_one (s_set (i := 1) o.nd (d_op o_add (d_op o_mul d_int (d_var 1)) (d_var 2)))))
    (b_one (s_ret (d_var 1)))))) rfl
theorem D_plain_value (h : Facts K mg) : Def P w K mg base "plain_value" 4 1 m_plain_value := by
  obtain ⟨f, fd, gf, F⟩ := h.f_plain_value
  exact def_mk (N := ["bits"]) (ps := ["bits"]) gf F ⟨rfl, rfl, rfl, by decide +kernel, rfl, by decide +kernel, by decide +kernel⟩ rfl (fun _ _ _ _ _ _ us hl => match us, hl with | [_], _ => rfl) (fun cdv A outer s H E o =>
    (b_cons (s_expr (d_call (D_require_bits h) o (a_cons (d_var 0) a_nil)))
    (b_one (s_ret (d_call (D_plain_in h) o (a_cons (d_var 0) a_nil)))))) rfl
theorem D_signed_in (h : Facts K mg) : Def P w K mg base "signed_in" 2 1 m_signed_in := by
  obtain ⟨f, fd, gf, F⟩ := h.f_signed_in
  exact def_mk (N := ["bits"]) (ps := ["bits"]) gf F ⟨rfl, rfl, rfl, by decide +kernel, rfl, by decide +kernel, by decide +kernel⟩ rfl (fun _ _ _ _ _ _ us hl => match us, hl with | [_], _ => rfl) (fun cdv A outer s H E o =>
    (b_one (s_ret (d_op o_sub (d_call (D_plain_in h) o (a_cons (d_var 0) a_nil)) (d_op o_shl (d_ix o (d_var 0) (d_un u_neg d_int)) (d_bi c_len h.z_len PySem.boot_len (a_cons (d_var 0) a_nil))))))) rfl
theorem D_signed_value (h : Facts K mg) : Def P w K mg base "signed_value" 4 1 m_signed_value := by
  obtain ⟨f, fd, gf, F⟩ := h.f_signed_value
  exact def_mk (N := ["bits"]) (ps := ["bits"]) gf F ⟨rfl, rfl, rfl, by decide +kernel, rfl, by decide +kernel, by decide +kernel⟩ rfl (fun _ _ _ _ _ _ us hl => match us, hl with | [_], _ => rfl) (fun cdv A outer s H E o =>
    (b_cons (s_expr (d_call (D_require_bits h) o (a_cons (d_var 0) a_nil)))
    (b_one (s_ret (d_call (D_signed_in h) o (a_cons (d_var 0) a_nil)))))) rfl
theorem D_require_number (h : Facts K mg) : Def P w K mg base "require_number" 2 1 m_require_number := by
  obtain ⟨f, fd, gf, F⟩ := h.f_require_number
  exact def_mk (N := ["number"]) (ps := ["number"]) gf F ⟨rfl, rfl, rfl, by decide +kernel, rfl, by decide +kernel, by decide +kernel⟩ rfl (fun _ _ _ _ _ _ us hl => match us, hl with | [_], _ => rfl) (fun cdv A outer s H E o =>
    (b_one (s_if (t_not (d_test (d_call (D_is_within h) o (a_cons (d_var 0) (a_cons (d_un u_neg (d_glob (v := .int c_GREAT) (d := .int c_GREAT) (Classical.choose_spec h.c_GREAT) ⟨_, rfl⟩ (fun _ _ => .int _))) (a_cons (d_glob (v := .int c_GREAT) (d := .int c_GREAT) (Classical.choose_spec h.c_GREAT) ⟨_, rfl⟩ (fun _ _ => .int _)) a_nil)))))) (b_one s_never) b_nil))) rfl
theorem D_require_wide (h : Facts K mg) : Def P w K mg base "require_wide" 2 1 m_require_wide := by
  obtain ⟨f, fd, gf, F⟩ := h.f_require_wide
  exact def_mk (N := ["wide"]) (ps := ["wide"]) gf F ⟨rfl, rfl, rfl, by decide +kernel, rfl, by decide +kernel, by decide +kernel⟩ rfl (fun _ _ _ _ _ _ us hl => match us, hl with | [_], _ => rfl) (fun cdv A outer s H E o =>
    (b_one (s_if (t_not (d_test (d_call (D_is_within h) o (a_cons (d_var 0) (a_cons d_int (a_cons (d_glob (v := .int c_MOST_BITS) (d := .int c_MOST_BITS) (Classical.choose_spec h.c_MOST_BITS) ⟨_, rfl⟩ (fun _ _ => .int _)) a_nil)))))) (b_one s_never) b_nil))) rfl
theorem D_require_held (h : Facts K mg) : Def P w K mg base "require_held" 3 2 m_require_held := by
  obtain ⟨f, fd, gf, F⟩ := h.f_require_held
  exact def_mk (N := ["number", "wide"]) (ps := ["number", "wide"]) gf F ⟨rfl, rfl, rfl, by decide +kernel, rfl, by decide +kernel, by decide +kernel⟩ rfl (fun _ _ _ _ _ _ us hl => match us, hl with | [_, _], _ => rfl) (fun cdv A outer s H E o =>
    (b_cons (s_expr (d_call (D_require_number h) o (a_cons (d_var 0) a_nil)))
    (b_one (s_expr (d_call (D_require_wide h) o (a_cons (d_var 1) a_nil)))))) rfl
theorem D_bits_by (h : Facts K mg) : Def P w K mg base "bits_by" 1 2 m_bits_by := by
  obtain ⟨f, fd, gf, F⟩ := h.f_bits_by
  exact def_mk (N := ["number", "wide", "at"]) (ps := ["number", "wide"]) gf F ⟨rfl, rfl, rfl, by decide +kernel, rfl, by decide +kernel, by decide +kernel⟩ rfl (fun _ _ _ _ _ _ us hl => match us, hl with | [_, _], _ => rfl) (fun cdv A outer s H E o =>
    (b_one (s_ret (d_bty c_tuple h.z_tuple PyProof.Rows.boot_tuple (a_cons (d_tree (l_comp (own := [("at", 2)]) o (i_range1 (a_cons (d_var 1) a_nil) h.z_range) (by kernel_rfl) (fun s H C cl fp o => (g_name (i := 2) o)) (fun s H C cl fp o => ts_nil) (fun s H C cl fp o => (d_op o_and (d_op o_shr (d_var 0) (d_var 2)) d_int)))) a_nil))))) rfl
theorem D_plain_bits (h : Facts K mg) : Def P w K mg base "plain_bits" 4 2 m_plain_bits := by
  obtain ⟨f, fd, gf, F⟩ := h.f_plain_bits
  exact def_mk (N := ["number", "wide"]) (ps := ["number", "wide"]) gf F ⟨rfl, rfl, rfl, by decide +kernel, rfl, by decide +kernel, by decide +kernel⟩ rfl (fun _ _ _ _ _ _ us hl => match us, hl with | [_, _], _ => rfl) (fun cdv A outer s H E o =>
    (b_cons (s_expr (d_call (D_require_held h) o (a_cons (d_var 0) (a_cons (d_var 1) a_nil))))
    (b_cons (s_if (t_cmp (o_ne o) (d_call (D_plain_in h) o (a_cons (d_call (D_bits_by h) o (a_cons (d_var 0) (a_cons (d_var 1) a_nil))) a_nil)) (d_var 0)) (b_one s_never) b_nil)
    (b_one (s_ret (d_call (D_bits_by h) o (a_cons (d_var 0) (a_cons (d_var 1) a_nil)))))))) rfl
theorem D_signed_by (h : Facts K mg) : Def P w K mg base "signed_by" 3 2 m_signed_by := by
  obtain ⟨f, fd, gf, F⟩ := h.f_signed_by
  exact def_mk (N := ["number", "wide"]) (ps := ["number", "wide"]) gf F ⟨rfl, rfl, rfl, by decide +kernel, rfl, by decide +kernel, by decide +kernel⟩ rfl (fun _ _ _ _ _ _ us hl => match us, hl with | [_, _], _ => rfl) (fun cdv A outer s H E o =>
    (b_one (s_ret (d_call (D_signed_in h) o (a_cons (d_call (D_bits_by h) o (a_cons (d_var 0) (a_cons (d_var 1) a_nil))) a_nil))))) rfl
theorem D_signed_bits (h : Facts K mg) : Def P w K mg base "signed_bits" 4 2 m_signed_bits := by
  obtain ⟨f, fd, gf, F⟩ := h.f_signed_bits
  exact def_mk (N := ["number", "wide"]) (ps := ["number", "wide"]) gf F ⟨rfl, rfl, rfl, by decide +kernel, rfl, by decide +kernel, by decide +kernel⟩ rfl (fun _ _ _ _ _ _ us hl => match us, hl with | [_, _], _ => rfl) (fun cdv A outer s H E o =>
    (b_cons (s_expr (d_call (D_require_held h) o (a_cons (d_var 0) (a_cons (d_var 1) a_nil))))
    (b_cons (s_if (t_cmp (o_ne o) (d_call (D_signed_by h) o (a_cons (d_var 0) (a_cons (d_var 1) a_nil))) (d_var 0)) (b_one s_never) b_nil)
    (b_one (s_ret (d_call (D_bits_by h) o (a_cons (d_var 0) (a_cons (d_var 1) a_nil)))))))) rfl
theorem D_wrapped (h : Facts K mg) : Def P w K mg base "wrapped" 4 2 m_wrapped := by
  obtain ⟨f, fd, gf, F⟩ := h.f_wrapped
  exact def_mk (N := ["number", "wide"]) (ps := ["number", "wide"]) gf F ⟨rfl, rfl, rfl, by decide +kernel, rfl, by decide +kernel, by decide +kernel⟩ rfl (fun _ _ _ _ _ _ us hl => match us, hl with | [_, _], _ => rfl) (fun cdv A outer s H E o =>
    (b_cons (s_expr (d_call (D_require_held h) o (a_cons (d_var 0) (a_cons (d_var 1) a_nil))))
    (b_one (s_ret (d_call (D_plain_in h) o (a_cons (d_call (D_bits_by h) o (a_cons (d_var 0) (a_cons (d_var 1) a_nil))) a_nil)))))) rfl
theorem D_signed_wrapped (h : Facts K mg) : Def P w K mg base "signed_wrapped" 4 2 m_signed_wrapped := by
  obtain ⟨f, fd, gf, F⟩ := h.f_signed_wrapped
  exact def_mk (N := ["number", "wide"]) (ps := ["number", "wide"]) gf F ⟨rfl, rfl, rfl, by decide +kernel, rfl, by decide +kernel, by decide +kernel⟩ rfl (fun _ _ _ _ _ _ us hl => match us, hl with | [_, _], _ => rfl) (fun cdv A outer s H E o =>
    (b_cons (s_expr (d_call (D_require_held h) o (a_cons (d_var 0) (a_cons (d_var 1) a_nil))))
    (b_one (s_ret (d_call (D_signed_by h) o (a_cons (d_var 0) (a_cons (d_var 1) a_nil))))))) rfl
theorem D_wider_bits (h : Facts K mg) : Def P w K mg base "wider_bits" 4 2 m_wider_bits := by
  obtain ⟨f, fd, gf, F⟩ := h.f_wider_bits
  exact def_mk (N := ["bits", "wide"]) (ps := ["bits", "wide"]) gf F ⟨rfl, rfl, rfl, by decide +kernel, rfl, by decide +kernel, by decide +kernel⟩ rfl (fun _ _ _ _ _ _ us hl => match us, hl with | [_, _], _ => rfl) (fun cdv A outer s H E o =>
    (b_cons (s_expr (d_call (D_require_bits h) o (a_cons (d_var 0) a_nil)))
    (b_cons (s_expr (d_call (D_require_wide h) o (a_cons (d_var 1) a_nil)))
    (b_one (s_ret (d_bty c_tuple h.z_tuple PyProof.Rows.boot_tuple (a_cons (d_sl (d_tree (l_lst (a_star (d_var 0) (a_star (d_op o_mul (d_tree (l_lst (a_cons d_int a_nil))) (d_var 1)) a_nil)))) o_none (o_some (d_var 1))) a_nil))))))) rfl
theorem D_signed_wider (h : Facts K mg) : Def P w K mg base "signed_wider" 4 2 m_signed_wider := by
  obtain ⟨f, fd, gf, F⟩ := h.f_signed_wider
  exact def_mk (N := ["bits", "wide"]) (ps := ["bits", "wide"]) gf F ⟨rfl, rfl, rfl, by decide +kernel, rfl, by decide +kernel, by decide +kernel⟩ rfl (fun _ _ _ _ _ _ us hl => match us, hl with | [_, _], _ => rfl) (fun cdv A outer s H E o =>
    (b_cons (s_expr (d_call (D_require_bits h) o (a_cons (d_var 0) a_nil)))
    (b_cons (s_expr (d_call (D_require_wide h) o (a_cons (d_var 1) a_nil)))
    (b_one (s_ret (d_bty c_tuple h.z_tuple PyProof.Rows.boot_tuple (a_cons (d_sl (d_tree (l_lst (a_star (d_var 0) (a_star (d_op o_mul (d_tree (l_lst (a_cons (d_ix o (d_var 0) (d_un u_neg d_int)) a_nil))) (d_var 1)) a_nil)))) o_none (o_some (d_var 1))) a_nil))))))) rfl
theorem D__law_rows (h : Facts K mg) : Def P w K mg base "_law_rows" 1 1 m__law_rows := by
  obtain ⟨f, fd, gf, F⟩ := h.f__law_rows
  exact def_mk (N := ["many", "found", "at", "row"]) (ps := ["many"]) gf F ⟨rfl, rfl, rfl, by decide +kernel, rfl, by decide +kernel, by decide +kernel⟩ rfl (fun _ _ _ _ _ _ us hl => match us, hl with | [_], _ => rfl) (fun cdv A outer s H E o =>
    (b_cons (s_set (i := 1) o.nd (d_tree (l_lst (a_cons (d_tup a_nil) a_nil))))
    (b_cons (s_for (vs := [2]) o (i_range1 (a_cons (d_var 0) a_nil) h.z_range) (g_name (i := 2) o) (b_one (s_set (i := 1) o.nd (d_bi (c_sum2 o) h.z_sum PyProof.Rows.boot_sum (a_cons (d_tree (l_comp (own := [("row", 3)]) o (i_seq (d_var 1)) (by kernel_rfl) (fun s H C cl fp o => (g_name (i := 3) o)) (fun s H C cl fp o => ts_nil) (fun s H C cl fp o => (d_tree (l_lst (a_cons (d_op o_add (d_var 3) (d_tup (a_cons d_int a_nil))) (a_cons (d_op o_add (d_var 3) (d_tup (a_cons d_int a_nil))) a_nil))))))) (a_cons (d_tree (l_lst a_nil)) a_nil))))))
    (b_one (s_ret (d_var 1)))))) rfl
theorem D__law_power (h : Facts K mg) : Def P w K mg base "_law_power" 1 1 m__law_power := by
  obtain ⟨f, fd, gf, F⟩ := h.f__law_power
  exact def_mk (N := ["many", "found", "turn"]) (ps := ["many"]) gf F ⟨rfl, rfl, rfl, by decide +kernel, rfl, by decide +kernel, by decide +kernel⟩ rfl (fun _ _ _ _ _ _ us hl => match us, hl with | [_], _ => rfl) (fun cdv A outer s H E o =>
    (b_cons (s_set (i := 1) o.nd d_int)
    (b_cons (s_for (vs := [2]) o (i_range1 (a_cons (d_var 0) a_nil) h.z_range) (g_name (i := 2) o) (b_one (s_set (i := 1) o.nd (d_op o_mul (d_var 1) d_int))))
    (b_one (s_ret (d_var 1)))))) rfl
theorem D__law_plain (h : Facts K mg) : Def P w K mg base "_law_plain" 2 1 m__law_plain := by
  obtain ⟨f, fd, gf, F⟩ := h.f__law_plain
  exact def_mk (N := ["bits", "at", "bit"]) (ps := ["bits"]) gf F ⟨rfl, rfl, rfl, by decide +kernel, rfl, by decide +kernel, by decide +kernel⟩ rfl (fun _ _ _ _ _ _ us hl => match us, hl with | [_], _ => rfl) (fun cdv A outer s H E o =>
    (b_one (s_ret (d_bi (c_sum o) h.z_sum PyProof.Rows.boot_sum (a_cons (d_tree (l_comp (own := [("at", 1), ("bit", 2)]) o (i_enum (a_cons (d_var 0) a_nil) h.z_enumerate) (by kernel_rfl) (fun s H C cl fp o => (g_tup (n := 2) o (gs_cons (g_name (i := 1) o) (gs_cons (g_name (i := 2) o) gs_nil)))) (fun s H C cl fp o => ts_nil) (fun s H C cl fp o => (d_op o_mul (d_var 2) (d_call (D__law_power h) o (a_cons (d_var 1) a_nil)))))) a_nil))))) rfl
theorem D__law_draw (h : Facts K mg) : Def P w K mg base "_law_draw" 1 2 m__law_draw := by
  obtain ⟨f, fd, gf, F⟩ := h.f__law_draw
  exact def_mk (N := ["bag", "total", "found", "one", "two"]) (ps := ["bag", "total"]) gf F ⟨rfl, rfl, rfl, by decide +kernel, rfl, by decide +kernel, by decide +kernel⟩ rfl (fun _ _ _ _ _ _ us hl => match us, hl with | [_, _], _ => rfl) (fun cdv A outer s H E o =>
    (b_cons (s_if (t_cmp o_gt (d_ix o (d_var 0) d_int) d_int) (b_cons (s_set (i := 2) o.nd (d_op o_mod (d_bty c_int h.z_int PyProof.Rows.boot_int (a_cons (d_ix o (d_var 0) d_int) a_nil)) (d_var 1)))
    (b_cons (s_tgt (vs := []) (d_op o_fdiv (d_ix o (d_var 0) d_int) (d_var 1)) (g_sub (d_var 0) d_int set_ix))
    (b_one (s_ret (d_var 2))))) b_nil)
    (b_cons (s_tgt (vs := []) (d_op o_add (d_ix o (d_var 0) d_int) d_int) (g_sub (d_var 0) d_int set_ix))
    (b_cons (s_set (i := 3) o.nd (d_op o_mod (d_bty c_int h.z_int PyProof.Rows.boot_int (a_cons (d_op o_add (d_ix o (d_var 0) d_int) (d_op o_mul d_int (d_ix o (d_var 0) d_int))) a_nil)) d_int))
    (b_cons (s_set (i := 4) o.nd (d_op o_add (d_op o_mul (d_op o_mod (d_bty c_int h.z_int PyProof.Rows.boot_int (a_cons (d_op o_add (d_op o_mul (d_var 3) (d_var 3)) (d_op o_mul d_int (d_ix o (d_var 0) d_int))) a_nil)) d_int) d_int) (d_var 3)))
    (b_one (s_ret (d_op o_mod (d_bty c_int h.z_int PyProof.Rows.boot_int (a_cons (d_op o_fdiv (d_var 4) d_int) a_nil)) (d_var 1))))))))) rfl
theorem D__law_right (h : Facts K mg) : Def P w K mg base "_law_right" 5 1 m__law_right := by
  obtain ⟨f, fd, gf, F⟩ := h.f__law_right
  exact def_mk (N := ["bag", "wide", "more", "bits", "at", "plain", "signed", "turned", "bit", "short", "due", "number", "low", "high"]) (ps := ["bag"]) gf F ⟨rfl, rfl, rfl, by decide +kernel, rfl, by decide +kernel, by decide +kernel⟩ rfl (fun _ _ _ _ _ _ us hl => match us, hl with | [_], _ => rfl) (fun cdv A outer s H E o =>
    (b_cons (s_par o 1 2 (a_cons (d_op o_add d_int (d_call (D__law_draw h) o (a_cons (d_var 0) (a_cons d_int a_nil)))) (a_cons (d_op o_add d_int (d_call (D__law_draw h) o (a_cons (d_var 0) (a_cons d_int a_nil)))) a_nil)))
    (b_cons (s_set (i := 3) o.nd (d_bty c_tuple h.z_tuple PyProof.Rows.boot_tuple (a_cons (d_tree (l_comp (own := [("at", 4)]) o (i_range1 (a_cons (d_var 1) a_nil) h.z_range) (by kernel_rfl) (fun s H C cl fp o => (g_name (i := 4) o)) (fun s H C cl fp o => ts_nil) (fun s H C cl fp o => (d_call (D__law_draw h) o (a_cons (d_var 0) (a_cons d_int a_nil)))))) a_nil)))
    (b_cons (s_set (i := 5) o.nd (d_call (D__law_plain h) o (a_cons (d_var 3) a_nil)))
    (b_cons (s_set (i := 6) o.nd (d_op o_sub (d_var 5) (d_op o_mul (d_ix o (d_var 3) (d_un u_neg d_int)) (d_call (D__law_power h) o (a_cons (d_var 1) a_nil)))))
    (b_cons (s_if (t_cmp (o_ne o) (d_bi (c_repr o) h.z_repr PyProof.Rows.boot_repr (a_cons (d_tree (l_lst (a_cons (d_call (D_plain_value h) o (a_cons (d_var 3) a_nil)) (a_cons (d_call (D_signed_value h) o (a_cons (d_var 3) a_nil)) (a_cons (d_call (D_plain_bits h) o (a_cons (d_var 5) (a_cons (d_var 1) a_nil))) (a_cons (d_call (D_signed_bits h) o (a_cons (d_var 6) (a_cons (d_var 1) a_nil))) a_nil)))))) a_nil)) (d_bi (c_repr o) h.z_repr PyProof.Rows.boot_repr (a_cons (d_tree (l_lst (a_cons (d_var 5) (a_cons (d_var 6) (a_cons (d_var 3) (a_cons (d_var 3) a_nil)))))) a_nil))) (b_one (s_ret d_bl)) b_nil)
    (b_cons (s_set (i := 7) o.nd (d_bty c_tuple h.z_tuple PyProof.Rows.boot_tuple (a_cons (d_tree (l_comp (own := [("bit", 8)]) o (i_seq (d_var 3)) (by kernel_rfl) (fun s H C cl fp o => (g_name (i := 8) o)) (fun s H C cl fp o => ts_nil) (fun s H C cl fp o => (d_op o_sub d_int (d_var 8))))) a_nil)))
    (b_cons (s_if (t_bool (w_or (t_cmp (o_ne o) (d_call (D_plain_value h) o (a_cons (d_var 7) a_nil)) (d_op o_sub (d_op o_sub (d_call (D__law_power h) o (a_cons (d_var 1) a_nil)) d_int) (d_var 5))) (w_or1 (t_cmp (o_ne o) (d_call (D_signed_value h) o (a_cons (d_var 7) a_nil)) (d_op o_sub (d_op o_sub d_int d_int) (d_var 6)))))) (b_one (s_ret d_bl)) b_nil)
    (b_cons (s_set (i := 9) o.nd (d_bi (c_min2 o) h.z_min PyProof.Rows.boot_min (a_cons (d_var 1) (a_cons (d_var 2) a_nil))))
    (b_cons (s_set (i := 10) o.nd (d_tree (l_lst (a_cons (d_op o_add (d_sl (d_var 3) o_none (o_some (d_var 2))) (d_op o_mul (d_tup (a_cons d_int a_nil)) (d_op o_sub (d_var 2) (d_var 9)))) (a_cons (d_op o_add (d_sl (d_var 3) o_none (o_some (d_var 2))) (d_op o_mul (d_tup (a_cons (d_ix o (d_var 3) (d_un u_neg d_int)) a_nil)) (d_op o_sub (d_var 2) (d_var 9)))) a_nil)))))
    (b_cons (s_if (t_bool (w_or (t_cmp (o_ne o) (d_bi (c_repr o) h.z_repr PyProof.Rows.boot_repr (a_cons (d_tree (l_lst (a_cons (d_call (D_wider_bits h) o (a_cons (d_var 3) (a_cons (d_var 2) a_nil))) (a_cons (d_call (D_signed_wider h) o (a_cons (d_var 3) (a_cons (d_var 2) a_nil))) a_nil)))) a_nil)) (d_bi (c_repr o) h.z_repr PyProof.Rows.boot_repr (a_cons (d_var 10) a_nil))) (w_or1 (t_cmp (o_ne o) (d_call (D_plain_value h) o (a_cons (d_ix o (d_var 10) d_int) a_nil)) (d_op o_mod (d_var 5) (d_call (D__law_power h) o (a_cons (d_var 2) a_nil))))))) (b_one (s_ret d_bl)) b_nil)
    (b_cons (s_if (t_bool (w_and (t_cmp o_ge (d_var 2) (d_var 1)) (w_and1 (t_cmp (o_ne o) (d_tree (l_lst (a_cons (d_call (D_plain_value h) o (a_cons (d_ix o (d_var 10) d_int) a_nil)) (a_cons (d_call (D_signed_value h) o (a_cons (d_ix o (d_var 10) d_int) a_nil)) a_nil)))) (d_tree (l_lst (a_cons (d_var 5) (a_cons (d_var 6) a_nil)))))))) (b_one (s_ret d_bl)) b_nil)
    (b_cons (s_set (i := 11) o.nd (d_op o_sub (d_call (D__law_draw h) o (a_cons (d_var 0) (a_cons (d_call (D__law_power h) o (a_cons d_int a_nil)) a_nil))) (d_call (D__law_power h) o (a_cons d_int a_nil))))
    (b_cons (s_set (i := 12) o.nd (d_op o_mod (d_var 11) (d_call (D__law_power h) o (a_cons (d_var 1) a_nil))))
    (b_cons (s_set (i := 13) o.nd (d_if (t_cmp o_ge (d_var 12) (d_call (D__law_power h) o (a_cons (d_op o_sub (d_var 1) d_int) a_nil))) (d_op o_sub (d_var 12) (d_call (D__law_power h) o (a_cons (d_var 1) a_nil))) (d_var 12)))
    (b_one (s_ret (d_and (d_cmp (o_eq o) (d_bi (c_repr o) h.z_repr PyProof.Rows.boot_repr (a_cons (d_tree (l_lst (a_cons (d_call (D_wrapped h) o (a_cons (d_var 11) (a_cons (d_var 1) a_nil))) (a_cons (d_call (D_signed_wrapped h) o (a_cons (d_var 11) (a_cons (d_var 1) a_nil))) a_nil)))) a_nil)) (d_bi (c_repr o) h.z_repr PyProof.Rows.boot_repr (a_cons (d_tree (l_lst (a_cons (d_var 12) (a_cons (d_var 13) a_nil)))) a_nil))) (d_one (d_cmp (o_eq o) (d_call (D_plain_bits h) o (a_cons (d_var 12) (a_cons (d_var 1) a_nil))) (d_call (D_signed_bits h) o (a_cons (d_var 13) (a_cons (d_var 1) a_nil))))))))))))))))))))))) rfl
theorem G_law {f : Addr} {fd : FuncData} (h : Facts K mg) (F : Fun K "law" "law" (top 35) f fd) : FnG P w K mg base 6 f fd ["script"] m_law :=
  fnG (N := ["script", "wide", "some", "number", "far", "at", "bag", "turn", "told"]) (ps := ["script"]) F ⟨rfl, rfl, rfl, by decide +kernel, rfl, by decide +kernel, by decide +kernel⟩ (fun cdv A outer s H E o =>
    (b_cons (s_for (vs := [1]) o (i_seq (d_tup (a_cons d_int (a_cons d_int (a_cons d_int a_nil))))) (g_name (i := 1) o) (b_cons (s_setc (own := [("number", 3)]) o 2 (e := eTree) tL_tree (i_range1 (a_cons (d_call (D__law_power h) o (a_cons (d_var 1) a_nil)) a_nil) h.z_range) (by kernel_rfl) (fun s H C cl fp o => (g_name (i := 3) o)) (fun s H C cl fp o => ts_nil) (fun s H C cl fp o => (d_call (D_plain_bits h) o (a_cons (d_var 3) (a_cons (d_var 1) a_nil)))))
    (b_cons (s_setc (own := [("number", 3)]) o 4 (e := eTree) tL_tree (i_range1 (a_cons (d_call (D__law_power h) o (a_cons (d_var 1) a_nil)) a_nil) h.z_range) (by kernel_rfl) (fun s H C cl fp o => (g_name (i := 3) o)) (fun s H C cl fp o => ts_nil) (fun s H C cl fp o => (d_call (D_signed_bits h) o (a_cons (d_op o_sub (d_var 3) (d_call (D__law_power h) o (a_cons (d_op o_sub (d_var 1) d_int) a_nil))) (a_cons (d_var 1) a_nil)))))
    (b_one (s_if (t_bool (w_or (t_cmp (o_ne o) (d_tree (l_bi (c_sorted o) h.z_sorted PyProof.Rows.boot_sorted (a_cons (d_var 2) a_nil))) (d_call (D__law_rows h) o (a_cons (d_var 1) a_nil))) (w_or1 (t_cmp (o_ne o) (d_tree (l_bi (c_sorted o) h.z_sorted PyProof.Rows.boot_sorted (a_cons (d_var 4) a_nil))) (d_call (D__law_rows h) o (a_cons (d_var 1) a_nil)))))) (b_one (s_ret d_bl)) b_nil)))))
    (b_cons (s_for (vs := [5]) o (i_range1 (a_cons (d_bi (c_max2 o) h.z_max PyProof.Rows.boot_max (a_cons d_int (a_cons (d_bi (c_min2 o) h.z_min PyProof.Rows.boot_min (a_cons d_int (a_cons (d_bi c_len h.z_len PySem.boot_len (a_cons (d_var 0) a_nil)) a_nil))) a_nil))) a_nil) h.z_range) (g_name (i := 5) o) (b_cons (s_set (i := 6) o.nd (d_call (D__law_bag h) o (a_cons (d_var 0) (a_cons (d_var 5) a_nil))))
    (b_one (s_if (t_cmp (o_ne o) (d_tree (l_comp (own := [("turn", 7)]) o (i_range1 (a_cons d_int a_nil) h.z_range) (by kernel_rfl) (fun s H C cl fp o => (g_name (i := 7) o)) (fun s H C cl fp o => (ts_one (t_not (d_test (d_call (D__law_right h) o (a_cons (d_var 6) a_nil)))))) (fun s H C cl fp o => d_int))) (d_tree (l_lst a_nil))) (b_one (s_ret d_bl)) b_nil))))
    (b_cons (s_set (i := 8) o.nd (d_tree (l_lst (a_cons (d_call (D_plain_value h) o (a_cons (d_tup (a_cons d_int (a_cons d_int (a_cons d_int a_nil)))) a_nil)) (a_cons (d_call (D_signed_value h) o (a_cons (d_tup (a_cons d_int (a_cons d_int (a_cons d_int a_nil)))) a_nil)) (a_cons (d_call (D_plain_bits h) o (a_cons d_int (a_cons d_int a_nil))) (a_cons (d_call (D_signed_bits h) o (a_cons (d_un u_neg d_int) (a_cons d_int a_nil))) (a_cons (d_call (D_wrapped h) o (a_cons (d_un u_neg d_int) (a_cons d_int a_nil))) (a_cons (d_call (D_signed_wrapped h) o (a_cons d_int (a_cons d_int a_nil))) (a_cons (d_call (D_wider_bits h) o (a_cons (d_tup (a_cons d_int (a_cons d_int a_nil))) (a_cons d_int a_nil))) (a_cons (d_call (D_signed_wider h) o (a_cons (d_tup (a_cons d_int (a_cons d_int a_nil))) (a_cons d_int a_nil))) a_nil)))))))))))
    (b_one (s_ret (d_cmp (o_eq o) (d_bi (c_repr o) h.z_repr PyProof.Rows.boot_repr (a_cons (d_op o_add (d_var 8) (d_tree (l_lst (a_cons (d_call (D_signed_wider h) o (a_cons (d_tup (a_cons d_int (a_cons d_int (a_cons d_int (a_cons d_int a_nil))))) (a_cons d_int a_nil))) (a_cons (d_call (D_signed_bits h) o (a_cons (d_un u_neg d_int) (a_cons d_int a_nil))) a_nil))))) a_nil)) (d_bi (c_repr o) h.z_repr PyProof.Rows.boot_repr (a_cons (d_tree (l_lst (a_cons d_int (a_cons (d_un u_neg d_int) (a_cons (d_tup (a_cons d_int (a_cons d_int (a_cons d_int (a_cons d_int a_nil))))) (a_cons (d_tup (a_cons d_int (a_cons d_int (a_cons d_int a_nil)))) (a_cons d_int (a_cons (d_un u_neg d_int) (a_cons (d_tup (a_cons d_int (a_cons d_int (a_cons d_int (a_cons d_int a_nil))))) (a_cons (d_tup (a_cons d_int (a_cons d_int (a_cons d_int (a_cons d_int a_nil))))) (a_cons (d_tup (a_cons d_int (a_cons d_int a_nil))) (a_cons (d_tup (a_cons d_int a_nil)) a_nil)))))))))))) a_nil)))))))))
end
theorem all_mk {l : PySem.W.OpenLaw} {w : World} {K : PySem.W.Frag} {h : Heap} {mg : Str → Option Value} {fa : Addr} (X : K.In h) (G : h.Ns mainGlobals mg) (hfa : mg "law" = some (.ref fa))
    {f0 f1 f2 f3 f4 f5 f6 f7 f8 f9 f10 f11 f12 f13 f14 f15 f16 f17 f18 f19 f20 f21 f22 f23 f24 : Addr} {od0 an0 od1 an1 od2 an2 od3 an3 od4 an4 od5 an5 od6 an6 od7 an7 od8 an8 od9 an9 od10 an10 od11 an11 od12 an12 od13 an13 od14 an14 od15 an15 od16 an16 od17 an17 od18 an18 od19 an19 od20 an20 od21 an21 od22 an22 od23 an23 od24 an24 : Option Addr} {sl0 sl1 sl2 sl3 sl4 sl5 sl6 sl7 sl8 sl9 sl10 sl11 sl12 sl13 sl14 sl15 sl16 sl17 sl18 sl19 sl20 sl21 sl22 sl23 sl24 : Array (Option Value)} {oc0 kV0 dc0 pm0 cd0 ct0 oc1 kV1 dc1 pm1 cd1 ct1 oc2 kV2 dc2 pm2 cd2 ct2 oc3 kV3 dc3 pm3 cd3 ct3 oc4 kV4 dc4 pm4 cd4 ct4 oc5 kV5 dc5 pm5 cd5 ct5 oc6 kV6 dc6 pm6 cd6 ct6 oc7 kV7 dc7 pm7 cd7 ct7 oc8 kV8 dc8 pm8 cd8 ct8 oc9 kV9 dc9 pm9 cd9 ct9 oc10 kV10 dc10 pm10 cd10 ct10 oc11 kV11 dc11 pm11 cd11 ct11 oc12 kV12 dc12 pm12 cd12 ct12 oc13 kV13 dc13 pm13 cd13 ct13 oc14 kV14 dc14 pm14 cd14 ct14 oc15 kV15 dc15 pm15 cd15 ct15 oc16 kV16 dc16 pm16 cd16 ct16 oc17 kV17 dc17 pm17 cd17 ct17 oc18 kV18 dc18 pm18 cd18 ct18 oc19 kV19 dc19 pm19 cd19 ct19 oc20 kV20 dc20 pm20 cd20 ct20 oc21 kV21 dc21 pm21 cd21 ct21 oc22 kV22 dc22 pm22 cd22 ct22 oc23 kV23 dc23 pm23 cd23 ct23 oc24 kV24 dc24 pm24 cd24 ct24 : Value}
    {t_GREAT t_MOST_BITS : Tok}
    (a0 : PySem.W.nsIn K mainGlobals "_law_bag" = some (some (.ref f0))) (l0 : K.lookup f0 = some ⟨oc0, od0, .func (PySem.W.fnOf "_law_bag" "_law_bag" (defArgs (top 29)) (defBody (top 29)) (defScope (top 29)) .none kV0 dc0 pm0 an0 cd0 ct0), sl0⟩)
    (k0 : PySem.W.codeIn K cd0 "_law_bag" = true) (e0 : PySem.W.keepIn K (.ref f0) = true)
    (a1 : PySem.W.nsIn K mainGlobals "is_within" = some (some (.ref f1))) (l1 : K.lookup f1 = some ⟨oc1, od1, .func (PySem.W.fnOf "is_within" "is_within" (defArgs (top 7)) (defBody (top 7)) (defScope (top 7)) .none kV1 dc1 pm1 an1 cd1 ct1), sl1⟩)
    (k1 : PySem.W.codeIn K cd1 "is_within" = true) (e1 : PySem.W.keepIn K (.ref f1) = true)
    (a2 : PySem.W.nsIn K mainGlobals "are_bits" = some (some (.ref f2))) (l2 : K.lookup f2 = some ⟨oc2, od2, .func (PySem.W.fnOf "are_bits" "are_bits" (defArgs (top 10)) (defBody (top 10)) (defScope (top 10)) .none kV2 dc2 pm2 an2 cd2 ct2), sl2⟩)
    (k2 : PySem.W.codeIn K cd2 "are_bits" = true) (e2 : PySem.W.keepIn K (.ref f2) = true)
    (a3 : PySem.W.nsIn K mainGlobals "require_bits" = some (some (.ref f3))) (l3 : K.lookup f3 = some ⟨oc3, od3, .func (PySem.W.fnOf "require_bits" "require_bits" (defArgs (top 17)) (defBody (top 17)) (defScope (top 17)) .none kV3 dc3 pm3 an3 cd3 ct3), sl3⟩)
    (k3 : PySem.W.codeIn K cd3 "require_bits" = true) (e3 : PySem.W.keepIn K (.ref f3) = true)
    (a4 : PySem.W.nsIn K mainGlobals "plain_in" = some (some (.ref f4))) (l4 : K.lookup f4 = some ⟨oc4, od4, .func (PySem.W.fnOf "plain_in" "plain_in" (defArgs (top 13)) (defBody (top 13)) (defScope (top 13)) .none kV4 dc4 pm4 an4 cd4 ct4), sl4⟩)
    (k4 : PySem.W.codeIn K cd4 "plain_in" = true) (e4 : PySem.W.keepIn K (.ref f4) = true)
    (a5 : PySem.W.nsIn K mainGlobals "plain_value" = some (some (.ref f5))) (l5 : K.lookup f5 = some ⟨oc5, od5, .func (PySem.W.fnOf "plain_value" "plain_value" (defArgs (top 20)) (defBody (top 20)) (defScope (top 20)) .none kV5 dc5 pm5 an5 cd5 ct5), sl5⟩)
    (k5 : PySem.W.codeIn K cd5 "plain_value" = true) (e5 : PySem.W.keepIn K (.ref f5) = true)
    (a6 : PySem.W.nsIn K mainGlobals "signed_in" = some (some (.ref f6))) (l6 : K.lookup f6 = some ⟨oc6, od6, .func (PySem.W.fnOf "signed_in" "signed_in" (defArgs (top 14)) (defBody (top 14)) (defScope (top 14)) .none kV6 dc6 pm6 an6 cd6 ct6), sl6⟩)
    (k6 : PySem.W.codeIn K cd6 "signed_in" = true) (e6 : PySem.W.keepIn K (.ref f6) = true)
    (a7 : PySem.W.nsIn K mainGlobals "signed_value" = some (some (.ref f7))) (l7 : K.lookup f7 = some ⟨oc7, od7, .func (PySem.W.fnOf "signed_value" "signed_value" (defArgs (top 21)) (defBody (top 21)) (defScope (top 21)) .none kV7 dc7 pm7 an7 cd7 ct7), sl7⟩)
    (k7 : PySem.W.codeIn K cd7 "signed_value" = true) (e7 : PySem.W.keepIn K (.ref f7) = true)
    (a8 : PySem.W.nsIn K mainGlobals "require_number" = some (some (.ref f8))) (l8 : K.lookup f8 = some ⟨oc8, od8, .func (PySem.W.fnOf "require_number" "require_number" (defArgs (top 8)) (defBody (top 8)) (defScope (top 8)) .none kV8 dc8 pm8 an8 cd8 ct8), sl8⟩)
    (k8 : PySem.W.codeIn K cd8 "require_number" = true) (e8 : PySem.W.keepIn K (.ref f8) = true)
    (a9 : PySem.W.nsIn K mainGlobals "require_wide" = some (some (.ref f9))) (l9 : K.lookup f9 = some ⟨oc9, od9, .func (PySem.W.fnOf "require_wide" "require_wide" (defArgs (top 18)) (defBody (top 18)) (defScope (top 18)) .none kV9 dc9 pm9 an9 cd9 ct9), sl9⟩)
    (k9 : PySem.W.codeIn K cd9 "require_wide" = true) (e9 : PySem.W.keepIn K (.ref f9) = true)
    (a10 : PySem.W.nsIn K mainGlobals "require_held" = some (some (.ref f10))) (l10 : K.lookup f10 = some ⟨oc10, od10, .func (PySem.W.fnOf "require_held" "require_held" (defArgs (top 19)) (defBody (top 19)) (defScope (top 19)) .none kV10 dc10 pm10 an10 cd10 ct10), sl10⟩)
    (k10 : PySem.W.codeIn K cd10 "require_held" = true) (e10 : PySem.W.keepIn K (.ref f10) = true)
    (a11 : PySem.W.nsIn K mainGlobals "bits_by" = some (some (.ref f11))) (l11 : K.lookup f11 = some ⟨oc11, od11, .func (PySem.W.fnOf "bits_by" "bits_by" (defArgs (top 15)) (defBody (top 15)) (defScope (top 15)) .none kV11 dc11 pm11 an11 cd11 ct11), sl11⟩)
    (k11 : PySem.W.codeIn K cd11 "bits_by" = true) (e11 : PySem.W.keepIn K (.ref f11) = true)
    (a12 : PySem.W.nsIn K mainGlobals "plain_bits" = some (some (.ref f12))) (l12 : K.lookup f12 = some ⟨oc12, od12, .func (PySem.W.fnOf "plain_bits" "plain_bits" (defArgs (top 22)) (defBody (top 22)) (defScope (top 22)) .none kV12 dc12 pm12 an12 cd12 ct12), sl12⟩)
    (k12 : PySem.W.codeIn K cd12 "plain_bits" = true) (e12 : PySem.W.keepIn K (.ref f12) = true)
    (a13 : PySem.W.nsIn K mainGlobals "signed_by" = some (some (.ref f13))) (l13 : K.lookup f13 = some ⟨oc13, od13, .func (PySem.W.fnOf "signed_by" "signed_by" (defArgs (top 16)) (defBody (top 16)) (defScope (top 16)) .none kV13 dc13 pm13 an13 cd13 ct13), sl13⟩)
    (k13 : PySem.W.codeIn K cd13 "signed_by" = true) (e13 : PySem.W.keepIn K (.ref f13) = true)
    (a14 : PySem.W.nsIn K mainGlobals "signed_bits" = some (some (.ref f14))) (l14 : K.lookup f14 = some ⟨oc14, od14, .func (PySem.W.fnOf "signed_bits" "signed_bits" (defArgs (top 23)) (defBody (top 23)) (defScope (top 23)) .none kV14 dc14 pm14 an14 cd14 ct14), sl14⟩)
    (k14 : PySem.W.codeIn K cd14 "signed_bits" = true) (e14 : PySem.W.keepIn K (.ref f14) = true)
    (a15 : PySem.W.nsIn K mainGlobals "wrapped" = some (some (.ref f15))) (l15 : K.lookup f15 = some ⟨oc15, od15, .func (PySem.W.fnOf "wrapped" "wrapped" (defArgs (top 24)) (defBody (top 24)) (defScope (top 24)) .none kV15 dc15 pm15 an15 cd15 ct15), sl15⟩)
    (k15 : PySem.W.codeIn K cd15 "wrapped" = true) (e15 : PySem.W.keepIn K (.ref f15) = true)
    (a16 : PySem.W.nsIn K mainGlobals "signed_wrapped" = some (some (.ref f16))) (l16 : K.lookup f16 = some ⟨oc16, od16, .func (PySem.W.fnOf "signed_wrapped" "signed_wrapped" (defArgs (top 25)) (defBody (top 25)) (defScope (top 25)) .none kV16 dc16 pm16 an16 cd16 ct16), sl16⟩)
    (k16 : PySem.W.codeIn K cd16 "signed_wrapped" = true) (e16 : PySem.W.keepIn K (.ref f16) = true)
    (a17 : PySem.W.nsIn K mainGlobals "wider_bits" = some (some (.ref f17))) (l17 : K.lookup f17 = some ⟨oc17, od17, .func (PySem.W.fnOf "wider_bits" "wider_bits" (defArgs (top 26)) (defBody (top 26)) (defScope (top 26)) .none kV17 dc17 pm17 an17 cd17 ct17), sl17⟩)
    (k17 : PySem.W.codeIn K cd17 "wider_bits" = true) (e17 : PySem.W.keepIn K (.ref f17) = true)
    (a18 : PySem.W.nsIn K mainGlobals "signed_wider" = some (some (.ref f18))) (l18 : K.lookup f18 = some ⟨oc18, od18, .func (PySem.W.fnOf "signed_wider" "signed_wider" (defArgs (top 27)) (defBody (top 27)) (defScope (top 27)) .none kV18 dc18 pm18 an18 cd18 ct18), sl18⟩)
    (k18 : PySem.W.codeIn K cd18 "signed_wider" = true) (e18 : PySem.W.keepIn K (.ref f18) = true)
    (a19 : PySem.W.nsIn K mainGlobals "_law_rows" = some (some (.ref f19))) (l19 : K.lookup f19 = some ⟨oc19, od19, .func (PySem.W.fnOf "_law_rows" "_law_rows" (defArgs (top 31)) (defBody (top 31)) (defScope (top 31)) .none kV19 dc19 pm19 an19 cd19 ct19), sl19⟩)
    (k19 : PySem.W.codeIn K cd19 "_law_rows" = true) (e19 : PySem.W.keepIn K (.ref f19) = true)
    (a20 : PySem.W.nsIn K mainGlobals "_law_power" = some (some (.ref f20))) (l20 : K.lookup f20 = some ⟨oc20, od20, .func (PySem.W.fnOf "_law_power" "_law_power" (defArgs (top 32)) (defBody (top 32)) (defScope (top 32)) .none kV20 dc20 pm20 an20 cd20 ct20), sl20⟩)
    (k20 : PySem.W.codeIn K cd20 "_law_power" = true) (e20 : PySem.W.keepIn K (.ref f20) = true)
    (a21 : PySem.W.nsIn K mainGlobals "_law_plain" = some (some (.ref f21))) (l21 : K.lookup f21 = some ⟨oc21, od21, .func (PySem.W.fnOf "_law_plain" "_law_plain" (defArgs (top 33)) (defBody (top 33)) (defScope (top 33)) .none kV21 dc21 pm21 an21 cd21 ct21), sl21⟩)
    (k21 : PySem.W.codeIn K cd21 "_law_plain" = true) (e21 : PySem.W.keepIn K (.ref f21) = true)
    (a22 : PySem.W.nsIn K mainGlobals "_law_draw" = some (some (.ref f22))) (l22 : K.lookup f22 = some ⟨oc22, od22, .func (PySem.W.fnOf "_law_draw" "_law_draw" (defArgs (top 30)) (defBody (top 30)) (defScope (top 30)) .none kV22 dc22 pm22 an22 cd22 ct22), sl22⟩)
    (k22 : PySem.W.codeIn K cd22 "_law_draw" = true) (e22 : PySem.W.keepIn K (.ref f22) = true)
    (a23 : PySem.W.nsIn K mainGlobals "_law_right" = some (some (.ref f23))) (l23 : K.lookup f23 = some ⟨oc23, od23, .func (PySem.W.fnOf "_law_right" "_law_right" (defArgs (top 34)) (defBody (top 34)) (defScope (top 34)) .none kV23 dc23 pm23 an23 cd23 ct23), sl23⟩)
    (k23 : PySem.W.codeIn K cd23 "_law_right" = true) (e23 : PySem.W.keepIn K (.ref f23) = true)
    (a24 : PySem.W.nsIn K mainGlobals "law" = some (some (.ref f24))) (l24 : K.lookup f24 = some ⟨oc24, od24, .func (PySem.W.fnOf "law" "law" (defArgs (top 35)) (defBody (top 35)) (defScope (top 35)) .none kV24 dc24 pm24 an24 cd24 ct24), sl24⟩)
    (k24 : PySem.W.codeIn K cd24 "law" = true) (e24 : PySem.W.keepIn K (.ref f24) = true)
    (z_abs : PySem.W.nsIn K mainGlobals "abs" = some none)
    (z_all : PySem.W.nsIn K mainGlobals "all" = some none)
    (z_bool : PySem.W.nsIn K mainGlobals "bool" = some none)
    (z_enumerate : PySem.W.nsIn K mainGlobals "enumerate" = some none)
    (z_int : PySem.W.nsIn K mainGlobals "int" = some none)
    (z_isinstance : PySem.W.nsIn K mainGlobals "isinstance" = some none)
    (z_len : PySem.W.nsIn K mainGlobals "len" = some none)
    (z_max : PySem.W.nsIn K mainGlobals "max" = some none)
    (z_min : PySem.W.nsIn K mainGlobals "min" = some none)
    (z_range : PySem.W.nsIn K mainGlobals "range" = some none)
    (z_repr : PySem.W.nsIn K mainGlobals "repr" = some none)
    (z_sorted : PySem.W.nsIn K mainGlobals "sorted" = some none)
    (z_sum : PySem.W.nsIn K mainGlobals "sum" = some none)
    (z_tuple : PySem.W.nsIn K mainGlobals "tuple" = some none)
    (c_GREAT : PySem.W.nsIn K mainGlobals "GREAT" = some (some (.int c_GREAT t_GREAT)))
    (c_MOST_BITS : PySem.W.nsIn K mainGlobals "MOST_BITS" = some (some (.int c_MOST_BITS t_MOST_BITS)))
    : ∃ fd : FuncData, (∀ (s : Shared) (u : Value), BindsTo s fd ⟨[u], []⟩ [("script", u)]) ∧ ∀ b : Heap, K.In b → b.Ns mainGlobals mg → FnG l.prog w K mg b 6 fa fd ["script"] m_law := by
  have hF : Facts K mg := {
    f__law_bag := ⟨_, _, PySem.W.mg_of X G a0, fun_mk (st := top 29) l0 k0 e0⟩
    f_is_within := ⟨_, _, PySem.W.mg_of X G a1, fun_mk (st := top 7) l1 k1 e1⟩
    f_are_bits := ⟨_, _, PySem.W.mg_of X G a2, fun_mk (st := top 10) l2 k2 e2⟩
    f_require_bits := ⟨_, _, PySem.W.mg_of X G a3, fun_mk (st := top 17) l3 k3 e3⟩
    f_plain_in := ⟨_, _, PySem.W.mg_of X G a4, fun_mk (st := top 13) l4 k4 e4⟩
    f_plain_value := ⟨_, _, PySem.W.mg_of X G a5, fun_mk (st := top 20) l5 k5 e5⟩
    f_signed_in := ⟨_, _, PySem.W.mg_of X G a6, fun_mk (st := top 14) l6 k6 e6⟩
    f_signed_value := ⟨_, _, PySem.W.mg_of X G a7, fun_mk (st := top 21) l7 k7 e7⟩
    f_require_number := ⟨_, _, PySem.W.mg_of X G a8, fun_mk (st := top 8) l8 k8 e8⟩
    f_require_wide := ⟨_, _, PySem.W.mg_of X G a9, fun_mk (st := top 18) l9 k9 e9⟩
    f_require_held := ⟨_, _, PySem.W.mg_of X G a10, fun_mk (st := top 19) l10 k10 e10⟩
    f_bits_by := ⟨_, _, PySem.W.mg_of X G a11, fun_mk (st := top 15) l11 k11 e11⟩
    f_plain_bits := ⟨_, _, PySem.W.mg_of X G a12, fun_mk (st := top 22) l12 k12 e12⟩
    f_signed_by := ⟨_, _, PySem.W.mg_of X G a13, fun_mk (st := top 16) l13 k13 e13⟩
    f_signed_bits := ⟨_, _, PySem.W.mg_of X G a14, fun_mk (st := top 23) l14 k14 e14⟩
    f_wrapped := ⟨_, _, PySem.W.mg_of X G a15, fun_mk (st := top 24) l15 k15 e15⟩
    f_signed_wrapped := ⟨_, _, PySem.W.mg_of X G a16, fun_mk (st := top 25) l16 k16 e16⟩
    f_wider_bits := ⟨_, _, PySem.W.mg_of X G a17, fun_mk (st := top 26) l17 k17 e17⟩
    f_signed_wider := ⟨_, _, PySem.W.mg_of X G a18, fun_mk (st := top 27) l18 k18 e18⟩
    f__law_rows := ⟨_, _, PySem.W.mg_of X G a19, fun_mk (st := top 31) l19 k19 e19⟩
    f__law_power := ⟨_, _, PySem.W.mg_of X G a20, fun_mk (st := top 32) l20 k20 e20⟩
    f__law_plain := ⟨_, _, PySem.W.mg_of X G a21, fun_mk (st := top 33) l21 k21 e21⟩
    f__law_draw := ⟨_, _, PySem.W.mg_of X G a22, fun_mk (st := top 30) l22 k22 e22⟩
    f__law_right := ⟨_, _, PySem.W.mg_of X G a23, fun_mk (st := top 34) l23 k23 e23⟩
    f_law := ⟨_, _, PySem.W.mg_of X G a24, fun_mk (st := top 35) l24 k24 e24⟩
    z_abs := PySem.W.mg_none_of X G z_abs
    z_all := PySem.W.mg_none_of X G z_all
    z_bool := PySem.W.mg_none_of X G z_bool
    z_enumerate := PySem.W.mg_none_of X G z_enumerate
    z_int := PySem.W.mg_none_of X G z_int
    z_isinstance := PySem.W.mg_none_of X G z_isinstance
    z_len := PySem.W.mg_none_of X G z_len
    z_max := PySem.W.mg_none_of X G z_max
    z_min := PySem.W.mg_none_of X G z_min
    z_range := PySem.W.mg_none_of X G z_range
    z_repr := PySem.W.mg_none_of X G z_repr
    z_sorted := PySem.W.mg_none_of X G z_sorted
    z_sum := PySem.W.mg_none_of X G z_sum
    z_tuple := PySem.W.mg_none_of X G z_tuple
    c_GREAT := ⟨_, PySem.W.mg_of X G c_GREAT⟩
    c_MOST_BITS := ⟨_, PySem.W.mg_of X G c_MOST_BITS⟩
  }
  have e := hfa.symm.trans (PySem.W.mg_of X G a24)
  cases e
  refine ⟨PySem.W.fnOf "law" "law" (defArgs (top 35)) (defBody (top 35)) (defScope (top 35)) .none kV24 dc24 pm24 an24 cd24 ct24, fun s v => .of_eq rfl, fun b _ _ => G_law hF (fun_mk (st := top 35) l24 k24 e24)⟩
/- 

-/
end TL

namespace TL
open PySem PySem.Spec PyProof.Rows L2 StX
def pl : List Int → Int
  | [] => 0
  | b :: r => b + 2 * pl r
abbrev bT' (bs : List Int) : T := .tup (bs.map T.int)
def isB (bs : List Int) : Prop := ∀ b ∈ bs, b = 0 ∨ b = 1
theorem k_plain_in (bs : List Int) (μ : Store) (hb : isB bs) (hl : bs.length ≤ 100) : m_plain_in [bT' bs] μ = .ok (.int (pl bs)) μ := by
  unfold m_plain_in
  simp only [x_bind, x_ok, x_pure, x_no, x_nob, x_mkFn, x_endr, x_endn, x_sl0, x_sl1, x_sl2, x_seq, x_seqn, x_seqr, x_seqb, x_seqc, x_nil, x_ret, x_exp, x_if, x_set, x_tgt, x_par, x_for, x_var, x_varR, x_c, x_op, x_un, x_ld2, x_ldi, x_ldb, x_lds, x_ldn, x_ldl, x_ldf, x_ldt, x_ldy, x_and, x_andt, x_andf, x_or, x_ort, x_orf, x_not, x_bT, x_asB, x_band, x_bor, x_bnot, x_eif, x_ct, x_cf, x_echain, x_bchain, x_anil, x_acons, x_astar, x_itl, x_itf, x_itt, x_tup, x_lst, x_okL, x_tree, x_cell, x_newC, x_eB, x_lB, x_iB, x_iSeq, x_g1, x_g2, x_call, x_sl, x_onone, x_osome, x_asO, x_name, x_hnil, x_hcons, x_htup, x_hsub, x_comp, x_yes, x_w0, x_w1, x_add, x_sub, x_mod, x_fdiv, x_shr, x_bit, x_cmp, x_lt, x_neg, x_eqi, x_nei, x_ess, x_nss, x_lenl, x_lenf, x_lent, x_int, x_intb, x_max2, x_min2, x_tupl, x_r1, x_r2, x_revl, x_revt, x_ixt, x_ixl, x_ixf, x_ofO, x_slt, x_sll, x_isi, x_ist, List.getElem?_cons_zero, List.getElem?_cons_succ, List.set_cons_zero, List.set_cons_succ, List.length_cons, List.length_nil, Bool.not_true, Bool.not_false]
  obtain ⟨o', h, _⟩ := forL_ints (step := fun d ρ => (hName 2 d ρ).bind (sSet 1 (eOp (ld2 gAdd) (eOp (ld2 gMulA) (eC (T.int 2)) (eVar 1)) (eVar 2)))) (fun a o => [some (bT' bs), some (.int a), o]) (fun a x => 2 * a + x) (fun a r => 0 ≤ a ∧ a < 2 ^ (100 - r.length) ∧ r.length ≤ 100 ∧ isB r) (μ := μ) (fun a o x r ⟨h1, h2, h3, h4⟩ => by
    have hx := h4 x List.mem_cons_self
    have e : 100 - r.length = (100 - (x :: r).length) + 1 := by simp only [List.length_cons] at *; omega
    refine ⟨?_, ?_, ?_, ?_, fun y hy => h4 y (List.mem_cons_of_mem _ hy)⟩
    · simp only [x_bind, x_ok, x_pure, x_no, x_nob, x_mkFn, x_endr, x_endn, x_sl0, x_sl1, x_sl2, x_seq, x_seqn, x_seqr, x_seqb, x_seqc, x_nil, x_ret, x_exp, x_if, x_set, x_tgt, x_par, x_for, x_var, x_varR, x_c, x_op, x_un, x_ld2, x_ldi, x_ldb, x_lds, x_ldn, x_ldl, x_ldf, x_ldt, x_ldy, x_and, x_andt, x_andf, x_or, x_ort, x_orf, x_not, x_bT, x_asB, x_band, x_bor, x_bnot, x_eif, x_ct, x_cf, x_echain, x_bchain, x_anil, x_acons, x_astar, x_itl, x_itf, x_itt, x_tup, x_lst, x_okL, x_tree, x_cell, x_newC, x_eB, x_lB, x_iB, x_iSeq, x_g1, x_g2, x_call, x_sl, x_onone, x_osome, x_asO, x_name, x_hnil, x_hcons, x_htup, x_hsub, x_comp, x_yes, x_w0, x_w1, x_add, x_sub, x_mod, x_fdiv, x_shr, x_bit, x_cmp, x_lt, x_neg, x_eqi, x_nei, x_ess, x_nss, x_lenl, x_lenf, x_lent, x_int, x_intb, x_max2, x_min2, x_tupl, x_r1, x_r2, x_revl, x_revt, x_ixt, x_ixl, x_ixf, x_ofO, x_slt, x_sll, x_isi, x_ist, List.getElem?_cons_zero, List.getElem?_cons_succ, List.set_cons_zero, List.set_cons_succ, List.length_cons, List.length_nil, Bool.not_true, Bool.not_false, x_mulh 3 101 (show (2 : Int).natAbs < 2 ^ 3 by decide) (show a.natAbs < 2 ^ 101 by
        have z : (2 : Nat) ^ (100 - (x :: r).length) ≤ 2 ^ 101 := Nat.pow_le_pow_right (by decide) (by omega)
        have z2 : ((2 : Int) ^ (100 - (x :: r).length)) = (((2 : Nat) ^ (100 - (x :: r).length) : Nat) : Int) := by norm_cast
        rw [z2] at h2
        omega) (by decide)]
    · rcases hx with rfl | rfl <;> omega
    · rw [e, Int.pow_succ]
      rcases hx with rfl | rfl <;> omega
    · simp only [List.length_cons] at h3; omega) bs.reverse 0 none ⟨by decide, Int.pow_pos (by decide), by simpa using hl, fun b hm => hb b (List.mem_reverse.mp hm)⟩
  rw [List.map_reverse] at h
  rw [h]
  simp only [x_bind, x_ok, x_pure, x_no, x_nob, x_mkFn, x_endr, x_endn, x_sl0, x_sl1, x_sl2, x_seq, x_seqn, x_seqr, x_seqb, x_seqc, x_nil, x_ret, x_exp, x_if, x_set, x_tgt, x_par, x_for, x_var, x_varR, x_c, x_op, x_un, x_ld2, x_ldi, x_ldb, x_lds, x_ldn, x_ldl, x_ldf, x_ldt, x_ldy, x_and, x_andt, x_andf, x_or, x_ort, x_orf, x_not, x_bT, x_asB, x_band, x_bor, x_bnot, x_eif, x_ct, x_cf, x_echain, x_bchain, x_anil, x_acons, x_astar, x_itl, x_itf, x_itt, x_tup, x_lst, x_okL, x_tree, x_cell, x_newC, x_eB, x_lB, x_iB, x_iSeq, x_g1, x_g2, x_call, x_sl, x_onone, x_osome, x_asO, x_name, x_hnil, x_hcons, x_htup, x_hsub, x_comp, x_yes, x_w0, x_w1, x_add, x_sub, x_mod, x_fdiv, x_shr, x_bit, x_cmp, x_lt, x_neg, x_eqi, x_nei, x_ess, x_nss, x_lenl, x_lenf, x_lent, x_int, x_intb, x_max2, x_min2, x_tupl, x_r1, x_r2, x_revl, x_revt, x_ixt, x_ixl, x_ixf, x_ofO, x_slt, x_sll, x_isi, x_ist, List.getElem?_cons_zero, List.getElem?_cons_succ, List.set_cons_zero, List.set_cons_succ, List.length_cons, List.length_nil, Bool.not_true, Bool.not_false]
  have e : ∀ bs : List Int, (bs.reverse.foldl (fun a x => 2 * a + x) 0) = pl bs := by
    intro bs
    induction bs with
    | nil => rfl
    | cons b r ih => rw [List.reverse_cons, List.foldl_append, ih]; show 2 * pl r + b = b + 2 * pl r; omega
  rw [e]
theorem k_is_within (v a b : Int) (μ : Store) : m_is_within [.int v, .int a, .int b] μ = .ok (.bl (decide (a ≤ v) && decide (v ≤ b))) μ := by
  unfold m_is_within
  simp only [x_bind, x_ok, x_pure, x_no, x_nob, x_mkFn, x_endr, x_endn, x_sl0, x_sl1, x_sl2, x_seq, x_seqn, x_seqr, x_seqb, x_seqc, x_nil, x_ret, x_exp, x_if, x_set, x_tgt, x_par, x_for, x_var, x_varR, x_c, x_op, x_un, x_ld2, x_ldi, x_ldb, x_lds, x_ldn, x_ldl, x_ldf, x_ldt, x_ldy, x_and, x_andt, x_andf, x_or, x_ort, x_orf, x_not, x_bT, x_asB, x_band, x_bor, x_bnot, x_eif, x_ct, x_cf, x_echain, x_bchain, x_anil, x_acons, x_astar, x_itl, x_itf, x_itt, x_tup, x_lst, x_okL, x_tree, x_cell, x_newC, x_eB, x_lB, x_iB, x_iSeq, x_g1, x_g2, x_call, x_sl, x_onone, x_osome, x_asO, x_name, x_hnil, x_hcons, x_htup, x_hsub, x_comp, x_yes, x_w0, x_w1, x_add, x_sub, x_mod, x_fdiv, x_shr, x_bit, x_cmp, x_lt, x_neg, x_eqi, x_nei, x_ess, x_nss, x_lenl, x_lenf, x_lent, x_int, x_intb, x_max2, x_min2, x_tupl, x_r1, x_r2, x_revl, x_revt, x_ixt, x_ixl, x_ixf, x_ofO, x_slt, x_sll, x_isi, x_ist, List.getElem?_cons_zero, List.getElem?_cons_succ, List.set_cons_zero, List.set_cons_succ, List.length_cons, List.length_nil, Bool.not_true, Bool.not_false, show clsNames.contains "int" = true by decide, show clsNames.contains "bool" = true by decide, show isiP "int" "int" = true by decide, show isiP "int" "bool" = false by decide]
  cases h : decide (a ≤ v) with
  | true => simp only [x_bind, x_ok, x_pure, x_no, x_nob, x_mkFn, x_endr, x_endn, x_sl0, x_sl1, x_sl2, x_seq, x_seqn, x_seqr, x_seqb, x_seqc, x_nil, x_ret, x_exp, x_if, x_set, x_tgt, x_par, x_for, x_var, x_varR, x_c, x_op, x_un, x_ld2, x_ldi, x_ldb, x_lds, x_ldn, x_ldl, x_ldf, x_ldt, x_ldy, x_and, x_andt, x_andf, x_or, x_ort, x_orf, x_not, x_bT, x_asB, x_band, x_bor, x_bnot, x_eif, x_ct, x_cf, x_echain, x_bchain, x_anil, x_acons, x_astar, x_itl, x_itf, x_itt, x_tup, x_lst, x_okL, x_tree, x_cell, x_newC, x_eB, x_lB, x_iB, x_iSeq, x_g1, x_g2, x_call, x_sl, x_onone, x_osome, x_asO, x_name, x_hnil, x_hcons, x_htup, x_hsub, x_comp, x_yes, x_w0, x_w1, x_add, x_sub, x_mod, x_fdiv, x_shr, x_bit, x_cmp, x_lt, x_neg, x_eqi, x_nei, x_ess, x_nss, x_lenl, x_lenf, x_lent, x_int, x_intb, x_max2, x_min2, x_tupl, x_r1, x_r2, x_revl, x_revt, x_ixt, x_ixl, x_ixf, x_ofO, x_slt, x_sll, x_isi, x_ist, List.getElem?_cons_zero, List.getElem?_cons_succ, List.set_cons_zero, List.set_cons_succ, List.length_cons, List.length_nil, Bool.not_true, Bool.not_false, h, Bool.true_and]
  | false => simp only [x_bind, x_ok, x_pure, x_no, x_nob, x_mkFn, x_endr, x_endn, x_sl0, x_sl1, x_sl2, x_seq, x_seqn, x_seqr, x_seqb, x_seqc, x_nil, x_ret, x_exp, x_if, x_set, x_tgt, x_par, x_for, x_var, x_varR, x_c, x_op, x_un, x_ld2, x_ldi, x_ldb, x_lds, x_ldn, x_ldl, x_ldf, x_ldt, x_ldy, x_and, x_andt, x_andf, x_or, x_ort, x_orf, x_not, x_bT, x_asB, x_band, x_bor, x_bnot, x_eif, x_ct, x_cf, x_echain, x_bchain, x_anil, x_acons, x_astar, x_itl, x_itf, x_itt, x_tup, x_lst, x_okL, x_tree, x_cell, x_newC, x_eB, x_lB, x_iB, x_iSeq, x_g1, x_g2, x_call, x_sl, x_onone, x_osome, x_asO, x_name, x_hnil, x_hcons, x_htup, x_hsub, x_comp, x_yes, x_w0, x_w1, x_add, x_sub, x_mod, x_fdiv, x_shr, x_bit, x_cmp, x_lt, x_neg, x_eqi, x_nei, x_ess, x_nss, x_lenl, x_lenf, x_lent, x_int, x_intb, x_max2, x_min2, x_tupl, x_r1, x_r2, x_revl, x_revt, x_ixt, x_ixl, x_ixf, x_ofO, x_slt, x_sll, x_isi, x_ist, List.getElem?_cons_zero, List.getElem?_cons_succ, List.set_cons_zero, List.set_cons_succ, List.length_cons, List.length_nil, Bool.not_true, Bool.not_false, h, Bool.false_and]
theorem k_within {v a b : Int} {μ : Store} (h1 : a ≤ v) (h2 : v ≤ b) : m_is_within [.int v, .int a, .int b] μ = .ok (.bl true) μ := by
  rw [k_is_within, decide_eq_true h1, decide_eq_true h2]
  rfl
theorem k_are_bits (bs : List Int) (μ : Store) (hb : isB bs) (hl : bs.length ≤ 100) : m_are_bits [bT' bs, .int bs.length] μ = .ok (.bl true) μ := by
  unfold m_are_bits
  simp only [x_bind, x_ok, x_pure, x_no, x_nob, x_mkFn, x_endr, x_endn, x_sl0, x_sl1, x_sl2, x_seq, x_seqn, x_seqr, x_seqb, x_seqc, x_nil, x_ret, x_exp, x_if, x_set, x_tgt, x_par, x_for, x_var, x_varR, x_c, x_op, x_un, x_ld2, x_ldi, x_ldb, x_lds, x_ldn, x_ldl, x_ldf, x_ldt, x_ldy, x_and, x_andt, x_andf, x_or, x_ort, x_orf, x_not, x_bT, x_asB, x_band, x_bor, x_bnot, x_eif, x_ct, x_cf, x_echain, x_bchain, x_anil, x_acons, x_astar, x_itl, x_itf, x_itt, x_tup, x_lst, x_okL, x_tree, x_cell, x_newC, x_eB, x_lB, x_iB, x_iSeq, x_g1, x_g2, x_call, x_sl, x_onone, x_osome, x_asO, x_name, x_hnil, x_hcons, x_htup, x_hsub, x_comp, x_yes, x_w0, x_w1, x_add, x_sub, x_mod, x_fdiv, x_shr, x_bit, x_cmp, x_lt, x_neg, x_eqi, x_nei, x_ess, x_nss, x_lenl, x_lenf, x_lent, x_int, x_intb, x_max2, x_min2, x_tupl, x_r1, x_r2, x_revl, x_revt, x_ixt, x_ixl, x_ixf, x_ofO, x_slt, x_sll, x_isi, x_ist, List.getElem?_cons_zero, List.getElem?_cons_succ, List.set_cons_zero, List.set_cons_succ, List.length_cons, List.length_nil, Bool.not_true, Bool.not_false, show clsNames.contains "tuple" = true by decide, show isiP "tuple" "tuple" = true by decide, List.length_map, decide_true]
  rw [lcL_map (g := fun _ => T.bl true) fun x hx => by
    have h := hb x hx
    simp only [x_bind, x_ok, x_pure, x_no, x_nob, x_mkFn, x_endr, x_endn, x_sl0, x_sl1, x_sl2, x_seq, x_seqn, x_seqr, x_seqb, x_seqc, x_nil, x_ret, x_exp, x_if, x_set, x_tgt, x_par, x_for, x_var, x_varR, x_c, x_op, x_un, x_ld2, x_ldi, x_ldb, x_lds, x_ldn, x_ldl, x_ldf, x_ldt, x_ldy, x_and, x_andt, x_andf, x_or, x_ort, x_orf, x_not, x_bT, x_asB, x_band, x_bor, x_bnot, x_eif, x_ct, x_cf, x_echain, x_bchain, x_anil, x_acons, x_astar, x_itl, x_itf, x_itt, x_tup, x_lst, x_okL, x_tree, x_cell, x_newC, x_eB, x_lB, x_iB, x_iSeq, x_g1, x_g2, x_call, x_sl, x_onone, x_osome, x_asO, x_name, x_hnil, x_hcons, x_htup, x_hsub, x_comp, x_yes, x_w0, x_w1, x_add, x_sub, x_mod, x_fdiv, x_shr, x_bit, x_cmp, x_lt, x_neg, x_eqi, x_nei, x_ess, x_nss, x_lenl, x_lenf, x_lent, x_int, x_intb, x_max2, x_min2, x_tupl, x_r1, x_r2, x_revl, x_revt, x_ixt, x_ixl, x_ixf, x_ofO, x_slt, x_sll, x_isi, x_ist, List.getElem?_cons_zero, List.getElem?_cons_succ, List.set_cons_zero, List.set_cons_succ, List.length_cons, List.length_nil, Bool.not_true, Bool.not_false, x_turn, k_within (show (0 : Int) ≤ x by rcases h with rfl | rfl <;> decide) (show x ≤ 1 by rcases h with rfl | rfl <;> decide), beq_self_eq_true]]
  simp only [x_bind, x_ok, x_pure, x_no, x_nob, x_mkFn, x_endr, x_endn, x_sl0, x_sl1, x_sl2, x_seq, x_seqn, x_seqr, x_seqb, x_seqc, x_nil, x_ret, x_exp, x_if, x_set, x_tgt, x_par, x_for, x_var, x_varR, x_c, x_op, x_un, x_ld2, x_ldi, x_ldb, x_lds, x_ldn, x_ldl, x_ldf, x_ldt, x_ldy, x_and, x_andt, x_andf, x_or, x_ort, x_orf, x_not, x_bT, x_asB, x_band, x_bor, x_bnot, x_eif, x_ct, x_cf, x_echain, x_bchain, x_anil, x_acons, x_astar, x_itl, x_itf, x_itt, x_tup, x_lst, x_okL, x_tree, x_cell, x_newC, x_eB, x_lB, x_iB, x_iSeq, x_g1, x_g2, x_call, x_sl, x_onone, x_osome, x_asO, x_name, x_hnil, x_hcons, x_htup, x_hsub, x_comp, x_yes, x_w0, x_w1, x_add, x_sub, x_mod, x_fdiv, x_shr, x_bit, x_cmp, x_lt, x_neg, x_eqi, x_nei, x_ess, x_nss, x_lenl, x_lenf, x_lent, x_int, x_intb, x_max2, x_min2, x_tupl, x_r1, x_r2, x_revl, x_revt, x_ixt, x_ixl, x_ixf, x_ofO, x_slt, x_sll, x_isi, x_ist, List.getElem?_cons_zero, List.getElem?_cons_succ, List.set_cons_zero, List.set_cons_succ, List.length_cons, List.length_nil, Bool.not_true, Bool.not_false, List.length_map, fits_of (show bs.length ≤ 16777216 by omega), x_all (fun _ => true)]
  simp
theorem k_require_bits (bs : List Int) (μ : Store) (hb : isB bs) (h0 : 1 ≤ bs.length) (hl : bs.length ≤ 60) : m_require_bits [bT' bs] μ = .ok .non μ := by
  unfold m_require_bits
  simp only [x_bind, x_ok, x_pure, x_no, x_nob, x_mkFn, x_endr, x_endn, x_sl0, x_sl1, x_sl2, x_seq, x_seqn, x_seqr, x_seqb, x_seqc, x_nil, x_ret, x_exp, x_if, x_set, x_tgt, x_par, x_for, x_var, x_varR, x_c, x_op, x_un, x_ld2, x_ldi, x_ldb, x_lds, x_ldn, x_ldl, x_ldf, x_ldt, x_ldy, x_and, x_andt, x_andf, x_or, x_ort, x_orf, x_not, x_bT, x_asB, x_band, x_bor, x_bnot, x_eif, x_ct, x_cf, x_echain, x_bchain, x_anil, x_acons, x_astar, x_itl, x_itf, x_itt, x_tup, x_lst, x_okL, x_tree, x_cell, x_newC, x_eB, x_lB, x_iB, x_iSeq, x_g1, x_g2, x_call, x_sl, x_onone, x_osome, x_asO, x_name, x_hnil, x_hcons, x_htup, x_hsub, x_comp, x_yes, x_w0, x_w1, x_add, x_sub, x_mod, x_fdiv, x_shr, x_bit, x_cmp, x_lt, x_neg, x_eqi, x_nei, x_ess, x_nss, x_lenl, x_lenf, x_lent, x_int, x_intb, x_max2, x_min2, x_tupl, x_r1, x_r2, x_revl, x_revt, x_ixt, x_ixl, x_ixf, x_ofO, x_slt, x_sll, x_isi, x_ist, List.getElem?_cons_zero, List.getElem?_cons_succ, List.set_cons_zero, List.set_cons_succ, List.length_cons, List.length_nil, Bool.not_true, Bool.not_false, show clsNames.contains "tuple" = true by decide, show isiP "tuple" "tuple" = true by decide, List.length_map, c_MOST_BITS, decide_eq_true (show (1 : Int) ≤ (bs.length : Nat) by omega), decide_eq_true (show ((bs.length : Nat) : Int) ≤ 60 by omega), beq_self_eq_true, k_are_bits bs μ hb (by omega)]
theorem e_signed_in {xs : List T} {l p q : Int} {μ : Store} (ix : atI xs (-1) = some (.int l)) (hp : m_plain_in [.tup xs] μ = .ok (.int p) μ) (g : gShl (.int l) (.int xs.length) μ = .ok (.int q) μ) : m_signed_in [.tup xs] μ = .ok (.int (p - q)) μ := by
  unfold m_signed_in
  simp only [x_bind, x_ok, x_pure, x_no, x_nob, x_mkFn, x_endr, x_endn, x_sl0, x_sl1, x_sl2, x_seq, x_seqn, x_seqr, x_seqb, x_seqc, x_nil, x_ret, x_exp, x_if, x_set, x_tgt, x_par, x_for, x_var, x_varR, x_c, x_op, x_un, x_ld2, x_ldi, x_ldb, x_lds, x_ldn, x_ldl, x_ldf, x_ldt, x_ldy, x_and, x_andt, x_andf, x_or, x_ort, x_orf, x_not, x_bT, x_asB, x_band, x_bor, x_bnot, x_eif, x_ct, x_cf, x_echain, x_bchain, x_anil, x_acons, x_astar, x_itl, x_itf, x_itt, x_tup, x_lst, x_okL, x_tree, x_cell, x_newC, x_eB, x_lB, x_iB, x_iSeq, x_g1, x_g2, x_call, x_sl, x_onone, x_osome, x_asO, x_name, x_hnil, x_hcons, x_htup, x_hsub, x_comp, x_yes, x_w0, x_w1, x_add, x_sub, x_mod, x_fdiv, x_shr, x_bit, x_cmp, x_lt, x_neg, x_eqi, x_nei, x_ess, x_nss, x_lenl, x_lenf, x_lent, x_int, x_intb, x_max2, x_min2, x_tupl, x_r1, x_r2, x_revl, x_revt, x_ixt, x_ixl, x_ixf, x_ofO, x_slt, x_sll, x_isi, x_ist, List.getElem?_cons_zero, List.getElem?_cons_succ, List.set_cons_zero, List.set_cons_succ, List.length_cons, List.length_nil, Bool.not_true, Bool.not_false, beq_self_eq_true, hp, ix, g]
theorem k_signed_in (bs : List Int) (l : Int) (μ : Store) (hb : isB (bs ++ [l])) (hl : bs.length ≤ 60) : m_signed_in [bT' (bs ++ [l])] μ = .ok (.int (pl (bs ++ [l]) - l * 2 ^ (bs.length + 1))) μ := by
  have h := hb l (by simp)
  have ix : atI ((bs ++ [l]).map T.int) (-1) = some (.int l) := by
    unfold atI ixN
    have e : ((-1 : Int) + ((bs.length : Int) + 1)).toNat = bs.length := by omega
    simp [e, show (1 : Int) ≤ (bs.length : Int) + 1 by omega]
  have g : gShl (.int l) (.int ((bs.length + 1 : Nat) : Int)) μ = .ok (.int (l * 2 ^ (bs.length + 1))) μ := by
    rw [x_shl]
    have e : Builtin.Int.intBits l ≤ 1 := by rcases h with rfl | rfl <;> decide
    rw [decide_eq_true (by omega), decide_eq_true (by omega), Bool.true_and, x_ct, x_pure, Int.toNat_natCast]
  refine e_signed_in ix (k_plain_in (bs ++ [l]) μ hb (by simp; omega)) ?_
  rw [List.length_map, show (bs ++ [l]).length = bs.length + 1 by simp]
  exact g
def bb (n : Int) : Nat → List Int
  | 0 => []
  | w + 1 => n % 2 :: bb (n / 2) w
theorem bb_len : ∀ (w : Nat) (n : Int), (bb n w).length = w
  | 0, _ => rfl
  | w + 1, n => by show (bb (n / 2) w).length + 1 = _; rw [bb_len w]
theorem bb_isB : ∀ (w : Nat) (n : Int), isB (bb n w)
  | 0, _ => fun b h => nomatch h
  | w + 1, n => fun b h => by
    rcases List.mem_cons.mp h with rfl | h
    · omega
    · exact bb_isB w _ b h
theorem bb_map : ∀ (w : Nat) (n : Int), (List.range w).map (fun i => n / 2 ^ i % 2) = bb n w
  | 0, _ => rfl
  | w + 1, n => by
    rw [List.range_succ_eq_map, List.map_cons, List.map_map]
    show _ :: _ = n % 2 :: bb (n / 2) w
    rw [← bb_map w (n / 2)]
    congr 1
    · simp
    · apply List.map_congr_left
      intro i _
      show n / 2 ^ (i + 1) % 2 = n / 2 / 2 ^ i % 2
      rw [Int.pow_succ, Int.mul_comm, Int.ediv_ediv_of_nonneg (by decide)]
theorem e_bits_by {n : Int} {w : Nat} {μ : Store} {ys : List T} (sm : sm62 (w : Int) = true) (h : lcL (lcTurn (hName 2) bYes (eOp (ld2 (gBit Builtin.bitAnd)) (eOp (ld2 gShr) (eVar 0) (eVar 2)) (eC (.int 1))) [some (.int n), some (.int (w : Nat)), none]) (rangeT 0 w) μ = .ok ys μ) (f : fits ys.length = true) : m_bits_by [.int n, .int (w : Nat)] μ = .ok (.tup ys) μ := by
  unfold m_bits_by
  simp only [x_bind, x_ok, x_pure, x_no, x_nob, x_mkFn, x_endr, x_endn, x_sl0, x_sl1, x_sl2, x_seq, x_seqn, x_seqr, x_seqb, x_seqc, x_nil, x_ret, x_exp, x_if, x_set, x_tgt, x_par, x_for, x_var, x_varR, x_c, x_op, x_un, x_ld2, x_ldi, x_ldb, x_lds, x_ldn, x_ldl, x_ldf, x_ldt, x_ldy, x_and, x_andt, x_andf, x_or, x_ort, x_orf, x_not, x_bT, x_asB, x_band, x_bor, x_bnot, x_eif, x_ct, x_cf, x_echain, x_bchain, x_anil, x_acons, x_astar, x_itl, x_itf, x_itt, x_tup, x_lst, x_okL, x_tree, x_cell, x_newC, x_eB, x_lB, x_iB, x_iSeq, x_g1, x_g2, x_call, x_sl, x_onone, x_osome, x_asO, x_name, x_hnil, x_hcons, x_htup, x_hsub, x_comp, x_yes, x_w0, x_w1, x_add, x_sub, x_mod, x_fdiv, x_shr, x_bit, x_cmp, x_lt, x_neg, x_eqi, x_nei, x_ess, x_nss, x_lenl, x_lenf, x_lent, x_int, x_intb, x_max2, x_min2, x_tupl, x_r1, x_r2, x_revl, x_revt, x_ixt, x_ixl, x_ixf, x_ofO, x_slt, x_sll, x_isi, x_ist, List.getElem?_cons_zero, List.getElem?_cons_succ, List.set_cons_zero, List.set_cons_succ, List.length_cons, List.length_nil, Bool.not_true, Bool.not_false, sm, Int.toNat_natCast, h, f]
theorem e_bit {n : Int} {i : Nat} {μ : Store} {a b : Option T} : lcTurn (hName 2) bYes (eOp (ld2 (gBit Builtin.bitAnd)) (eOp (ld2 gShr) (eVar 0) (eVar 2)) (eC (.int 1))) [some (.int n), a, b] (.int (0 + (i : Int))) μ = .ok (some (.int (n / 2 ^ i % 2))) μ := by
  simp only [x_bind, x_ok, x_pure, x_no, x_nob, x_mkFn, x_endr, x_endn, x_sl0, x_sl1, x_sl2, x_seq, x_seqn, x_seqr, x_seqb, x_seqc, x_nil, x_ret, x_exp, x_if, x_set, x_tgt, x_par, x_for, x_var, x_varR, x_c, x_op, x_un, x_ld2, x_ldi, x_ldb, x_lds, x_ldn, x_ldl, x_ldf, x_ldt, x_ldy, x_and, x_andt, x_andf, x_or, x_ort, x_orf, x_not, x_bT, x_asB, x_band, x_bor, x_bnot, x_eif, x_ct, x_cf, x_echain, x_bchain, x_anil, x_acons, x_astar, x_itl, x_itf, x_itt, x_tup, x_lst, x_okL, x_tree, x_cell, x_newC, x_eB, x_lB, x_iB, x_iSeq, x_g1, x_g2, x_call, x_sl, x_onone, x_osome, x_asO, x_name, x_hnil, x_hcons, x_htup, x_hsub, x_comp, x_yes, x_w0, x_w1, x_add, x_sub, x_mod, x_fdiv, x_shr, x_bit, x_cmp, x_lt, x_neg, x_eqi, x_nei, x_ess, x_nss, x_lenl, x_lenf, x_lent, x_int, x_intb, x_max2, x_min2, x_tupl, x_r1, x_r2, x_revl, x_revt, x_ixt, x_ixl, x_ixf, x_ofO, x_slt, x_sll, x_isi, x_ist, List.getElem?_cons_zero, List.getElem?_cons_succ, List.set_cons_zero, List.set_cons_succ, List.length_cons, List.length_nil, Bool.not_true, Bool.not_false, x_turn, Int.zero_add, decide_eq_true (Int.natCast_nonneg i), Int.toNat_natCast, PyProof.Rows.bitAnd_m1]
theorem k_bits_by (n : Int) (w : Nat) (μ : Store) (hw : w ≤ 100) : m_bits_by [.int n, .int (w : Nat)] μ = .ok (bT' (bb n w)) μ := by
  have sm : sm62 (w : Int) = true := by unfold sm62; rw [decide_eq_true (by omega), decide_eq_true (by omega)]; rfl
  have e : (bb n w).map T.int = (List.range w).map fun (i : Nat) => T.int (n / 2 ^ i % 2) := by rw [← bb_map, List.map_map]; rfl
  refine e_bits_by sm ?_ (fits_of (by rw [List.length_map, bb_len]; omega))
  rw [e]
  exact lcL_map fun i _ => e_bit
theorem k_draw {b n : Nat} {μ : Store} {t : Int} (hJ : Bag b n μ) (hn : n < 2 ^ 60) (h0 : 0 < t) (ht : t < 2 ^ 100) : ∃ v μ', m__law_draw [.cell b, .int t] μ = .ok (.int v) μ' ∧ 0 ≤ v ∧ v < t ∧ Bag b (n + 1) μ' := by
  obtain ⟨x, y, z, hb, hx, hy, hy2, hz, hz2⟩ := hJ
  have i0 : ∀ a c d : Int, atI [T.int a, .int c, .int d] 0 = some (.int a) := fun _ _ _ => rfl
  have i1 : ∀ a c d : Int, atI [T.int a, .int c, .int d] 1 = some (.int c) := fun _ _ _ => rfl
  have i2 : ∀ a c d : Int, atI [T.int a, .int c, .int d] 2 = some (.int d) := fun _ _ _ => rfl
  have nt : t.natAbs < 2 ^ 100 := by omega
  have lt : t.natAbs.log2 < 9000 := Nat.lt_of_le_of_lt (log2_le nt) (by decide)
  by_cases hp : 0 < x
  · refine ⟨x % t, _, ?_, Int.emod_nonneg _ (by omega), Int.emod_lt_of_pos _ h0, x / t, y, z, set_at hb, Int.ediv_nonneg hx (by omega), hy, hy2, hz, by omega⟩
    have l1 := x_ldc hb
    have s1 : gSetI (.cell b) (.int 0) (.int (x / t)) μ = .ok () (μ.set b ⟨true, .lst [T.int (x / t), .int y, .int z]⟩) := x_setc (j := 0) hb rfl
    unfold m__law_draw
    simp only [x_bind, x_ok, x_pure, x_no, x_nob, x_mkFn, x_endr, x_endn, x_sl0, x_sl1, x_sl2, x_seq, x_seqn, x_seqr, x_seqb, x_seqc, x_nil, x_ret, x_exp, x_if, x_set, x_tgt, x_par, x_for, x_var, x_varR, x_c, x_op, x_un, x_ld2, x_ldi, x_ldb, x_lds, x_ldn, x_ldl, x_ldf, x_ldt, x_ldy, x_and, x_andt, x_andf, x_or, x_ort, x_orf, x_not, x_bT, x_asB, x_band, x_bor, x_bnot, x_eif, x_ct, x_cf, x_echain, x_bchain, x_anil, x_acons, x_astar, x_itl, x_itf, x_itt, x_tup, x_lst, x_okL, x_tree, x_cell, x_newC, x_eB, x_lB, x_iB, x_iSeq, x_g1, x_g2, x_call, x_sl, x_onone, x_osome, x_asO, x_name, x_hnil, x_hcons, x_htup, x_hsub, x_comp, x_yes, x_w0, x_w1, x_add, x_sub, x_mod, x_fdiv, x_shr, x_bit, x_cmp, x_lt, x_neg, x_eqi, x_nei, x_ess, x_nss, x_lenl, x_lenf, x_lent, x_int, x_intb, x_max2, x_min2, x_tupl, x_r1, x_r2, x_revl, x_revt, x_ixt, x_ixl, x_ixf, x_ofO, x_slt, x_sll, x_isi, x_ist, List.getElem?_cons_zero, List.getElem?_cons_succ, List.set_cons_zero, List.set_cons_succ, List.length_cons, List.length_nil, Bool.not_true, Bool.not_false, l1, i0, s1, decide_eq_true hp, decide_eq_true h0, decide_eq_true lt, Bool.true_and]
  · have s1 : gSetI (.cell b) (.int 2) (.int (z + 1)) μ = .ok () (μ.set b ⟨true, .lst [T.int x, .int y, .int (z + 1)]⟩) := x_setc (j := 2) hb rfl
    have hb1 : (μ.set b ⟨true, .lst [T.int x, .int y, .int (z + 1)]⟩)[b]? = some ⟨true, .lst [.int x, .int y, .int (z + 1)]⟩ := set_at hb
    have l1 := x_ldc hb
    have l2 := x_ldc hb1
    have o1 : 0 ≤ (y + 86028121 * (z + 1)) % 2305843009213693951 ∧ (y + 86028121 * (z + 1)) % 2305843009213693951 < 2305843009213693951 := ⟨Int.emod_nonneg _ (by decide), Int.emod_lt_of_pos _ (by decide)⟩
    generalize ho : (y + 86028121 * (z + 1)) % 2305843009213693951 = one at o1
    have o2 : 0 ≤ (one * one + 107 * (z + 1)) % 2305843009213693921 ∧ (one * one + 107 * (z + 1)) % 2305843009213693921 < 2305843009213693921 := ⟨Int.emod_nonneg _ (by decide), Int.emod_lt_of_pos _ (by decide)⟩
    generalize ht2 : (one * one + 107 * (z + 1)) % 2305843009213693921 = two at o2
    have m1 : gMulA (.int 86028121) (.int (z + 1)) (μ.set b ⟨true, .lst [T.int x, .int y, .int (z + 1)]⟩) = _ := x_mulh 30 100 (by decide) (by omega) (by decide)
    have m2 : gMulA (.int one) (.int one) (μ.set b ⟨true, .lst [T.int x, .int y, .int (z + 1)]⟩) = _ := x_mulh 70 70 (by omega) (by omega) (by decide)
    have m3 : gMulA (.int 107) (.int (z + 1)) (μ.set b ⟨true, .lst [T.int x, .int y, .int (z + 1)]⟩) = _ := x_mulh 30 100 (by decide) (by omega) (by decide)
    have m4 : gMulA (.int two) (.int 3999971) (μ.set b ⟨true, .lst [T.int x, .int y, .int (z + 1)]⟩) = _ := x_mulh 70 70 (by omega) (by decide) (by decide)
    refine ⟨(two * 3999971 + one) / 65539 % t, μ.set b ⟨true, .lst [T.int x, .int y, .int (z + 1)]⟩, ?_, Int.emod_nonneg _ (by omega), Int.emod_lt_of_pos _ h0, x, y, z + 1, hb1, hx, hy, hy2, by omega, by omega⟩
    unfold m__law_draw
    simp only [x_bind, x_ok, x_pure, x_no, x_nob, x_mkFn, x_endr, x_endn, x_sl0, x_sl1, x_sl2, x_seq, x_seqn, x_seqr, x_seqb, x_seqc, x_nil, x_ret, x_exp, x_if, x_set, x_tgt, x_par, x_for, x_var, x_varR, x_c, x_op, x_un, x_ld2, x_ldi, x_ldb, x_lds, x_ldn, x_ldl, x_ldf, x_ldt, x_ldy, x_and, x_andt, x_andf, x_or, x_ort, x_orf, x_not, x_bT, x_asB, x_band, x_bor, x_bnot, x_eif, x_ct, x_cf, x_echain, x_bchain, x_anil, x_acons, x_astar, x_itl, x_itf, x_itt, x_tup, x_lst, x_okL, x_tree, x_cell, x_newC, x_eB, x_lB, x_iB, x_iSeq, x_g1, x_g2, x_call, x_sl, x_onone, x_osome, x_asO, x_name, x_hnil, x_hcons, x_htup, x_hsub, x_comp, x_yes, x_w0, x_w1, x_add, x_sub, x_mod, x_fdiv, x_shr, x_bit, x_cmp, x_lt, x_neg, x_eqi, x_nei, x_ess, x_nss, x_lenl, x_lenf, x_lent, x_int, x_intb, x_max2, x_min2, x_tupl, x_r1, x_r2, x_revl, x_revt, x_ixt, x_ixl, x_ixf, x_ofO, x_slt, x_sll, x_isi, x_ist, List.getElem?_cons_zero, List.getElem?_cons_succ, List.set_cons_zero, List.set_cons_succ, List.length_cons, List.length_nil, Bool.not_true, Bool.not_false, l1, l2, i0, i1, i2, s1, m1, m2, m3, m4, ho, ht2, decide_eq_false hp, decide_eq_true h0, Bool.true_and, show decide ((0 : Int) < 2305843009213693951) = true by decide, show decide ((0 : Int) < 2305843009213693921) = true by decide, show (decide ((0 : Int) < 65539) && decide ((65539 : Int).natAbs.log2 < 9000)) = true by decide]

def bagE : Env → M T := eIf (bT (eOp (ld2 gLt) (eVar 1) (eB (g1 gLen) (aCons (eVar 0) aNil)))) (eB (g1 gInt) (aCons (eOp (ld2 gIx) (eVar 0) (eVar 1)) aNil)) (eOp (ld2 gAdd) (eOp (ld2 gMulA) (eC (.int 149)) (eVar 1)) (eC (.int 83)))
theorem k_bag (ns : List Int) (k : Nat) (hk : k ≤ 1) (μ : Store) : ∃ μ', m__law_bag [scriptT ns, .int (k : Int)] μ = .ok (.cell μ.length) μ' ∧ Bag μ.length 0 μ' := by
  have hc : ∃ c : Int, bagE [some (scriptT ns), some (.int (k : Int)), none, none] μ = .ok (.int c) μ := by
    by_cases h : k < ns.length
    · refine ⟨ns[k], ?_⟩
      have e : atI (ns.map T.int) (k : Int) = some (.int ns[k]) := by
        unfold atI ixN
        rw [List.length_map, if_pos (by omega), if_pos (by omega), Int.toNat_natCast]
        simp [h]
      unfold bagE
      simp only [x_bind, x_ok, x_pure, x_no, x_nob, x_mkFn, x_endr, x_endn, x_sl0, x_sl1, x_sl2, x_seq, x_seqn, x_seqr, x_seqb, x_seqc, x_nil, x_ret, x_exp, x_if, x_set, x_tgt, x_par, x_for, x_var, x_varR, x_c, x_op, x_un, x_ld2, x_ldi, x_ldb, x_lds, x_ldn, x_ldl, x_ldf, x_ldt, x_ldy, x_and, x_andt, x_andf, x_or, x_ort, x_orf, x_not, x_bT, x_asB, x_band, x_bor, x_bnot, x_eif, x_ct, x_cf, x_echain, x_bchain, x_anil, x_acons, x_astar, x_itl, x_itf, x_itt, x_tup, x_lst, x_okL, x_tree, x_cell, x_newC, x_eB, x_lB, x_iB, x_iSeq, x_g1, x_g2, x_call, x_sl, x_onone, x_osome, x_asO, x_name, x_hnil, x_hcons, x_htup, x_hsub, x_comp, x_yes, x_w0, x_w1, x_add, x_sub, x_mod, x_fdiv, x_shr, x_bit, x_cmp, x_lt, x_neg, x_eqi, x_nei, x_ess, x_nss, x_lenl, x_lenf, x_lent, x_int, x_intb, x_max2, x_min2, x_tupl, x_r1, x_r2, x_revl, x_revt, x_ixt, x_ixl, x_ixf, x_ofO, x_slt, x_sll, x_isi, x_ist, List.getElem?_cons_zero, List.getElem?_cons_succ, List.set_cons_zero, List.set_cons_succ, List.length_cons, List.length_nil, Bool.not_true, Bool.not_false, scriptT, List.length_map, decide_eq_true (show (k : Int) < (ns.length : Int) by omega), e]
    · refine ⟨149 * (k : Int) + 83, ?_⟩
      unfold bagE
      simp only [x_bind, x_ok, x_pure, x_no, x_nob, x_mkFn, x_endr, x_endn, x_sl0, x_sl1, x_sl2, x_seq, x_seqn, x_seqr, x_seqb, x_seqc, x_nil, x_ret, x_exp, x_if, x_set, x_tgt, x_par, x_for, x_var, x_varR, x_c, x_op, x_un, x_ld2, x_ldi, x_ldb, x_lds, x_ldn, x_ldl, x_ldf, x_ldt, x_ldy, x_and, x_andt, x_andf, x_or, x_ort, x_orf, x_not, x_bT, x_asB, x_band, x_bor, x_bnot, x_eif, x_ct, x_cf, x_echain, x_bchain, x_anil, x_acons, x_astar, x_itl, x_itf, x_itt, x_tup, x_lst, x_okL, x_tree, x_cell, x_newC, x_eB, x_lB, x_iB, x_iSeq, x_g1, x_g2, x_call, x_sl, x_onone, x_osome, x_asO, x_name, x_hnil, x_hcons, x_htup, x_hsub, x_comp, x_yes, x_w0, x_w1, x_add, x_sub, x_mod, x_fdiv, x_shr, x_bit, x_cmp, x_lt, x_neg, x_eqi, x_nei, x_ess, x_nss, x_lenl, x_lenf, x_lent, x_int, x_intb, x_max2, x_min2, x_tupl, x_r1, x_r2, x_revl, x_revt, x_ixt, x_ixl, x_ixf, x_ofO, x_slt, x_sll, x_isi, x_ist, List.getElem?_cons_zero, List.getElem?_cons_succ, List.set_cons_zero, List.set_cons_succ, List.length_cons, List.length_nil, Bool.not_true, Bool.not_false, scriptT, List.length_map, decide_eq_false (show ¬ (k : Int) < (ns.length : Int) by omega), x_mulh (i := 149) (j := (k : Int)) (μ := μ) 8 8 (by decide) (by omega) (by decide)]
  obtain ⟨c, hc⟩ := hc
  have p1 : gPow (.int 10) (.int 16) μ = .ok (.int 10000000000000000) μ := by rfl
  have p2 : gPow (.int 10) (.int 58) μ = .ok (.int (10 ^ 58)) μ := by rfl
  have p3 : gPow (.int 10) (.int 59) μ = .ok (.int (10 ^ 59)) μ := by rfl
  have p4 : gMulA (.int (10 ^ 58)) (.int (10 ^ 59)) μ = .ok (.int (10 ^ 58 * 10 ^ 59)) μ := x_mulh 300 300 (by decide) (by decide) (by decide)
  have hy : 0 ≤ (c.natAbs : Int) % 1152921504606846999 ∧ (c.natAbs : Int) % 1152921504606846999 < 1152921504606846999 := ⟨Int.emod_nonneg _ (by decide), Int.emod_lt_of_pos _ (by decide)⟩
  generalize hy' : (c.natAbs : Int) % 1152921504606846999 = y at hy
  have p5 : gMulA (.int y) (.int 101) μ = .ok (.int (y * 101)) μ := x_mulh 70 70 (by omega) (by decide) (by decide)
  have p6 : gMulA (.int 1049) (.int (k : Int)) μ = .ok (.int (1049 * (k : Int))) μ := x_mulh 70 70 (by decide) (by omega) (by decide)
  have p7 : gMulA (.int 59) (.int (bif decide (c < 0) then 1 else 0)) μ = .ok (.int (59 * (bif decide (c < 0) then 1 else 0))) μ := x_mulh 70 70 (by decide) (by cases decide (c < 0) <;> decide) (by decide)
  refine ⟨_, ?_, Bag.new (x := (if (c.natAbs : Int) - 10000000000000000 > 0 then (c.natAbs : Int) - 10000000000000000 else 0) % (10 ^ 58 * 10 ^ 59)) (y := y * 101 + 1049 * (k : Int) + 59 * (bif decide (c < 0) then 1 else 0) + 29) (Int.emod_nonneg _ (by decide)) ?_ ?_⟩
  · unfold m__law_bag
    show mkFn 4 (sSeq (sSet 2 bagE) _) _ μ = _
    simp only [x_bind, x_ok, x_pure, x_no, x_nob, x_mkFn, x_endr, x_endn, x_sl0, x_sl1, x_sl2, x_seq, x_seqn, x_seqr, x_seqb, x_seqc, x_nil, x_ret, x_exp, x_if, x_set, x_tgt, x_par, x_for, x_var, x_varR, x_c, x_op, x_un, x_ld2, x_ldi, x_ldb, x_lds, x_ldn, x_ldl, x_ldf, x_ldt, x_ldy, x_and, x_andt, x_andf, x_or, x_ort, x_orf, x_not, x_bT, x_asB, x_band, x_bor, x_bnot, x_eif, x_ct, x_cf, x_echain, x_bchain, x_anil, x_acons, x_astar, x_itl, x_itf, x_itt, x_tup, x_lst, x_okL, x_tree, x_cell, x_newC, x_eB, x_lB, x_iB, x_iSeq, x_g1, x_g2, x_call, x_sl, x_onone, x_osome, x_asO, x_name, x_hnil, x_hcons, x_htup, x_hsub, x_comp, x_yes, x_w0, x_w1, x_add, x_sub, x_mod, x_fdiv, x_shr, x_bit, x_cmp, x_lt, x_neg, x_eqi, x_nei, x_ess, x_nss, x_lenl, x_lenf, x_lent, x_int, x_intb, x_max2, x_min2, x_tupl, x_r1, x_r2, x_revl, x_revt, x_ixt, x_ixl, x_ixf, x_ofO, x_slt, x_sll, x_isi, x_ist, List.getElem?_cons_zero, List.getElem?_cons_succ, List.set_cons_zero, List.set_cons_succ, List.length_cons, List.length_nil, Bool.not_true, Bool.not_false, hc, x_abs, p1, p2, p3, p4, show decide ((0 : Int) < 10 ^ 58 * 10 ^ 59) = true by decide, show decide ((0 : Int) < 1152921504606846999) = true by decide, hy', p5, p6, p7, fits_of (show 3 ≤ 16777216 by decide)]
  · cases decide (c < 0) <;> simp only [cond_true, cond_false] <;> omega
  · cases decide (c < 0) <;> simp only [cond_true, cond_false] <;> omega
/-! ### the numbers -/
def la (bs : List Int) : Int := bs.getLastD 0
def sg (bs : List Int) : Int := pl bs - la bs * 2 ^ bs.length
theorem la_snoc (bs : List Int) (l : Int) : la (bs ++ [l]) = l := by simp [la, List.getLastD_eq_getLast?]
theorem snoc_of {bs : List Int} (h : 1 ≤ bs.length) : ∃ i l, bs = i ++ [l] := by
  have hne : bs ≠ [] := fun e => by rw [e] at h; simp at h
  exact ⟨bs.dropLast, bs.getLast hne, (List.dropLast_concat_getLast hne).symm⟩
theorem pw_pos (n : Nat) : (0 : Int) < 2 ^ n := Int.pow_pos (by decide)
theorem pw_nat (n : Nat) : ((2 : Int) ^ n) = ((2 ^ n : Nat) : Int) := by norm_cast
theorem pw_lt {n m : Nat} (h : n < m) : ((2 : Int) ^ n).natAbs < 2 ^ m := by
  rw [pw_nat, Int.natAbs_natCast]
  exact Nat.pow_lt_pow_right (by decide) h
theorem pl_range : ∀ {bs : List Int}, isB bs → 0 ≤ pl bs ∧ pl bs < 2 ^ bs.length
  | [], _ => ⟨by decide, by decide⟩
  | b :: r, h => by
    obtain ⟨h1, h2⟩ := pl_range (bs := r) fun c hc => h c (List.mem_cons_of_mem _ hc)
    have h3 := h b List.mem_cons_self
    show 0 ≤ b + 2 * pl r ∧ b + 2 * pl r < 2 ^ (r.length + 1)
    rw [Int.pow_succ]
    omega
theorem mod2 (n p : Int) (hp : 0 < p) : n % (2 * p) = n % 2 + 2 * (n / 2 % p) := by
  have e : n = (n % 2 + 2 * (n / 2 % p)) + (2 * p) * (n / 2 / p) := by
    have a := Int.emod_add_mul_ediv (n / 2) p
    have b := Int.emod_add_mul_ediv n 2
    have c : 2 * p * (n / 2 / p) = 2 * (p * (n / 2 / p)) := by rw [Int.mul_assoc]
    omega
  have h1 : 0 ≤ n / 2 % p := Int.emod_nonneg _ (by omega)
  have h2 : n / 2 % p < p := Int.emod_lt_of_pos _ hp
  have h3 : (n % 2 + 2 * (n / 2 % p)) % (2 * p) = n % 2 + 2 * (n / 2 % p) := Int.emod_eq_of_lt (by omega) (by omega)
  generalize hq : n / 2 / p = q at e
  generalize hr : n % 2 + 2 * (n / 2 % p) = r at e h3 ⊢
  rw [e, Int.add_mul_emod_self_left]
  exact h3
theorem pl_bb : ∀ (w : Nat) (n : Int), pl (bb n w) = n % 2 ^ w
  | 0, n => by show (0 : Int) = n % 1; omega
  | w + 1, n => by
    show n % 2 + 2 * pl (bb (n / 2) w) = _
    rw [pl_bb w, Int.pow_succ, Int.mul_comm (2 ^ w) 2, mod2 n _ (pw_pos w)]
theorem bb_pl : ∀ {bs : List Int} (k : Int), isB bs → bb (pl bs + 2 ^ bs.length * k) bs.length = bs
  | [], _, _ => rfl
  | b :: r, k, h => by
    have h3 := h b List.mem_cons_self
    have e : (b + 2 * pl r) + 2 ^ (r.length + 1) * k = b + 2 * (pl r + 2 ^ r.length * k) := by
      rw [Int.pow_succ, Int.mul_comm (2 ^ r.length) 2, Int.mul_assoc]
      omega
    show bb ((b + 2 * pl r) + 2 ^ (r.length + 1) * k) (r.length + 1) = b :: r
    rw [e]
    show _ % 2 :: bb (_ / 2) r.length = b :: r
    generalize hm : pl r + 2 ^ r.length * k = m
    rw [show (b + 2 * m) % 2 = b by omega, show (b + 2 * m) / 2 = m by omega, ← hm, bb_pl k fun c hc => h c (List.mem_cons_of_mem _ hc)]
theorem bb_mod (n k : Int) (w : Nat) : bb (n % 2 ^ w + 2 ^ w * k) w = bb n w := by
  have h := bb_pl k (bb_isB w n)
  rw [bb_len, pl_bb] at h
  exact h
theorem pl_app : ∀ (xs ys : List Int), pl (xs ++ ys) = pl xs + 2 ^ xs.length * pl ys
  | [], ys => by show pl ys = 0 + 1 * pl ys; omega
  | x :: xs, ys => by
    show x + 2 * pl (xs ++ ys) = (x + 2 * pl xs) + 2 ^ (xs.length + 1) * pl ys
    rw [pl_app xs ys, Int.pow_succ, Int.mul_comm (2 ^ xs.length) 2, Int.mul_assoc]
    omega
theorem pl_rep (b : Int) : ∀ k : Nat, pl (List.replicate k b) = b * (2 ^ k - 1)
  | 0 => by simp [pl]
  | k + 1 => by
    show b + 2 * pl (List.replicate k b) = _
    rw [pl_rep b k, Int.pow_succ]
    generalize (2 : Int) ^ k = p
    have e1 : b * (p * 2 - 1) = 2 * (b * p) - b := by rw [Int.mul_sub, Int.mul_one, ← Int.mul_assoc, Int.mul_comm (b * p) 2]
    have e2 : b * (p - 1) = b * p - b := by rw [Int.mul_sub, Int.mul_one]
    omega
theorem pl_turn : ∀ bs : List Int, pl (bs.map fun b => 1 - b) = 2 ^ bs.length - 1 - pl bs
  | [] => rfl
  | b :: r => by
    show (1 - b) + 2 * pl (r.map fun b => 1 - b) = 2 ^ (r.length + 1) - 1 - (b + 2 * pl r)
    rw [pl_turn r, Int.pow_succ]
    omega
theorem sg_turn {bs : List Int} (h : 1 ≤ bs.length) : sg (bs.map fun b => 1 - b) = 0 - 1 - sg bs := by
  obtain ⟨i, l, rfl⟩ := snoc_of h
  unfold sg
  rw [pl_turn, List.map_append, List.map_cons, List.map_nil, la_snoc, la_snoc]
  simp only [List.length_append, List.length_map, List.length_cons, List.length_nil]
  rw [Int.sub_mul]
  omega
def ext (bs : List Int) (M : Nat) (b : Int) : List Int := bs.take M ++ List.replicate (M - bs.length) b
theorem ext_len (bs : List Int) (M : Nat) (b : Int) : (ext bs M b).length = M := by
  unfold ext
  rw [List.length_append, List.length_take, List.length_replicate]
  omega
theorem ext_isB {bs : List Int} {M : Nat} {b : Int} (h : isB bs) (hb : b = 0 ∨ b = 1) : isB (ext bs M b) := fun c hc => by
  rcases List.mem_append.mp hc with hc | hc
  · exact h c (List.mem_of_mem_take hc)
  · rw [List.eq_of_mem_replicate hc]; exact hb
theorem pl_take {bs : List Int} (h : isB bs) (M : Nat) : pl (bs.take M) = pl bs % 2 ^ M := by
  have h1 : isB (bs.take M) := fun c hc => h c (List.mem_of_mem_take hc)
  have h2 := pl_range h1
  have e := pl_app (bs.take M) (bs.drop M)
  rw [List.take_append_drop] at e
  by_cases hm : M ≤ bs.length
  · rw [List.length_take, Nat.min_eq_left hm] at e h2
    rw [e, Int.add_mul_emod_self_left]
    exact (Int.emod_eq_of_lt h2.1 h2.2).symm
  · rw [List.take_of_length_le (by omega)]
    have h3 := pl_range h
    have h4 : (2 : Int) ^ bs.length ≤ 2 ^ M := by
      rw [pw_nat, pw_nat]
      exact Int.ofNat_le.mpr (Nat.pow_le_pow_right (by decide) (by omega))
    exact (Int.emod_eq_of_lt h3.1 (by omega)).symm
theorem pl_ext0 {bs : List Int} (h : isB bs) (M : Nat) : pl (ext bs M 0) = pl bs % 2 ^ M := by
  unfold ext
  rw [pl_app, pl_rep, pl_take h]
  simp
theorem ext_ge {bs : List Int} {M : Nat} (hm : bs.length ≤ M) (b : Int) : ext bs M b = bs ++ List.replicate (M - bs.length) b := by
  unfold ext
  rw [List.take_of_length_le hm]
theorem pl_ext_ge {bs : List Int} {M : Nat} (hm : bs.length ≤ M) : pl (ext bs M 0) = pl bs := by
  rw [ext_ge hm, pl_app, pl_rep]
  simp
theorem sg_ext_ge {bs : List Int} {M : Nat} (h0 : 1 ≤ bs.length) (hm : bs.length ≤ M) : sg (ext bs M (la bs)) = sg bs := by
  unfold sg
  rw [ext_len]
  have e1 : la (ext bs M (la bs)) = la bs := by
    rw [ext_ge hm]
    by_cases hk : M - bs.length = 0
    · rw [hk]; simp
    · obtain ⟨k, hk⟩ := Nat.exists_eq_succ_of_ne_zero hk
      rw [hk, List.replicate_succ', ← List.append_assoc, la_snoc]
  rw [e1, ext_ge hm, pl_app, pl_rep]
  have e2 : (2 : Int) ^ M = 2 ^ bs.length * 2 ^ (M - bs.length) := by rw [← Int.pow_add]; congr 1; omega
  rw [e2]
  generalize (2 : Int) ^ bs.length = p
  generalize (2 : Int) ^ (M - bs.length) = q
  generalize la bs = c
  have e3 : p * (c * (q - 1)) = c * (p * q) - c * p := by
    rw [Int.mul_sub, Int.mul_sub, Int.mul_one, Int.mul_left_comm, Int.mul_comm p c]
  rw [e3]
  omega
theorem la_isB {bs : List Int} (h : isB bs) (h0 : 1 ≤ bs.length) : la bs = 0 ∨ la bs = 1 := by
  obtain ⟨i, l, rfl⟩ := snoc_of h0
  rw [la_snoc]
  exact h l (by simp)
theorem la_bb : ∀ (w : Nat) (n : Int), la (bb n (w + 1)) = n / 2 ^ w % 2
  | 0, n => by show n % 2 = n / 1 % 2; rw [Int.ediv_one]
  | w + 1, n => by
    have e : la (bb n (w + 2)) = la (bb (n / 2) (w + 1)) := by
      show la (n % 2 :: (n / 2) % 2 :: bb (n / 2 / 2) w) = la ((n / 2) % 2 :: bb (n / 2 / 2) w)
      simp [la, List.getLastD]
    rw [e, la_bb w, Int.pow_succ, Int.mul_comm (2 ^ w) 2, Int.ediv_ediv_of_nonneg (by decide)]
theorem mod_hi (n p : Int) (hp : 0 < p) : n % (p * 2) = (n / p % 2) * p + n % p := by
  have e : n = ((n / p % 2) * p + n % p) + (p * 2) * (n / p / 2) := by
    have a := Int.emod_add_mul_ediv n p
    have b := Int.emod_add_mul_ediv (n / p) 2
    have c : p * (n / p) = (n / p % 2) * p + p * 2 * (n / p / 2) := by
      rw [Int.mul_assoc, Int.mul_comm (n / p % 2) p, ← Int.mul_add, b]
    omega
  have h1 : 0 ≤ n % p := Int.emod_nonneg _ (by omega)
  have h2 : n % p < p := Int.emod_lt_of_pos _ hp
  have h4 : n / p % 2 = 0 ∨ n / p % 2 = 1 := by omega
  have h3 : ((n / p % 2) * p + n % p) % (p * 2) = (n / p % 2) * p + n % p := Int.emod_eq_of_lt (by rcases h4 with h | h <;> rw [h] <;> omega) (by rcases h4 with h | h <;> rw [h] <;> omega)
  generalize hq : n / p / 2 = q at e
  generalize hr : (n / p % 2) * p + n % p = r at e h3 ⊢
  rw [e, Int.add_mul_emod_self_left]
  exact h3
/-- the signed value by the height of the plain one -/
theorem sg_bb (w : Nat) (n : Int) : sg (bb n (w + 1)) = if 2 ^ w ≤ n % 2 ^ (w + 1) then n % 2 ^ (w + 1) - 2 ^ (w + 1) else n % 2 ^ (w + 1) := by
  unfold sg
  rw [pl_bb, la_bb, bb_len]
  have h := mod_hi n (2 ^ w) (pw_pos w)
  have h1 : 0 ≤ n % 2 ^ w := Int.emod_nonneg _ (by have := pw_pos w; omega)
  have h2 : n % 2 ^ w < 2 ^ w := Int.emod_lt_of_pos _ (pw_pos w)
  have h3 : n / 2 ^ w % 2 = 0 ∨ n / 2 ^ w % 2 = 1 := by omega
  rw [Int.pow_succ]
  rcases h3 with e | e
  · rw [e] at h ⊢
    rw [if_neg (by omega)]
    omega
  · rw [e] at h ⊢
    rw [if_pos (by omega)]
    omega
end TL

namespace TL
open PySem PySem.Spec PyProof.Rows L2 StX
/-! ### the functions -/
theorem ix_last {bs : List Int} (h : 1 ≤ bs.length) : atI (bs.map T.int) (-1) = some (.int (la bs)) := by
  obtain ⟨i, l, rfl⟩ := snoc_of h
  rw [la_snoc]
  unfold atI ixN
  have e : ((-1 : Int) + ((i.length : Int) + 1)).toNat = i.length := by omega
  simp [e, show (1 : Int) ≤ (i.length : Int) + 1 by omega]
theorem k_signed {bs : List Int} (h : isB bs) (h0 : 1 ≤ bs.length) (h1 : bs.length ≤ 60) (μ : Store) : m_signed_in [bT' bs] μ = .ok (.int (sg bs)) μ := by
  obtain ⟨i, l, rfl⟩ := snoc_of h0
  have hl : (i ++ [l]).length = i.length + 1 := by simp
  have e := k_signed_in i l μ h (by omega)
  unfold sg
  rw [la_snoc, hl]
  exact e
theorem k_plain_value {bs : List Int} (h : isB bs) (h0 : 1 ≤ bs.length) (h1 : bs.length ≤ 60) (μ : Store) : m_plain_value [bT' bs] μ = .ok (.int (pl bs)) μ := by
  have a := k_require_bits bs μ h h0 h1
  have b := k_plain_in bs μ h (by omega)
  unfold m_plain_value
  simp only [x_bind, x_ok, x_pure, x_no, x_nob, x_mkFn, x_endr, x_endn, x_sl0, x_sl1, x_sl2, x_seq, x_seqn, x_seqr, x_seqb, x_seqc, x_nil, x_ret, x_exp, x_if, x_set, x_tgt, x_par, x_for, x_var, x_varR, x_c, x_op, x_un, x_ld2, x_ldi, x_ldb, x_lds, x_ldn, x_ldl, x_ldf, x_ldt, x_ldy, x_and, x_andt, x_andf, x_or, x_ort, x_orf, x_not, x_bT, x_asB, x_band, x_bor, x_bnot, x_eif, x_ct, x_cf, x_echain, x_bchain, x_anil, x_acons, x_astar, x_itl, x_itf, x_itt, x_tup, x_lst, x_okL, x_tree, x_cell, x_newC, x_eB, x_lB, x_iB, x_iSeq, x_g1, x_g2, x_call, x_sl, x_onone, x_osome, x_asO, x_name, x_hnil, x_hcons, x_htup, x_hsub, x_comp, x_yes, x_w0, x_w1, x_add, x_sub, x_mod, x_fdiv, x_shr, x_bit, x_cmp, x_lt, x_neg, x_eqi, x_nei, x_ess, x_nss, x_lenl, x_lenf, x_lent, x_int, x_intb, x_max2, x_min2, x_tupl, x_r1, x_r2, x_revl, x_revt, x_ixt, x_ixl, x_ixf, x_ofO, x_slt, x_sll, x_isi, x_ist, List.getElem?_cons_zero, List.getElem?_cons_succ, List.set_cons_zero, List.set_cons_succ, List.length_cons, List.length_nil, Bool.not_true, Bool.not_false, beq_self_eq_true, a, b]
theorem k_signed_value {bs : List Int} (h : isB bs) (h0 : 1 ≤ bs.length) (h1 : bs.length ≤ 60) (μ : Store) : m_signed_value [bT' bs] μ = .ok (.int (sg bs)) μ := by
  have a := k_require_bits bs μ h h0 h1
  have b := k_signed h h0 h1 μ
  unfold m_signed_value
  simp only [x_bind, x_ok, x_pure, x_no, x_nob, x_mkFn, x_endr, x_endn, x_sl0, x_sl1, x_sl2, x_seq, x_seqn, x_seqr, x_seqb, x_seqc, x_nil, x_ret, x_exp, x_if, x_set, x_tgt, x_par, x_for, x_var, x_varR, x_c, x_op, x_un, x_ld2, x_ldi, x_ldb, x_lds, x_ldn, x_ldl, x_ldf, x_ldt, x_ldy, x_and, x_andt, x_andf, x_or, x_ort, x_orf, x_not, x_bT, x_asB, x_band, x_bor, x_bnot, x_eif, x_ct, x_cf, x_echain, x_bchain, x_anil, x_acons, x_astar, x_itl, x_itf, x_itt, x_tup, x_lst, x_okL, x_tree, x_cell, x_newC, x_eB, x_lB, x_iB, x_iSeq, x_g1, x_g2, x_call, x_sl, x_onone, x_osome, x_asO, x_name, x_hnil, x_hcons, x_htup, x_hsub, x_comp, x_yes, x_w0, x_w1, x_add, x_sub, x_mod, x_fdiv, x_shr, x_bit, x_cmp, x_lt, x_neg, x_eqi, x_nei, x_ess, x_nss, x_lenl, x_lenf, x_lent, x_int, x_intb, x_max2, x_min2, x_tupl, x_r1, x_r2, x_revl, x_revt, x_ixt, x_ixl, x_ixf, x_ofO, x_slt, x_sll, x_isi, x_ist, List.getElem?_cons_zero, List.getElem?_cons_succ, List.set_cons_zero, List.set_cons_succ, List.length_cons, List.length_nil, Bool.not_true, Bool.not_false, beq_self_eq_true, a, b]
theorem k_require_wide {w : Nat} (h0 : 1 ≤ w) (h1 : w ≤ 60) (μ : Store) : m_require_wide [.int (w : Int)] μ = .ok .non μ := by
  have a : m_is_within [.int (w : Int), .int 1, .int 60] μ = .ok (.bl true) μ := k_within (by omega) (by omega)
  unfold m_require_wide
  simp only [x_bind, x_ok, x_pure, x_no, x_nob, x_mkFn, x_endr, x_endn, x_sl0, x_sl1, x_sl2, x_seq, x_seqn, x_seqr, x_seqb, x_seqc, x_nil, x_ret, x_exp, x_if, x_set, x_tgt, x_par, x_for, x_var, x_varR, x_c, x_op, x_un, x_ld2, x_ldi, x_ldb, x_lds, x_ldn, x_ldl, x_ldf, x_ldt, x_ldy, x_and, x_andt, x_andf, x_or, x_ort, x_orf, x_not, x_bT, x_asB, x_band, x_bor, x_bnot, x_eif, x_ct, x_cf, x_echain, x_bchain, x_anil, x_acons, x_astar, x_itl, x_itf, x_itt, x_tup, x_lst, x_okL, x_tree, x_cell, x_newC, x_eB, x_lB, x_iB, x_iSeq, x_g1, x_g2, x_call, x_sl, x_onone, x_osome, x_asO, x_name, x_hnil, x_hcons, x_htup, x_hsub, x_comp, x_yes, x_w0, x_w1, x_add, x_sub, x_mod, x_fdiv, x_shr, x_bit, x_cmp, x_lt, x_neg, x_eqi, x_nei, x_ess, x_nss, x_lenl, x_lenf, x_lent, x_int, x_intb, x_max2, x_min2, x_tupl, x_r1, x_r2, x_revl, x_revt, x_ixt, x_ixl, x_ixf, x_ofO, x_slt, x_sll, x_isi, x_ist, List.getElem?_cons_zero, List.getElem?_cons_succ, List.set_cons_zero, List.set_cons_succ, List.length_cons, List.length_nil, Bool.not_true, Bool.not_false, beq_self_eq_true, c_MOST_BITS, a]
theorem k_require_number {n : Int} (h0 : -(2 ^ 70) ≤ n) (h1 : n ≤ 2 ^ 70) (μ : Store) : m_require_number [.int n] μ = .ok .non μ := by
  have a : m_is_within [.int n, .int (-c_GREAT), .int c_GREAT] μ = .ok (.bl true) μ := k_within (by unfold c_GREAT; omega) (by unfold c_GREAT; omega)
  unfold m_require_number
  simp only [x_bind, x_ok, x_pure, x_no, x_nob, x_mkFn, x_endr, x_endn, x_sl0, x_sl1, x_sl2, x_seq, x_seqn, x_seqr, x_seqb, x_seqc, x_nil, x_ret, x_exp, x_if, x_set, x_tgt, x_par, x_for, x_var, x_varR, x_c, x_op, x_un, x_ld2, x_ldi, x_ldb, x_lds, x_ldn, x_ldl, x_ldf, x_ldt, x_ldy, x_and, x_andt, x_andf, x_or, x_ort, x_orf, x_not, x_bT, x_asB, x_band, x_bor, x_bnot, x_eif, x_ct, x_cf, x_echain, x_bchain, x_anil, x_acons, x_astar, x_itl, x_itf, x_itt, x_tup, x_lst, x_okL, x_tree, x_cell, x_newC, x_eB, x_lB, x_iB, x_iSeq, x_g1, x_g2, x_call, x_sl, x_onone, x_osome, x_asO, x_name, x_hnil, x_hcons, x_htup, x_hsub, x_comp, x_yes, x_w0, x_w1, x_add, x_sub, x_mod, x_fdiv, x_shr, x_bit, x_cmp, x_lt, x_neg, x_eqi, x_nei, x_ess, x_nss, x_lenl, x_lenf, x_lent, x_int, x_intb, x_max2, x_min2, x_tupl, x_r1, x_r2, x_revl, x_revt, x_ixt, x_ixl, x_ixf, x_ofO, x_slt, x_sll, x_isi, x_ist, List.getElem?_cons_zero, List.getElem?_cons_succ, List.set_cons_zero, List.set_cons_succ, List.length_cons, List.length_nil, Bool.not_true, Bool.not_false, beq_self_eq_true, a]
theorem k_require_held {n : Int} {w : Nat} (h0 : -(2 ^ 70) ≤ n) (h1 : n ≤ 2 ^ 70) (h2 : 1 ≤ w) (h3 : w ≤ 60) (μ : Store) : m_require_held [.int n, .int (w : Int)] μ = .ok .non μ := by
  have a := k_require_number h0 h1 μ
  have b := k_require_wide h2 h3 μ
  unfold m_require_held
  simp only [x_bind, x_ok, x_pure, x_no, x_nob, x_mkFn, x_endr, x_endn, x_sl0, x_sl1, x_sl2, x_seq, x_seqn, x_seqr, x_seqb, x_seqc, x_nil, x_ret, x_exp, x_if, x_set, x_tgt, x_par, x_for, x_var, x_varR, x_c, x_op, x_un, x_ld2, x_ldi, x_ldb, x_lds, x_ldn, x_ldl, x_ldf, x_ldt, x_ldy, x_and, x_andt, x_andf, x_or, x_ort, x_orf, x_not, x_bT, x_asB, x_band, x_bor, x_bnot, x_eif, x_ct, x_cf, x_echain, x_bchain, x_anil, x_acons, x_astar, x_itl, x_itf, x_itt, x_tup, x_lst, x_okL, x_tree, x_cell, x_newC, x_eB, x_lB, x_iB, x_iSeq, x_g1, x_g2, x_call, x_sl, x_onone, x_osome, x_asO, x_name, x_hnil, x_hcons, x_htup, x_hsub, x_comp, x_yes, x_w0, x_w1, x_add, x_sub, x_mod, x_fdiv, x_shr, x_bit, x_cmp, x_lt, x_neg, x_eqi, x_nei, x_ess, x_nss, x_lenl, x_lenf, x_lent, x_int, x_intb, x_max2, x_min2, x_tupl, x_r1, x_r2, x_revl, x_revt, x_ixt, x_ixl, x_ixf, x_ofO, x_slt, x_sll, x_isi, x_ist, List.getElem?_cons_zero, List.getElem?_cons_succ, List.set_cons_zero, List.set_cons_succ, List.length_cons, List.length_nil, Bool.not_true, Bool.not_false, beq_self_eq_true, a, b]
theorem k_plain_bits {n : Int} {w : Nat} (h0 : 0 ≤ n) (h1 : n < 2 ^ w) (h2 : 1 ≤ w) (h3 : w ≤ 60) (μ : Store) : m_plain_bits [.int n, .int (w : Int)] μ = .ok (bT' (bb n w)) μ := by
  have z : (2 : Int) ^ w ≤ 2 ^ 60 := by rw [pw_nat, pw_nat]; exact Int.ofNat_le.mpr (Nat.pow_le_pow_right (by decide) h3)
  have a := k_require_held (n := n) (by omega) (by omega) h2 h3 μ
  have b := k_bits_by n w μ (by omega)
  have c := k_plain_in (bb n w) μ (bb_isB w n) (by rw [bb_len]; omega)
  have d : pl (bb n w) = n := by rw [pl_bb]; exact Int.emod_eq_of_lt h0 h1
  rw [d] at c
  unfold m_plain_bits
  simp only [x_bind, x_ok, x_pure, x_no, x_nob, x_mkFn, x_endr, x_endn, x_sl0, x_sl1, x_sl2, x_seq, x_seqn, x_seqr, x_seqb, x_seqc, x_nil, x_ret, x_exp, x_if, x_set, x_tgt, x_par, x_for, x_var, x_varR, x_c, x_op, x_un, x_ld2, x_ldi, x_ldb, x_lds, x_ldn, x_ldl, x_ldf, x_ldt, x_ldy, x_and, x_andt, x_andf, x_or, x_ort, x_orf, x_not, x_bT, x_asB, x_band, x_bor, x_bnot, x_eif, x_ct, x_cf, x_echain, x_bchain, x_anil, x_acons, x_astar, x_itl, x_itf, x_itt, x_tup, x_lst, x_okL, x_tree, x_cell, x_newC, x_eB, x_lB, x_iB, x_iSeq, x_g1, x_g2, x_call, x_sl, x_onone, x_osome, x_asO, x_name, x_hnil, x_hcons, x_htup, x_hsub, x_comp, x_yes, x_w0, x_w1, x_add, x_sub, x_mod, x_fdiv, x_shr, x_bit, x_cmp, x_lt, x_neg, x_eqi, x_nei, x_ess, x_nss, x_lenl, x_lenf, x_lent, x_int, x_intb, x_max2, x_min2, x_tupl, x_r1, x_r2, x_revl, x_revt, x_ixt, x_ixl, x_ixf, x_ofO, x_slt, x_sll, x_isi, x_ist, List.getElem?_cons_zero, List.getElem?_cons_succ, List.set_cons_zero, List.set_cons_succ, List.length_cons, List.length_nil, Bool.not_true, Bool.not_false, beq_self_eq_true, a, b, c, decide_true]
theorem k_signed_by {n : Int} {w : Nat} (h2 : 1 ≤ w) (h3 : w ≤ 60) (μ : Store) : m_signed_by [.int n, .int (w : Int)] μ = .ok (.int (sg (bb n w))) μ := by
  have b := k_bits_by n w μ (by omega)
  have c := k_signed (bb_isB w n) (by rw [bb_len]; omega) (by rw [bb_len]; omega) μ
  unfold m_signed_by
  simp only [x_bind, x_ok, x_pure, x_no, x_nob, x_mkFn, x_endr, x_endn, x_sl0, x_sl1, x_sl2, x_seq, x_seqn, x_seqr, x_seqb, x_seqc, x_nil, x_ret, x_exp, x_if, x_set, x_tgt, x_par, x_for, x_var, x_varR, x_c, x_op, x_un, x_ld2, x_ldi, x_ldb, x_lds, x_ldn, x_ldl, x_ldf, x_ldt, x_ldy, x_and, x_andt, x_andf, x_or, x_ort, x_orf, x_not, x_bT, x_asB, x_band, x_bor, x_bnot, x_eif, x_ct, x_cf, x_echain, x_bchain, x_anil, x_acons, x_astar, x_itl, x_itf, x_itt, x_tup, x_lst, x_okL, x_tree, x_cell, x_newC, x_eB, x_lB, x_iB, x_iSeq, x_g1, x_g2, x_call, x_sl, x_onone, x_osome, x_asO, x_name, x_hnil, x_hcons, x_htup, x_hsub, x_comp, x_yes, x_w0, x_w1, x_add, x_sub, x_mod, x_fdiv, x_shr, x_bit, x_cmp, x_lt, x_neg, x_eqi, x_nei, x_ess, x_nss, x_lenl, x_lenf, x_lent, x_int, x_intb, x_max2, x_min2, x_tupl, x_r1, x_r2, x_revl, x_revt, x_ixt, x_ixl, x_ixf, x_ofO, x_slt, x_sll, x_isi, x_ist, List.getElem?_cons_zero, List.getElem?_cons_succ, List.set_cons_zero, List.set_cons_succ, List.length_cons, List.length_nil, Bool.not_true, Bool.not_false, beq_self_eq_true, b, c]
theorem k_signed_bits {n : Int} {w : Nat} (h0 : -(2 ^ 70) ≤ n) (h1 : n ≤ 2 ^ 70) (h2 : 1 ≤ w) (h3 : w ≤ 60) (hs : sg (bb n w) = n) (μ : Store) : m_signed_bits [.int n, .int (w : Int)] μ = .ok (bT' (bb n w)) μ := by
  have a := k_require_held h0 h1 h2 h3 μ
  have b := k_bits_by n w μ (by omega)
  have c := k_signed_by (n := n) h2 h3 μ
  rw [hs] at c
  unfold m_signed_bits
  simp only [x_bind, x_ok, x_pure, x_no, x_nob, x_mkFn, x_endr, x_endn, x_sl0, x_sl1, x_sl2, x_seq, x_seqn, x_seqr, x_seqb, x_seqc, x_nil, x_ret, x_exp, x_if, x_set, x_tgt, x_par, x_for, x_var, x_varR, x_c, x_op, x_un, x_ld2, x_ldi, x_ldb, x_lds, x_ldn, x_ldl, x_ldf, x_ldt, x_ldy, x_and, x_andt, x_andf, x_or, x_ort, x_orf, x_not, x_bT, x_asB, x_band, x_bor, x_bnot, x_eif, x_ct, x_cf, x_echain, x_bchain, x_anil, x_acons, x_astar, x_itl, x_itf, x_itt, x_tup, x_lst, x_okL, x_tree, x_cell, x_newC, x_eB, x_lB, x_iB, x_iSeq, x_g1, x_g2, x_call, x_sl, x_onone, x_osome, x_asO, x_name, x_hnil, x_hcons, x_htup, x_hsub, x_comp, x_yes, x_w0, x_w1, x_add, x_sub, x_mod, x_fdiv, x_shr, x_bit, x_cmp, x_lt, x_neg, x_eqi, x_nei, x_ess, x_nss, x_lenl, x_lenf, x_lent, x_int, x_intb, x_max2, x_min2, x_tupl, x_r1, x_r2, x_revl, x_revt, x_ixt, x_ixl, x_ixf, x_ofO, x_slt, x_sll, x_isi, x_ist, List.getElem?_cons_zero, List.getElem?_cons_succ, List.set_cons_zero, List.set_cons_succ, List.length_cons, List.length_nil, Bool.not_true, Bool.not_false, beq_self_eq_true, a, b, c, decide_true]
theorem k_wrapped {n : Int} {w : Nat} (h0 : -(2 ^ 70) ≤ n) (h1 : n ≤ 2 ^ 70) (h2 : 1 ≤ w) (h3 : w ≤ 60) (μ : Store) : m_wrapped [.int n, .int (w : Int)] μ = .ok (.int (n % 2 ^ w)) μ := by
  have a := k_require_held h0 h1 h2 h3 μ
  have b := k_bits_by n w μ (by omega)
  have c := k_plain_in (bb n w) μ (bb_isB w n) (by rw [bb_len]; omega)
  rw [pl_bb] at c
  unfold m_wrapped
  simp only [x_bind, x_ok, x_pure, x_no, x_nob, x_mkFn, x_endr, x_endn, x_sl0, x_sl1, x_sl2, x_seq, x_seqn, x_seqr, x_seqb, x_seqc, x_nil, x_ret, x_exp, x_if, x_set, x_tgt, x_par, x_for, x_var, x_varR, x_c, x_op, x_un, x_ld2, x_ldi, x_ldb, x_lds, x_ldn, x_ldl, x_ldf, x_ldt, x_ldy, x_and, x_andt, x_andf, x_or, x_ort, x_orf, x_not, x_bT, x_asB, x_band, x_bor, x_bnot, x_eif, x_ct, x_cf, x_echain, x_bchain, x_anil, x_acons, x_astar, x_itl, x_itf, x_itt, x_tup, x_lst, x_okL, x_tree, x_cell, x_newC, x_eB, x_lB, x_iB, x_iSeq, x_g1, x_g2, x_call, x_sl, x_onone, x_osome, x_asO, x_name, x_hnil, x_hcons, x_htup, x_hsub, x_comp, x_yes, x_w0, x_w1, x_add, x_sub, x_mod, x_fdiv, x_shr, x_bit, x_cmp, x_lt, x_neg, x_eqi, x_nei, x_ess, x_nss, x_lenl, x_lenf, x_lent, x_int, x_intb, x_max2, x_min2, x_tupl, x_r1, x_r2, x_revl, x_revt, x_ixt, x_ixl, x_ixf, x_ofO, x_slt, x_sll, x_isi, x_ist, List.getElem?_cons_zero, List.getElem?_cons_succ, List.set_cons_zero, List.set_cons_succ, List.length_cons, List.length_nil, Bool.not_true, Bool.not_false, beq_self_eq_true, a, b, c]
theorem k_signed_wrapped {n : Int} {w : Nat} (h0 : -(2 ^ 70) ≤ n) (h1 : n ≤ 2 ^ 70) (h2 : 1 ≤ w) (h3 : w ≤ 60) (μ : Store) : m_signed_wrapped [.int n, .int (w : Int)] μ = .ok (.int (sg (bb n w))) μ := by
  have a := k_require_held h0 h1 h2 h3 μ
  have b := k_signed_by (n := n) h2 h3 μ
  unfold m_signed_wrapped
  simp only [x_bind, x_ok, x_pure, x_no, x_nob, x_mkFn, x_endr, x_endn, x_sl0, x_sl1, x_sl2, x_seq, x_seqn, x_seqr, x_seqb, x_seqc, x_nil, x_ret, x_exp, x_if, x_set, x_tgt, x_par, x_for, x_var, x_varR, x_c, x_op, x_un, x_ld2, x_ldi, x_ldb, x_lds, x_ldn, x_ldl, x_ldf, x_ldt, x_ldy, x_and, x_andt, x_andf, x_or, x_ort, x_orf, x_not, x_bT, x_asB, x_band, x_bor, x_bnot, x_eif, x_ct, x_cf, x_echain, x_bchain, x_anil, x_acons, x_astar, x_itl, x_itf, x_itt, x_tup, x_lst, x_okL, x_tree, x_cell, x_newC, x_eB, x_lB, x_iB, x_iSeq, x_g1, x_g2, x_call, x_sl, x_onone, x_osome, x_asO, x_name, x_hnil, x_hcons, x_htup, x_hsub, x_comp, x_yes, x_w0, x_w1, x_add, x_sub, x_mod, x_fdiv, x_shr, x_bit, x_cmp, x_lt, x_neg, x_eqi, x_nei, x_ess, x_nss, x_lenl, x_lenf, x_lent, x_int, x_intb, x_max2, x_min2, x_tupl, x_r1, x_r2, x_revl, x_revt, x_ixt, x_ixl, x_ixf, x_ofO, x_slt, x_sll, x_isi, x_ist, List.getElem?_cons_zero, List.getElem?_cons_succ, List.set_cons_zero, List.set_cons_succ, List.length_cons, List.length_nil, Bool.not_true, Bool.not_false, beq_self_eq_true, a, b]
theorem wide_eq (bs : List Int) (M : Nat) (b : Int) : ((bs.map T.int) ++ (List.replicate M (T.int b) ++ [])).take M = (ext bs M b).map T.int := by
  unfold ext
  rw [List.append_nil, List.take_append, List.length_map, List.take_replicate, List.map_append, List.map_take, List.map_replicate]
  congr 2
  omega
theorem k_wider {bs : List Int} {M : Nat} (h : isB bs) (h0 : 1 ≤ bs.length) (h1 : bs.length ≤ 60) (h2 : 1 ≤ M) (h3 : M ≤ 60) (μ : Store) : m_wider_bits [bT' bs, .int (M : Int)] μ = .ok (bT' (ext bs M 0)) μ := by
  have a := k_require_bits bs μ h h0 h1
  have b := k_require_wide h2 h3 μ
  have c : gMulA (.lst [.int 0]) (.int (M : Int)) μ = _ := x_repl (by omega)
  have f1 : fits (0 + 1) = true := by decide
  have f2 : fits (List.map T.int bs ++ (List.replicate M (T.int 0) ++ [])).length = true := fits_of (by simp; omega)
  unfold m_wider_bits
  simp only [x_bind, x_ok, x_pure, x_no, x_nob, x_mkFn, x_endr, x_endn, x_sl0, x_sl1, x_sl2, x_seq, x_seqn, x_seqr, x_seqb, x_seqc, x_nil, x_ret, x_exp, x_if, x_set, x_tgt, x_par, x_for, x_var, x_varR, x_c, x_op, x_un, x_ld2, x_ldi, x_ldb, x_lds, x_ldn, x_ldl, x_ldf, x_ldt, x_ldy, x_and, x_andt, x_andf, x_or, x_ort, x_orf, x_not, x_bT, x_asB, x_band, x_bor, x_bnot, x_eif, x_ct, x_cf, x_echain, x_bchain, x_anil, x_acons, x_astar, x_itl, x_itf, x_itt, x_tup, x_lst, x_okL, x_tree, x_cell, x_newC, x_eB, x_lB, x_iB, x_iSeq, x_g1, x_g2, x_call, x_sl, x_onone, x_osome, x_asO, x_name, x_hnil, x_hcons, x_htup, x_hsub, x_comp, x_yes, x_w0, x_w1, x_add, x_sub, x_mod, x_fdiv, x_shr, x_bit, x_cmp, x_lt, x_neg, x_eqi, x_nei, x_ess, x_nss, x_lenl, x_lenf, x_lent, x_int, x_intb, x_max2, x_min2, x_tupl, x_r1, x_r2, x_revl, x_revt, x_ixt, x_ixl, x_ixf, x_ofO, x_slt, x_sll, x_isi, x_ist, List.getElem?_cons_zero, List.getElem?_cons_succ, List.set_cons_zero, List.set_cons_succ, List.length_cons, List.length_nil, Bool.not_true, Bool.not_false, beq_self_eq_true, a, b, c, f1, f2, cut_to, wide_eq]
theorem k_signed_wider {bs : List Int} {M : Nat} (h : isB bs) (h0 : 1 ≤ bs.length) (h1 : bs.length ≤ 60) (h2 : 1 ≤ M) (h3 : M ≤ 60) (μ : Store) : m_signed_wider [bT' bs, .int (M : Int)] μ = .ok (bT' (ext bs M (la bs))) μ := by
  have a := k_require_bits bs μ h h0 h1
  have b := k_require_wide h2 h3 μ
  have c : gMulA (.lst [.int (la bs)]) (.int (M : Int)) μ = _ := x_repl (by omega)
  have i := ix_last h0
  have f1 : fits (0 + 1) = true := by decide
  have f2 : fits (List.map T.int bs ++ (List.replicate M (T.int (la bs)) ++ [])).length = true := fits_of (by simp; omega)
  unfold m_signed_wider
  simp only [x_bind, x_ok, x_pure, x_no, x_nob, x_mkFn, x_endr, x_endn, x_sl0, x_sl1, x_sl2, x_seq, x_seqn, x_seqr, x_seqb, x_seqc, x_nil, x_ret, x_exp, x_if, x_set, x_tgt, x_par, x_for, x_var, x_varR, x_c, x_op, x_un, x_ld2, x_ldi, x_ldb, x_lds, x_ldn, x_ldl, x_ldf, x_ldt, x_ldy, x_and, x_andt, x_andf, x_or, x_ort, x_orf, x_not, x_bT, x_asB, x_band, x_bor, x_bnot, x_eif, x_ct, x_cf, x_echain, x_bchain, x_anil, x_acons, x_astar, x_itl, x_itf, x_itt, x_tup, x_lst, x_okL, x_tree, x_cell, x_newC, x_eB, x_lB, x_iB, x_iSeq, x_g1, x_g2, x_call, x_sl, x_onone, x_osome, x_asO, x_name, x_hnil, x_hcons, x_htup, x_hsub, x_comp, x_yes, x_w0, x_w1, x_add, x_sub, x_mod, x_fdiv, x_shr, x_bit, x_cmp, x_lt, x_neg, x_eqi, x_nei, x_ess, x_nss, x_lenl, x_lenf, x_lent, x_int, x_intb, x_max2, x_min2, x_tupl, x_r1, x_r2, x_revl, x_revt, x_ixt, x_ixl, x_ixf, x_ofO, x_slt, x_sll, x_isi, x_ist, List.getElem?_cons_zero, List.getElem?_cons_succ, List.set_cons_zero, List.set_cons_succ, List.length_cons, List.length_nil, Bool.not_true, Bool.not_false, beq_self_eq_true, a, b, c, i, f1, f2, cut_to, wide_eq]
theorem k_power {w : Nat} (hw : w ≤ 100) (μ : Store) : m__law_power [.int (w : Int)] μ = .ok (.int (2 ^ w)) μ := by
  have sm : sm62 (w : Int) = true := by unfold sm62; simp only [Bool.and_eq_true, decide_eq_true_eq]; omega
  have e : rangeT 0 w = ((List.range w).map fun i : Nat => (0 : Int) + (i : Int)).map T.int := by unfold rangeT; rw [List.map_map]; rfl
  obtain ⟨o', h, _⟩ := forL_ints (step := fun d ρ => (hName 2 d ρ).bind (sSet 1 (eOp (ld2 gMulA) (eVar 1) (eC (T.int 2))))) (fun a o => [some (.int (w : Int)), some (.int a), o]) (fun a _ => a * 2) (fun a r => 0 ≤ a ∧ a ≤ 2 ^ (100 - r.length) ∧ r.length ≤ 100) (μ := μ) (fun a o x r ⟨h1, h2, h3⟩ => by
    have e : 100 - r.length = (100 - (x :: r).length) + 1 := by simp only [List.length_cons] at *; omega
    have z : ((2 : Int) ^ (100 - (x :: r).length)).natAbs < 2 ^ 101 := pw_lt (by omega)
    refine ⟨?_, by omega, ?_, by simp only [List.length_cons] at h3; omega⟩
    · simp only [x_bind, x_ok, x_pure, x_no, x_nob, x_mkFn, x_endr, x_endn, x_sl0, x_sl1, x_sl2, x_seq, x_seqn, x_seqr, x_seqb, x_seqc, x_nil, x_ret, x_exp, x_if, x_set, x_tgt, x_par, x_for, x_var, x_varR, x_c, x_op, x_un, x_ld2, x_ldi, x_ldb, x_lds, x_ldn, x_ldl, x_ldf, x_ldt, x_ldy, x_and, x_andt, x_andf, x_or, x_ort, x_orf, x_not, x_bT, x_asB, x_band, x_bor, x_bnot, x_eif, x_ct, x_cf, x_echain, x_bchain, x_anil, x_acons, x_astar, x_itl, x_itf, x_itt, x_tup, x_lst, x_okL, x_tree, x_cell, x_newC, x_eB, x_lB, x_iB, x_iSeq, x_g1, x_g2, x_call, x_sl, x_onone, x_osome, x_asO, x_name, x_hnil, x_hcons, x_htup, x_hsub, x_comp, x_yes, x_w0, x_w1, x_add, x_sub, x_mod, x_fdiv, x_shr, x_bit, x_cmp, x_lt, x_neg, x_eqi, x_nei, x_ess, x_nss, x_lenl, x_lenf, x_lent, x_int, x_intb, x_max2, x_min2, x_tupl, x_r1, x_r2, x_revl, x_revt, x_ixt, x_ixl, x_ixf, x_ofO, x_slt, x_sll, x_isi, x_ist, List.getElem?_cons_zero, List.getElem?_cons_succ, List.set_cons_zero, List.set_cons_succ, List.length_cons, List.length_nil, Bool.not_true, Bool.not_false, x_mulh (i := a) (j := 2) (μ := μ) 101 3 (by omega) (by decide) (by decide)]
    · rw [e, Int.pow_succ]; omega) ((List.range w).map fun i : Nat => (0 : Int) + (i : Int)) 1 none ⟨by decide, by have := pw_pos (100 - ((List.range w).map fun i : Nat => (0 : Int) + (i : Int)).length); omega, by simpa using hw⟩
  have f : ((List.range w).map fun i : Nat => (0 : Int) + (i : Int)).foldl (fun (a : Int) _ => a * 2) 1 = (2 : Int) ^ w := by
    have g : ∀ (l : List Int) (a : Int), l.foldl (fun (a : Int) _ => a * 2) a = a * 2 ^ l.length := by
      intro l
      induction l with
      | nil => intro a; simp
      | cons x l ih => intro a; rw [List.foldl_cons, ih, List.length_cons, Int.pow_succ, Int.mul_assoc, Int.mul_comm 2]
    rw [g]
    simp
  rw [← e] at h
  rw [f] at h
  unfold m__law_power
  simp only [x_bind, x_ok, x_pure, x_no, x_nob, x_mkFn, x_endr, x_endn, x_sl0, x_sl1, x_sl2, x_seq, x_seqn, x_seqr, x_seqb, x_seqc, x_nil, x_ret, x_exp, x_if, x_set, x_tgt, x_par, x_for, x_var, x_varR, x_c, x_op, x_un, x_ld2, x_ldi, x_ldb, x_lds, x_ldn, x_ldl, x_ldf, x_ldt, x_ldy, x_and, x_andt, x_andf, x_or, x_ort, x_orf, x_not, x_bT, x_asB, x_band, x_bor, x_bnot, x_eif, x_ct, x_cf, x_echain, x_bchain, x_anil, x_acons, x_astar, x_itl, x_itf, x_itt, x_tup, x_lst, x_okL, x_tree, x_cell, x_newC, x_eB, x_lB, x_iB, x_iSeq, x_g1, x_g2, x_call, x_sl, x_onone, x_osome, x_asO, x_name, x_hnil, x_hcons, x_htup, x_hsub, x_comp, x_yes, x_w0, x_w1, x_add, x_sub, x_mod, x_fdiv, x_shr, x_bit, x_cmp, x_lt, x_neg, x_eqi, x_nei, x_ess, x_nss, x_lenl, x_lenf, x_lent, x_int, x_intb, x_max2, x_min2, x_tupl, x_r1, x_r2, x_revl, x_revt, x_ixt, x_ixl, x_ixf, x_ofO, x_slt, x_sll, x_isi, x_ist, List.getElem?_cons_zero, List.getElem?_cons_succ, List.set_cons_zero, List.set_cons_succ, List.length_cons, List.length_nil, Bool.not_true, Bool.not_false, sm, Int.toNat_natCast, h]
theorem k_lplain {bs : List Int} (h : isB bs) (h1 : bs.length ≤ 60) (μ : Store) : m__law_plain [bT' bs] μ = .ok (.int (pl bs)) μ := by
  have e : enumT (bs.map T.int) = bs.zipIdx.map fun p => T.tup [.int (p.2 : Int), .int p.1] := by
    unfold enumT
    rw [List.zipIdx_map, List.map_map]
    rfl
  have c : lcL (lcTurn (hTup 2 (hsCons (hName 1) (hsCons (hName 2) hsNil))) bYes (eOp (ld2 gMulA) (eVar 2) (eCall 1 m__law_power (aCons (eVar 1) aNil))) [some (bT' bs), none, none]) (enumT (bs.map T.int)) μ = .ok ((bs.zipIdx.map fun p => p.1 * 2 ^ p.2).map T.int) μ := by
    rw [e, List.map_map]
    refine lcL_map fun p hp => ?_
    obtain ⟨b, i⟩ := p
    have hm := List.mem_zipIdx hp
    have hb : b = 0 ∨ b = 1 := h b (by have := hm.2.2; rw [this]; exact List.getElem_mem _)
    have hi : i < bs.length := by omega
    have q := k_power (w := i) (by omega) μ
    have r : gMulA (.int b) (.int (2 ^ i)) μ = .ok (.int (b * 2 ^ i)) μ := x_mulh 2 101 (by omega) (pw_lt (by omega)) (by decide)
    simp only [x_bind, x_ok, x_pure, x_no, x_nob, x_mkFn, x_endr, x_endn, x_sl0, x_sl1, x_sl2, x_seq, x_seqn, x_seqr, x_seqb, x_seqc, x_nil, x_ret, x_exp, x_if, x_set, x_tgt, x_par, x_for, x_var, x_varR, x_c, x_op, x_un, x_ld2, x_ldi, x_ldb, x_lds, x_ldn, x_ldl, x_ldf, x_ldt, x_ldy, x_and, x_andt, x_andf, x_or, x_ort, x_orf, x_not, x_bT, x_asB, x_band, x_bor, x_bnot, x_eif, x_ct, x_cf, x_echain, x_bchain, x_anil, x_acons, x_astar, x_itl, x_itf, x_itt, x_tup, x_lst, x_okL, x_tree, x_cell, x_newC, x_eB, x_lB, x_iB, x_iSeq, x_g1, x_g2, x_call, x_sl, x_onone, x_osome, x_asO, x_name, x_hnil, x_hcons, x_htup, x_hsub, x_comp, x_yes, x_w0, x_w1, x_add, x_sub, x_mod, x_fdiv, x_shr, x_bit, x_cmp, x_lt, x_neg, x_eqi, x_nei, x_ess, x_nss, x_lenl, x_lenf, x_lent, x_int, x_intb, x_max2, x_min2, x_tupl, x_r1, x_r2, x_revl, x_revt, x_ixt, x_ixl, x_ixf, x_ofO, x_slt, x_sll, x_isi, x_ist, List.getElem?_cons_zero, List.getElem?_cons_succ, List.set_cons_zero, List.set_cons_succ, List.length_cons, List.length_nil, Bool.not_true, Bool.not_false, x_turn, beq_self_eq_true, q, r]
    rfl
  have g : ∀ (bs : List Int) (k : Nat), ((bs.zipIdx k).map fun p => p.1 * 2 ^ p.2).sum = 2 ^ k * pl bs := by
    intro bs
    induction bs with
    | nil => intro k; simp [pl]
    | cons b r ih =>
      intro k
      rw [List.zipIdx_cons, List.map_cons, List.sum_cons, ih]
      show b * 2 ^ k + 2 ^ (k + 1) * pl r = 2 ^ k * (b + 2 * pl r)
      rw [Int.pow_succ, Int.mul_add, Int.mul_comm b, Int.mul_assoc]
  have f : fits ((bs.zipIdx.map fun p => p.1 * 2 ^ p.2).map T.int).length = true := fits_of (by simp; omega)
  have n : gEnum [bT' bs] μ = .ok (enumT (bs.map T.int)) μ := rfl
  unfold m__law_plain
  simp only [x_bind, x_ok, x_pure, x_no, x_nob, x_mkFn, x_endr, x_endn, x_sl0, x_sl1, x_sl2, x_seq, x_seqn, x_seqr, x_seqb, x_seqc, x_nil, x_ret, x_exp, x_if, x_set, x_tgt, x_par, x_for, x_var, x_varR, x_c, x_op, x_un, x_ld2, x_ldi, x_ldb, x_lds, x_ldn, x_ldl, x_ldf, x_ldt, x_ldy, x_and, x_andt, x_andf, x_or, x_ort, x_orf, x_not, x_bT, x_asB, x_band, x_bor, x_bnot, x_eif, x_ct, x_cf, x_echain, x_bchain, x_anil, x_acons, x_astar, x_itl, x_itf, x_itt, x_tup, x_lst, x_okL, x_tree, x_cell, x_newC, x_eB, x_lB, x_iB, x_iSeq, x_g1, x_g2, x_call, x_sl, x_onone, x_osome, x_asO, x_name, x_hnil, x_hcons, x_htup, x_hsub, x_comp, x_yes, x_w0, x_w1, x_add, x_sub, x_mod, x_fdiv, x_shr, x_bit, x_cmp, x_lt, x_neg, x_eqi, x_nei, x_ess, x_nss, x_lenl, x_lenf, x_lent, x_int, x_intb, x_max2, x_min2, x_tupl, x_r1, x_r2, x_revl, x_revt, x_ixt, x_ixl, x_ixf, x_ofO, x_slt, x_sll, x_isi, x_ist, List.getElem?_cons_zero, List.getElem?_cons_succ, List.set_cons_zero, List.set_cons_succ, List.length_cons, List.length_nil, Bool.not_true, Bool.not_false, n, c, f, x_sum, g, Int.pow_zero, Int.one_mul]
end TL

namespace TL
open PySem PySem.Spec PyProof.Rows L2 StX
theorem Bag.le {b n m : Nat} {μ : Store} (h : Bag b n μ) (hm : n ≤ m) : Bag b m μ := by
  obtain ⟨x, y, z, h1, h2, h3, h4, h5, h6⟩ := h
  exact ⟨x, y, z, h1, h2, h3, h4, h5, by omega⟩
theorem bit_small {bs : List Int} {k : Nat} (h : isB bs) (hk : 1 ≤ k) : ∀ x ∈ bs, x.natAbs < 2 ^ k := fun x hx => by
  have z : 2 ^ 1 ≤ 2 ^ k := Nat.pow_le_pow_right (by decide) hk
  rcases h x hx with rfl | rfl
  · exact Nat.lt_of_lt_of_le (by decide) z
  · exact Nat.lt_of_lt_of_le (by decide) z
theorem rdy_bits {bs : List Int} (h : isB bs) : rdy (bT' bs) = true := rdys_ints bs (bit_small h (by decide))
theorem dep_bits (bs : List Int) : dep (bT' bs) = 1 := by show deps _ + 1 = 1; rw [deps_ints]
theorem shw_bits {bs : List Int} (h : isB bs) (h1 : bs.length ≤ 60) : shw (bT' bs) ≤ 1000 := by
  show shws (bs.map T.int) + 3 ≤ 1000
  have e := shws_ints 1 bs (bit_small h (by decide))
  have : bs.length * (1 + 4) ≤ 60 * 5 := Nat.mul_le_mul h1 (by decide)
  omega
theorem rdy_int {a : Int} (h : a.natAbs < 2 ^ 100) : rdy (.int a) = true := by
  show decide (a.natAbs < 2 ^ 1000) = true
  exact decide_eq_true (Nat.lt_trans h (Nat.pow_lt_pow_right (by decide) (by decide)))
theorem shw_int {a : Int} (h : a.natAbs < 2 ^ 100) : shw (.int a) ≤ 102 := by
  show a.natAbs.log2 + 2 ≤ 102
  have := log2_le h
  omega
theorem ok4 {a c : Int} {bs : List Int} (ha : a.natAbs < 2 ^ 100) (hc : c.natAbs < 2 ^ 100) (h : isB bs) (h1 : bs.length ≤ 60) : reprOk (.lst [.int a, .int c, bT' bs, bT' bs]) = true := by
  have s1 := shw_int ha
  have s2 := shw_int hc
  have s3 := shw_bits h h1
  refine reprOk_of ?_ ?_ ?_
  · simp only [rdy.eq_5, rdys, rdy_int ha, rdy_int hc, rdy_bits h, Bool.and_self]
  · show max 0 (max 0 (max (dep (bT' bs)) (max (dep (bT' bs)) 0))) + 1 ≤ 64
    rw [dep_bits]
    decide
  · show (shw (.int a) + 2 + (shw (.int c) + 2 + (shw (bT' bs) + 2 + (shw (bT' bs) + 2 + 0)))) + 3 ≤ 16777216
    omega
theorem ok2 {a c : Int} (ha : a.natAbs < 2 ^ 100) (hc : c.natAbs < 2 ^ 100) : reprOk (.lst [.int a, .int c]) = true ∧ shp (.lst [.int a, .int c]) = true := by
  have s1 := shw_int ha
  have s2 := shw_int hc
  have r : rdy (.lst [.int a, .int c]) = true := by simp only [rdy.eq_5, rdys, rdy_int ha, rdy_int hc, Bool.and_self]
  refine ⟨reprOk_of r (by show 0 + 1 ≤ 64; decide) ?_, shp_of r (by show 0 + 1 ≤ 64; decide)⟩
  show (shw (.int a) + 2 + (shw (.int c) + 2 + 0)) + 3 ≤ 16777216
  omega
theorem okb {xs ys : List Int} (h : isB xs) (h1 : xs.length ≤ 60) (g : isB ys) (g1 : ys.length ≤ 60) : reprOk (.lst [bT' xs, bT' ys]) = true := by
  have s1 := shw_bits h h1
  have s2 := shw_bits g g1
  refine reprOk_of ?_ ?_ ?_
  · simp only [rdy.eq_5, rdys, rdy_bits h, rdy_bits g, Bool.and_self]
  · show max (dep (bT' xs)) (max (dep (bT' ys)) 0) + 1 ≤ 64
    rw [dep_bits, dep_bits]
    decide
  · show (shw (bT' xs) + 2 + (shw (bT' ys) + 2 + 0)) + 3 ≤ 16777216
    omega
theorem ext_map (bs : List Int) (M k : Nat) (c : Int) (hk : k = M - bs.length) : (bs.map T.int).take M ++ List.replicate k (T.int c) = (ext bs M c).map T.int := by
  subst hk
  unfold ext
  rw [List.map_append, List.map_take, List.map_replicate]
theorem sg_range {bs : List Int} (h : isB bs) (h0 : 1 ≤ bs.length) : -(2 ^ bs.length) ≤ sg bs ∧ sg bs < 2 ^ bs.length := by
  have a := pl_range h
  unfold sg
  rcases la_isB h h0 with e | e <;> rw [e] <;> omega
theorem k_right {b n : Nat} {μ : Store} (hJ : Bag b n μ) (hn : n + 100 < 2 ^ 59) : ∃ μ', m__law_right [.cell b] μ = .ok (.bl true) μ' ∧ Bag b (n + 70) μ' := by
  obtain ⟨v1, μ1, d1, l1, u1, J1⟩ := k_draw (t := 60) hJ (by omega) (by decide) (by decide)
  obtain ⟨v2, μ2, d2, l2, u2, J2⟩ := k_draw (t := 60) J1 (by omega) (by decide) (by decide)
  obtain ⟨w, rfl⟩ : ∃ w : Nat, v1 = (w : Int) := ⟨v1.toNat, by omega⟩
  obtain ⟨m, rfl⟩ : ∃ m : Nat, v2 = (m : Int) := ⟨v2.toNat, by omega⟩
  have hW : (1 : Int) + (w : Int) = ((w + 1 : Nat) : Int) := by omega
  have hM : (1 : Int) + (m : Int) = ((m + 1 : Nat) : Int) := by omega
  obtain ⟨ys, μ3, c1, J3, ylen, yq⟩ := lcL_st (step := lcTurn (hName 4) bYes (eCall 2 m__law_draw (aCons (eVar 0) (aCons (eC (.int 2)) aNil))) [some (.cell b), some (.int ((w + 1 : Nat) : Int)), some (.int ((m + 1 : Nat) : Int)), none, none, none, none, none, none, none, none, none, none, none])
    (J := Bag b) (N := 2 ^ 59) (Q := fun y => ∃ c, y = .int c ∧ (c = 0 ∨ c = 1)) (xs := rangeT 0 (w + 1)) (fun x _ n' μ' hj hn' => by
      obtain ⟨v, μ'', e, p, q, j⟩ := k_draw (t := 2) hj (by omega) (by decide) (by decide)
      exact ⟨.int v, μ'', by simp only [x_bind, x_ok, x_pure, x_no, x_nob, x_mkFn, x_endr, x_endn, x_sl0, x_sl1, x_sl2, x_seq, x_seqn, x_seqr, x_seqb, x_seqc, x_nil, x_ret, x_exp, x_if, x_set, x_tgt, x_par, x_for, x_var, x_varR, x_c, x_op, x_un, x_ld2, x_ldi, x_ldb, x_lds, x_ldn, x_ldl, x_ldf, x_ldt, x_ldy, x_and, x_andt, x_andf, x_or, x_ort, x_orf, x_not, x_bT, x_asB, x_band, x_bor, x_bnot, x_eif, x_ct, x_cf, x_echain, x_bchain, x_anil, x_acons, x_astar, x_itl, x_itf, x_itt, x_tup, x_lst, x_okL, x_tree, x_cell, x_newC, x_eB, x_lB, x_iB, x_iSeq, x_g1, x_g2, x_call, x_sl, x_onone, x_osome, x_asO, x_name, x_hnil, x_hcons, x_htup, x_hsub, x_comp, x_yes, x_w0, x_w1, x_add, x_sub, x_mod, x_fdiv, x_shr, x_bit, x_cmp, x_lt, x_neg, x_eqi, x_nei, x_ess, x_nss, x_lenl, x_lenf, x_lent, x_int, x_intb, x_max2, x_min2, x_tupl, x_r1, x_r2, x_revl, x_revt, x_ixt, x_ixl, x_ixf, x_ofO, x_slt, x_sll, x_isi, x_ist, List.getElem?_cons_zero, List.getElem?_cons_succ, List.set_cons_zero, List.set_cons_succ, List.length_cons, List.length_nil, Bool.not_true, Bool.not_false, x_turn, beq_self_eq_true, e], j, v, rfl, by omega⟩) (n + 1 + 1) μ2 J2 (by simp [rangeT]; omega)
  obtain ⟨bs, rfl, hb⟩ := ints_of yq
  have hl : bs.length = w + 1 := by simpa [rangeT] using ylen
  have hb : isB bs := hb
  have h0 : 1 ≤ bs.length := by omega
  have h1 : bs.length ≤ 60 := by omega
  have J3 : Bag b (n + 65) μ3 := J3.le (by simp [rangeT]; omega)
  obtain ⟨v3, μ4, d3, l3, u3, J4⟩ := k_draw (t := 2 ^ 62) J3 (by omega) (by decide) (by decide)
  have sm : sm62 (((w + 1 : Nat)) : Int) = true := by unfold sm62; simp only [Bool.and_eq_true, decide_eq_true_eq]; omega
  have fy : fits (bs.map T.int).length = true := fits_of (by rw [List.length_map]; omega)
  have f1 := k_lplain hb h1 μ3
  have f2 := k_power (w := w + 1) (by omega) μ3
  have zl := la_isB hb h0
  have f3 : gMulA (.int (la bs)) (.int (2 ^ (w + 1))) μ3 = .ok (.int (la bs * 2 ^ (w + 1))) μ3 := x_mulh 2 101 (by omega) (pw_lt (by omega)) (by decide)
  have hsg : pl bs - la bs * 2 ^ (w + 1) = sg bs := by unfold sg; rw [hl]
  have ix := ix_last h0
  have rp := pl_range hb
  have rs := sg_range hb h0
  rw [hl] at rp rs
  have z60 : (2 : Int) ^ (w + 1) ≤ 2 ^ 60 := by rw [pw_nat, pw_nat]; exact Int.ofNat_le.mpr (Nat.pow_le_pow_right (by decide) (by omega))
  have f4 := k_plain_value hb h0 h1 μ3
  have f5 := k_signed_value hb h0 h1 μ3
  have b1 : bb (pl bs) (w + 1) = bs := by
    have e := bb_pl 0 hb
    rw [Int.mul_zero, Int.add_zero, hl] at e
    exact e
  have b2 : bb (sg bs) (w + 1) = bs := by
    have e := bb_pl (-(la bs)) hb
    rw [hl] at e
    rw [← hsg]
    have : pl bs + 2 ^ (w + 1) * -la bs = pl bs - la bs * 2 ^ (w + 1) := by rw [Int.mul_neg, Int.mul_comm]; omega
    rw [← this]
    exact e
  have f6 := k_plain_bits (n := pl bs) (w := w + 1) rp.1 rp.2 (by omega) (by omega) μ3
  have f7 := k_signed_bits (n := sg bs) (w := w + 1) (by omega) (by omega) (by omega) (by omega) (by rw [b2]) μ3
  rw [b1] at f6
  rw [b2] at f7
  have o4 := x_repr (μ := μ3) (ok4 (a := pl bs) (c := sg bs) (by omega) (by omega) hb h1)
  have tl1 : lcL (lcTurn (hName 8) bYes (eOp (ld2 gSub) (eC (.int 1)) (eVar 8)) [some (.cell b), some (.int ((w + 1 : Nat) : Int)), some (.int ((m + 1 : Nat) : Int)), some (bT' bs), none, some (.int (pl bs)), some (.int (sg bs)), none, none, none, none, none, none, none]) (bs.map T.int) μ3 = .ok (bs.map fun c => T.int (1 - c)) μ3 :=
    lcL_map fun x _ => by simp only [x_bind, x_ok, x_pure, x_no, x_nob, x_mkFn, x_endr, x_endn, x_sl0, x_sl1, x_sl2, x_seq, x_seqn, x_seqr, x_seqb, x_seqc, x_nil, x_ret, x_exp, x_if, x_set, x_tgt, x_par, x_for, x_var, x_varR, x_c, x_op, x_un, x_ld2, x_ldi, x_ldb, x_lds, x_ldn, x_ldl, x_ldf, x_ldt, x_ldy, x_and, x_andt, x_andf, x_or, x_ort, x_orf, x_not, x_bT, x_asB, x_band, x_bor, x_bnot, x_eif, x_ct, x_cf, x_echain, x_bchain, x_anil, x_acons, x_astar, x_itl, x_itf, x_itt, x_tup, x_lst, x_okL, x_tree, x_cell, x_newC, x_eB, x_lB, x_iB, x_iSeq, x_g1, x_g2, x_call, x_sl, x_onone, x_osome, x_asO, x_name, x_hnil, x_hcons, x_htup, x_hsub, x_comp, x_yes, x_w0, x_w1, x_add, x_sub, x_mod, x_fdiv, x_shr, x_bit, x_cmp, x_lt, x_neg, x_eqi, x_nei, x_ess, x_nss, x_lenl, x_lenf, x_lent, x_int, x_intb, x_max2, x_min2, x_tupl, x_r1, x_r2, x_revl, x_revt, x_ixt, x_ixl, x_ixf, x_ofO, x_slt, x_sll, x_isi, x_ist, List.getElem?_cons_zero, List.getElem?_cons_succ, List.set_cons_zero, List.set_cons_succ, List.length_cons, List.length_nil, Bool.not_true, Bool.not_false, x_turn]
  have tm : (bs.map fun c => T.int (1 - c)) = (bs.map fun c => 1 - c).map T.int := by rw [List.map_map]; rfl
  rw [tm] at tl1
  have hbt : isB (bs.map fun c => 1 - c) := fun c hc => by
    obtain ⟨x, hx, rfl⟩ := List.mem_map.mp hc
    rcases hb x hx with rfl | rfl <;> decide
  have ft : fits ((bs.map fun c => 1 - c).map T.int).length = true := fits_of (by simp; omega)
  have f8 := k_plain_value hbt (by simpa using h0) (by simpa using h1) μ3
  have f9 := k_signed_value hbt (by simpa using h0) (by simpa using h1) μ3
  rw [pl_turn, hl] at f8
  rw [sg_turn h0] at f9
  have hS : (if ((m + 1 : Nat) : Int) < ((w + 1 : Nat) : Int) then ((m + 1 : Nat) : Int) else ((w + 1 : Nat) : Int)) = ((min (w + 1) (m + 1) : Nat) : Int) := by split <;> omega
  have hD : ((m + 1 : Nat) : Int) - ((min (w + 1) (m + 1) : Nat) : Int) = ((m + 1 - (w + 1) : Nat) : Int) := by omega
  have g1 : gMulA (.tup [.int 0]) (.int ((m + 1 - (w + 1) : Nat) : Int)) μ3 = _ := x_rept (by omega)
  have g2 : gMulA (.tup [.int (la bs)]) (.int ((m + 1 - (w + 1) : Nat) : Int)) μ3 = _ := x_rept (by omega)
  have g3 : ∀ c, gAdd (.tup ((bs.map T.int).take (m + 1))) (.tup (List.replicate (m + 1 - (w + 1)) (T.int c))) μ3 = .ok (bT' (ext bs (m + 1) c)) μ3 := fun c => by
    rw [x_addt (by simp; omega), ext_map bs (m + 1) _ c (by rw [hl])]
  have e0 : isB (ext bs (m + 1) 0) := ext_isB hb (.inl rfl)
  have e1 : isB (ext bs (m + 1) (la bs)) := ext_isB hb zl
  have n0 := ext_len bs (m + 1) 0
  have n1 := ext_len bs (m + 1) (la bs)
  have f10 := k_wider (M := m + 1) hb h0 h1 (by omega) (by omega) μ3
  have f11 := k_signed_wider (M := m + 1) hb h0 h1 (by omega) (by omega) μ3
  have o5 := x_repr (μ := μ3) (okb e0 (by omega) e1 (by omega))
  have i0 : ∀ A B : T, atI [A, B] 0 = some A := fun _ _ => rfl
  have i1 : ∀ A B : T, atI [A, B] 1 = some B := fun _ _ => rfl
  have f12 := k_plain_value e0 (by omega) (by omega) μ3
  rw [pl_ext0 hb] at f12
  have f13 := k_power (w := m + 1) (by omega) μ3
  have f14 := k_signed_value e1 (by omega) (by omega) μ3
  have p62 : m__law_power [.int 62] μ3 = .ok (.int (2 ^ 62)) μ3 := k_power (w := 62) (by omega) μ3
  have p61 : m__law_power [.int 61] μ4 = .ok (.int (2 ^ 61)) μ4 := k_power (w := 61) (by omega) μ4
  have f15 := k_power (w := w + 1) (by omega) μ4
  have hw1 : ((w + 1 : Nat) : Int) - 1 = (w : Int) := by omega
  have f16 := k_power (w := w) (by omega) μ4
  generalize hnn : v3 - 2 ^ 61 = nn
  have bn : -(2 ^ 61) ≤ nn ∧ nn < 2 ^ 62 := by omega
  have lo : 0 ≤ nn % 2 ^ (w + 1) ∧ nn % 2 ^ (w + 1) < 2 ^ (w + 1) := ⟨Int.emod_nonneg _ (by have := pw_pos (w + 1); omega), Int.emod_lt_of_pos _ (pw_pos _)⟩
  have f17 := k_wrapped (n := nn) (w := w + 1) (by omega) (by omega) (by omega) (by omega) μ4
  have f18 := k_signed_wrapped (n := nn) (w := w + 1) (by omega) (by omega) (by omega) (by omega) μ4
  have f19 := k_plain_bits (n := nn % 2 ^ (w + 1)) (w := w + 1) lo.1 lo.2 (by omega) (by omega) μ4
  have b3 : bb (nn % 2 ^ (w + 1)) (w + 1) = bb nn (w + 1) := by
    have e := bb_mod nn 0 (w + 1)
    rw [Int.mul_zero, Int.add_zero] at e
    exact e
  rw [b3] at f19
  have b4 : bb (sg (bb nn (w + 1))) (w + 1) = bb nn (w + 1) := by
    unfold sg
    rw [pl_bb, bb_len]
    have e := bb_mod nn (-(la (bb nn (w + 1)))) (w + 1)
    have : nn % 2 ^ (w + 1) + 2 ^ (w + 1) * -la (bb nn (w + 1)) = nn % 2 ^ (w + 1) - la (bb nn (w + 1)) * 2 ^ (w + 1) := by rw [Int.mul_neg, Int.mul_comm]; omega
    rw [← this]
    exact e
  have rsn := sg_range (bb_isB (w + 1) nn) (by rw [bb_len]; omega)
  rw [bb_len] at rsn
  have f20 := k_signed_bits (n := sg (bb nn (w + 1))) (w := w + 1) (by omega) (by omega) (by omega) (by omega) (by rw [b4]) μ4
  rw [b4] at f20
  have o6 := x_repr (μ := μ4) (ok2 (a := nn % 2 ^ (w + 1)) (c := sg (bb nn (w + 1))) (by omega) (by omega)).1
  have o7 := x_eqs (μ := μ4) (shp_of (rdy_bits (bb_isB (w + 1) nn)) (by rw [dep_bits]; decide))
  have q1 : fits (0 + 1) = true := by decide
  have q2 : fits (0 + 1 + 1) = true := by decide
  have q4 : fits (0 + 1 + 1 + 1 + 1) = true := by decide
  have q5 : decide ((0 : Int) < 2 ^ (m + 1)) = true := decide_eq_true (pw_pos _)
  have q6 : decide ((0 : Int) < 2 ^ (w + 1)) = true := decide_eq_true (pw_pos _)
  have hh : eIf (bT (eOp (ld2 (gCmp fun i j => decide (j ≤ i))) (eVar 12) (eCall 1 m__law_power (aCons (eOp (ld2 gSub) (eVar 1) (eC (.int 1))) aNil)))) (eOp (ld2 gSub) (eVar 12) (eCall 1 m__law_power (aCons (eVar 1) aNil))) (eVar 12)
      [some (.cell b), some (.int ((w + 1 : Nat) : Int)), some (.int ((m + 1 : Nat) : Int)), some (bT' bs), none, some (.int (pl bs)), some (.int (sg bs)), some (bT' (bs.map fun c => 1 - c)), none, some (.int ((min (w + 1) (m + 1) : Nat) : Int)), some (.lst [bT' (ext bs (m + 1) 0), bT' (ext bs (m + 1) (la bs))]), some (.int nn), some (.int (nn % 2 ^ (w + 1))), none] μ4 = .ok (.int (sg (bb nn (w + 1)))) μ4 := by
    rw [sg_bb]
    by_cases hc : (2 : Int) ^ w ≤ nn % 2 ^ (w + 1)
    · simp only [x_bind, x_ok, x_pure, x_no, x_nob, x_mkFn, x_endr, x_endn, x_sl0, x_sl1, x_sl2, x_seq, x_seqn, x_seqr, x_seqb, x_seqc, x_nil, x_ret, x_exp, x_if, x_set, x_tgt, x_par, x_for, x_var, x_varR, x_c, x_op, x_un, x_ld2, x_ldi, x_ldb, x_lds, x_ldn, x_ldl, x_ldf, x_ldt, x_ldy, x_and, x_andt, x_andf, x_or, x_ort, x_orf, x_not, x_bT, x_asB, x_band, x_bor, x_bnot, x_eif, x_ct, x_cf, x_echain, x_bchain, x_anil, x_acons, x_astar, x_itl, x_itf, x_itt, x_tup, x_lst, x_okL, x_tree, x_cell, x_newC, x_eB, x_lB, x_iB, x_iSeq, x_g1, x_g2, x_call, x_sl, x_onone, x_osome, x_asO, x_name, x_hnil, x_hcons, x_htup, x_hsub, x_comp, x_yes, x_w0, x_w1, x_add, x_sub, x_mod, x_fdiv, x_shr, x_bit, x_cmp, x_lt, x_neg, x_eqi, x_nei, x_ess, x_nss, x_lenl, x_lenf, x_lent, x_int, x_intb, x_max2, x_min2, x_tupl, x_r1, x_r2, x_revl, x_revt, x_ixt, x_ixl, x_ixf, x_ofO, x_slt, x_sll, x_isi, x_ist, List.getElem?_cons_zero, List.getElem?_cons_succ, List.set_cons_zero, List.set_cons_succ, List.length_cons, List.length_nil, Bool.not_true, Bool.not_false, beq_self_eq_true, hw1, f16, f15, decide_eq_true hc, if_pos hc]
    · simp only [x_bind, x_ok, x_pure, x_no, x_nob, x_mkFn, x_endr, x_endn, x_sl0, x_sl1, x_sl2, x_seq, x_seqn, x_seqr, x_seqb, x_seqc, x_nil, x_ret, x_exp, x_if, x_set, x_tgt, x_par, x_for, x_var, x_varR, x_c, x_op, x_un, x_ld2, x_ldi, x_ldb, x_lds, x_ldn, x_ldl, x_ldf, x_ldt, x_ldy, x_and, x_andt, x_andf, x_or, x_ort, x_orf, x_not, x_bT, x_asB, x_band, x_bor, x_bnot, x_eif, x_ct, x_cf, x_echain, x_bchain, x_anil, x_acons, x_astar, x_itl, x_itf, x_itt, x_tup, x_lst, x_okL, x_tree, x_cell, x_newC, x_eB, x_lB, x_iB, x_iSeq, x_g1, x_g2, x_call, x_sl, x_onone, x_osome, x_asO, x_name, x_hnil, x_hcons, x_htup, x_hsub, x_comp, x_yes, x_w0, x_w1, x_add, x_sub, x_mod, x_fdiv, x_shr, x_bit, x_cmp, x_lt, x_neg, x_eqi, x_nei, x_ess, x_nss, x_lenl, x_lenf, x_lent, x_int, x_intb, x_max2, x_min2, x_tupl, x_r1, x_r2, x_revl, x_revt, x_ixt, x_ixl, x_ixf, x_ofO, x_slt, x_sll, x_isi, x_ist, List.getElem?_cons_zero, List.getElem?_cons_succ, List.set_cons_zero, List.set_cons_succ, List.length_cons, List.length_nil, Bool.not_true, Bool.not_false, beq_self_eq_true, hw1, f16, decide_eq_false hc, if_neg hc]
  generalize hF : eIf (bT (eOp (ld2 (gCmp fun i j => decide (j ≤ i))) (eVar 12) (eCall 1 m__law_power (aCons (eOp (ld2 gSub) (eVar 1) (eC (.int 1))) aNil)))) (eOp (ld2 gSub) (eVar 12) (eCall 1 m__law_power (aCons (eVar 1) aNil))) (eVar 12) = Fh at hh
  refine ⟨μ4, ?_, J4.le (by omega)⟩
  unfold m__law_right
  rw [hF]
  by_cases hg : ((w + 1 : Nat) : Int) ≤ ((m + 1 : Nat) : Int)
  · have hg' : bs.length ≤ m + 1 := by omega
    have e5 : pl bs % 2 ^ (m + 1) = pl bs := by rw [← pl_ext0 hb, pl_ext_ge hg']
    have e6 := sg_ext_ge h0 hg'
    rw [e5] at f12
    rw [e6] at f14
    have o8 := x_nes (μ := μ3) (ok2 (a := pl bs) (c := sg bs) (by omega) (by omega)).2
    simp only [x_bind, x_ok, x_pure, x_no, x_nob, x_mkFn, x_endr, x_endn, x_sl0, x_sl1, x_sl2, x_seq, x_seqn, x_seqr, x_seqb, x_seqc, x_nil, x_ret, x_exp, x_if, x_set, x_tgt, x_par, x_for, x_var, x_varR, x_c, x_op, x_un, x_ld2, x_ldi, x_ldb, x_lds, x_ldn, x_ldl, x_ldf, x_ldt, x_ldy, x_and, x_andt, x_andf, x_or, x_ort, x_orf, x_not, x_bT, x_asB, x_band, x_bor, x_bnot, x_eif, x_ct, x_cf, x_echain, x_bchain, x_anil, x_acons, x_astar, x_itl, x_itf, x_itt, x_tup, x_lst, x_okL, x_tree, x_cell, x_newC, x_eB, x_lB, x_iB, x_iSeq, x_g1, x_g2, x_call, x_sl, x_onone, x_osome, x_asO, x_name, x_hnil, x_hcons, x_htup, x_hsub, x_comp, x_yes, x_w0, x_w1, x_add, x_sub, x_mod, x_fdiv, x_shr, x_bit, x_cmp, x_lt, x_neg, x_eqi, x_nei, x_ess, x_nss, x_lenl, x_lenf, x_lent, x_int, x_intb, x_max2, x_min2, x_tupl, x_r1, x_r2, x_revl, x_revt, x_ixt, x_ixl, x_ixf, x_ofO, x_slt, x_sll, x_isi, x_ist, List.getElem?_cons_zero, List.getElem?_cons_succ, List.set_cons_zero, List.set_cons_succ, List.length_cons, List.length_nil, Bool.not_true, Bool.not_false, beq_self_eq_true, d1, d2, hW, hM, sm, Int.toNat_natCast, c1, fy, f1, f2, f3, ix, hsg, f4, f5, f6, f7, o4, decide_true, tl1, ft, f8, f9, hS, hD, g1, g2, g3, cut_to, f10, f11, o5, i0, i1, f12, f13, f14, q1, q2, q4, q5, q6, e5, o8, decide_eq_true hg, p62, d3, p61, hnn, f15, hh, f17, f18, o6, f19, f20, o7]
  · simp only [x_bind, x_ok, x_pure, x_no, x_nob, x_mkFn, x_endr, x_endn, x_sl0, x_sl1, x_sl2, x_seq, x_seqn, x_seqr, x_seqb, x_seqc, x_nil, x_ret, x_exp, x_if, x_set, x_tgt, x_par, x_for, x_var, x_varR, x_c, x_op, x_un, x_ld2, x_ldi, x_ldb, x_lds, x_ldn, x_ldl, x_ldf, x_ldt, x_ldy, x_and, x_andt, x_andf, x_or, x_ort, x_orf, x_not, x_bT, x_asB, x_band, x_bor, x_bnot, x_eif, x_ct, x_cf, x_echain, x_bchain, x_anil, x_acons, x_astar, x_itl, x_itf, x_itt, x_tup, x_lst, x_okL, x_tree, x_cell, x_newC, x_eB, x_lB, x_iB, x_iSeq, x_g1, x_g2, x_call, x_sl, x_onone, x_osome, x_asO, x_name, x_hnil, x_hcons, x_htup, x_hsub, x_comp, x_yes, x_w0, x_w1, x_add, x_sub, x_mod, x_fdiv, x_shr, x_bit, x_cmp, x_lt, x_neg, x_eqi, x_nei, x_ess, x_nss, x_lenl, x_lenf, x_lent, x_int, x_intb, x_max2, x_min2, x_tupl, x_r1, x_r2, x_revl, x_revt, x_ixt, x_ixl, x_ixf, x_ofO, x_slt, x_sll, x_isi, x_ist, List.getElem?_cons_zero, List.getElem?_cons_succ, List.set_cons_zero, List.set_cons_succ, List.length_cons, List.length_nil, Bool.not_true, Bool.not_false, beq_self_eq_true, d1, d2, hW, hM, sm, Int.toNat_natCast, c1, fy, f1, f2, f3, ix, hsg, f4, f5, f6, f7, o4, decide_true, tl1, ft, f8, f9, hS, hD, g1, g2, g3, cut_to, f10, f11, o5, i0, i1, f12, f13, f14, q1, q2, q4, q5, q6, decide_eq_false hg, p62, d3, p61, hnn, f15, hh, f17, f18, o6, f19, f20, o7]
end TL

namespace TL
open PySem PySem.Spec PyProof.Rows L2 StX
def body1 : Env → M Fl := (sSeq (sSet 2 (eTree (lComp [3] (iB gRange1 (aCons (eCall 1 m__law_power (aCons (eVar 1) aNil)) aNil)) (hName 3) bYes (eCall 2 m_plain_bits (aCons (eVar 3) (aCons (eVar 1) aNil))))))
    (sSeq (sSet 4 (eTree (lComp [3] (iB gRange1 (aCons (eCall 1 m__law_power (aCons (eVar 1) aNil)) aNil)) (hName 3) bYes (eCall 2 m_signed_bits (aCons (eOp (ld2 gSub) (eVar 3) (eCall 1 m__law_power (aCons (eOp (ld2 gSub) (eVar 1) (eC (.int 1))) aNil))) (aCons (eVar 1) aNil))))))
    (sIf (bOr (bT (eOp (ld2 gNe) (eTree (lB gSorted (aCons (eVar 2) aNil))) (eCall 1 m__law_rows (aCons (eVar 1) aNil)))) (bT (eOp (ld2 gNe) (eTree (lB gSorted (aCons (eVar 4) aNil))) (eCall 1 m__law_rows (aCons (eVar 1) aNil))))) (sRet (eC (.bl false))) sNil)))
def sA1 : List T := [.tup [.int 0], .tup [.int 1]]
def sB1 : List T := [.tup [.int 1], .tup [.int 0]]
def sR1 : List T := [.tup [.int 0], .tup [.int 1]]
theorem t_p1 (μ : Store) : m__law_power [.int 1] μ = .ok (.int 2) μ := by kernel_rfl
theorem t_A1 (s : T) (o2 o4 : Option T) (μ : Store) : lcL (lcTurn (hName 3) bYes (eCall 2 m_plain_bits (aCons (eVar 3) (aCons (eVar 1) aNil))) [some s, some (.int 1), o2, none, o4, none, none, none, none]) (rangeT 0 2) μ = .ok sA1 μ := by kernel_rfl
theorem t_B1 (s : T) (o4 : Option T) (μ : Store) : lcL (lcTurn (hName 3) bYes (eCall 2 m_signed_bits (aCons (eOp (ld2 gSub) (eVar 3) (eCall 1 m__law_power (aCons (eOp (ld2 gSub) (eVar 1) (eC (.int 1))) aNil))) (aCons (eVar 1) aNil))) [some s, some (.int 1), some (.lst sA1), none, o4, none, none, none, none]) (rangeT 0 2) μ = .ok sB1 μ := by kernel_rfl
theorem t_R1 (μ : Store) : m__law_rows [.int 1] μ = .ok (.lst sR1) μ := by kernel_rfl
theorem t_sA1 (μ : Store) : gSorted [.lst sA1] μ = .ok sR1 μ := by
  rw [x_sort]
  kernel_rfl
theorem t_sB1 (μ : Store) : gSorted [.lst sB1] μ = .ok sR1 μ := by
  rw [x_sort]
  kernel_rfl
theorem t_n1 (μ : Store) : gNe (.lst sR1) (.lst sR1) μ = .ok (.bl false) μ := x_nes (by kernel_rfl)
theorem step1_1 (s : T) (o1 o2 o4 : Option T) (μ : Store) : (M.bind (hName 1 (.int 1) [some s, o1, o2, none, o4, none, none, none, none]) body1) μ = .ok (.nx [some s, some (.int 1), some (.lst sA1), none, some (.lst sB1), none, none, none, none]) μ := by
  have f1 : sm62 2 = true := by decide
  have f2 : fits sA1.length = true := by decide
  have f3 : fits sB1.length = true := by decide
  have f4 : (2 : Int).toNat = 2 := rfl
  unfold body1
  simp only [x_bind, x_ok, x_pure, x_no, x_nob, x_mkFn, x_endr, x_endn, x_sl0, x_sl1, x_sl2, x_seq, x_seqn, x_seqr, x_seqb, x_seqc, x_nil, x_ret, x_exp, x_if, x_set, x_tgt, x_par, x_for, x_var, x_varR, x_c, x_op, x_un, x_ld2, x_ldi, x_ldb, x_lds, x_ldn, x_ldl, x_ldf, x_ldt, x_ldy, x_and, x_andt, x_andf, x_or, x_ort, x_orf, x_not, x_bT, x_asB, x_band, x_bor, x_bnot, x_eif, x_ct, x_cf, x_echain, x_bchain, x_anil, x_acons, x_astar, x_itl, x_itf, x_itt, x_tup, x_lst, x_okL, x_tree, x_cell, x_newC, x_eB, x_lB, x_iB, x_iSeq, x_g1, x_g2, x_call, x_sl, x_onone, x_osome, x_asO, x_name, x_hnil, x_hcons, x_htup, x_hsub, x_comp, x_yes, x_w0, x_w1, x_add, x_sub, x_mod, x_fdiv, x_shr, x_bit, x_cmp, x_lt, x_neg, x_eqi, x_nei, x_ess, x_nss, x_lenl, x_lenf, x_lent, x_int, x_intb, x_max2, x_min2, x_tupl, x_r1, x_r2, x_revl, x_revt, x_ixt, x_ixl, x_ixf, x_ofO, x_slt, x_sll, x_isi, x_ist, List.getElem?_cons_zero, List.getElem?_cons_succ, List.set_cons_zero, List.set_cons_succ, List.length_cons, List.length_nil, Bool.not_true, Bool.not_false, beq_self_eq_true, t_p1, f1, f2, f3, f4, t_A1, t_B1, t_sA1, t_sB1, t_R1, t_n1]
def sA2 : List T := [.tup [.int 0, .int 0], .tup [.int 1, .int 0], .tup [.int 0, .int 1], .tup [.int 1, .int 1]]
def sB2 : List T := [.tup [.int 0, .int 1], .tup [.int 1, .int 1], .tup [.int 0, .int 0], .tup [.int 1, .int 0]]
def sR2 : List T := [.tup [.int 0, .int 0], .tup [.int 0, .int 1], .tup [.int 1, .int 0], .tup [.int 1, .int 1]]
theorem t_p2 (μ : Store) : m__law_power [.int 2] μ = .ok (.int 4) μ := by kernel_rfl
theorem t_A2 (s : T) (o2 o4 : Option T) (μ : Store) : lcL (lcTurn (hName 3) bYes (eCall 2 m_plain_bits (aCons (eVar 3) (aCons (eVar 1) aNil))) [some s, some (.int 2), o2, none, o4, none, none, none, none]) (rangeT 0 4) μ = .ok sA2 μ := by kernel_rfl
theorem t_B2 (s : T) (o4 : Option T) (μ : Store) : lcL (lcTurn (hName 3) bYes (eCall 2 m_signed_bits (aCons (eOp (ld2 gSub) (eVar 3) (eCall 1 m__law_power (aCons (eOp (ld2 gSub) (eVar 1) (eC (.int 1))) aNil))) (aCons (eVar 1) aNil))) [some s, some (.int 2), some (.lst sA2), none, o4, none, none, none, none]) (rangeT 0 4) μ = .ok sB2 μ := by kernel_rfl
theorem t_R2 (μ : Store) : m__law_rows [.int 2] μ = .ok (.lst sR2) μ := by kernel_rfl
theorem t_sA2 (μ : Store) : gSorted [.lst sA2] μ = .ok sR2 μ := by
  rw [x_sort]
  kernel_rfl
theorem t_sB2 (μ : Store) : gSorted [.lst sB2] μ = .ok sR2 μ := by
  rw [x_sort]
  kernel_rfl
theorem t_n2 (μ : Store) : gNe (.lst sR2) (.lst sR2) μ = .ok (.bl false) μ := x_nes (by kernel_rfl)
theorem step1_2 (s : T) (o1 o2 o4 : Option T) (μ : Store) : (M.bind (hName 1 (.int 2) [some s, o1, o2, none, o4, none, none, none, none]) body1) μ = .ok (.nx [some s, some (.int 2), some (.lst sA2), none, some (.lst sB2), none, none, none, none]) μ := by
  have f1 : sm62 4 = true := by decide
  have f2 : fits sA2.length = true := by decide
  have f3 : fits sB2.length = true := by decide
  have f4 : (4 : Int).toNat = 4 := rfl
  unfold body1
  simp only [x_bind, x_ok, x_pure, x_no, x_nob, x_mkFn, x_endr, x_endn, x_sl0, x_sl1, x_sl2, x_seq, x_seqn, x_seqr, x_seqb, x_seqc, x_nil, x_ret, x_exp, x_if, x_set, x_tgt, x_par, x_for, x_var, x_varR, x_c, x_op, x_un, x_ld2, x_ldi, x_ldb, x_lds, x_ldn, x_ldl, x_ldf, x_ldt, x_ldy, x_and, x_andt, x_andf, x_or, x_ort, x_orf, x_not, x_bT, x_asB, x_band, x_bor, x_bnot, x_eif, x_ct, x_cf, x_echain, x_bchain, x_anil, x_acons, x_astar, x_itl, x_itf, x_itt, x_tup, x_lst, x_okL, x_tree, x_cell, x_newC, x_eB, x_lB, x_iB, x_iSeq, x_g1, x_g2, x_call, x_sl, x_onone, x_osome, x_asO, x_name, x_hnil, x_hcons, x_htup, x_hsub, x_comp, x_yes, x_w0, x_w1, x_add, x_sub, x_mod, x_fdiv, x_shr, x_bit, x_cmp, x_lt, x_neg, x_eqi, x_nei, x_ess, x_nss, x_lenl, x_lenf, x_lent, x_int, x_intb, x_max2, x_min2, x_tupl, x_r1, x_r2, x_revl, x_revt, x_ixt, x_ixl, x_ixf, x_ofO, x_slt, x_sll, x_isi, x_ist, List.getElem?_cons_zero, List.getElem?_cons_succ, List.set_cons_zero, List.set_cons_succ, List.length_cons, List.length_nil, Bool.not_true, Bool.not_false, beq_self_eq_true, t_p2, f1, f2, f3, f4, t_A2, t_B2, t_sA2, t_sB2, t_R2, t_n2]
def sA3 : List T := [.tup [.int 0, .int 0, .int 0], .tup [.int 1, .int 0, .int 0], .tup [.int 0, .int 1, .int 0], .tup [.int 1, .int 1, .int 0], .tup [.int 0, .int 0, .int 1], .tup [.int 1, .int 0, .int 1], .tup [.int 0, .int 1, .int 1], .tup [.int 1, .int 1, .int 1]]
def sB3 : List T := [.tup [.int 0, .int 0, .int 1], .tup [.int 1, .int 0, .int 1], .tup [.int 0, .int 1, .int 1], .tup [.int 1, .int 1, .int 1], .tup [.int 0, .int 0, .int 0], .tup [.int 1, .int 0, .int 0], .tup [.int 0, .int 1, .int 0], .tup [.int 1, .int 1, .int 0]]
def sR3 : List T := [.tup [.int 0, .int 0, .int 0], .tup [.int 0, .int 0, .int 1], .tup [.int 0, .int 1, .int 0], .tup [.int 0, .int 1, .int 1], .tup [.int 1, .int 0, .int 0], .tup [.int 1, .int 0, .int 1], .tup [.int 1, .int 1, .int 0], .tup [.int 1, .int 1, .int 1]]
theorem t_p3 (μ : Store) : m__law_power [.int 3] μ = .ok (.int 8) μ := by kernel_rfl
theorem t_A3 (s : T) (o2 o4 : Option T) (μ : Store) : lcL (lcTurn (hName 3) bYes (eCall 2 m_plain_bits (aCons (eVar 3) (aCons (eVar 1) aNil))) [some s, some (.int 3), o2, none, o4, none, none, none, none]) (rangeT 0 8) μ = .ok sA3 μ := by kernel_rfl
theorem t_B3 (s : T) (o4 : Option T) (μ : Store) : lcL (lcTurn (hName 3) bYes (eCall 2 m_signed_bits (aCons (eOp (ld2 gSub) (eVar 3) (eCall 1 m__law_power (aCons (eOp (ld2 gSub) (eVar 1) (eC (.int 1))) aNil))) (aCons (eVar 1) aNil))) [some s, some (.int 3), some (.lst sA3), none, o4, none, none, none, none]) (rangeT 0 8) μ = .ok sB3 μ := by kernel_rfl
theorem t_R3 (μ : Store) : m__law_rows [.int 3] μ = .ok (.lst sR3) μ := by kernel_rfl
theorem t_sA3 (μ : Store) : gSorted [.lst sA3] μ = .ok sR3 μ := by
  rw [x_sort]
  kernel_rfl
theorem t_sB3 (μ : Store) : gSorted [.lst sB3] μ = .ok sR3 μ := by
  rw [x_sort]
  kernel_rfl
theorem t_n3 (μ : Store) : gNe (.lst sR3) (.lst sR3) μ = .ok (.bl false) μ := x_nes (by kernel_rfl)
theorem step1_3 (s : T) (o1 o2 o4 : Option T) (μ : Store) : (M.bind (hName 1 (.int 3) [some s, o1, o2, none, o4, none, none, none, none]) body1) μ = .ok (.nx [some s, some (.int 3), some (.lst sA3), none, some (.lst sB3), none, none, none, none]) μ := by
  have f1 : sm62 8 = true := by decide
  have f2 : fits sA3.length = true := by decide
  have f3 : fits sB3.length = true := by decide
  have f4 : (8 : Int).toNat = 8 := rfl
  unfold body1
  simp only [x_bind, x_ok, x_pure, x_no, x_nob, x_mkFn, x_endr, x_endn, x_sl0, x_sl1, x_sl2, x_seq, x_seqn, x_seqr, x_seqb, x_seqc, x_nil, x_ret, x_exp, x_if, x_set, x_tgt, x_par, x_for, x_var, x_varR, x_c, x_op, x_un, x_ld2, x_ldi, x_ldb, x_lds, x_ldn, x_ldl, x_ldf, x_ldt, x_ldy, x_and, x_andt, x_andf, x_or, x_ort, x_orf, x_not, x_bT, x_asB, x_band, x_bor, x_bnot, x_eif, x_ct, x_cf, x_echain, x_bchain, x_anil, x_acons, x_astar, x_itl, x_itf, x_itt, x_tup, x_lst, x_okL, x_tree, x_cell, x_newC, x_eB, x_lB, x_iB, x_iSeq, x_g1, x_g2, x_call, x_sl, x_onone, x_osome, x_asO, x_name, x_hnil, x_hcons, x_htup, x_hsub, x_comp, x_yes, x_w0, x_w1, x_add, x_sub, x_mod, x_fdiv, x_shr, x_bit, x_cmp, x_lt, x_neg, x_eqi, x_nei, x_ess, x_nss, x_lenl, x_lenf, x_lent, x_int, x_intb, x_max2, x_min2, x_tupl, x_r1, x_r2, x_revl, x_revt, x_ixt, x_ixl, x_ixf, x_ofO, x_slt, x_sll, x_isi, x_ist, List.getElem?_cons_zero, List.getElem?_cons_succ, List.set_cons_zero, List.set_cons_succ, List.length_cons, List.length_nil, Bool.not_true, Bool.not_false, beq_self_eq_true, t_p3, f1, f2, f3, f4, t_A3, t_B3, t_sA3, t_sB3, t_R3, t_n3]

theorem loop1 (s : T) (μ : Store) : forL (fun d ρ => M.bind (hName 1 d ρ) body1) [.int 1, .int 2, .int 3] [some s, none, none, none, none, none, none, none, none] μ = .ok (.nx [some s, some (.int 3), some (.lst sA3), none, some (.lst sB3), none, none, none, none]) μ := by
  have h1 := step1_1 s none none none μ
  have h2 := step1_2 s (some (.int 1)) (some (.lst sA1)) (some (.lst sB1)) μ
  have h3 := step1_3 s (some (.int 2)) (some (.lst sA2)) (some (.lst sB2)) μ
  unfold forL
  rw [x_bind, h1, x_ok]
  show forL _ _ _ μ = _
  unfold forL
  rw [x_bind, h2, x_ok]
  show forL _ _ _ μ = _
  unfold forL
  rw [x_bind, h3, x_ok]
  rfl
def body2 : Env → M Fl := (sSeq (sSet 6 (eCall 2 m__law_bag (aCons (eVar 0) (aCons (eVar 5) aNil))))
    (sIf (bT (eOp (ld2 gNe) (eTree (lComp [7] (iB gRange1 (aCons (eC (.int 10)) aNil)) (hName 7) (bNot (bT (eCall 1 m__law_right (aCons (eVar 6) aNil)))) (eC (.int 1)))) (eTree (lLst aNil)))) (sRet (eC (.bl false))) sNil))
theorem step2 (ns : List Int) (k : Nat) (hk : k ≤ 1) (o1 o2 o3 o4 o5 o6 : Option T) (μ : Store) : ∃ μ', (M.bind (hName 5 (.int (k : Int)) [some (scriptT ns), o1, o2, o3, o4, o5, o6, none, none]) body2) μ = .ok (.nx [some (scriptT ns), o1, o2, o3, o4, some (.int (k : Int)), some (.cell μ.length), none, none]) μ' := by
  obtain ⟨μ1, e1, J⟩ := k_bag ns k hk μ
  obtain ⟨μ2, e2, _⟩ := lcL_none (step := lcTurn (hName 7) (bNot (bT (eCall 1 m__law_right (aCons (eVar 6) aNil)))) (eC (.int 1)) [some (scriptT ns), o1, o2, o3, o4, some (.int (k : Int)), some (.cell μ.length), none, none]) (J := Bag μ.length) (k := 70) (N := 100000) (xs := rangeT 0 10)
    (fun x _ n' μ' hj hn => by
      obtain ⟨μ'', e, j⟩ := k_right hj (by omega)
      exact ⟨μ'', by simp only [x_bind, x_ok, x_pure, x_no, x_nob, x_mkFn, x_endr, x_endn, x_sl0, x_sl1, x_sl2, x_seq, x_seqn, x_seqr, x_seqb, x_seqc, x_nil, x_ret, x_exp, x_if, x_set, x_tgt, x_par, x_for, x_var, x_varR, x_c, x_op, x_un, x_ld2, x_ldi, x_ldb, x_lds, x_ldn, x_ldl, x_ldf, x_ldt, x_ldy, x_and, x_andt, x_andf, x_or, x_ort, x_orf, x_not, x_bT, x_asB, x_band, x_bor, x_bnot, x_eif, x_ct, x_cf, x_echain, x_bchain, x_anil, x_acons, x_astar, x_itl, x_itf, x_itt, x_tup, x_lst, x_okL, x_tree, x_cell, x_newC, x_eB, x_lB, x_iB, x_iSeq, x_g1, x_g2, x_call, x_sl, x_onone, x_osome, x_asO, x_name, x_hnil, x_hcons, x_htup, x_hsub, x_comp, x_yes, x_w0, x_w1, x_add, x_sub, x_mod, x_fdiv, x_shr, x_bit, x_cmp, x_lt, x_neg, x_eqi, x_nei, x_ess, x_nss, x_lenl, x_lenf, x_lent, x_int, x_intb, x_max2, x_min2, x_tupl, x_r1, x_r2, x_revl, x_revt, x_ixt, x_ixl, x_ixf, x_ofO, x_slt, x_sll, x_isi, x_ist, List.getElem?_cons_zero, List.getElem?_cons_succ, List.set_cons_zero, List.set_cons_succ, List.length_cons, List.length_nil, Bool.not_true, Bool.not_false, x_turn, beq_self_eq_true, e], j⟩) 0 μ1 J (by simp [rangeT])
  refine ⟨μ2, ?_⟩
  have f1 : sm62 10 = true := by decide
  have f2 : fits 0 = true := by decide
  have f4 : (10 : Int).toNat = 10 := rfl
  have f5 : gNe (.lst []) (.lst []) μ2 = .ok (.bl false) μ2 := x_nes (by kernel_rfl)
  unfold body2
  simp only [x_bind, x_ok, x_pure, x_no, x_nob, x_mkFn, x_endr, x_endn, x_sl0, x_sl1, x_sl2, x_seq, x_seqn, x_seqr, x_seqb, x_seqc, x_nil, x_ret, x_exp, x_if, x_set, x_tgt, x_par, x_for, x_var, x_varR, x_c, x_op, x_un, x_ld2, x_ldi, x_ldb, x_lds, x_ldn, x_ldl, x_ldf, x_ldt, x_ldy, x_and, x_andt, x_andf, x_or, x_ort, x_orf, x_not, x_bT, x_asB, x_band, x_bor, x_bnot, x_eif, x_ct, x_cf, x_echain, x_bchain, x_anil, x_acons, x_astar, x_itl, x_itf, x_itt, x_tup, x_lst, x_okL, x_tree, x_cell, x_newC, x_eB, x_lB, x_iB, x_iSeq, x_g1, x_g2, x_call, x_sl, x_onone, x_osome, x_asO, x_name, x_hnil, x_hcons, x_htup, x_hsub, x_comp, x_yes, x_w0, x_w1, x_add, x_sub, x_mod, x_fdiv, x_shr, x_bit, x_cmp, x_lt, x_neg, x_eqi, x_nei, x_ess, x_nss, x_lenl, x_lenf, x_lent, x_int, x_intb, x_max2, x_min2, x_tupl, x_r1, x_r2, x_revl, x_revt, x_ixt, x_ixl, x_ixf, x_ofO, x_slt, x_sll, x_isi, x_ist, List.getElem?_cons_zero, List.getElem?_cons_succ, List.set_cons_zero, List.set_cons_succ, List.length_cons, List.length_nil, Bool.not_true, Bool.not_false, beq_self_eq_true, e1, f1, f2, f4, e2, f5]
theorem loop2 (ns : List Int) (K : Nat) (hK : K = 1 ∨ K = 2) (o1 o2 o3 o4 : Option T) (μ : Store) : ∃ a c μ', forL (fun d ρ => M.bind (hName 5 d ρ) body2) (rangeT 0 K) [some (scriptT ns), o1, o2, o3, o4, none, none, none, none] μ = .ok (.nx [some (scriptT ns), o1, o2, o3, o4, some a, some c, none, none]) μ' := by
  obtain ⟨μ1, h1⟩ := step2 ns 0 (by decide) o1 o2 o3 o4 none none μ
  obtain ⟨μ2, h2⟩ := step2 ns 1 (by decide) o1 o2 o3 o4 (some (.int ((0 : Nat) : Int))) (some (.cell μ.length)) μ1
  rcases hK with rfl | rfl
  · refine ⟨.int ((0 : Nat) : Int), .cell μ.length, μ1, ?_⟩
    show forL _ [.int ((0 : Nat) : Int)] _ μ = _
    unfold forL
    rw [x_bind, h1, x_ok]
    rfl
  · refine ⟨.int ((1 : Nat) : Int), .cell μ1.length, μ2, ?_⟩
    show forL _ [.int ((0 : Nat) : Int), .int ((1 : Nat) : Int)] _ μ = _
    unfold forL
    rw [x_bind, h1, x_ok]
    show forL _ _ _ μ1 = _
    unfold forL
    rw [x_bind, h2, x_ok]
    rfl

theorem t_c0 (μ : Store) : m_plain_value [.tup [.int 1, .int 0, .int 1]] μ = .ok (.int 5) μ := by kernel_rfl
theorem t_c1 (μ : Store) : m_signed_value [.tup [.int 1, .int 0, .int 1]] μ = .ok (.int (-3)) μ := by kernel_rfl
theorem t_c2 (μ : Store) : m_plain_bits [.int 6, .int 4] μ = .ok (.tup [.int 0, .int 1, .int 1, .int 0]) μ := by kernel_rfl
theorem t_c3 (μ : Store) : m_signed_bits [.int (-3), .int 3] μ = .ok (.tup [.int 1, .int 0, .int 1]) μ := by kernel_rfl
theorem t_c4 (μ : Store) : m_wrapped [.int (-1), .int 4] μ = .ok (.int 15) μ := by kernel_rfl
theorem t_c5 (μ : Store) : m_signed_wrapped [.int 13, .int 4] μ = .ok (.int (-3)) μ := by kernel_rfl
theorem t_c6 (μ : Store) : m_wider_bits [.tup [.int 1, .int 1], .int 4] μ = .ok (.tup [.int 1, .int 1, .int 0, .int 0]) μ := by kernel_rfl
theorem t_c7 (μ : Store) : m_signed_wider [.tup [.int 0, .int 1], .int 4] μ = .ok (.tup [.int 0, .int 1, .int 1, .int 1]) μ := by kernel_rfl
theorem t_c8 (μ : Store) : m_signed_wider [.tup [.int 1, .int 0, .int 1, .int 1], .int 2] μ = .ok (.tup [.int 1, .int 0]) μ := by kernel_rfl
theorem t_c9 (μ : Store) : m_signed_bits [.int (-1), .int 1] μ = .ok (.tup [.int 1]) μ := by kernel_rfl
def dTold : T := .lst [.int 5, .int (-3), .tup [.int 0, .int 1, .int 1, .int 0], .tup [.int 1, .int 0, .int 1], .int 15, .int (-3), .tup [.int 1, .int 1, .int 0, .int 0], .tup [.int 0, .int 1, .int 1, .int 1], .tup [.int 1, .int 0], .tup [.int 1]]
theorem t_rd : reprOk dTold = true := reprOk_of (by kernel_rfl) (by decide) (by decide)
theorem k_law (ns : List Int) : ∃ μ, m_law [scriptT ns] [] = .ok (.bl true) μ := by
  have K : ∃ K : Nat, (K = 1 ∨ K = 2) ∧ (if (if (ns.length : Int) < 2 then (ns.length : Int) else 2) > 1 then (if (ns.length : Int) < 2 then (ns.length : Int) else 2) else 1) = (K : Int) := by
    by_cases h : (ns.length : Int) < 2
    · exact ⟨1, .inl rfl, by rw [if_pos h, if_neg (by omega)]; rfl⟩
    · exact ⟨2, .inr rfl, by rw [if_neg h, if_pos (by decide)]; rfl⟩
  obtain ⟨K, hK, eK⟩ := K
  have h1 := loop1 (scriptT ns) []
  obtain ⟨a, c, μ', h2⟩ := loop2 ns K hK (some (.int 3)) (some (.lst sA3)) none (some (.lst sB3)) []
  have sm : sm62 (K : Int) = true := by rcases hK with rfl | rfl <;> decide
  have q1 : fits (0 + 1) = true := by decide
  have q2 : fits (0 + 1 + 1) = true := by decide
  have q3 : fits (0 + 1 + 1 + 1) = true := by decide
  have q4 : fits (0 + 1 + 1 + 1 + 1) = true := by decide
  have q8 : fits (0 + 1 + 1 + 1 + 1 + 1 + 1 + 1 + 1) = true := by decide
  have q10 : fits (0 + 1 + 1 + 1 + 1 + 1 + 1 + 1 + 1 + 1 + 1) = true := by decide
  have ad : gAdd (.lst [.int 5, .int (-3), .tup [.int 0, .int 1, .int 1, .int 0], .tup [.int 1, .int 0, .int 1], .int 15, .int (-3), .tup [.int 1, .int 1, .int 0, .int 0], .tup [.int 0, .int 1, .int 1, .int 1]]) (.lst [.tup [.int 1, .int 0], .tup [.int 1]]) μ' = .ok dTold μ' := x_addl (by decide)
  have rd := x_repr (μ := μ') t_rd
  have rd2 : gRepr (.lst [.int 5, .int (-3), .tup [.int 0, .int 1, .int 1, .int 0], .tup [.int 1, .int 0, .int 1], .int 15, .int (-3), .tup [.int 1, .int 1, .int 0, .int 0], .tup [.int 0, .int 1, .int 1, .int 1], .tup [.int 1, .int 0], .tup [.int 1]]) μ' = .ok (.str (toD dTold).shown) μ' := rd
  have ldT : ld dTold μ' = .ok dTold μ' := rfl
  have len : ld (scriptT ns) [] = .ok (.fls (ns.map T.int)) [] := rfl
  refine ⟨μ', ?_⟩
  unfold m_law
  show mkFn 9 (sSeq (sFor _ (hName 1) body1) (sSeq (sFor _ (hName 5) body2) _)) _ [] = _
  simp only [x_bind, x_ok, x_pure, x_no, x_nob, x_mkFn, x_endr, x_endn, x_sl0, x_sl1, x_sl2, x_seq, x_seqn, x_seqr, x_seqb, x_seqc, x_nil, x_ret, x_exp, x_if, x_set, x_tgt, x_par, x_for, x_var, x_varR, x_c, x_op, x_un, x_ld2, x_ldi, x_ldb, x_lds, x_ldn, x_ldl, x_ldf, x_ldt, x_ldy, x_and, x_andt, x_andf, x_or, x_ort, x_orf, x_not, x_bT, x_asB, x_band, x_bor, x_bnot, x_eif, x_ct, x_cf, x_echain, x_bchain, x_anil, x_acons, x_astar, x_itl, x_itf, x_itt, x_tup, x_lst, x_okL, x_tree, x_cell, x_newC, x_eB, x_lB, x_iB, x_iSeq, x_g1, x_g2, x_call, x_sl, x_onone, x_osome, x_asO, x_name, x_hnil, x_hcons, x_htup, x_hsub, x_comp, x_yes, x_w0, x_w1, x_add, x_sub, x_mod, x_fdiv, x_shr, x_bit, x_cmp, x_lt, x_neg, x_eqi, x_nei, x_ess, x_nss, x_lenl, x_lenf, x_lent, x_int, x_intb, x_max2, x_min2, x_tupl, x_r1, x_r2, x_revl, x_revt, x_ixt, x_ixl, x_ixf, x_ofO, x_slt, x_sll, x_isi, x_ist, List.getElem?_cons_zero, List.getElem?_cons_succ, List.set_cons_zero, List.set_cons_succ, List.length_cons, List.length_nil, Bool.not_true, Bool.not_false, beq_self_eq_true, q1, q2, q3, q4, q8, q10, h1, len, List.length_map, eK, sm, Int.toNat_natCast, h2, t_c0, t_c1, t_c2, t_c3, t_c4, t_c5, t_c6, t_c7, t_c8, t_c9, ad, ldT, rd, rd2, decide_true]
end TL

open PySem PySem.W PyProof.Rows
set_option maxRecDepth 100000 in
set_option maxHeartbeats 0 in
theorem PySem.Challenge.cw_gatesums_k09_whole_values_of_words_holds : PySem.Challenge.rw_gatesums_k09_whole_values_of_words.Holds := by
  w_on; o_law; k_head; (case hw => w_witness2)
  k_fill
  refine TL.walk_T (l := PySem.Challenge.rw_gatesums_k09_whole_values_of_words) (k := 6) (x := "script") (m := TL.m_law) rfl (by rw [sizeLine_eq]; decide) rfl ⟨rfl, by decide, by decide⟩ (fun w h Y => PySem.W.kIn_of Y) ?F ?ans
  case F =>
    intro w mg fa h KX G hmg
    refine' TL.all_mk KX G hmg ?a0 ?l0 ?k0 ?e0 ?a1 ?l1 ?k1 ?e1 ?a2 ?l2 ?k2 ?e2 ?a3 ?l3 ?k3 ?e3 ?a4 ?l4 ?k4 ?e4 ?a5 ?l5 ?k5 ?e5 ?a6 ?l6 ?k6 ?e6 ?a7 ?l7 ?k7 ?e7 ?a8 ?l8 ?k8 ?e8 ?a9 ?l9 ?k9 ?e9 ?a10 ?l10 ?k10 ?e10 ?a11 ?l11 ?k11 ?e11 ?a12 ?l12 ?k12 ?e12 ?a13 ?l13 ?k13 ?e13 ?a14 ?l14 ?k14 ?e14 ?a15 ?l15 ?k15 ?e15 ?a16 ?l16 ?k16 ?e16 ?a17 ?l17 ?k17 ?e17 ?a18 ?l18 ?k18 ?e18 ?a19 ?l19 ?k19 ?e19 ?a20 ?l20 ?k20 ?e20 ?a21 ?l21 ?k21 ?e21 ?a22 ?l22 ?k22 ?e22 ?a23 ?l23 ?k23 ?e23 ?a24 ?l24 ?k24 ?e24 ?z_abs ?z_all ?z_bool ?z_enumerate ?z_int ?z_isinstance ?z_len ?z_max ?z_min ?z_range ?z_repr ?z_sorted ?z_sum ?z_tuple ?c_GREAT ?c_MOST_BITS
    (case a0 => k_is); (case l0 => k_is); (case k0 => k_is); (case e0 => k_is)
    (case a1 => k_is); (case l1 => k_is); (case k1 => k_is); (case e1 => k_is)
    (case a2 => k_is); (case l2 => k_is); (case k2 => k_is); (case e2 => k_is)
    (case a3 => k_is); (case l3 => k_is); (case k3 => k_is); (case e3 => k_is)
    (case a4 => k_is); (case l4 => k_is); (case k4 => k_is); (case e4 => k_is)
    (case a5 => k_is); (case l5 => k_is); (case k5 => k_is); (case e5 => k_is)
    (case a6 => k_is); (case l6 => k_is); (case k6 => k_is); (case e6 => k_is)
    (case a7 => k_is); (case l7 => k_is); (case k7 => k_is); (case e7 => k_is)
    (case a8 => k_is); (case l8 => k_is); (case k8 => k_is); (case e8 => k_is)
    (case a9 => k_is); (case l9 => k_is); (case k9 => k_is); (case e9 => k_is)
    (case a10 => k_is); (case l10 => k_is); (case k10 => k_is); (case e10 => k_is)
    (case a11 => k_is); (case l11 => k_is); (case k11 => k_is); (case e11 => k_is)
    (case a12 => k_is); (case l12 => k_is); (case k12 => k_is); (case e12 => k_is)
    (case a13 => k_is); (case l13 => k_is); (case k13 => k_is); (case e13 => k_is)
    (case a14 => k_is); (case l14 => k_is); (case k14 => k_is); (case e14 => k_is)
    (case a15 => k_is); (case l15 => k_is); (case k15 => k_is); (case e15 => k_is)
    (case a16 => k_is); (case l16 => k_is); (case k16 => k_is); (case e16 => k_is)
    (case a17 => k_is); (case l17 => k_is); (case k17 => k_is); (case e17 => k_is)
    (case a18 => k_is); (case l18 => k_is); (case k18 => k_is); (case e18 => k_is)
    (case a19 => k_is); (case l19 => k_is); (case k19 => k_is); (case e19 => k_is)
    (case a20 => k_is); (case l20 => k_is); (case k20 => k_is); (case e20 => k_is)
    (case a21 => k_is); (case l21 => k_is); (case k21 => k_is); (case e21 => k_is)
    (case a22 => k_is); (case l22 => k_is); (case k22 => k_is); (case e22 => k_is)
    (case a23 => k_is); (case l23 => k_is); (case k23 => k_is); (case e23 => k_is)
    (case a24 => k_is); (case l24 => k_is); (case k24 => k_is); (case e24 => k_is)
    (case z_abs => k_is); (case z_all => k_is); (case z_bool => k_is); (case z_enumerate => k_is)
    (case z_int => k_is); (case z_isinstance => k_is); (case z_len => k_is); (case z_max => k_is)
    (case z_min => k_is); (case z_range => k_is); (case z_repr => k_is); (case z_sorted => k_is)
    (case z_sum => k_is); (case z_tuple => k_is); (case c_GREAT => k_is); (case c_MOST_BITS => k_is)
  case ans => exact fun ns _ _ => TL.k_law ns
