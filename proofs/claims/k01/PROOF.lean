import PyProof.Rows.All
import Wide.All
import OpenK.AllK
import Wide.FinOn
import HandS.ForMost
import HandS.ForExc
import HandS.CallSlots
import HandS.TryMany
import HandS.Deep
import HandS.TupAny
import HandS.Lambda
import HandS.EndTab
import KE.SortData
import HandS.Style
import HandS.Small
import HandS.Dict
import HandS.TupMul
import HandS.Text
import HandS.Base
import HandS.Call
import KE.SortCalls
import HandS.More
import HandS.OwnEq
import HandS.TupLe
import HandS.Spec
import HandS.Codes
import HandS.WordsDict
import HandS.TupLen
import KE.DataMinMax
import KE.DataCmp
import HandS.AnyAll
import HandS.GenList
import HandS.GenOver
import PyProof.GenCompD
import HandS.DictTup
import HandS.Rev
import HandS.StrMore
import HandS.Strs
import HandS.SetFor
import HandS.Iter
import HandS.Conv
import HandS.Zip
import KE.KExcSuper
import HandS.ExcInit
import HandS.ExcField
import HandS.Head0
import HandS.Head1
import HandS.Head2
import HandS.HeadEnd
import HandS.HeadHook1
import HandS.HeadHook2
import HandS.HeadHook3
import HandS.HeadHook4
import HandS.HeadNt
import HandS.HeadWalk
import PySem.Challenge.RW_coasthall_k01_rhythms
set_option Elab.async false
set_option linter.all false
set_option maxRecDepth 100000
set_option maxHeartbeats 4000000
namespace TL
open PySem PySem.Spec PyProof.Rows L2

/-- a value as a tree; sh n: the n-th thing of the store -/
inductive T where
  | non | bl (b : Bool) | int (i : Int) | str (s : Str)
  | lst (xs : List T) | tup (xs : List T) | wt (xs : List T) | dct (tk : Bool) (kvs : List (T × T)) | ins (c : Str) (fs : List (Str × T)) | sh (n : Nat)
/-- an own exception: its class, its fields -/
structure Exc where
  cls : Str
  fs : List (Str × T)
inductive Res (α : Type) where
  | ok (a : α)
  | ex (x : Exc)
/-- what stands in the store: a list, a dict, an instance, that may be written -/
inductive MO where
  | lst (ts : List T) | dct (tk : Bool) (kvs : List (T × T)) | ins (c : Str) (fs : List (Str × T))
def MO.t : MO → T
  | .lst ts => .lst ts
  | .dct b kvs => .dct b kvs
  | .ins c fs => .ins c fs
/-- true: it may be written; false: it is written no more -/
abbrev Mu := List (MO × Bool)
abbrev Env := List (Option T)
abbrev M (α : Type) := Mu → Option (Res α × Mu)
def M.ret {α : Type} (a : α) : M α := fun μ => some (.ok a, μ)
def M.bind {α β : Type} (m : M α) (k : α → M β) : M β := fun μ => match m μ with
  | none => none
  | some (.ok a, μ') => k a μ'
  | some (.ex x, μ') => some (.ex x, μ')
def M.stuck {α : Type} : M α := fun _ => none
def M.opt {α : Type} (o : Option α) : M α := fun μ => match o with
  | none => none
  | some a => some (.ok a, μ)

/-- == and != are object's -/
structure EqI (K : PySem.W.Frag) (C : Addr) : Prop where
  top : PySem.W.mroIn K C (.type "object") = some true
  eq : PySem.W.findIn K (.ref C) "__eq__" = some (some (.builtin "object.__eq__"))
  ne : PySem.W.findIn K (.ref C) "__ne__" = some (some (.builtin "object.__ne__"))
/-- what is fixed: the written part, the classes' addresses, what is said of code tables -/
structure RC where
  K : PySem.W.Frag
  cls : Str → Option Addr
  Tab : Hp → Prop
  tabk : ∀ H H' : Hp, Tab H → (∀ a ps, H a = some (.tbl ps) → H' a = some (.tbl ps)) → (∀ a φ, H a = some (.ext φ) → H' a = some (.ext φ)) → Tab H'
  eqi : ∀ c C, cls c = some C → EqI K C

def keyT : T → Option Key
  | .int i => some (.inl i)
  | .str s => some (.inr s)
  | _ => none
def keysT : List T → Option (List Key)
  | [] => some []
  | t :: r => match keyT t, keysT r with
    | some k, some ks => some (k :: ks)
    | _, _ => none
def tkeyT : T → Option (List Key)
  | .tup ts => keysT ts
  | _ => none

/-- a written tuple -/
def WrT (K : PySem.W.Frag) (a : Addr) (xs : List V) : Prop :=
  ∃ (o : Obj) (its : Array Value) (n : Nat), K.lookup a = some o ∧ o.dict = none ∧ o.cls = .type "tuple" ∧ o.data = .seq its n ∧ its.size ≤ sizeLine ∧ Vals xs its.toList
/-- a written tuple, or one of the run whose object is known -/
def WtT (K : PySem.W.Frag) (ex : Addr → Prop) (H : Hp) (a : Addr) (xs : List V) : Prop := WrT K a xs ∨ (¬ ex a ∧ ∃ o : Obj, o.dict = none ∧ H a = some (.frz o (.tup xs)))

section
variable (R : RC) (ex : Addr → Prop) (H : Hp)
mutual
def Rep : T → V → Prop
  | .non, v => v = .non
  | .bl b, v => v = .bl b
  | .int i, v => v = .int i
  | .str s, v => v = .str s
  | .lst ts, v => ∃ a xs, v = .ref a ∧ ¬ ex a ∧ H a = some (.lst xs) ∧ Reps ts xs
  | .tup ts, v => ∃ a xs, v = .ref a ∧ ¬ ex a ∧ H a = some (.tup xs) ∧ Reps ts xs
  | .wt ts, v => ∃ a xs, v = .ref a ∧ WtT R.K ex H a xs ∧ Reps ts xs
  | .dct tk kvs, v => ∃ a, v = .ref a ∧ ¬ ex a ∧ ((tk = false ∧ ∃ ks, Rd H a (.dK ks) ∧ RepK kvs ks) ∨ (tk = true ∧ ∃ ks, Rd H a (.dT ks) ∧ RepTK kvs ks))
  | .ins c fs, v => ∃ a C dx vs, v = .ref a ∧ ¬ ex a ∧ R.cls c = some C ∧ H a = some (.ins C dx vs) ∧ RepF fs vs
  | .sh _, _ => False
def Reps : List T → List V → Prop
  | [], xs => xs = []
  | t :: ts, xs => ∃ x r, xs = x :: r ∧ Rep t x ∧ Reps ts r
def RepK : List (T × T) → List (Key × V) → Prop
  | [], xs => xs = []
  | (k, t) :: ts, xs => ∃ kk x r, xs = (kk, x) :: r ∧ keyT k = some kk ∧ Rep t x ∧ RepK ts r
def RepTK : List (T × T) → List (List Key × V) → Prop
  | [], xs => xs = []
  | (k, t) :: ts, xs => ∃ kk x r, xs = (kk, x) :: r ∧ tkeyT k = some kk ∧ Rep t x ∧ RepTK ts r
def RepF : List (Str × T) → List (Str × V) → Prop
  | [], xs => xs = []
  | (f, t) :: ts, xs => ∃ x r, xs = (f, x) :: r ∧ Rep t x ∧ RepF ts r
end
/-- the thing itself may be one that is written, what is in it not -/
def RepTop : T → V → Prop
  | .lst ts, v => ∃ a xs, v = .ref a ∧ H a = some (.lst xs) ∧ Reps R ex H ts xs
  | .dct tk kvs, v => ∃ a, v = .ref a ∧ ((tk = false ∧ ∃ ks, Rd H a (.dK ks) ∧ RepK R ex H kvs ks) ∨ (tk = true ∧ ∃ ks, Rd H a (.dT ks) ∧ RepTK R ex H kvs ks))
  | .ins c fs, v => ∃ a C dx vs, v = .ref a ∧ R.cls c = some C ∧ H a = some (.ins C dx vs) ∧ RepF R ex H fs vs
  | .sh _, _ => False
  | t, v => Rep R ex H t v
def RepM : MO → Addr → Prop
  | .lst ts, a => ∃ xs, H a = some (.lst xs) ∧ Reps R ex H ts xs
  | .dct false kvs, a => ∃ ks, H a = some (.dK ks) ∧ RepK R ex H kvs ks
  | .dct true kvs, a => ∃ ks, H a = some (.dT ks) ∧ RepTK R ex H kvs ks
  | .ins c fs, a => ∃ C dx vs, R.cls c = some C ∧ H a = some (.ins C dx vs) ∧ RepF R ex H fs vs
def RepX (x : Exc) (cls : Value) (d : Option Addr) : Prop :=
  ∃ C, cls = .ref C ∧ R.cls x.cls = some C ∧ ((x.fs = [] ∧ d = none) ∨ ∃ dx vs, d = some dx ∧ H dx = some (.xd vs) ∧ RepF R ex H x.fs vs)
end

/-- what is not to be taken for a tree's part: x0, and what stands in the store -/
def excl (x0 : Addr → Prop) (S : List Addr) (μ : Mu) (a : Addr) : Prop := x0 a ∨ ∃ (n : Nat) (o : MO), S[n]? = some a ∧ μ[n]? = some (o, true)

/-- the store as it stands -/
structure SOk (R : RC) (x0 : Addr → Prop) (S : List Addr) (μ : Mu) (H : Hp) : Prop where
  len : S.length = μ.length
  nd : S.Nodup
  xd : ∀ a, x0 a → H a ≠ none
  sx : ∀ (n : Nat) a o, S[n]? = some a → μ[n]? = some (o, true) → ¬ x0 a
  sd : ∀ a ∈ S, H a ≠ none
  sh : ∀ (n : Nat) o, μ[n]? = some (o, true) → ∃ a, S[n]? = some a ∧ RepM R (excl x0 S μ) H o a
  fz : ∀ (n : Nat) o, μ[n]? = some (o, false) → ∃ a, S[n]? = some a ∧ Rep R (excl x0 S μ) H o.t (.ref a)
  tab : R.Tab H
/-- from a state to a later one -/
structure Go (S : List Addr) (μ : Mu) (H : Hp) (S' : List Addr) (μ' : Mu) (H' : Hp) : Prop where
  pre : ∃ more, S' = S ++ more ∧ ∀ a ∈ more, H a = none
  dead : ∀ (n : Nat) o, μ[n]? = some (o, false) → μ'[n]? = some (o, false)
  keep : ∀ a o, H a = some o → (∀ ps, o ≠ .tbl ps) → (∀ (n : Nat) m, S[n]? = some a → μ[n]? ≠ some (m, true)) → H' a = some o
  there : ∀ a, H a ≠ none → H' a ≠ none
def Grow (H H' : Hp) : Prop := ∀ a o, H a = some o → H' a = some o
theorem Grow.refl (H : Hp) : Grow H H := fun _ _ h => h
theorem Grow.trans {H H1 H2 : Hp} (a : Grow H H1) (b : Grow H1 H2) : Grow H H2 := fun x o h => b x o (a x o h)
theorem Grow.new {H : Hp} {p : Addr} {o : HO} (h : H p = none) : Grow H (upd H p o) := fun a u e => by
  rw [upd_ne (ne_of_none e h)]
  exact e
theorem Grow.rd {H H' : Hp} {a : Addr} {u : HO} (g : Grow H H') (h : Rd H a u) : Rd H' a u := by
  rcases h with h | ⟨o, h⟩
  · exact .inl (g _ _ h)
  · exact .inr ⟨o, g _ _ h⟩

section
variable {R : RC} {ex ex' : Addr → Prop} {H H' : Hp}
/-- trees stay where what bears them stays -/
structure Mono (ex ex' : Addr → Prop) (H H' : Hp) : Prop where
  k : ∀ a o, ¬ ex a → H a = some o → (∀ ps, o ≠ .tbl ps) → H' a = some o
  x : ∀ a o, ¬ ex a → H a = some o → ¬ ex' a
theorem Mono.rd (m : Mono ex ex' H H') {a : Addr} {u : HO} (hx : ¬ ex a) (hu : ∀ ps, u ≠ .tbl ps) (h : Rd H a u) : ¬ ex' a ∧ Rd H' a u := by
  rcases h with h | ⟨o, h⟩
  · exact ⟨m.x a _ hx h, .inl (m.k a _ hx h hu)⟩
  · exact ⟨m.x a _ hx h, .inr ⟨o, m.k a _ hx h (fun ps z => by cases z)⟩⟩
mutual
theorem Rep.mono (m : Mono ex ex' H H') : ∀ (t : T) (v : V), Rep R ex H t v → Rep R ex' H' t v
  | .non, _, h => h
  | .bl _, _, h => h
  | .int _, _, h => h
  | .str _, _, h => h
  | .lst ts, v, h => by
    obtain ⟨a, xs, e, hx, hr, h2⟩ := h
    exact ⟨a, xs, e, m.x a _ hx hr, m.k a _ hx hr (fun ps z => by cases z), Reps.mono m ts xs h2⟩
  | .tup ts, v, h => by
    obtain ⟨a, xs, e, hx, hr, h2⟩ := h
    exact ⟨a, xs, e, m.x a _ hx hr, m.k a _ hx hr (fun ps z => by cases z), Reps.mono m ts xs h2⟩
  | .wt ts, v, h => by
    obtain ⟨a, xs, e, h1, h2⟩ := h
    refine ⟨a, xs, e, ?_, Reps.mono m ts xs h2⟩
    rcases h1 with h1 | ⟨hx, o, hd, h1⟩
    · exact .inl h1
    · exact .inr ⟨m.x a _ hx h1, o, hd, m.k a _ hx h1 (fun ps z => by cases z)⟩
  | .dct tk kvs, v, h => by
    obtain ⟨a, e, hx, h1⟩ := h
    rcases h1 with ⟨et, ks, h1, h2⟩ | ⟨et, ks, h1, h2⟩
    · obtain ⟨hx', h1⟩ := m.rd hx (fun ps z => by cases z) h1
      exact ⟨a, e, hx', .inl ⟨et, ks, h1, RepK.mono m kvs ks h2⟩⟩
    · obtain ⟨hx', h1⟩ := m.rd hx (fun ps z => by cases z) h1
      exact ⟨a, e, hx', .inr ⟨et, ks, h1, RepTK.mono m kvs ks h2⟩⟩
  | .ins c fs, v, h => by
    obtain ⟨a, C, dx, vs, e, hx, hc, h1, h2⟩ := h
    exact ⟨a, C, dx, vs, e, m.x a _ hx h1, hc, m.k a _ hx h1 (fun ps z => by cases z), RepF.mono m fs vs h2⟩
  | .sh n, v, h => h
theorem Reps.mono (m : Mono ex ex' H H') : ∀ (ts : List T) (xs : List V), Reps R ex H ts xs → Reps R ex' H' ts xs
  | [], _, h => h
  | t :: ts, _, h => by
    obtain ⟨x, r, e, h1, h2⟩ := h
    exact ⟨x, r, e, Rep.mono m t x h1, Reps.mono m ts r h2⟩
theorem RepK.mono (m : Mono ex ex' H H') : ∀ (ts : List (T × T)) (xs : List (Key × V)), RepK R ex H ts xs → RepK R ex' H' ts xs
  | [], _, h => h
  | (k, t) :: ts, _, h => by
    obtain ⟨kk, x, r, e, hk, h1, h2⟩ := h
    exact ⟨kk, x, r, e, hk, Rep.mono m t x h1, RepK.mono m ts r h2⟩
theorem RepTK.mono (m : Mono ex ex' H H') : ∀ (ts : List (T × T)) (xs : List (List Key × V)), RepTK R ex H ts xs → RepTK R ex' H' ts xs
  | [], _, h => h
  | (k, t) :: ts, _, h => by
    obtain ⟨kk, x, r, e, hk, h1, h2⟩ := h
    exact ⟨kk, x, r, e, hk, Rep.mono m t x h1, RepTK.mono m ts r h2⟩
theorem RepF.mono (m : Mono ex ex' H H') : ∀ (ts : List (Str × T)) (xs : List (Str × V)), RepF R ex H ts xs → RepF R ex' H' ts xs
  | [], _, h => h
  | (k, t) :: ts, _, h => by
    obtain ⟨x, r, e, h1, h2⟩ := h
    exact ⟨x, r, e, Rep.mono m t x h1, RepF.mono m ts r h2⟩
end
theorem RepM.mono (m : Mono ex ex' H H') {o : MO} {a : Addr} (ha : ∀ u, H a = some u → H' a = some u) (h : RepM R ex H o a) : RepM R ex' H' o a := by
  cases o with
  | lst ts => obtain ⟨xs, h1, h2⟩ := h; exact ⟨xs, ha _ h1, Reps.mono m ts xs h2⟩
  | dct b kvs =>
    cases b with
    | false => obtain ⟨ks, h1, h2⟩ := h; exact ⟨ks, ha _ h1, RepK.mono m kvs ks h2⟩
    | true => obtain ⟨ks, h1, h2⟩ := h; exact ⟨ks, ha _ h1, RepTK.mono m kvs ks h2⟩
  | ins c fs => obtain ⟨C, dx, vs, hc, h1, h2⟩ := h; exact ⟨C, dx, vs, hc, ha _ h1, RepF.mono m fs vs h2⟩
theorem RepX.mono (m : Mono ex ex' H H') {x : Exc} {cls : Value} {d : Option Addr} (hd : ∀ dx, d = some dx → ¬ ex dx) (h : RepX R ex H x cls d) : RepX R ex' H' x cls d := by
  obtain ⟨C, e, hc, h | ⟨dx, vs, e2, h1, h2⟩⟩ := h
  · exact ⟨C, e, hc, .inl h⟩
  · exact ⟨C, e, hc, .inr ⟨dx, vs, e2, m.k dx _ (hd dx e2) h1 (fun ps z => by cases z), RepF.mono m _ vs h2⟩⟩
end

section
variable {R : RC} {x0 : Addr → Prop} {S S' S2 : List Addr} {μ μ' μ2 : Mu} {H H' H2 : Hp}
theorem getE {α : Type} {l : List α} {n : Nat} (h : n < l.length) : ∃ x, l[n]? = some x := ⟨l[n], List.getElem?_eq_getElem h⟩
theorem ltE {α : Type} {l : List α} {n : Nat} {x : α} (h : l[n]? = some x) : n < l.length := (List.getElem?_eq_some_iff.mp h).1
theorem Go.refl (S : List Addr) (μ : Mu) (H : Hp) : Go S μ H S μ H := ⟨⟨[], by simp, by simp⟩, fun _ _ h => h, fun _ _ h _ _ => h, fun _ h => h⟩
theorem Go.at (g : Go S μ H S' μ' H') {n : Nat} {a : Addr} (h : S[n]? = some a) : S'[n]? = some a := by
  obtain ⟨more, e, _⟩ := g.pre
  rw [e, List.getElem?_append_left (ltE h)]
  exact h
/-- what is live later was live, or is new -/
theorem Go.back (g : Go S μ H S' μ' H') (hl : S.length = μ.length) {n : Nat} {a : Addr} {o : MO} (h : S'[n]? = some a) (hm : μ'[n]? = some (o, true)) : (∃ m, S[n]? = some a ∧ μ[n]? = some (m, true)) ∨ H a = none := by
  obtain ⟨more, e, hn⟩ := g.pre
  by_cases hlt : n < S.length
  · rw [e, List.getElem?_append_left hlt] at h
    obtain ⟨q, hq⟩ := getE (l := μ) (n := n) (by omega)
    obtain ⟨m, b⟩ := q
    cases b with
    | false =>
      have z := g.dead n m hq
      rw [hm] at z
      cases z
    | true => exact .inl ⟨m, h, hq⟩
  · rw [e, List.getElem?_append_right (by omega)] at h
    exact .inr (hn a (List.mem_of_getElem? h))
theorem Go.mono (g : Go S μ H S' μ' H') (hl : S.length = μ.length) : Mono (excl x0 S μ) (excl x0 S' μ') H H' where
  k := fun a o hx h ht => g.keep a o h ht fun n m hs hm => hx (.inr ⟨n, m, hs, hm⟩)
  x := fun a o hx h z => by
    rcases z with z | ⟨n, o', hs, hm⟩
    · exact hx (.inl z)
    · rcases g.back hl hs hm with ⟨m, h1, h2⟩ | h0
      · exact hx (.inr ⟨n, m, h1, h2⟩)
      · rw [h] at h0
        cases h0
theorem Go.trans (g : Go S μ H S' μ' H') (hl : S.length = μ.length) (g2 : Go S' μ' H' S2 μ2 H2) : Go S μ H S2 μ2 H2 where
  pre := by
    obtain ⟨m1, e1, n1⟩ := g.pre
    obtain ⟨m2, e2, n2⟩ := g2.pre
    refine ⟨m1 ++ m2, by rw [e2, e1, List.append_assoc], fun a ha => ?_⟩
    rcases List.mem_append.mp ha with ha | ha
    · exact n1 a ha
    · cases q : H a with
      | none => rfl
      | some o => exact absurd (n2 a ha) (g.there a (by rw [q]; simp))
  dead := fun n o h => g2.dead n o (g.dead n o h)
  keep := fun a o h ht hx => g2.keep a o (g.keep a o h ht hx) ht fun n m hs hm => by
    rcases g.back hl hs hm with ⟨m', h1, h2⟩ | h0
    · exact hx n m' h1 h2
    · rw [h] at h0
      cases h0
  there := fun a h => g2.there a (g.there a h)
theorem Go.grow (g : Grow H H') : Go S μ H S μ H' := ⟨⟨[], by simp, by simp⟩, fun _ _ h => h, fun a o h _ _ => g a o h, fun a h => by
  cases q : H a with
  | none => exact absurd q h
  | some o => rw [g a o q]; simp⟩
theorem Mono.grow {ex : Addr → Prop} (g : Grow H H') (hx : ∀ a, ex a → H a ≠ none) : Mono ex ex H H' := ⟨fun a o _ h _ => g a o h, fun _ _ h _ => h⟩
theorem SOk.live (s : SOk R x0 S μ H) : ∀ a, excl x0 S μ a → H a ≠ none := fun a h => by
  rcases h with h | ⟨n, o, h1, h2⟩
  · exact s.xd a h
  · exact s.sd a (List.mem_of_getElem? h1)
theorem SOk.grow (s : SOk R x0 S μ H) (g : Grow H H') : SOk R x0 S μ H' where
  len := s.len
  nd := s.nd
  xd := fun a h => (Go.grow (S := S) (μ := μ) g).there a (s.xd a h)
  sx := s.sx
  sd := fun a h => (Go.grow (S := S) (μ := μ) g).there a (s.sd a h)
  sh := fun n o h => by
    obtain ⟨a, h1, h2⟩ := s.sh n o h
    exact ⟨a, h1, h2.mono (Mono.grow g s.live) fun u q => g _ _ q⟩
  fz := fun n o h => by
    obtain ⟨a, h1, h2⟩ := s.fz n o h
    exact ⟨a, h1, Rep.mono (Mono.grow g s.live) _ _ h2⟩
  tab := R.tabk H H' s.tab (fun a ps h => g _ _ h) fun a φ h => g _ _ h
end

/-- a value: a tree, or a thing of the store -/
def RepV (R : RC) (ex : Addr → Prop) (S : List Addr) (H : Hp) (t : T) (v : V) : Prop := (∃ n a, t = .sh n ∧ S[n]? = some a ∧ v = .ref a) ∨ Rep R ex H t v
def RepVs (R : RC) (ex : Addr → Prop) (S : List Addr) (H : Hp) : List T → List V → Prop
  | [], xs => xs = []
  | t :: ts, xs => ∃ x r, xs = x :: r ∧ RepV R ex S H t x ∧ RepVs R ex S H ts r
section
variable {R : RC} {ex ex' : Addr → Prop} {S S' : List Addr} {H H' : Hp}
theorem RepV.mono (m : Mono ex ex' H H') (s : ∀ (n : Nat) a, S[n]? = some a → S'[n]? = some a) {t : T} {v : V} (h : RepV R ex S H t v) : RepV R ex' S' H' t v := by
  rcases h with ⟨n, a, e, h1, e2⟩ | h
  · exact .inl ⟨n, a, e, s n a h1, e2⟩
  · exact .inr (Rep.mono m t v h)
theorem RepVs.mono (m : Mono ex ex' H H') (s : ∀ (n : Nat) a, S[n]? = some a → S'[n]? = some a) : ∀ {ts : List T} {vs : List V}, RepVs R ex S H ts vs → RepVs R ex' S' H' ts vs
  | [], _, h => h
  | t :: ts, _, h => by
    obtain ⟨x, r, e, h1, h2⟩ := h
    exact ⟨x, r, e, h1.mono m s, RepVs.mono m s h2⟩
theorem Reps.vs {H : Hp} : ∀ {ts : List T} {vs : List V}, Reps R ex H ts vs → RepVs R ex S H ts vs
  | [], _, h => h
  | t :: ts, _, h => by
    obtain ⟨x, r, e, h1, h2⟩ := h
    exact ⟨x, r, e, .inr h1, Reps.vs h2⟩
end
section
variable {R : RC} {x0 : Addr → Prop} {S S' : List Addr} {μ μ' : Mu} {H H' : Hp}
theorem Go.v (g : Go S μ H S' μ' H') (hl : S.length = μ.length) {t : T} {v : V} (h : RepV R (excl x0 S μ) S H t v) : RepV R (excl x0 S' μ') S' H' t v := h.mono (g.mono hl) fun _ _ h => g.at h
theorem Go.vs (g : Go S μ H S' μ' H') (hl : S.length = μ.length) {t : List T} {v : List V} (h : RepVs R (excl x0 S μ) S H t v) : RepVs R (excl x0 S' μ') S' H' t v := h.mono (g.mono hl) fun _ _ h => g.at h
end

/-- the slots as the environment says -/
structure EnvOk (R : RC) (x0 : Addr → Prop) (S : List Addr) (ρ : Env) (μ : Mu) (σ : L2.St) (H : Hp) : Prop where
  so : SOk R x0 S μ H
  len : ρ.length = σ.length
  vars : ∀ (i : Nat) t, ρ[i]? = some (some t) → ∃ v, σ[i]? = some (some v) ∧ RepV R (excl x0 S μ) S H t v
section
variable {R : RC} {x0 : Addr → Prop} {S S' : List Addr} {ρ : Env} {μ μ' : Mu} {σ : L2.St} {H H' : Hp}
theorem EnvOk.go (e : EnvOk R x0 S ρ μ σ H) (g : Go S μ H S' μ' H') (s : SOk R x0 S' μ' H') : EnvOk R x0 S' ρ μ' σ H' :=
  ⟨s, e.len, fun i t h => let ⟨v, h1, h2⟩ := e.vars i t h; ⟨v, h1, g.v e.so.len h2⟩⟩
end

/-- what follows an expression -/
def Post (R : RC) (W : WX) (x0 : Addr → Prop) (S : List Addr) (μ : Mu) (σ : L2.St) (H : Hp) (Q : VK) : Option (Res T × Mu) → Prop
  | none => False
  | some (.ok t, μ') => ∀ v H', Go S μ H S μ' H' → SOk R x0 S μ' H' → RepV R (excl x0 S μ') S H' t v → Q v H'
  | some (.ex x, μ') => ∀ cls d H', Go S μ H S μ' H' → SOk R x0 S μ' H' → RepX R (excl x0 S μ') H' x cls d → W cls d σ H'
/-- the reading of an expression that means f -/
def tEv (R : RC) (W : WX) (f : Env → M T) : TE := fun σ H Q => ∃ x0 S ρ μ, EnvOk R x0 S ρ μ σ H ∧ Post R W x0 S μ σ H Q (f ρ μ)
/-- .. of an argument list -/
def PostA (R : RC) (W : WX) (x0 : Addr → Prop) (S : List Addr) (μ : Mu) (σ : L2.St) (H : Hp) (Q : List V → Hp → Prop) : Option (Res (List T) × Mu) → Prop
  | none => False
  | some (.ok ts, μ') => ∀ vs H', Go S μ H S μ' H' → SOk R x0 S μ' H' → RepVs R (excl x0 S μ') S H' ts vs → Q vs H'
  | some (.ex x, μ') => ∀ cls d H', Go S μ H S μ' H' → SOk R x0 S μ' H' → RepX R (excl x0 S μ') H' x cls d → W cls d σ H'
def tEvA (R : RC) (W : WX) (f : Env → M (List T)) : TA := fun σ H Q => ∃ x0 S ρ μ, EnvOk R x0 S ρ μ σ H ∧ PostA R W x0 S μ σ H Q (f ρ μ)
/-- .. of a test -/
def PostT (R : RC) (W : WX) (x0 : Addr → Prop) (S : List Addr) (μ : Mu) (σ : L2.St) (H : Hp) (Q : Bool → Hp → Prop) : Option (Res Bool × Mu) → Prop
  | none => False
  | some (.ok b, μ') => ∀ H', Go S μ H S μ' H' → SOk R x0 S μ' H' → Q b H'
  | some (.ex x, μ') => ∀ cls d H', Go S μ H S μ' H' → SOk R x0 S μ' H' → RepX R (excl x0 S μ') H' x cls d → W cls d σ H'
def tEvT (R : RC) (W : WX) (f : Env → M Bool) : TT := fun σ H Q => ∃ x0 S ρ μ, EnvOk R x0 S ρ μ σ H ∧ PostT R W x0 S μ σ H Q (f ρ μ)

theorem _root_.L2.PE.imp {X : Cx} {e : Expr} {t t' : TE} (h : PE X e t) (k : ∀ σ H Q, t' σ H Q → t σ H Q) : PE X e t' := ⟨fun pins s σ H Q I hw => h.run pins s σ H Q I (k σ H Q hw)⟩
theorem _root_.L2.PT.imp {X : Cx} {e : Expr} {t t' : TT} (h : PT X e t) (k : ∀ σ H Q, t' σ H Q → t σ H Q) : PT X e t' := ⟨fun pins s σ H Q I hw => h.run pins s σ H Q I (k σ H Q hw)⟩
theorem _root_.L2.PW.imp {X : Cx} {e : Expr} {t t' : TT} (h : PW X e t) (k : ∀ σ H Q, t' σ H Q → t σ H Q) : PW X e t' := ⟨fun wh pins s σ H Q I hw => h.run wh pins s σ H Q I (k σ H Q hw)⟩
theorem _root_.L2.PA.imp {X : Cx} {e : List Expr} {t t' : TA} (h : PA X e t) (k : ∀ σ H Q, t' σ H Q → t σ H Q) : PA X e t' := ⟨fun pos pins s σ H Q I hw => h.run pos pins s σ H Q I (k σ H Q hw)⟩
theorem _root_.L2.PS.imp {X : Cx} {e : Stmt} {t t' : TS} (h : PS X e t) (k : ∀ D σ H, t' D σ H → t D σ H) : PS X e t' := ⟨fun pins s σ H D I hw => h.run pins s σ H D I (k D σ H hw)⟩
theorem _root_.L2.PSs.imp {X : Cx} {e : List Stmt} {t t' : TS} (h : PSs X e t) (k : ∀ D σ H, t' D σ H → t D σ H) : PSs X e t' := ⟨fun pins s σ H D I hw => h.run pins s σ H D I (k D σ H hw)⟩

end TL

set_option maxHeartbeats 4000000
namespace TL
open PySem PySem.Spec PyProof.Rows L2

/-! ### the store looked at, things kept -/
def look (μ : Mu) : T → Option T
  | .sh n => match μ[n]? with
    | some (o, _) => some o.t
    | none => none
  | t => some t
def looks (μ : Mu) : List T → Option (List T)
  | [] => some []
  | t :: r => match look μ t, looks μ r with
    | some x, some xs => some (x :: xs)
    | _, _ => none
def frz (μ : Mu) (n : Nat) : Mu := μ.modify n fun p => (p.1, false)
/-- what is put somewhere is written no more (the first P of the store are shared: they are put nowhere) -/
def keepT (P : Nat) : T → M T
  | .sh n => fun μ => if n < P then none else match look μ (.sh n) with
    | some t => some (.ok t, frz μ n)
    | none => none
  | t => M.ret t
def keepTs (P : Nat) : List T → M (List T)
  | [] => M.ret []
  | t :: r => (keepT P t).bind fun x => (keepTs P r).bind fun xs => M.ret (x :: xs)
/-- an argument: the first p are handed on -/
def keepA (q p : Nat) : T → M T
  | .sh n => fun μ => if n < p then some (.ok (.sh n), μ) else keepT q (.sh n) μ
  | t => M.ret t
def keepAs (q p : Nat) : List T → M (List T)
  | [] => M.ret []
  | t :: r => (keepA q p t).bind fun x => (keepAs q p r).bind fun xs => M.ret (x :: xs)

section
variable {R : RC} {W : WX} {x0 : Addr → Prop} {S S' : List Addr} {ρ : Env} {μ μ' μ1 : Mu} {σ : L2.St} {H H' H1 : Hp} {t : T} {v : V}
theorem Rep.sqt {ex : Addr → Prop} {ts : List T} (h : Rep R ex H (.tup ts) v) : ∃ a xs, v = .ref a ∧ SqT R.K H a xs ∧ Reps R ex H ts xs := by
  obtain ⟨a, xs, e, _, h1, h2⟩ := h
  exact ⟨a, xs, e, .inl (.inl h1), h2⟩
theorem Rep.sqw {ex : Addr → Prop} {ts : List T} (h : Rep R ex H (.wt ts) v) : ∃ a xs, v = .ref a ∧ SqT R.K H a xs ∧ Reps R ex H ts xs := by
  obtain ⟨a, xs, e, h1, h2⟩ := h
  rcases h1 with ⟨o, its, n, q1, _, q2⟩ | ⟨_, o, _, h1⟩
  · exact ⟨a, xs, e, .inr ⟨o, its, n, q1, q2⟩, h2⟩
  · exact ⟨a, xs, e, .inl (.inr ⟨o, h1⟩), h2⟩
theorem Rep.top {ex : Addr → Prop} (h : Rep R ex H t v) : RepTop R ex H t v := by
  cases t with
  | lst ts => obtain ⟨a, xs, e, _, h1, h2⟩ := h; exact ⟨a, xs, e, h1, h2⟩
  | tup ts => exact h
  | wt ts => exact h
  | dct tk kvs => obtain ⟨a, e, _, h1⟩ := h; exact ⟨a, e, h1⟩
  | ins c fs => obtain ⟨a, C, dx, vs, e, _, hc, h1, h2⟩ := h; exact ⟨a, C, dx, vs, e, hc, h1, h2⟩
  | sh n => exact h
  | non => exact h
  | bl b => exact h
  | int i => exact h
  | str s => exact h
theorem look_tree {ex : Addr → Prop} (h : Rep R ex H t v) : look μ t = some t := by
  cases t with
  | sh n => exact False.elim h
  | _ => rfl
theorem look_sh {n : Nat} {t' : T} (e : look μ (.sh n) = some t') : ∃ o b, μ[n]? = some (o, b) ∧ t' = o.t := by
  simp only [look] at e
  match q : μ[n]? with
  | none => rw [q] at e; cases e
  | some (o, b) => rw [q] at e; cases e; exact ⟨o, b, rfl, rfl⟩
theorem RepM.top {ex : Addr → Prop} {o : MO} {a : Addr} (h : RepM R ex H o a) : RepTop R ex H o.t (.ref a) := by
  cases o with
  | lst ts => obtain ⟨xs, h3, h4⟩ := h; exact ⟨a, xs, rfl, h3, h4⟩
  | dct b kvs =>
    cases b with
    | false => obtain ⟨ks, h1, h2⟩ := h; exact ⟨a, rfl, .inl ⟨rfl, ks, .inl h1, h2⟩⟩
    | true => obtain ⟨ks, h1, h2⟩ := h; exact ⟨a, rfl, .inr ⟨rfl, ks, .inl h1, h2⟩⟩
  | ins c fs => obtain ⟨C, dx, vs, hc, h3, h4⟩ := h; exact ⟨a, C, dx, vs, rfl, hc, h3, h4⟩
theorem RepM.rep {ex : Addr → Prop} {o : MO} {a : Addr} (h : RepM R ex H o a) (nx : ¬ ex a) : Rep R ex H o.t (.ref a) := by
  cases o with
  | lst ts => obtain ⟨xs, h3, h4⟩ := h; exact ⟨a, xs, rfl, nx, h3, h4⟩
  | dct b kvs =>
    cases b with
    | false => obtain ⟨ks, h1, h2⟩ := h; exact ⟨a, rfl, nx, .inl ⟨rfl, ks, .inl h1, h2⟩⟩
    | true => obtain ⟨ks, h1, h2⟩ := h; exact ⟨a, rfl, nx, .inr ⟨rfl, ks, .inl h1, h2⟩⟩
  | ins c fs => obtain ⟨C, dx, vs, hc, h3, h4⟩ := h; exact ⟨a, C, dx, vs, rfl, nx, hc, h3, h4⟩
theorem RepM.at {ex : Addr → Prop} {o : MO} {a : Addr} (h : RepM R ex H o a) : ∃ u, H a = some u ∧ ∀ ps, u ≠ .tbl ps := by
  cases o with
  | lst ts => obtain ⟨xs, h3, h4⟩ := h; exact ⟨_, h3, fun ps z => by cases z⟩
  | dct b kvs =>
    cases b with
    | false => obtain ⟨ks, h, _⟩ := h; exact ⟨_, h, fun ps z => by cases z⟩
    | true => obtain ⟨ks, h, _⟩ := h; exact ⟨_, h, fun ps z => by cases z⟩
  | ins c fs => obtain ⟨C, dx, vs, hc, h3, h4⟩ := h; exact ⟨_, h3, fun ps z => by cases z⟩
theorem look_rep {t' : T} (s : SOk R x0 S μ H) (h : RepV R (excl x0 S μ) S H t v) (e : look μ t = some t') : RepTop R (excl x0 S μ) H t' v := by
  rcases h with ⟨n, a, rfl, h1, rfl⟩ | h
  · obtain ⟨o, b, hm, rfl⟩ := look_sh e
    cases b with
    | true =>
      obtain ⟨a', h2, h3⟩ := s.sh n _ hm
      rw [h1] at h2
      cases h2
      exact h3.top
    | false =>
      obtain ⟨a', h2, h3⟩ := s.fz n _ hm
      rw [h1] at h2
      cases h2
      exact h3.top
  · rw [look_tree h] at e
    cases e
    exact h.top
def RepTops (R : RC) (ex : Addr → Prop) (H : Hp) : List T → List V → Prop
  | [], xs => xs = []
  | t :: ts, xs => ∃ x r, xs = x :: r ∧ RepTop R ex H t x ∧ RepTops R ex H ts r
theorem looks_rep (s : SOk R x0 S μ H) : ∀ {ts ts' : List T} {vs : List V}, RepVs R (excl x0 S μ) S H ts vs → looks μ ts = some ts' → RepTops R (excl x0 S μ) H ts' vs
  | [], ts', vs, h, e => by cases e; exact h
  | t :: r, ts', vs, h, e => by
    obtain ⟨x, xr, rfl, h1, h2⟩ := h
    unfold looks at e
    split at e
    · rename_i y ys e1 e2
      cases e
      exact ⟨x, xr, rfl, look_rep s h1 e1, looks_rep s h2 e2⟩
    · cases e
theorem frz_get {n m : Nat} : (frz μ n)[m]? = if n = m then (μ[m]?).map (fun p => (p.1, false)) else μ[m]? := by
  unfold frz
  rw [List.getElem?_modify]
  by_cases e : n = m
  · simp only [if_pos e]
    rfl
  · simp only [if_neg e]
    cases μ[m]? <;> rfl
theorem frz_live {n m : Nat} {o : MO} (h : (frz μ n)[m]? = some (o, true)) : n ≠ m ∧ μ[m]? = some (o, true) := by
  rw [frz_get] at h
  by_cases e : n = m
  · rw [if_pos e] at h
    cases q : μ[m]? with
    | none => rw [q] at h; cases h
    | some z => rw [q] at h; cases h
  · rw [if_neg e] at h
    exact ⟨e, h⟩
theorem frz_len {n : Nat} : (frz μ n).length = μ.length := List.length_modify ..
theorem exclW {a : Addr} {n : Nat} (h : excl x0 S (frz μ n) a) : excl x0 S μ a := by
  rcases h with h | ⟨m, o, h1, h2⟩
  · exact .inl h
  · exact .inr ⟨m, o, h1, (frz_live h2).2⟩
theorem exclN {a : Addr} {n : Nat} {o : MO} (s : SOk R x0 S μ H) (h1 : S[n]? = some a) (ho : μ[n]? = some (o, true)) : ¬ excl x0 S (frz μ n) a := by
  rintro (h | ⟨m, o, h2, h3⟩)
  · exact s.sx n a _ h1 ho h
  · exact (frz_live h3).1 (nd_ix s.nd h1 h2)
theorem Mono.drop {n : Nat} : Mono (excl x0 S μ) (excl x0 S (frz μ n)) H H := ⟨fun _ _ _ h _ => h, fun a o hx _ z => hx (exclW z)⟩
theorem SOk.drop {n : Nat} (s : SOk R x0 S μ H) : SOk R x0 S (frz μ n) H where
  len := by rw [frz_len]; exact s.len
  nd := s.nd
  xd := s.xd
  sx := fun m a o h1 h2 => s.sx m a o h1 (frz_live h2).2
  sd := s.sd
  sh := fun m o h => by
    obtain ⟨a, h1, h2⟩ := s.sh m o (frz_live h).2
    exact ⟨a, h1, h2.mono Mono.drop fun _ q => q⟩
  fz := fun m o h => by
    have e := h
    rw [frz_get] at e
    by_cases q : n = m
    · rw [if_pos q] at e
      cases z : μ[m]? with
      | none => rw [z] at e; cases e
      | some p =>
        obtain ⟨o', b⟩ := p
        rw [z] at e
        cases e
        cases b with
        | true =>
          obtain ⟨a, h1, h2⟩ := s.sh m _ z
          subst q
          exact ⟨a, h1, RepM.rep (RepM.mono Mono.drop (fun _ q => q) h2) (exclN s h1 z)⟩
        | false =>
          obtain ⟨a, h1, h2⟩ := s.fz m _ z
          exact ⟨a, h1, Rep.mono (Mono.drop (n := n)) _ _ h2⟩
    · rw [if_neg q] at e
      obtain ⟨a, h1, h2⟩ := s.fz m o e
      exact ⟨a, h1, Rep.mono (Mono.drop (n := n)) _ _ h2⟩
  tab := s.tab
theorem Go.drop {n : Nat} : Go S μ H S (frz μ n) H where
  pre := ⟨[], by simp, by simp⟩
  dead := fun m o h => by
    rw [frz_get]
    by_cases e : n = m
    · rw [if_pos e, h]
      rfl
    · rw [if_neg e]
      exact h
  keep := fun _ _ h _ _ => h
  there := fun _ h => h
theorem keep_ok {P : Nat} (s : SOk R x0 S μ H) (h : RepV R (excl x0 S μ) S H t v) : keepT P t μ = none ∨ (keepT P t μ = some (.ok t, μ) ∧ Rep R (excl x0 S μ) H t v) ∨ ∃ t' n, keepT P t μ = some (.ok t', frz μ n) ∧ Rep R (excl x0 S (frz μ n)) H t' v := by
  rcases h with ⟨n, a, rfl, h1, rfl⟩ | h
  · have ek : keepT P (.sh n) μ = if n < P then none else match look μ (.sh n) with
      | some t => some (.ok t, frz μ n)
      | none => none := rfl
    rw [ek]
    by_cases hp : n < P
    · rw [if_pos hp]
      exact .inl rfl
    · rw [if_neg hp]
      cases q : look μ (.sh n) with
      | none => exact .inl rfl
      | some t' =>
        refine .inr (.inr ⟨t', n, rfl, ?_⟩)
        obtain ⟨o, b, hm, rfl⟩ := look_sh q
        have hf : (frz μ n)[n]? = some (o, false) := by rw [frz_get, if_pos rfl, hm]; rfl
        obtain ⟨a', h2, h3⟩ := s.drop.fz n o hf
        rw [h1] at h2
        cases h2
        exact h3
  · refine .inr (.inl ⟨?_, h⟩)
    cases t with
    | sh n => exact False.elim h
    | _ => rfl

/-! ### one after another -/
theorem Post.shift {Q : VK} {r : Option (Res T × Mu)} (g : Go S μ H S μ1 H1) (hl : S.length = μ.length) (h : Post R W x0 S μ σ H Q r) : Post R W x0 S μ1 σ H1 Q r := by
  match r, h with
  | some (.ok t, μ'), h => exact fun v H' g' s' r' => h v H' (g.trans hl g') s' r'
  | some (.ex x, μ'), h => exact fun cls d H' g' s' r' => h cls d H' (g.trans hl g') s' r'
theorem PostA.shift {Q : List V → Hp → Prop} {r : Option (Res (List T) × Mu)} (g : Go S μ H S μ1 H1) (hl : S.length = μ.length) (h : PostA R W x0 S μ σ H Q r) : PostA R W x0 S μ1 σ H1 Q r := by
  match r, h with
  | some (.ok t, μ'), h => exact fun v H' g' s' r' => h v H' (g.trans hl g') s' r'
  | some (.ex x, μ'), h => exact fun cls d H' g' s' r' => h cls d H' (g.trans hl g') s' r'
theorem PostT.shift {Q : Bool → Hp → Prop} {r : Option (Res Bool × Mu)} (g : Go S μ H S μ1 H1) (hl : S.length = μ.length) (h : PostT R W x0 S μ σ H Q r) : PostT R W x0 S μ1 σ H1 Q r := by
  match r, h with
  | some (.ok t, μ'), h => exact fun H' g' s' => h H' (g.trans hl g') s'
  | some (.ex x, μ'), h => exact fun cls d H' g' s' r' => h cls d H' (g.trans hl g') s' r'
/-- an ending of any kind, with its own way to be moved on -/
class Ending (α : Type) (P : (Addr → Prop) → List Addr → Mu → Hp → Option (Res α × Mu) → Prop) (R : outParam RC) (W : outParam WX) (σ : outParam L2.St) : Prop where
  none : ∀ x0 S μ H, ¬ P x0 S μ H none
  ex : ∀ x0 S μ H x μ', P x0 S μ H (some (.ex x, μ')) → ∀ cls d H', Go S μ H S μ' H' → SOk R x0 S μ' H' → RepX R (excl x0 S μ') H' x cls d → W cls d σ H'
  shift : ∀ x0 S μ H μ1 H1 r, Go S μ H S μ1 H1 → S.length = μ.length → P x0 S μ H r → P x0 S μ1 H1 r
instance endE {Q : VK} : Ending T (fun x0 S μ H r => Post R W x0 S μ σ H Q r) R W σ := ⟨fun _ _ _ _ h => h, fun _ _ _ _ _ _ h => h, fun _ _ _ _ _ _ _ g hl h => Post.shift g hl h⟩
instance endA {Q : List V → Hp → Prop} : Ending (List T) (fun x0 S μ H r => PostA R W x0 S μ σ H Q r) R W σ := ⟨fun _ _ _ _ h => h, fun _ _ _ _ _ _ h => h, fun _ _ _ _ _ _ _ g hl h => PostA.shift g hl h⟩
instance endT {Q : Bool → Hp → Prop} : Ending Bool (fun x0 S μ H r => PostT R W x0 S μ σ H Q r) R W σ := ⟨fun _ _ _ _ h => h, fun _ _ _ _ _ _ h => h, fun _ _ _ _ _ _ _ g hl h => PostT.shift g hl h⟩
/-- an expression, then more -/
theorem Post.bind {α : Type} {P : (Addr → Prop) → List Addr → Mu → Hp → Option (Res α × Mu) → Prop} [E : Ending α P R W σ] {m : M T} {k : T → M α} (e : EnvOk R x0 S ρ μ σ H) (h : P x0 S μ H (M.bind m k μ)) :
    Post R W x0 S μ σ H (fun v H1 => ∃ t μ1, Go S μ H S μ1 H1 ∧ EnvOk R x0 S ρ μ1 σ H1 ∧ RepV R (excl x0 S μ1) S H1 t v ∧ P x0 S μ1 H1 (k t μ1)) (m μ) := by
  unfold M.bind at h
  match q : m μ with
  | none => rw [q] at h; exact E.none _ _ _ _ h
  | some (.ok t, μ1) =>
    rw [q] at h
    exact fun v H1 g s r => ⟨t, μ1, g, e.go g s, r, E.shift _ _ _ _ _ _ _ g e.so.len h⟩
  | some (.ex x, μ1) =>
    rw [q] at h
    exact E.ex _ _ _ _ _ _ h
theorem PostA.bind {α : Type} {P : (Addr → Prop) → List Addr → Mu → Hp → Option (Res α × Mu) → Prop} [E : Ending α P R W σ] {m : M (List T)} {k : List T → M α} (e : EnvOk R x0 S ρ μ σ H) (h : P x0 S μ H (M.bind m k μ)) :
    PostA R W x0 S μ σ H (fun v H1 => ∃ t μ1, Go S μ H S μ1 H1 ∧ EnvOk R x0 S ρ μ1 σ H1 ∧ RepVs R (excl x0 S μ1) S H1 t v ∧ P x0 S μ1 H1 (k t μ1)) (m μ) := by
  unfold M.bind at h
  match q : m μ with
  | none => rw [q] at h; exact E.none _ _ _ _ h
  | some (.ok t, μ1) =>
    rw [q] at h
    exact fun v H1 g s r => ⟨t, μ1, g, e.go g s, r, E.shift _ _ _ _ _ _ _ g e.so.len h⟩
  | some (.ex x, μ1) =>
    rw [q] at h
    exact E.ex _ _ _ _ _ _ h
theorem PostT.bind {α : Type} {P : (Addr → Prop) → List Addr → Mu → Hp → Option (Res α × Mu) → Prop} [E : Ending α P R W σ] {m : M Bool} {k : Bool → M α} (e : EnvOk R x0 S ρ μ σ H) (h : P x0 S μ H (M.bind m k μ)) :
    PostT R W x0 S μ σ H (fun b H1 => ∃ μ1, Go S μ H S μ1 H1 ∧ EnvOk R x0 S ρ μ1 σ H1 ∧ P x0 S μ1 H1 (k b μ1)) (m μ) := by
  unfold M.bind at h
  match q : m μ with
  | none => rw [q] at h; exact E.none _ _ _ _ h
  | some (.ok t, μ1) =>
    rw [q] at h
    exact fun H1 g s => ⟨μ1, g, e.go g s, E.shift _ _ _ _ _ _ _ g e.so.len h⟩
  | some (.ex x, μ1) =>
    rw [q] at h
    exact E.ex _ _ _ _ _ _ h
/-- what is kept: the state moves on -/
theorem keep_bind {α : Type} {P : (Addr → Prop) → List Addr → Mu → Hp → Option (Res α × Mu) → Prop} [E : Ending α P R W σ] {p : Nat} {k : T → M α} (e : EnvOk R x0 S ρ μ σ H) (r : RepV R (excl x0 S μ) S H t v) (h : P x0 S μ H (M.bind (keepT p t) k μ)) :
    ∃ t' μ1, Go S μ H S μ1 H ∧ EnvOk R x0 S ρ μ1 σ H ∧ Rep R (excl x0 S μ1) H t' v ∧ P x0 S μ1 H (k t' μ1) := by
  unfold M.bind at h
  rcases keep_ok (P := p) e.so r with q | ⟨q, r'⟩ | ⟨t', n, q, r'⟩
  · rw [q] at h
    exact (E.none _ _ _ _ h).elim
  · rw [q] at h
    exact ⟨_, μ, Go.refl _ _ _, e, r', h⟩
  · rw [q] at h
    exact ⟨t', _, Go.drop, e.go Go.drop e.so.drop, r', E.shift _ _ _ _ _ _ _ Go.drop e.so.len h⟩
theorem keepA_bind {α : Type} {P : (Addr → Prop) → List Addr → Mu → Hp → Option (Res α × Mu) → Prop} [E : Ending α P R W σ] {q p : Nat} {k : T → M α} (e : EnvOk R x0 S ρ μ σ H) (r : RepV R (excl x0 S μ) S H t v) (h : P x0 S μ H (M.bind (keepA q p t) k μ)) :
    ∃ t' μ1, Go S μ H S μ1 H ∧ EnvOk R x0 S ρ μ1 σ H ∧ ((∃ n a, n < p ∧ t' = .sh n ∧ S[n]? = some a ∧ v = .ref a) ∨ Rep R (excl x0 S μ1) H t' v) ∧ P x0 S μ1 H (k t' μ1) := by
  by_cases hs : ∃ n, n < p ∧ t = .sh n
  · obtain ⟨n, hn, rfl⟩ := hs
    have e1 : keepA q p (.sh n) μ = some (.ok (.sh n), μ) := by
      show (if n < p then some (Res.ok (T.sh n), μ) else _) = _
      rw [if_pos hn]
    unfold M.bind at h
    rw [e1] at h
    rcases r with ⟨m, a, e2, h1, h2⟩ | r
    · cases e2
      exact ⟨_, μ, Go.refl _ _ _, e, .inl ⟨n, a, hn, rfl, h1, h2⟩, h⟩
    · exact False.elim r
  · have e1 : keepA q p t μ = keepT q t μ := by
      cases t with
      | sh n =>
        show (if n < p then some (Res.ok (T.sh n), μ) else _) = _
        rw [if_neg (fun z => hs ⟨n, z, rfl⟩)]
      | _ => rfl
    have h' : P x0 S μ H (M.bind (keepT q t) k μ) := by
      unfold M.bind at h ⊢
      rw [e1] at h
      exact h
    obtain ⟨t', μ1, g, e2, r2, h2⟩ := keep_bind e r h'
    exact ⟨t', μ1, g, e2, .inr r2, h2⟩
theorem M.bind_assoc {α β γ : Type} (m : M α) (f : α → M β) (g : β → M γ) : M.bind (M.bind m f) g = M.bind m fun x => M.bind (f x) g := by
  funext μ
  unfold M.bind
  cases h : m μ with
  | none => rfl
  | some q => obtain ⟨r, μ'⟩ := q; cases r <;> rfl
theorem keeps_bind {α : Type} {P : (Addr → Prop) → List Addr → Mu → Hp → Option (Res α × Mu) → Prop} [E : Ending α P R W σ] {p : Nat} : ∀ {ts : List T} {vs : List V} {μ : Mu} {k : List T → M α}, EnvOk R x0 S ρ μ σ H → RepVs R (excl x0 S μ) S H ts vs → P x0 S μ H (M.bind (keepTs p ts) k μ) →
    ∃ ts' μ1, Go S μ H S μ1 H ∧ EnvOk R x0 S ρ μ1 σ H ∧ Reps R (excl x0 S μ1) H ts' vs ∧ P x0 S μ1 H (k ts' μ1)
  | [], vs, μ, k, e, r, h => ⟨[], μ, Go.refl _ _ _, e, r, h⟩
  | t :: ts, vs, μ, k, e, r, h => by
    obtain ⟨x, xr, rfl, r1, r2⟩ := r
    unfold keepTs at h
    rw [M.bind_assoc] at h
    obtain ⟨t', μ1, g1, e1, q1, h1⟩ := keep_bind e r1 h
    rw [M.bind_assoc] at h1
    obtain ⟨ts', μ2, g2, e2, q2, h2⟩ := keeps_bind e1 (g1.vs e.so.len r2) h1
    exact ⟨t' :: ts', μ2, g1.trans e.so.len g2, e2, ⟨x, xr, rfl, Rep.mono (g2.mono e1.so.len) _ _ q1, q2⟩, h2⟩
/-- arguments: the first p of the store, or trees -/
def ArgOk (R : RC) (ex : Addr → Prop) (S : List Addr) (p : Nat) (H : Hp) (t : T) (v : V) : Prop := (∃ n a, n < p ∧ t = .sh n ∧ S[n]? = some a ∧ v = .ref a) ∨ Rep R ex H t v
def ArgsOk (R : RC) (ex : Addr → Prop) (S : List Addr) (p : Nat) (H : Hp) : List T → List V → Prop
  | [], xs => xs = []
  | t :: ts, xs => ∃ x r, xs = x :: r ∧ ArgOk R ex S p H t x ∧ ArgsOk R ex S p H ts r
theorem keepAs_bind {α : Type} {P : (Addr → Prop) → List Addr → Mu → Hp → Option (Res α × Mu) → Prop} [E : Ending α P R W σ] {q p : Nat} : ∀ {ts : List T} {vs : List V} {μ : Mu} {k : List T → M α}, EnvOk R x0 S ρ μ σ H → RepVs R (excl x0 S μ) S H ts vs → P x0 S μ H (M.bind (keepAs q p ts) k μ) →
    ∃ ts' μ1, Go S μ H S μ1 H ∧ EnvOk R x0 S ρ μ1 σ H ∧ ArgsOk R (excl x0 S μ1) S p H ts' vs ∧ P x0 S μ1 H (k ts' μ1)
  | [], vs, μ, k, e, r, h => ⟨[], μ, Go.refl _ _ _, e, r, h⟩
  | t :: ts, vs, μ, k, e, r, h => by
    obtain ⟨x, xr, rfl, r1, r2⟩ := r
    unfold keepAs at h
    rw [M.bind_assoc] at h
    obtain ⟨t', μ1, g1, e1, q1, h1⟩ := keepA_bind e r1 h
    rw [M.bind_assoc] at h1
    obtain ⟨ts', μ2, g2, e2, q2, h2⟩ := keepAs_bind e1 (g1.vs e.so.len r2) h1
    refine ⟨t' :: ts', μ2, g1.trans e.so.len g2, e2, ⟨x, xr, rfl, ?_, q2⟩, h2⟩
    rcases q1 with q1 | q1
    · exact .inl q1
    · exact .inr (Rep.mono (g2.mono e1.so.len) _ _ q1)
end
end TL

set_option maxHeartbeats 4000000
namespace TL
open PySem PySem.Spec PyProof.Rows L2

abbrev JE (X : Cx) (R : RC) (W : WX) (e : Expr) (f : Env → M T) : Prop := PE X e (tEv R W f)
abbrev JA (X : Cx) (R : RC) (W : WX) (es : List Expr) (f : Env → M (List T)) : Prop := PA X es (tEvA R W f)
abbrev JT (X : Cx) (R : RC) (W : WX) (e : Expr) (f : Env → M Bool) : Prop := PT X e (tEvT R W f)
abbrev JW (X : Cx) (R : RC) (W : WX) (e : Expr) (f : Env → M Bool) : Prop := PW X e (tEvT R W f)

/-! ### meanings -/
def mVar (i : Nat) : Env → M T := fun ρ => match ρ[i]? with
  | some (some t) => M.ret t
  | _ => M.stuck
def mCst (t : T) : Env → M T := fun _ => M.ret t
def op1 (f : T → Option T) (x : T) : M T := fun μ => match look μ x with
  | some a => M.opt (f a) μ
  | none => none
def op2 (f : T → T → Option T) (x y : T) : M T := fun μ => match look μ x, look μ y with
  | some a, some b => M.opt (f a b) μ
  | _, _ => none
def opN (f : List T → Option T) (xs : List T) : M T := fun μ => match looks μ xs with
  | some as => M.opt (f as) μ
  | none => none
def mUn (f : T → Option T) (fa : Env → M T) : Env → M T := fun ρ => (fa ρ).bind fun x => op1 f x
def mBin (f : T → T → Option T) (fa fb : Env → M T) : Env → M T := fun ρ => (fa ρ).bind fun x => (fb ρ).bind fun y => op2 f x y
def asB (fa : Env → M T) : Env → M Bool := fun ρ => (fa ρ).bind fun t => match t with
  | .bl b => M.ret b
  | _ => M.stuck
def toB (fa : Env → M Bool) : Env → M T := fun ρ => fun μ => match fa ρ μ with
  | none => none
  | some (.ok b, μ') => some (.ok (.bl b), μ')
  | some (.ex x, μ') => some (.ex x, μ')
/-- a op b op' c -/
def mChain (f g : T → T → Option T) (fa fb fc : Env → M T) : Env → M T := fun ρ => (fa ρ).bind fun x => (fb ρ).bind fun y => (op2 f x y).bind fun b => match b with
  | .bl true => (fc ρ).bind fun z => op2 g y z
  | .bl false => M.ret (.bl false)
  | _ => M.stuck
def mAndT (fa fb : Env → M Bool) : Env → M Bool := fun ρ => (fa ρ).bind fun b => if b = true then fb ρ else M.ret false
def mOrT (fa fb : Env → M Bool) : Env → M Bool := fun ρ => (fa ρ).bind fun b => if b = true then M.ret true else fb ρ
def mNotT (fa : Env → M Bool) : Env → M Bool := fun ρ => (fa ρ).bind fun b => M.ret (!b)
def mAnd (fa fb : Env → M T) : Env → M T := fun ρ => (fa ρ).bind fun t => match t with
  | .bl true => fb ρ
  | .bl false => M.ret (.bl false)
  | _ => M.stuck
def mOr (fa fb : Env → M T) : Env → M T := fun ρ => (fa ρ).bind fun t => match t with
  | .bl true => M.ret (.bl true)
  | .bl false => fb ρ
  | _ => M.stuck
def mNot (fa : Env → M T) : Env → M T := fun ρ => (fa ρ).bind fun t => match t with
  | .bl b => M.ret (.bl (!b))
  | _ => M.stuck
def mIte (fc : Env → M Bool) (fa fb : Env → M T) : Env → M T := fun ρ => (fc ρ).bind fun b => if b = true then fa ρ else fb ρ
def mNil : Env → M (List T) := fun _ => M.ret []
def mCons (fa : Env → M T) (fr : Env → M (List T)) : Env → M (List T) := fun ρ => (fa ρ).bind fun x => (fr ρ).bind fun xs => M.ret (x :: xs)
def mTup (P : Nat) (fs : Env → M (List T)) : Env → M T := fun ρ => (fs ρ).bind fun xs => (keepTs P xs).bind fun ys => M.opt (if ys.length ≤ 1000 then some (.tup ys) else none)
def mLst (P : Nat) (fs : Env → M (List T)) : Env → M T := fun ρ => (fs ρ).bind fun xs => (keepTs P xs).bind fun ys => M.opt (if ys.length ≤ 1000 then some (.lst ys) else none)
def mCB (f : List T → Option T) (fs : Env → M (List T)) : Env → M T := fun ρ => (fs ρ).bind fun xs => opN f xs
def mBM (f : T → List T → Option T) (fo : Env → M T) (fs : Env → M (List T)) : Env → M T := fun ρ => (fo ρ).bind fun x => (fs ρ).bind fun xs => fun μ => match look μ x, looks μ xs with
  | some a, some as => M.opt (f a as) μ
  | _, _ => none
def lookF (f : Str) : List (Str × T) → Option T
  | [] => none
  | (g, t) :: r => if g = f then some t else lookF f r
def fldT (f : Str) : T → Option T
  | .ins _ fs => lookF f fs
  | _ => none
/-- truth -/
def truT : T → Option Bool
  | .non => some false
  | .bl b => some b
  | .int i => some (i != 0)
  | .str s => if s.length ≤ 1000000 then some (s.length != 0) else none
  | .lst ts => some (!ts.isEmpty)
  | .tup ts => some (!ts.isEmpty)
  | _ => none
def mTru (fa : Env → M T) : Env → M Bool := fun ρ => (fa ρ).bind fun x => fun μ => match look μ x with
  | some a => M.opt (truT a) μ
  | none => none

/-! ### what operations by values must do -/
section
variable (R : RC)
def rOp1 (f : T → Option T) : V → Hp → VK → Prop := fun x H Q => ∃ ex tx t, (∀ a, ex a → H a ≠ none) ∧ RepTop R ex H tx x ∧ f tx = some t ∧ ∀ v H', Grow H H' → Rep R ex H' t v → Q v H'
def rOp2 (f : T → T → Option T) : R2 := fun x y H Q => ∃ ex tx ty t, (∀ a, ex a → H a ≠ none) ∧ RepTop R ex H tx x ∧ RepTop R ex H ty y ∧ f tx ty = some t ∧ ∀ v H', Grow H H' → Rep R ex H' t v → Q v H'
def rOpN (f : List T → Option T) : List V → Hp → VK → Prop := fun xs H Q => ∃ ex ts t, (∀ a, ex a → H a ≠ none) ∧ RepTops R ex H ts xs ∧ f ts = some t ∧ ∀ v H', Grow H H' → Rep R ex H' t v → Q v H'
def rOpM (f : T → List T → Option T) : V → List V → Hp → VK → Prop := fun x xs H Q => ∃ ex tx ts t, (∀ a, ex a → H a ≠ none) ∧ RepTop R ex H tx x ∧ RepTops R ex H ts xs ∧ f tx ts = some t ∧ ∀ v H', Grow H H' → Rep R ex H' t v → Q v H'
end

section
variable {X : Cx} {R : RC} {W : WX} {x0 : Addr → Prop} {S S' : List Addr} {ρ : Env} {μ μ' μ1 : Mu} {σ : L2.St} {H H' H1 : Hp} {t : T} {v : V} {Q : VK}
theorem RepV.bl {ex : Addr → Prop} {b : Bool} (r : RepV R ex S H (.bl b) v) : v = .bl b := by
  rcases r with ⟨_, _, e, _⟩ | r
  · cases e
  · exact r
theorem RepV.int {ex : Addr → Prop} {b : Int} (r : RepV R ex S H (.int b) v) : v = .int b := by
  rcases r with ⟨_, _, e, _⟩ | r
  · cases e
  · exact r
theorem ret_ok (e : EnvOk R x0 S ρ μ σ H) (r : RepV R (excl x0 S μ) S H t v) (h : Post R W x0 S μ σ H Q (M.ret t μ)) : Q v H := h v H (Go.refl _ _ _) e.so r
theorem opt_ok {o : Option T} (e : EnvOk R x0 S ρ μ σ H) (h : Post R W x0 S μ σ H Q (M.opt o μ)) : ∃ t, o = some t ∧ ∀ v H', Grow H H' → Rep R (excl x0 S μ) H' t v → Q v H' := by
  unfold M.opt at h
  cases o with
  | none => exact h.elim
  | some t => exact ⟨t, rfl, fun v H' g r => h v H' (Go.grow g) (e.so.grow g) (.inr r)⟩
theorem op1_ok {f : T → Option T} {x : V} {tx : T} (e : EnvOk R x0 S ρ μ σ H) (r : RepV R (excl x0 S μ) S H tx x) (h : Post R W x0 S μ σ H Q (op1 f tx μ)) : rOp1 R f x H Q := by
  unfold op1 at h
  cases q : look μ tx with
  | none => rw [q] at h; exact h.elim
  | some a =>
    rw [q] at h
    obtain ⟨t, e1, k⟩ := opt_ok e h
    exact ⟨_, a, t, e.so.live, look_rep e.so r q, e1, k⟩
theorem op2_ok {f : T → T → Option T} {x y : V} {tx ty : T} (e : EnvOk R x0 S ρ μ σ H) (r : RepV R (excl x0 S μ) S H tx x) (r2 : RepV R (excl x0 S μ) S H ty y) (h : Post R W x0 S μ σ H Q (op2 f tx ty μ)) : rOp2 R f x y H Q := by
  unfold op2 at h
  cases q : look μ tx with
  | none => rw [q] at h; exact h.elim
  | some a =>
    cases q2 : look μ ty with
    | none => rw [q, q2] at h; exact h.elim
    | some b =>
      rw [q, q2] at h
      obtain ⟨t, e1, k⟩ := opt_ok e h
      exact ⟨_, a, b, t, e.so.live, look_rep e.so r q, look_rep e.so r2 q2, e1, k⟩
theorem opN_ok {f : List T → Option T} {xs : List V} {ts : List T} (e : EnvOk R x0 S ρ μ σ H) (r : RepVs R (excl x0 S μ) S H ts xs) (h : Post R W x0 S μ σ H Q (opN f ts μ)) : rOpN R f xs H Q := by
  unfold opN at h
  cases q : looks μ ts with
  | none => rw [q] at h; exact h.elim
  | some a =>
    rw [q] at h
    obtain ⟨t, e1, k⟩ := opt_ok e h
    exact ⟨_, a, t, e.so.live, looks_rep e.so r q, e1, k⟩

/-! ### names, constants -/
theorem j_var {i : Nat} {x : Str} {pos : Pos} (h : PE X (.Name x pos) (tVar i)) : JE X R W (.Name x pos) (mVar i) := h.imp fun σ H Q ⟨x0, S, ρ, μ, e, k⟩ => by
  unfold mVar at k
  match q : ρ[i]? with
  | none => rw [q] at k; exact k.elim
  | some none => rw [q] at k; exact k.elim
  | some (some t) =>
    rw [q] at k
    obtain ⟨v, h1, h2⟩ := e.vars i t q
    exact ⟨v, h1, ret_ok e h2 k⟩
theorem j_cst {e : Expr} {v : V} {t : T} (h : PE X e (tC v)) (r : ∀ ex H, Rep R ex H t v) : JE X R W e (mCst t) := h.imp fun σ H Q ⟨x0, S, ρ, μ, e, k⟩ => ret_ok e (.inr (r _ _)) k
theorem j_int {i : Int} {j : Nat} {pos : Pos} : JE X R W (.Constant (.int i) j pos) (mCst (.int i)) := j_cst pe_int fun _ _ => rfl
theorem j_str {i : Str} {j : Nat} {pos : Pos} : JE X R W (.Constant (.str i) j pos) (mCst (.str i)) := j_cst pe_str fun _ _ => rfl
theorem j_bl {i : Bool} {j : Nat} {pos : Pos} : JE X R W (.Constant (.bool i) j pos) (mCst (.bl i)) := j_cst pe_bl fun _ _ => rfl
theorem j_non {j : Nat} {pos : Pos} : JE X R W (.Constant .none j pos) (mCst .non) := j_cst pe_non fun _ _ => rfl

/-! ### operators -/
theorem tEv1 {f : T → Option T} {fa : Env → M T} (h : tEv R W (mUn f fa) σ H Q) : tEv R W fa σ H fun x H1 => rOp1 R f x H1 Q := by
  obtain ⟨x0, S, ρ, μ, e, k⟩ := h
  refine ⟨x0, S, ρ, μ, e, ?_⟩
  have k := Post.bind (P := fun x0 S μ H r => Post R W x0 S μ σ H Q r) e k
  match q : fa ρ μ with
  | none => rw [q] at k; exact k
  | some (.ex x, μ') => rw [q] at k; exact k
  | some (.ok t, μ') =>
    rw [q] at k
    intro v H1 g s r
    obtain ⟨t, μ1, g1, e1, r1, k1⟩ := k v H1 g s r
    exact op1_ok e1 r1 k1
/-- the same end, by another wish -/
theorem Post.imp {Q Q' : VK} {r : Option (Res T × Mu)} (h : Post R W x0 S μ σ H Q r) (k : ∀ v H', Q v H' → Q' v H') : Post R W x0 S μ σ H Q' r := by
  match r, h with
  | some (.ok t, μ'), h => exact fun v H' g s r => k _ _ (h v H' g s r)
  | some (.ex x, μ'), h => exact h
theorem PostA.imp {Q Q' : List V → Hp → Prop} {r : Option (Res (List T) × Mu)} (h : PostA R W x0 S μ σ H Q r) (k : ∀ v H', Q v H' → Q' v H') : PostA R W x0 S μ σ H Q' r := by
  match r, h with
  | some (.ok t, μ'), h => exact fun v H' g s r => k _ _ (h v H' g s r)
  | some (.ex x, μ'), h => exact h
theorem PostT.imp {Q Q' : Bool → Hp → Prop} {r : Option (Res Bool × Mu)} (h : PostT R W x0 S μ σ H Q r) (k : ∀ v H', Q v H' → Q' v H') : PostT R W x0 S μ σ H Q' r := by
  match r, h with
  | some (.ok t, μ'), h => exact fun H' g s => k _ _ (h H' g s)
  | some (.ex x, μ'), h => exact h
theorem tEv2 {f : T → T → Option T} {fa fb : Env → M T} (h : tEv R W (mBin f fa fb) σ H Q) : tOp (rOp2 R f) (tEv R W fa) (tEv R W fb) σ H Q := by
  obtain ⟨x0, S, ρ, μ, e, k⟩ := h
  refine ⟨x0, S, ρ, μ, e, (Post.bind (P := fun x0 S μ H r => Post R W x0 S μ σ H Q r) e k).imp fun x H1 ⟨tx, μ1, g1, e1, r1, k1⟩ => ?_⟩
  refine ⟨x0, S, ρ, μ1, e1, (Post.bind (P := fun x0 S μ H r => Post R W x0 S μ σ H Q r) e1 k1).imp fun y H2 ⟨ty, μ2, g2, e2, r2, k2⟩ => ?_⟩
  exact op2_ok e2 (g2.v e1.so.len r1) r2 k2
theorem j_bin {a b : Expr} {op : Operator} {pos : Pos} {f : T → T → Option T} {fa fb : Env → M T} (ho : OpR X (binaryOp op) (rOp2 R f)) (ha : JE X R W a fa) (hb : JE X R W b fb) : JE X R W (.BinOp a op b pos) (mBin f fa fb) := (pe_op ho ha hb).imp fun _ _ _ => tEv2
theorem j_un {a : Expr} {op : UnaryOp} {pos : Pos} {f : T → Option T} {fa : Env → M T} (ho : UnR X (unaryOp op) (rOp1 R f)) (ha : JE X R W a fa) : JE X R W (.UnaryOp op a pos) (mUn f fa) := (pe_un ho ha).imp fun _ _ _ => tEv1
theorem j_cmp {a b : Expr} {op : CmpOp} {pos : Pos} {f : T → T → Option T} {fa fb : Env → M T} (ho : OpR X (compareOp op) (rOp2 R f)) (ha : JE X R W a fa) (hb : JE X R W b fb) (hm : behindInMarks op b = false := by rfl) : JE X R W (.Compare a [op] [b] pos) (mBin f fa fb) := (pe_cmpR ho ha hb hm).imp fun _ _ _ => tEv2
theorem asB_ok {fa : Env → M T} {Q : Bool → Hp → Prop} (h : tEvT R W (asB fa) σ H Q) : tEv R W fa σ H fun x H' => ∃ k, x = .bl k ∧ Q k H' := by
  obtain ⟨x0, S, ρ, μ, e, k⟩ := h
  refine ⟨x0, S, ρ, μ, e, (Post.bind (P := fun x0 S μ H r => PostT R W x0 S μ σ H Q r) e k).imp fun x H1 ⟨tx, μ1, g1, e1, r1, k1⟩ => ?_⟩
  cases tx with
  | bl b => exact ⟨b, r1.bl, k1 H1 (Go.refl _ _ _) e1.so⟩
  | _ => exact k1.elim
theorem jt_cmp {a b : Expr} {op : CmpOp} {pos : Pos} {f : T → T → Option T} {fa fb : Env → M T} (ho : OpR X (compareOp op) (rOp2 R f)) (ha : JE X R W a fa) (hb : JE X R W b fb) (hm : behindInMarks op b = false := by rfl) : JT X R W (.Compare a [op] [b] pos) (asB (mBin f fa fb)) :=
  (pt_cmpR ho ha hb hm).imp fun _ _ _ h => tEv2 (asB_ok h)
theorem jt_val {a : Expr} {fa : Env → M T} (ha : JE X R W a fa) (he : ∀ whole, isTrue a X.env whole = (do let v ← whole; standAt a.pos; holding [v] (truthy v)) := by intro _; rfl) : JT X R W a (asB fa) := (pt_val ha he).imp fun _ _ _ h => asB_ok h
theorem tru_rep {t : T} {b : Bool} {ex : Addr → Prop} (h : truT t = some b) (r : RepTop R ex H t v) : TruV R.K v H b := by
  cases t with
  | non => cases h; cases r; rfl
  | bl k => cases h; cases r; rfl
  | int i => cases h; cases r; rfl
  | str s =>
    cases r
    simp only [truT] at h
    split at h
    · rename_i hl
      cases h
      refine ⟨Nat.le_trans hl (by decide), ?_⟩
      rw [Bool.eq_iff_iff]
      simp only [bne_iff_ne, ne_eq]
      omega
    · cases h
  | lst ts =>
    cases h
    obtain ⟨a, xs, rfl, h1, h2⟩ := r
    refine .inl ⟨xs, SqL.of h1, ?_⟩
    cases ts with
    | nil => cases h2; rfl
    | cons t r => obtain ⟨x, r, rfl, _⟩ := h2; rfl
  | tup ts =>
    cases h
    obtain ⟨a, xs, rfl, h1, h2⟩ := Rep.sqt r
    refine .inr (.inl ⟨xs, h1, ?_⟩)
    cases ts with
    | nil => cases h2; rfl
    | cons t r => obtain ⟨x, r, rfl, _⟩ := h2; rfl
  | wt _ => cases h
  | dct _ _ => cases h
  | ins _ _ => cases h
  | sh _ => cases h
theorem jt_tru {a : Expr} {fa : Env → M T} (hK : X.K = R.K) (ha : JE X R W a fa) (he : ∀ whole, isTrue a X.env whole = (do let v ← whole; standAt a.pos; holding [v] (truthy v)) := by intro _; rfl) : JT X R W a (mTru fa) :=
  (pt_truth ha he).imp fun σ H Q ⟨x0, S, ρ, μ, e, k⟩ => by
    refine ⟨x0, S, ρ, μ, e, (Post.bind (P := fun x0 S μ H r => PostT R W x0 S μ σ H Q r) e k).imp fun x H1 ⟨tx, μ1, g1, e1, r1, k1⟩ => ?_⟩
    cases q : look μ1 tx with
    | none => simp only [q] at k1; exact k1.elim
    | some a =>
      simp only [q] at k1
      cases q2 : truT a with
      | none => rw [q2] at k1; exact k1.elim
      | some b =>
        rw [q2] at k1
        refine ⟨b, ?_, k1 H1 (Go.refl _ _ _) e1.so⟩
        rw [hK]
        exact tru_rep q2 (look_rep e1.so r1 q)
/-! ### chains -/
theorem chain_ok {f g : T → T → Option T} {fa fb fc : Env → M T} (h : tEv R W (mChain f g fa fb fc) σ H Q) : tChain (rOp2 R f) (rOp2 R g) (tEv R W fa) (tEv R W fb) (tEv R W fc) σ H Q := by
  obtain ⟨x0, S, ρ, μ, e, k⟩ := h
  refine ⟨x0, S, ρ, μ, e, (Post.bind (P := fun x0 S μ H r => Post R W x0 S μ σ H Q r) e k).imp fun x H1 ⟨tx, μ1, g1, e1, r1, k1⟩ => ?_⟩
  refine ⟨x0, S, ρ, μ1, e1, (Post.bind (P := fun x0 S μ H r => Post R W x0 S μ σ H Q r) e1 k1).imp fun y H2 ⟨ty, μ2, g2, e2, r2, k2⟩ => ?_⟩
  refine op2_ok e2 (g2.v e1.so.len r1) r2 ((Post.bind (P := fun x0 S μ H r => Post R W x0 S μ σ H Q r) e2 k2).imp fun z H3 ⟨tz, μ3, g3, e3, r3, k3⟩ => ?_)
  cases tz with
  | bl b =>
    refine ⟨b, r3.bl, ?_⟩
    cases b with
    | true =>
      refine ⟨x0, S, ρ, μ3, e3, (Post.bind (P := fun x0 S μ H r => Post R W x0 S μ σ H Q r) e3 k3).imp fun z H4 ⟨tz, μ4, g4, e4, r4, k4⟩ => ?_⟩
      exact op2_ok e4 (g4.v e3.so.len (g3.v e2.so.len r2)) r4 k4
    | false => exact ret_ok (t := .bl false) (v := .bl false) e3 (.inr rfl) k3
  | _ => exact k3.elim
theorem j_chain {a b c : Expr} {op op' : CmpOp} {pos : Pos} {f g : T → T → Option T} {fa fb fc : Env → M T} (ho : OpR X (compareOp op) (rOp2 R f)) (ho' : OpR X (compareOp op') (rOp2 R g)) (ha : JE X R W a fa) (hb : JE X R W b fb) (hc : JE X R W c fc) (hm : behindInMarks op' c = false := by rfl) :
    JE X R W (.Compare a [op, op'] [b, c] pos) (mChain f g fa fb fc) := (pe_chain ho ho' ha hb hc hm).imp fun _ _ _ => chain_ok
theorem jt_chain {a b c : Expr} {op op' : CmpOp} {pos : Pos} {f g : T → T → Option T} {fa fb fc : Env → M T} (ho : OpR X (compareOp op) (rOp2 R f)) (ho' : OpR X (compareOp op') (rOp2 R g)) (ha : JE X R W a fa) (hb : JE X R W b fb) (hc : JE X R W c fc) (hm : behindInMarks op' c = false := by rfl) :
    JT X R W (.Compare a [op, op'] [b, c] pos) (asB (mChain f g fa fb fc)) := (pt_chain ho ho' ha hb hc hm).imp fun _ _ _ h => chain_ok (asB_ok h)
end
end TL

set_option maxHeartbeats 4000000
namespace TL
open PySem PySem.Spec PyProof.Rows L2

section
variable {X : Cx} {R : RC} {W : WX} {x0 : Addr → Prop} {S S' : List Addr} {ρ : Env} {μ μ' μ1 : Mu} {σ : L2.St} {H H' H1 : Hp} {t : T} {v : V} {Q : VK} {a b c e : Expr} {pos : Pos} {rest : List Expr}
/-! ### and, or, not -/
theorem jw_and1 {fa : Env → M Bool} (ha : JT X R W a fa) : JW X R W (.BoolOp .And [a] pos) fa := pw_and1 ha
theorem jw_or1 {fa : Env → M Bool} (ha : JT X R W a fa) : JW X R W (.BoolOp .Or [a] pos) fa := pw_or1 ha
theorem jw_and {fa fb : Env → M Bool} (ha : JT X R W a fa) (hb : JW X R W (.BoolOp .And (b :: rest) pos) fb) : JW X R W (.BoolOp .And (a :: b :: rest) pos) (mAndT fa fb) :=
  (pw_and ha hb).imp fun σ H Q ⟨x0, S, ρ, μ, e, k⟩ => by
    refine ⟨x0, S, ρ, μ, e, (PostT.bind (P := fun x0 S μ H r => PostT R W x0 S μ σ H Q r) e k).imp fun d H1 ⟨μ1, g1, e1, k1⟩ => ?_⟩
    cases d with
    | true => exact ⟨x0, S, ρ, μ1, e1, k1⟩
    | false => exact k1 H1 (Go.refl _ _ _) e1.so
theorem jw_or {fa fb : Env → M Bool} (ha : JT X R W a fa) (hb : JW X R W (.BoolOp .Or (b :: rest) pos) fb) : JW X R W (.BoolOp .Or (a :: b :: rest) pos) (mOrT fa fb) :=
  (pw_or ha hb).imp fun σ H Q ⟨x0, S, ρ, μ, e, k⟩ => by
    refine ⟨x0, S, ρ, μ, e, (PostT.bind (P := fun x0 S μ H r => PostT R W x0 S μ σ H Q r) e k).imp fun d H1 ⟨μ1, g1, e1, k1⟩ => ?_⟩
    cases d with
    | false => exact ⟨x0, S, ρ, μ1, e1, k1⟩
    | true => exact k1 H1 (Go.refl _ _ _) e1.so
theorem jt_w {fa : Env → M Bool} (h : JW X R W a fa) : JT X R W a fa := h.pt
theorem jt_not {fa : Env → M Bool} (ha : JT X R W a fa) : JT X R W (.UnaryOp .Not a pos) (mNotT fa) :=
  (pt_not ha).imp fun σ H Q ⟨x0, S, ρ, μ, e, k⟩ =>
    ⟨x0, S, ρ, μ, e, (PostT.bind (P := fun x0 S μ H r => PostT R W x0 S μ σ H Q r) e k).imp fun d H1 ⟨μ1, g1, e1, k1⟩ => k1 H1 (Go.refl _ _ _) e1.so⟩
theorem j_one {fa : Env → M T} {op : BoolOp} (ha : JE X R W a fa) : JE X R W (.BoolOp op [a] pos) fa := pe_one ha
theorem j_and {fa fb : Env → M T} (ha : JE X R W a fa) (hb : JE X R W (.BoolOp .And (b :: rest) pos) fb) : JE X R W (.BoolOp .And (a :: b :: rest) pos) (mAnd fa fb) :=
  (pe_and ha hb).imp fun σ H Q ⟨x0, S, ρ, μ, e, k⟩ => by
    refine ⟨x0, S, ρ, μ, e, (Post.bind (P := fun x0 S μ H r => Post R W x0 S μ σ H Q r) e k).imp fun d H1 ⟨tx, μ1, g1, e1, r1, k1⟩ => ?_⟩
    cases tx with
    | bl b =>
      refine ⟨b, r1.bl, ?_⟩
      cases b with
      | true => exact ⟨x0, S, ρ, μ1, e1, k1⟩
      | false => exact ret_ok (t := .bl false) (v := .bl false) e1 (.inr rfl) k1
    | _ => exact k1.elim
theorem j_or {fa fb : Env → M T} (ha : JE X R W a fa) (hb : JE X R W (.BoolOp .Or (b :: rest) pos) fb) : JE X R W (.BoolOp .Or (a :: b :: rest) pos) (mOr fa fb) :=
  (pe_or ha hb).imp fun σ H Q ⟨x0, S, ρ, μ, e, k⟩ => by
    refine ⟨x0, S, ρ, μ, e, (Post.bind (P := fun x0 S μ H r => Post R W x0 S μ σ H Q r) e k).imp fun d H1 ⟨tx, μ1, g1, e1, r1, k1⟩ => ?_⟩
    cases tx with
    | bl b =>
      refine ⟨b, r1.bl, ?_⟩
      cases b with
      | false => exact ⟨x0, S, ρ, μ1, e1, k1⟩
      | true => exact ret_ok (t := .bl true) (v := .bl true) e1 (.inr rfl) k1
    | _ => exact k1.elim
theorem j_not {fa : Env → M T} (ha : JE X R W a fa) : JE X R W (.UnaryOp .Not a pos) (mNot fa) :=
  (pe_not ha).imp fun σ H Q ⟨x0, S, ρ, μ, e, k⟩ => by
    refine ⟨x0, S, ρ, μ, e, (Post.bind (P := fun x0 S μ H r => Post R W x0 S μ σ H Q r) e k).imp fun d H1 ⟨tx, μ1, g1, e1, r1, k1⟩ => ?_⟩
    cases tx with
    | bl b => exact ⟨b, r1.bl, ret_ok (t := .bl (!b)) (v := .bl (!b)) e1 (.inr rfl) k1⟩
    | _ => exact k1.elim
theorem j_ite {fc : Env → M Bool} {fa fb : Env → M T} (hc : JT X R W c fc) (ha : JE X R W a fa) (hb : JE X R W b fb) : JE X R W (.IfExp c a b pos) (mIte fc fa fb) :=
  (pe_ifExp hc ha hb).imp fun σ H Q ⟨x0, S, ρ, μ, e, k⟩ => by
    refine ⟨x0, S, ρ, μ, e, (PostT.bind (P := fun x0 S μ H r => Post R W x0 S μ σ H Q r) e k).imp fun d H1 ⟨μ1, g1, e1, k1⟩ => ?_⟩
    cases d with
    | true => exact ⟨x0, S, ρ, μ1, e1, k1⟩
    | false => exact ⟨x0, S, ρ, μ1, e1, k1⟩

/-! ### arguments, displays -/
theorem ja_nil : JA X R W [] mNil := pa_nil.imp fun σ H Q ⟨x0, S, ρ, μ, e, k⟩ => k [] H (Go.refl _ _ _) e.so rfl
theorem ja_cons {es : List Expr} {fa : Env → M T} {fr : Env → M (List T)} (ha : JE X R W e fa) (hr : JA X R W es fr) (hs : starEach (e :: es) X.env = (false, eval e X.env) :: starEach es X.env := by rfl) : JA X R W (e :: es) (mCons fa fr) :=
  (pa_cons ha hr hs).imp fun σ H Q ⟨x0, S, ρ, μ, e, k⟩ => by
    refine ⟨x0, S, ρ, μ, e, (Post.bind (P := fun x0 S μ H r => PostA R W x0 S μ σ H Q r) e k).imp fun x H1 ⟨tx, μ1, g1, e1, r1, k1⟩ => ?_⟩
    refine ⟨x0, S, ρ, μ1, e1, (PostA.bind (P := fun x0 S μ H r => PostA R W x0 S μ σ H Q r) e1 k1).imp fun xs H2 ⟨txs, μ2, g2, e2, r2, k2⟩ => ?_⟩
    exact k2 (x :: xs) H2 (Go.refl _ _ _) e2.so ⟨x, xs, rfl, g2.v e1.so.len r1, r2⟩
theorem Reps.length {ex : Addr → Prop} : ∀ {ts : List T} {xs : List V}, Reps R ex H ts xs → xs.length = ts.length
  | [], _, h => by cases h; rfl
  | t :: ts, _, h => by obtain ⟨x, r, rfl, _, h2⟩ := h; simp [Reps.length h2]
theorem disp_ok {P : Nat} {xs : List V} {ts : List T} {o : HO} {mk : List T → T} (e : EnvOk R x0 S ρ μ σ H) (r : RepVs R (excl x0 S μ) S H ts xs) (k : Post R W x0 S μ σ H Q (M.bind (keepTs P ts) (fun ys => M.opt (if ys.length ≤ 1000 then some (mk ys) else none)) μ))
    (hmk : ∀ {ex : Addr → Prop} {ys : List T} {p : Addr}, H p = none → ¬ ex p → Reps R ex (upd H p o) ys xs → Rep R ex (upd H p o) (mk ys) (.ref p)) :
    xs.length ≤ sizeLine ∧ ∀ p, H p = none → Q (.ref p) (upd H p o) := by
  obtain ⟨ys, μ1, g1, e1, r1, k1⟩ := keeps_bind (P := fun x0 S μ H r => Post R W x0 S μ σ H Q r) e r k
  have hl := r1.length
  by_cases hz : ys.length ≤ 1000
  · simp only [if_pos hz] at k1
    obtain ⟨t, ht, k2⟩ := opt_ok e1 k1
    cases ht
    refine ⟨by rw [hl]; exact Nat.le_trans hz (by decide), fun p hp => ?_⟩
    have nx : ¬ excl x0 S μ1 p := fun z => e1.so.live p z hp
    exact k2 _ _ (Grow.new hp) (hmk hp nx (Reps.mono (Mono.grow (Grow.new hp) e1.so.live) _ _ r1))
  · simp only [if_neg hz] at k1
    exact (k1 : False).elim
theorem j_tup {P : Nat} {es : List Expr} {fs : Env → M (List T)} {x1 : Nat} (h : JA X R W es fs) : JE X R W (.Tuple es x1 pos) (mTup P fs) :=
  (pe_tup h).imp fun σ H Q ⟨x0, S, ρ, μ, e, k⟩ =>
    ⟨x0, S, ρ, μ, e, (PostA.bind (P := fun x0 S μ H r => Post R W x0 S μ σ H Q r) e k).imp fun xs H1 ⟨txs, μ1, g1, e1, r1, k1⟩ =>
      disp_ok (mk := T.tup) e1 r1 k1 fun {ex ys p} hp nx rr => ⟨p, xs, rfl, nx, upd_same, rr⟩⟩
theorem j_lst {P : Nat} {es : List Expr} {fs : Env → M (List T)} (h : JA X R W es fs) : JE X R W (.List es pos) (mLst P fs) :=
  (pe_lst h).imp fun σ H Q ⟨x0, S, ρ, μ, e, k⟩ =>
    ⟨x0, S, ρ, μ, e, (PostA.bind (P := fun x0 S μ H r => Post R W x0 S μ σ H Q r) e k).imp fun xs H1 ⟨txs, μ1, g1, e1, r1, k1⟩ =>
      disp_ok (mk := T.lst) e1 r1 k1 fun {ex ys p} hp nx rr => ⟨p, xs, rfl, nx, upd_same, rr⟩⟩
/-! ### subscripts, slices, attributes -/
theorem j_ix {f : T → T → Option T} {fa fb : Env → M T} (hr : IxR X (rOp2 R f)) (ha : JE X R W a fa) (hb : JE X R W b fb) (hs : PlainIx b := by exact fun _ _ => rfl) : JE X R W (.Subscript a b pos) (mBin f fa fb) := (pe_ix hr ha hb hs).imp fun _ _ _ => tEv2
/-- an optional part of a slice -/
def mPart : Option (Env → M T) → Env → M (Option Int)
  | none, _ => M.ret none
  | some f, ρ => (f ρ).bind fun t => match t with
    | .int i => M.ret (some i)
    | _ => M.stuck
def PostO (R : RC) (W : WX) (x0 : Addr → Prop) (S : List Addr) (μ : Mu) (σ : L2.St) (H : Hp) (Q : Option Int → Hp → Prop) : Option (Res (Option Int) × Mu) → Prop
  | none => False
  | some (.ok b, μ') => ∀ H', Go S μ H S μ' H' → SOk R x0 S μ' H' → Q b H'
  | some (.ex x, μ') => ∀ cls d H', Go S μ H S μ' H' → SOk R x0 S μ' H' → RepX R (excl x0 S μ') H' x cls d → W cls d σ H'
def tEvO (R : RC) (W : WX) (f : Env → M (Option Int)) : TO := fun σ H Q => ∃ x0 S ρ μ, EnvOk R x0 S ρ μ σ H ∧ PostO R W x0 S μ σ H Q (f ρ μ)
instance endO {Q : Option Int → Hp → Prop} : Ending (Option Int) (fun x0 S μ H r => PostO R W x0 S μ σ H Q r) R W σ := ⟨fun _ _ _ _ h => h, fun _ _ _ _ _ _ h => h, fun x0 S μ H μ1 H1 r g hl h => by
  match r, h with
  | some (.ok t, μ'), h => exact fun H' g' s' => h H' (g.trans hl g') s'
  | some (.ex x, μ'), h => exact fun cls d H' g' s' r' => h cls d H' (g.trans hl g') s' r'⟩
theorem PostO.imp {Q Q' : Option Int → Hp → Prop} {r : Option (Res (Option Int) × Mu)} (h : PostO R W x0 S μ σ H Q r) (k : ∀ v H', Q v H' → Q' v H') : PostO R W x0 S μ σ H Q' r := by
  match r, h with
  | some (.ok t, μ'), h => exact fun H' g s => k _ _ (h H' g s)
  | some (.ex x, μ'), h => exact h
theorem PostO.bind {α : Type} {P : (Addr → Prop) → List Addr → Mu → Hp → Option (Res α × Mu) → Prop} [E : Ending α P R W σ] {m : M (Option Int)} {k : Option Int → M α} (e : EnvOk R x0 S ρ μ σ H) (h : P x0 S μ H (M.bind m k μ)) :
    PostO R W x0 S μ σ H (fun b H1 => ∃ μ1, Go S μ H S μ1 H1 ∧ EnvOk R x0 S ρ μ1 σ H1 ∧ P x0 S μ1 H1 (k b μ1)) (m μ) := by
  unfold M.bind at h
  match q : m μ with
  | none => rw [q] at h; exact E.none _ _ _ _ h
  | some (.ok t, μ1) =>
    rw [q] at h
    exact fun H1 g s => ⟨μ1, g, e.go g s, E.shift _ _ _ _ _ _ _ g e.so.len h⟩
  | some (.ex x, μ1) =>
    rw [q] at h
    exact E.ex _ _ _ _ _ _ h
abbrev JO (X : Cx) (R : RC) (W : WX) (e : Option Expr) (f : Env → M (Option Int)) : Prop := PO X e (tEvO R W f)
theorem PO.imp {e : Option Expr} {t t' : TO} (h : PO X e t) (k : ∀ σ H Q, t' σ H Q → t σ H Q) : PO X e t' := by
  exact ⟨fun pins s σ H Q I hw => h.run pins s σ H Q I (k σ H Q hw)⟩
theorem jo_none : JO X R W none (mPart none) := PO.imp po_none fun σ H Q ⟨x0, S, ρ, μ, e, k⟩ => k H (Go.refl _ _ _) e.so
theorem jo_some {fa : Env → M T} (h : JE X R W e fa) : JO X R W (some e) (mPart (some fa)) := PO.imp (po_some h) fun σ H Q ⟨x0, S, ρ, μ, e, k⟩ => by
  refine ⟨x0, S, ρ, μ, e, (Post.bind (P := fun x0 S μ H r => PostO R W x0 S μ σ H Q r) e k).imp fun x H1 ⟨tx, μ1, g1, e1, r1, k1⟩ => ?_⟩
  cases tx with
  | int i => exact ⟨i, r1.int, k1 H1 (Go.refl _ _ _) e1.so⟩
  | _ => exact k1.elim
def slT (f : T → Option Int → Option Int → Option T) (x : T) (lo hi : Option Int) : M T := fun μ => match look μ x with
  | some a => M.opt (f a lo hi) μ
  | none => none
def mSl (f : T → Option Int → Option Int → Option T) (fa : Env → M T) (fl fh : Env → M (Option Int)) : Env → M T := fun ρ => (fa ρ).bind fun x => (fl ρ).bind fun l => (fh ρ).bind fun h => slT f x l h
def rSl (R : RC) (f : T → Option Int → Option Int → Option T) : V → Option Int → Option Int → Hp → VK → Prop := fun x lo hi H Q => ∃ ex tx t, (∀ a, ex a → H a ≠ none) ∧ RepTop R ex H tx x ∧ f tx lo hi = some t ∧ ∀ v H', Grow H H' → Rep R ex H' t v → Q v H'
theorem slT_ok {f : T → Option Int → Option Int → Option T} {x : V} {tx : T} {lo hi : Option Int} (e : EnvOk R x0 S ρ μ σ H) (r : RepV R (excl x0 S μ) S H tx x) (h : Post R W x0 S μ σ H Q (slT f tx lo hi μ)) : rSl R f x lo hi H Q := by
  unfold slT at h
  cases q : look μ tx with
  | none => rw [q] at h; exact h.elim
  | some a =>
    rw [q] at h
    obtain ⟨t, e1, k⟩ := opt_ok e h
    exact ⟨_, a, t, e.so.live, look_rep e.so r q, e1, k⟩
theorem j_slice {f : T → Option Int → Option Int → Option T} {fa : Env → M T} {fl fh : Env → M (Option Int)} {lo hi : Option Expr} {p2 : Pos} (hr : SlR X (rSl R f)) (he : JE X R W e fa) (hl : JO X R W lo fl) (hu : JO X R W hi fh) : JE X R W (.Subscript e (.Slice lo hi none p2) pos) (mSl f fa fl fh) :=
  (pe_slice hr he hl hu).imp fun σ H Q ⟨x0, S, ρ, μ, e, k⟩ => by
    refine ⟨x0, S, ρ, μ, e, (Post.bind (P := fun x0 S μ H r => Post R W x0 S μ σ H Q r) e k).imp fun x H1 ⟨tx, μ1, g1, e1, r1, k1⟩ => ?_⟩
    refine ⟨x0, S, ρ, μ1, e1, (PostO.bind (P := fun x0 S μ H r => Post R W x0 S μ σ H Q r) e1 k1).imp fun l H2 ⟨μ2, g2, e2, k2⟩ => ?_⟩
    refine ⟨x0, S, ρ, μ2, e2, (PostO.bind (P := fun x0 S μ H r => Post R W x0 S μ σ H Q r) e2 k2).imp fun u H3 ⟨μ3, g3, e3, k3⟩ => ?_⟩
    exact slT_ok e3 (g3.v e2.so.len (g2.v e1.so.len r1)) k3
/-- e.f: the classes that are met have it as a field -/
theorem lookF_rep {ex : Addr → Prop} {f : Str} {t : T} : ∀ {fs : List (Str × T)} {vs : List (Str × V)}, RepF R ex H fs vs → lookF f fs = some t → ∃ v, vs.lookup f = some v ∧ Rep R ex H t v
  | [], _, h, e => by cases e
  | (g, u) :: fs, _, h, e => by
    obtain ⟨x, r, rfl, h1, h2⟩ := h
    unfold lookF at e
    by_cases hg : g = f
    · rw [if_pos hg] at e
      cases e
      subst hg
      exact ⟨x, by simp [List.lookup], h1⟩
    · rw [if_neg hg] at e
      obtain ⟨v, h3, h4⟩ := lookF_rep h2 e
      refine ⟨v, ?_, h4⟩
      have : (f == g) = false := by simp only [beq_eq_false_iff_ne, ne_eq]; exact fun z => hg z.symm
      simp [List.lookup, this, h3]
def FldOk (R : RC) (f : Str) (cs : List Str) : Prop := ∀ c ∈ cs, ∀ C, R.cls c = some C → Cls R.K C ∧ NoAttr R.K C f
def fldC (cs : List Str) (f : Str) : T → Option T
  | .ins c fs => if c ∈ cs then lookF f fs else none
  | _ => none
theorem j_fld {fa : Env → M T} {f : Str} {cs : List Str} (hK : X.K = R.K) (hc : FldOk R f cs) (he : JE X R W e fa) (hb : attributeBase e f X.env (eval e X.env) = eval e X.env := by rfl) : JE X R W (.Attribute e f pos) (mUn (fldC cs f) fa) :=
  (pe_fld he hb).imp fun σ H Q h => by
    obtain ⟨x0, S, ρ, μ, e, k⟩ := tEv1 h
    refine ⟨x0, S, ρ, μ, e, k.imp fun x H1 ⟨ex, tx, t, hx, r, ef, kk⟩ => ?_⟩
    cases tx with
    | ins c fs =>
      obtain ⟨a, C, dx, vs, rfl, h1, h2, h3⟩ := r
      simp only [fldC] at ef
      split at ef
      · rename_i hm
        obtain ⟨v, h4, h5⟩ := lookF_rep h3 ef
        obtain ⟨q1, q2⟩ := hc c hm C h1
        rw [hK]
        exact ⟨a, C, dx, vs, v, rfl, h2, q1, q2, h4, kk _ _ (Grow.refl _) h5⟩
      · cases ef
    | _ => cases ef
/-! ### calls of what is built in -/
theorem tEvN {f : List T → Option T} {fs : Env → M (List T)} (h : tEv R W (mCB f fs) σ H Q) : tCB (rOpN R f) (tEvA R W fs) σ H Q := by
  obtain ⟨x0, S, ρ, μ, e, k⟩ := h
  exact ⟨x0, S, ρ, μ, e, (PostA.bind (P := fun x0 S μ H r => Post R W x0 S μ σ H Q r) e k).imp fun xs H1 ⟨ts, μ1, g1, e1, r1, k1⟩ => opN_ok e1 r1 k1⟩
theorem j_callB {x : Str} {id : String} {es : List Expr} {p : Pos} {f : List T → Option T} {fs : Env → M (List T)} (hc : CallR X (.builtin id) (rOpN R f)) (hg : Gl X x) (hm : X.mg x = none) (hv : bootBuiltins x = some (.builtin id)) (ha : JA X R W (e :: es) fs) (hn : x ≠ "__name__" := by decide) (hdb : (x == ("__debug__" : Str)) = false := by decide)
    (he : starEach (e :: es) X.env = (false, eval e X.env) :: starEach es X.env := by rfl) (hpl : (backTo pos (starEach es X.env)).any (·.1) = false := by rfl) :
    JE X R W (.Call (.Name x p) (e :: es) [] pos) (mCB f fs) := (pe_callB hc hg hm hv ha hn hdb he hpl).imp fun _ _ _ => tEvN
theorem j_callTy {x : Str} {ty : String} {es : List Expr} {p : Pos} {f : List T → Option T} {fs : Env → M (List T)} (hc : CallR X (.type ty) (rOpN R f)) (hg : Gl X x) (hm : X.mg x = none) (hv : bootBuiltins x = some (.type ty)) (ha : JA X R W (e :: es) fs) (hn : x ≠ "__name__" := by decide) (hdb : (x == ("__debug__" : Str)) = false := by decide)
    (he : starEach (e :: es) X.env = (false, eval e X.env) :: starEach es X.env := by rfl) (hpl : (backTo pos (starEach es X.env)).any (·.1) = false := by rfl) :
    JE X R W (.Call (.Name x p) (e :: es) [] pos) (mCB f fs) := (pe_callTy hc hg hm hv ha hn hdb he hpl).imp fun _ _ _ => tEvN
end
end TL

set_option maxHeartbeats 4000000
namespace TL
open PySem PySem.Spec PyProof.Rows L2

/-! ### a def's promise -/
abbrev FM := List T → M T
def spT (R : RC) (np P : Nat) (g : FM) : Sp := fun vs H Q E => ∃ x0 S ts μ, S.length = P ∧ ts.length = np ∧ SOk R x0 S μ H ∧ ArgsOk R (excl x0 S μ) S P H ts vs ∧ Post R (fun cls d _ H' => E cls d H') x0 S μ [] H Q (g ts μ)
/-- the call: the first P of the store are the callee's -/
def callM (np P : Nat) (g : FM) (ys : List T) : M T := fun μ => if ys.length = np ∧ P ≤ μ.length then match g ys (μ.take P) with
    | none => none
    | some (r, μ') => some (r, μ' ++ μ.drop P)
  else none
def excl0 (x0 : Addr → Prop) (S : List Addr) (μ : Mu) (P : Nat) (a : Addr) : Prop := x0 a ∨ ∃ (n : Nat) (o : MO), P ≤ n ∧ S[n]? = some a ∧ μ[n]? = some (o, true)
section
variable {X : Cx} {R : RC} {W : WX} {x0 : Addr → Prop} {S S' : List Addr} {ρ : Env} {μ μ' μ1 μ2 : Mu} {σ : L2.St} {H H' H1 : Hp} {t : T} {v : V} {Q : VK} {P np : Nat} {g : FM}
theorem excl_split (hl : S.length = μ.length) (hP : P ≤ μ.length) (h2 : μ2.length = P) : excl (excl0 x0 S μ P) (S.take P) μ2 = excl x0 S (μ2 ++ μ.drop P) := by
  funext a
  apply propext
  constructor
  · rintro ((h | ⟨n, o, hn, h1, h3⟩) | ⟨n, o, h1, h3⟩)
    · exact .inl h
    · refine .inr ⟨n, o, h1, ?_⟩
      rw [List.getElem?_append_right (by omega), List.getElem?_drop, h2, show P + (n - P) = n by omega]
      exact h3
    · have hn : n < P := by rw [← h2]; exact ltE h3
      rw [List.getElem?_take_of_lt hn] at h1
      refine .inr ⟨n, o, h1, ?_⟩
      rw [List.getElem?_append_left (by omega)]
      exact h3
  · rintro (h | ⟨n, o, h1, h3⟩)
    · exact .inl (.inl h)
    · by_cases hn : n < P
      · rw [List.getElem?_append_left (by omega)] at h3
        exact .inr ⟨n, o, by rw [List.getElem?_take_of_lt hn]; exact h1, h3⟩
      · rw [List.getElem?_append_right (by omega), List.getElem?_drop, h2, show P + (n - P) = n by omega] at h3
        exact .inl (.inr ⟨n, o, by omega, h1, h3⟩)
theorem excl_split0 (hl : S.length = μ.length) (hP : P ≤ μ.length) : excl (excl0 x0 S μ P) (S.take P) (μ.take P) = excl x0 S μ := by
  rw [excl_split hl hP (by rw [List.length_take]; omega), List.take_append_drop]
theorem SOk.cut (s : SOk R x0 S μ H) (hP : P ≤ μ.length) : SOk R (excl0 x0 S μ P) (S.take P) (μ.take P) H where
  len := by rw [List.length_take, List.length_take, s.len]
  nd := s.nd.sublist (List.take_sublist ..)
  xd := fun a h => by
    rcases h with h | ⟨n, o, _, h1, _⟩
    · exact s.xd a h
    · exact s.sd a (List.mem_of_getElem? h1)
  sx := fun n a o h1 h2 => by
    have hn : n < P := by have := ltE h2; rw [List.length_take] at this; omega
    rw [List.getElem?_take_of_lt hn] at h1 h2
    rintro (h | ⟨m, o', hm, h3, _⟩)
    · exact s.sx n a o h1 h2 h
    · have := nd_ix s.nd h1 h3
      omega
  sd := fun a h => s.sd a (List.mem_of_mem_take h)
  sh := fun n o h => by
    have hn : n < P := by have := ltE h; rw [List.length_take] at this; omega
    rw [excl_split0 s.len hP]
    rw [List.getElem?_take_of_lt hn] at h ⊢
    exact s.sh n o h
  fz := fun n o h => by
    have hn : n < P := by have := ltE h; rw [List.length_take] at this; omega
    rw [excl_split0 s.len hP]
    rw [List.getElem?_take_of_lt hn] at h ⊢
    exact s.fz n o h
  tab := s.tab
theorem Go.join (s : SOk R x0 S μ H) (hP : P ≤ μ.length) (h2 : μ2.length = P) (g : Go (S.take P) (μ.take P) H (S.take P) μ2 H') : Go S μ H S (μ2 ++ μ.drop P) H' where
  pre := ⟨[], by simp, by simp⟩
  dead := fun n o h => by
    by_cases hn : n < P
    · rw [List.getElem?_append_left (by omega)]
      exact g.dead n o (by rw [List.getElem?_take_of_lt hn]; exact h)
    · rw [List.getElem?_append_right (by omega), List.getElem?_drop, h2, show P + (n - P) = n by omega]
      exact h
  keep := fun a o h ht hx => g.keep a o h ht fun n m h1 h3 => by
    have hn : n < P := by have := ltE h3; rw [List.length_take] at this; omega
    rw [List.getElem?_take_of_lt hn] at h1 h3
    exact hx n m h1 h3
  there := g.there
theorem SOk.join (s : SOk R x0 S μ H) (hP : P ≤ μ.length) (g : Go (S.take P) (μ.take P) H (S.take P) μ2 H') (s2 : SOk R (excl0 x0 S μ P) (S.take P) μ2 H') : SOk R x0 S (μ2 ++ μ.drop P) H' := by
  have h2 : μ2.length = P := by rw [← s2.len, List.length_take, s.len]; omega
  have J := Go.join s hP h2 g
  have ex := excl_split (x0 := x0) s.len hP h2
  refine ⟨by rw [List.length_append, List.length_drop, h2, s.len]; omega, s.nd, fun a h => J.there a (s.xd a h), fun n a o h1 h3 => ?_, fun a h => J.there a (s.sd a h), fun n o h => ?_, fun n o h => ?_, s2.tab⟩
  · by_cases hn : n < P
    · rw [List.getElem?_append_left (by omega)] at h3
      intro z
      exact s2.sx n a o (by rw [List.getElem?_take_of_lt hn]; exact h1) h3 (.inl z)
    · rw [List.getElem?_append_right (by omega), List.getElem?_drop, h2, show P + (n - P) = n by omega] at h3
      exact s.sx n a o h1 h3
  · by_cases hn : n < P
    · rw [List.getElem?_append_left (by omega)] at h
      obtain ⟨a, h1, h3⟩ := s2.sh n o h
      rw [ex] at h3
      rw [List.getElem?_take_of_lt hn] at h1
      exact ⟨a, h1, h3⟩
    · rw [List.getElem?_append_right (by omega), List.getElem?_drop, h2, show P + (n - P) = n by omega] at h
      obtain ⟨a, h1, h3⟩ := s.sh n o h
      refine ⟨a, h1, h3.mono (J.mono s.len) fun u hu => ?_⟩
      obtain ⟨u', hu', ht⟩ := h3.at
      rw [hu] at hu'
      cases hu'
      refine g.keep a u hu ht fun m o' h4 h5 => ?_
      have hm : m < P := by have := ltE h5; rw [List.length_take] at this; omega
      rw [List.getElem?_take_of_lt hm] at h4
      have := nd_ix s.nd h1 h4
      omega
  · by_cases hn : n < P
    · rw [List.getElem?_append_left (by omega)] at h
      obtain ⟨a, h1, h3⟩ := s2.fz n o h
      rw [ex] at h3
      rw [List.getElem?_take_of_lt hn] at h1
      exact ⟨a, h1, h3⟩
    · rw [List.getElem?_append_right (by omega), List.getElem?_drop, h2, show P + (n - P) = n by omega] at h
      obtain ⟨a, h1, h3⟩ := s.fz n o h
      exact ⟨a, h1, Rep.mono (J.mono s.len) _ _ h3⟩
theorem ArgsOk.take {ex : Addr → Prop} : ∀ {ts : List T} {vs : List V}, ArgsOk R ex S P H ts vs → ArgsOk R ex (S.take P) P H ts vs
  | [], _, h => h
  | t :: ts, _, h => by
    obtain ⟨x, r, e, h1, h2⟩ := h
    refine ⟨x, r, e, ?_, ArgsOk.take h2⟩
    rcases h1 with ⟨n, a, hn, e1, e2, e3⟩ | h1
    · exact .inl ⟨n, a, hn, e1, by rw [List.getElem?_take_of_lt hn]; exact e2, e3⟩
    · exact .inr h1
/-- a call, by values -/
theorem call_ok {ys : List T} {vs : List V} (e : EnvOk R x0 S ρ μ σ H) (r : ArgsOk R (excl x0 S μ) S P H ys vs) (h : Post R W x0 S μ σ H Q (callM np P g ys μ)) : spT R np P g vs H Q (WE W σ) := by
  unfold callM at h
  by_cases hc : ys.length = np ∧ P ≤ μ.length
  · rw [if_pos hc] at h
    obtain ⟨hl, hP⟩ := hc
    have s := e.so
    refine ⟨excl0 x0 S μ P, S.take P, ys, μ.take P, by rw [List.length_take, s.len]; omega, hl, s.cut hP, ?_, ?_⟩
    · rw [excl_split0 s.len hP]
      exact r.take
    · match q : g ys (μ.take P) with
      | none => rw [q] at h; exact h
      | some (.ok t, μ2) =>
        rw [q] at h
        intro v H' g1 s1 r1
        have h2 : μ2.length = P := by rw [← s1.len, List.length_take, s.len]; omega
        refine h v H' (Go.join s hP h2 g1) (s.join hP g1 s1) ?_
        rw [excl_split s.len hP h2] at r1
        rcases r1 with ⟨n, a, e1, e2, e3⟩ | r1
        · have hn : n < P := by have := ltE e2; rw [List.length_take] at this; omega
          rw [List.getElem?_take_of_lt hn] at e2
          exact .inl ⟨n, a, e1, e2, e3⟩
        · exact .inr r1
      | some (.ex x, μ2) =>
        rw [q] at h
        intro cls d H' g1 s1 r1
        have h2 : μ2.length = P := by rw [← s1.len, List.length_take, s.len]; omega
        refine h cls d H' (Go.join s hP h2 g1) (s.join hP g1 s1) ?_
        rw [excl_split s.len hP h2] at r1
        exact r1
  · rw [if_neg hc] at h
    exact h.elim
theorem ArgsOk.length {ex : Addr → Prop} : ∀ {ts : List T} {vs : List V}, ArgsOk R ex S P H ts vs → vs.length = ts.length
  | [], _, h => by cases h; rfl
  | t :: ts, _, h => by obtain ⟨x, r, rfl, _, h2⟩ := h; simp [ArgsOk.length h2]

/-- a def that is known, at the level k -/
def Cal (X : Cx) (R : RC) (k : Nat) (x : Str) (np P : Nat) (g : FM) : Prop := ∃ f fd ps, FnOk X.prog X.w X.K X.mg X.base (L2.CX X.prog X.w) k f fd ps (spT R np P g) ∧ X.mg x = some (.ref f) ∧ PySem.W.keepIn X.K (.ref f) = true ∧ Binds X.K fd ps []
/-- q: shared in the caller -/
def mCall (q P np : Nat) (g : FM) (fs : Env → M (List T)) : Env → M T := fun ρ => (fs ρ).bind fun xs => (keepAs q P xs).bind fun ys => callM np P g ys
variable {x m : Str} {p pos apos : Pos} {e o : Expr} {es : List Expr} {k : Nat} {fs : Env → M (List T)} {q : Nat}
theorem tEvC (h : tEv R W (mCall q P np g fs) σ H Q) : tCallS (spT R np P g) (WE W) (tEvA R W fs) σ H Q := by
  obtain ⟨x0, S, ρ, μ, e, k⟩ := h
  refine ⟨x0, S, ρ, μ, e, (PostA.bind (P := fun x0 S μ H r => Post R W x0 S μ σ H Q r) e k).imp fun xs H1 ⟨ts, μ1, g1, e1, r1, k1⟩ => ?_⟩
  obtain ⟨ys, μ2, g2, e2, r2, k2⟩ := keepAs_bind (P := fun x0 S μ H r => Post R W x0 S μ σ H Q r) e1 r1 k1
  exact call_ok e2 r2 k2
theorem j_call (c : Cal X R k x np P g) (hr : Room k X.A) (tk : Takes X W) (hg : Gl X x) (ha : JA X R W (e :: es) fs) (hdb : (x == ("__debug__" : Str)) = false := by decide) (he : starEach (e :: es) X.env = (false, eval e X.env) :: starEach es X.env := by rfl) (hpl : (backTo pos (starEach es X.env)).any (·.1) = false := by rfl) :
    JE X R W (.Call (.Name x p) (e :: es) [] pos) (mCall q P np g fs) := by
  obtain ⟨f, fd, ps, F, hm, hk, hb⟩ := c
  exact (pe_callS F hr hg hm hk hb (passAt tk) ha hdb he hpl).imp fun _ _ _ => tEvC
theorem j_call0 (c : Cal X R k x np P g) (hr : Room k X.A) (tk : Takes X W) (hg : Gl X x) (hdb : (x == ("__debug__" : Str)) = false := by decide) :
    JE X R W (.Call (.Name x p) [] [] pos) (mCall q P np g mNil) := by
  obtain ⟨f, fd, ps, F, hm, hk, hb⟩ := c
  refine PE.imp (t := fun σ H Q => spT R np P g [] H Q (WE W σ)) ?_ fun σ H Q h => ?_
  · refine ⟨fun pins s σ H Q I h => ?_⟩
    refine wpAny_Call_Name_kw (ld_glob I hg hm ?_ hdb)
    exact PySem.W.callWith_K0 I.kIn hk (run_fnS (us := []) F hr hb (passAt tk σ) I .nil h)
  · obtain ⟨x0, S, ρ, μ, e, k⟩ := h
    exact call_ok (ys := []) (vs := []) e rfl k
/-! ### methods -/
def noF (m : Str) (fs : List (Str × T)) : Bool := fs.all fun p => decide (p.1 ≠ m)
def isI (c m : Str) : Option T → Bool
  | some (.ins c' fs) => decide (c' = c) && noF m fs
  | _ => false
def mMeth (q P np : Nat) (c m : Str) (g : FM) (fo : Env → M T) (fs : Env → M (List T)) : Env → M T := fun ρ => (fo ρ).bind fun x => fun μ => if isI c m (look μ x) = true then ((fs ρ).bind fun xs => (keepAs q P (x :: xs)).bind fun ys => callM np P g ys) μ else none
theorem noF_rep {ex : Addr → Prop} : ∀ {fs : List (Str × T)} {vs : List (Str × V)}, RepF R ex H fs vs → noF m fs = true → vs.lookup m = none
  | [], _, h, _ => by cases h; rfl
  | (f, t) :: fs, _, h, e => by
    obtain ⟨x, r, rfl, h1, h2⟩ := h
    simp only [noF, List.all_cons, Bool.and_eq_true, decide_eq_true_eq] at e
    have : (m == f) = false := by simp only [beq_eq_false_iff_ne, ne_eq]; exact fun z => e.1 z.symm
    simp only [List.lookup, this]
    exact noF_rep h2 e.2
structure CalM (X : Cx) (R : RC) (k : Nat) (c m : Str) (np P : Nat) (g : FM) : Prop where
  ok : ∀ C, R.cls c = some C → Cls X.K C ∧ ∃ f fd ps, Meth X.K C m f ∧ FnOk X.prog X.w X.K X.mg X.base (L2.CX X.prog X.w) k f fd ps (spT R np P g) ∧ Binds X.K fd ps []
def tMethT (R : RC) (W : WX) (q P np : Nat) (c m : Str) (g : FM) (fo : Env → M T) (fs : Env → M (List T)) (tr : TA) : TE := fun σ H Q => tEv R W fo σ H fun x H1 => ∃ a C dx vs, x = .ref a ∧ R.cls c = some C ∧ H1 a = some (.ins C dx vs) ∧ vs.lookup m = none ∧
  tr σ H1 fun us H2 => spT R np P g (x :: us) H2 Q (WE W σ)
theorem isI_rep {a : T} (s : SOk R x0 S μ H) {c : Str} (r : RepV R (excl x0 S μ) S H a v) (h : isI c m (look μ a) = true) : ∃ a C dx vs, v = .ref a ∧ R.cls c = some C ∧ H a = some (.ins C dx vs) ∧ vs.lookup m = none := by
  cases ql : look μ a with
  | none => rw [ql] at h; cases h
  | some tx =>
    rw [ql] at h
    have r2 := look_rep s r ql
    cases tx with
    | ins c' fs =>
      simp only [isI, Bool.and_eq_true, decide_eq_true_eq] at h
      obtain ⟨rfl, hn⟩ := h
      obtain ⟨a, C, dx, vs, rfl, h1, h2, h3⟩ := r2
      exact ⟨a, C, dx, vs, rfl, h1, h2, noF_rep h3 hn⟩
    | _ => cases h
theorem tEvM {c : Str} {fo : Env → M T} (h : tEv R W (mMeth q P np c m g fo fs) σ H Q) : tMethT R W q P np c m g fo fs (tEvA R W fs) σ H Q := by
  obtain ⟨x0, S, ρ, μ, e, k⟩ := h
  refine ⟨x0, S, ρ, μ, e, (Post.bind (P := fun x0 S μ H r => Post R W x0 S μ σ H Q r) e k).imp fun x H1 ⟨tx, μ1, g1, e1, r1, k1⟩ => ?_⟩
  by_cases hi : isI c m (look μ1 tx) = true
  · simp only [if_pos hi] at k1
    obtain ⟨a, C, dx, vs, rfl, h1, h2, h3⟩ := isI_rep e1.so r1 hi
    refine ⟨a, C, dx, vs, rfl, h1, h2, h3, ?_⟩
    refine ⟨x0, S, ρ, μ1, e1, (PostA.bind (P := fun x0 S μ H r => Post R W x0 S μ σ H Q r) e1 k1).imp fun xs H2 ⟨ts, μ2, g2, e2, r2, k2⟩ => ?_⟩
    obtain ⟨ys, μ3, g3, e3, r3, k3⟩ := keepAs_bind (P := fun x0 S μ H r => Post R W x0 S μ σ H Q r) e2 (ts := tx :: ts) (vs := .ref a :: xs) ⟨_, _, rfl, g2.v e1.so.len r1, r2⟩ k2
    exact call_ok e3 r3 k3
  · simp only [if_neg hi] at k1
    exact (k1 : False).elim
theorem j_meth {c : Str} {fo : Env → M T} {pl : Sem Bool} (cm : CalM X R k c m np P g) (hr : Room k X.A) (tk : Takes X W) (ho : JE X R W o fo) (ha : JA X R W (e :: es) fs)
    (hst : starEach (e :: es) X.env = (false, eval e X.env) :: starEach es X.env := by rfl) (hpl : (backTo pos (starEach es X.env)).any (·.1) = false := by rfl)
    (ht : eval (.Call (.Attribute o m apos) (e :: es) [] pos) X.env = (do
      let ov ← eval o X.env
      standAt apos.atName
      let (f, first) ← holding [ov] (getMethod ov m pl)
      callWith pos f first (backTo pos (starEach (e :: es) X.env)) (backToKw pos (keywordEach [] X.env))) := by rfl) :
    JE X R W (.Call (.Attribute o m apos) (e :: es) [] pos) (mMeth q P np c m g fo fs) := by
  refine PE.imp (t := tMethT R W q P np c m g fo fs (tEvA R W fs)) ?_ fun _ _ _ => tEvM
  refine ⟨fun pins s σ H Q I h => ?_⟩
  refine PySem.W.methodCall_KW (pl := pl) (thn (ho.run pins s σ H _ I h) fun u s1 ⟨x, H1, I1, rx, a, C, dx, fs, ex, hC, ea, l, q⟩ => ?_) ht
  subst ex
  obtain rfl : u = Value.ref a := rx
  obtain ⟨c1, f, fd, ps, hm, F, hb⟩ := cm.ok C hC
  refine getmeth_ok I1 ea c1 hm l ?_
  refine PySem.W.callWith_K (first := [.ref a]) (h₀ := X.base) I.ok.mod.kin hm.kp (thn (ha.run pos pins s1 σ H1 _ I1 q) fun us s2 ⟨vs, H2, I2, r, q2⟩ => ⟨I2.kIn, ?_⟩) hst hpl
  exact run_fnS (us := .ref a :: us) (vs := .ref a :: vs) F hr hb (passAt tk σ) I2 (.cons rfl r) q2
theorem j_meth0 {c : Str} {fo : Env → M T} {pl : Sem Bool} (cm : CalM X R k c m np P g) (hr : Room k X.A) (tk : Takes X W) (ho : JE X R W o fo)
    (ht : eval (.Call (.Attribute o m apos) [] [] pos) X.env = (do
      let ov ← eval o X.env
      standAt apos.atName
      let (f, first) ← holding [ov] (getMethod ov m pl)
      callWith pos f first (backTo pos (starEach [] X.env)) (backToKw pos (keywordEach [] X.env))) := by rfl) :
    JE X R W (.Call (.Attribute o m apos) [] [] pos) (mMeth q P np c m g fo mNil) := by
  refine PE.imp (t := tMethT R W q P np c m g fo mNil (fun _ H Q => Q [] H)) ?_ fun σ H Q h => ?_
  · refine ⟨fun pins s σ H Q I h => ?_⟩
    refine PySem.W.methodCall_KW (pl := pl) (thn (ho.run pins s σ H _ I h) fun u s1 ⟨x, H1, I1, rx, a, C, dx, fs, ex, hC, ea, l, q⟩ => ?_) ht
    subst ex
    obtain rfl : u = Value.ref a := rx
    obtain ⟨c1, f, fd, ps, hm, F, hb⟩ := cm.ok C hC
    refine getmeth_ok I1 ea c1 hm l ?_
    exact PySem.W.callWith_K0 (first := [.ref a]) I1.kIn hm.kp (run_fnS (us := [.ref a]) (vs := [.ref a]) F hr hb (passAt tk σ) I1 (.cons rfl .nil) q)
  · obtain ⟨x0, S, ρ, μ, e, k⟩ := tEvM h
    refine ⟨x0, S, ρ, μ, e, k.imp fun x H1 ⟨a, C, dx, vs, ex, h1, h2, h3, x0', S', ρ', μ', e', k'⟩ => ⟨a, C, dx, vs, ex, h1, h2, h3, ?_⟩⟩
    exact k' [] H1 (Go.refl _ _ _) e'.so rfl
end
end TL

set_option maxHeartbeats 4000000
namespace TL
open PySem PySem.Spec PyProof.Rows L2

section
variable {X : Cx} {R : RC} {W : WX} {x0 : Addr → Prop} {S S' S2 : List Addr} {ρ ρ' : Env} {μ μ' μ1 μ2 : Mu} {σ σ' : L2.St} {H H' H1 H2 : Hp} {t : T} {v : V} {Q : VK} {P np k q : Nat} {g : FM}
/-- all is kept, the tables may have grown -/
structure Keeps (H H' : Hp) : Prop where
  keep : ∀ a o, H a = some o → (∀ ps, o ≠ .tbl ps) → H' a = some o
  there : ∀ a, H a ≠ none → H' a ≠ none
theorem Keeps.go (k : Keeps H H') : Go S μ H S μ H' := ⟨⟨[], by simp, by simp⟩, fun _ _ h => h, fun a o h ht _ => k.keep a o h ht, k.there⟩
theorem Keeps.mono {ex : Addr → Prop} (k : Keeps H H') : Mono ex ex H H' := ⟨fun a o _ h ht => k.keep a o h ht, fun _ _ h _ => h⟩
theorem SOk.keeps (s : SOk R x0 S μ H) (k : Keeps H H') (ht : R.Tab H') : SOk R x0 S μ H' where
  len := s.len
  nd := s.nd
  xd := fun a h => k.there a (s.xd a h)
  sx := s.sx
  sd := fun a h => k.there a (s.sd a h)
  sh := fun n o h => by
    obtain ⟨a, h1, h2⟩ := s.sh n o h
    refine ⟨a, h1, h2.mono k.mono fun u hu => ?_⟩
    obtain ⟨u', hu', ht⟩ := h2.at
    rw [hu] at hu'
    cases hu'
    exact k.keep a u hu ht
  fz := fun n o h => by
    obtain ⟨a, h1, h2⟩ := s.fz n o h
    exact ⟨a, h1, Rep.mono k.mono _ _ h2⟩
  tab := ht
theorem Grow.keeps (g : Grow H H') : Keeps H H' := ⟨fun a o h _ => g a o h, fun a h => by
  cases q : H a with
  | none => exact absurd q h
  | some o => rw [g a o q]; simp⟩

theorem RepX.keep {ex ex' : Addr → Prop} (m : Mono ex ex' H H') (kk : ∀ a o, H a = some o → (∀ ps, o ≠ .tbl ps) → H' a = some o) {x : Exc} {cls : Value} {d : Option Addr} (h : RepX R ex H x cls d) : RepX R ex' H' x cls d := by
  obtain ⟨C, e, hc, h | ⟨dx, vs, e2, h1, h2⟩⟩ := h
  · exact ⟨C, e, hc, .inl h⟩
  · exact ⟨C, e, hc, .inr ⟨dx, vs, e2, kk dx _ h1 (fun ps z => by cases z), RepF.mono m _ vs h2⟩⟩
theorem Mono.sub {ex ex' : Addr → Prop} (h : ∀ a, ex' a → ex a) : Mono ex ex' H H := ⟨fun a o _ h _ => h, fun a o hx _ z => hx (h a z)⟩

/-! ### a class called -/
def makeM (np : Nat) (c : Str) (g : FM) (ys : List T) : M T := fun μ => if ys.length + 1 = np then match g (.sh 0 :: ys) [(.ins c [], true)] with
    | some (.ok .non, [(.ins c' fs, true)]) => some (.ok (.ins c' fs), μ)
    | some (.ex x, _) => some (.ex x, μ)
    | _ => none
  else none
def CalC (X : Cx) (R : RC) (k : Nat) (x : Str) (np : Nat) (g : FM) : Prop := ∃ C f fd ps, R.cls x = some C ∧ Mk X.K C f ∧ FnOk X.prog X.w X.K X.mg X.base (L2.CX X.prog X.w) k f fd ps (spT R np 1 g) ∧ X.mg x = some (.ref C) ∧ Binds X.K fd ps []
def tMakeS (C : Addr) (sp : Sp) (E : L2.St → XK) (t : TA) : TE := fun σ H Q => t σ H fun vs H1 => ∀ x dx, H1 x = none → H1 dx = none → dx ≠ x →
  sp (.ref x :: vs) (upd (upd H1 dx (.own x)) x (.ins C dx [])) (fun v H2 => v = .non ∧ Q (.ref x) H2) (E σ)
theorem run_makeS {C f : Addr} {fd : FuncData} {ps : List Str} {sp : Sp} {E : XK} {pins : List (Addr × Obj)} {s : Shared} {us : List Value} {vs : List V} (M : Mk X.K C f) (F : FnOk X.prog X.w X.K X.mg X.base (L2.CX X.prog X.w) k f fd ps sp) (hr : Room (k + 1) X.A) (hb : Binds X.K fd ps [])
    (hx : PassesAt (L2.CX X.prog X.w) X σ E) (I : Inv X pins σ H s) (r : Vals vs us)
    (h : ∀ x dx, H x = none → H dx = none → dx ≠ x → sp (.ref x :: vs) (upd (upd H dx (.own x)) x (.ins C dx [])) (fun v H2 => v = .non ∧ Q (.ref x) H2) E) :
    wpAny (model X.prog X.w) X.A (call (.ref C) us) (EP X pins σ Q) X.xe s := by
  have hq := h (s.heap.objs.size + 1) s.heap.objs.size (I.hok.fresh (Nat.le_succ _)) (I.hok.fresh (Nat.le_refl _)) (Nat.ne_of_lt (Nat.lt_succ_self _))
  have I2 := Inv.made (C := C) I
  have r2 : Vals (V.ref (s.heap.objs.size + 1) :: vs) (Value.ref (s.heap.objs.size + 1) :: us) := .cons rfl r
  have hl : (Value.ref (s.heap.objs.size + 1) :: us).length = ps.length := by
    have e := r2.length
    rw [F.len _ _ _ _ hq] at e
    exact e.symm
  have b := hb _ (Value.ref (s.heap.objs.size + 1) :: us) I2.kIn (by rw [List.append_nil]; exact hl)
  rw [List.append_nil] at b
  refine wpAny_call (make_map (f := f) I.kIn M.makes M.init (beq_iff_eq.mp M.fn) (codeAny_mono (F.run _ X.stack _ _ ⟨Value.ref (s.heap.objs.size + 1) :: us, []⟩ (Value.ref (s.heap.objs.size + 1) :: us) _ _ E (hr.make C us [])
    (I2.env0.make C us []) b r2 hq) fun r s' hq' => ?_))
  cases r with
  | error e => exact hx pins _ _ e s' I2 hq'
  | ok fl =>
    cases fl with
    | ret u =>
      obtain ⟨v, H', I3, rv, ev, q3⟩ := I2.after hq'
      subst ev
      exact ⟨rv, ⟨V.ref (s.heap.objs.size + 1), H', I3, rfl, q3⟩⟩
    | next => exact False.elim hq'
    | brk => exact False.elim hq'
    | cont => exact False.elim hq'
theorem Rep.len1 {ex : Addr → Prop} : ∀ {ts : List T} {xs : List V}, Reps R ex H ts xs → xs.length = ts.length := fun h => Reps.length h
theorem Reps.args {ex : Addr → Prop} : ∀ {ts : List T} {xs : List V}, Reps R ex H ts xs → ArgsOk R ex S P H ts xs
  | [], _, h => h
  | t :: ts, _, h => by obtain ⟨x, r, e, h1, h2⟩ := h; exact ⟨x, r, e, .inr h1, Reps.args h2⟩
theorem make_ok {c : Str} {C : Addr} {ys : List T} {vs : List V} (hC : R.cls c = some C) (e : EnvOk R x0 S ρ μ σ H) (r : Reps R (excl x0 S μ) H ys vs) (h : Post R W x0 S μ σ H Q (makeM np c g ys μ)) :
    ∀ x dx, H x = none → H dx = none → dx ≠ x → spT R np 1 g (.ref x :: vs) (upd (upd H dx (.own x)) x (.ins C dx [])) (fun v H2 => v = .non ∧ Q (.ref x) H2) (WE W σ) := by
  intro x dx hx hdx hne
  have s := e.so
  unfold makeM at h
  by_cases hc : ys.length + 1 = np
  · rw [if_pos hc] at h
    have gr : Grow H (upd (upd H dx (.own x)) x (.ins C dx [])) := (Grow.new hdx).trans (Grow.new (by rw [upd_ne (Ne.symm hne)]; exact hx))
    have nx : ¬ excl x0 S μ x := fun z => s.live x z hx
    have mo : Mono (excl x0 S μ) (excl (excl x0 S μ) [x] [(.ins c [], true)]) H (upd (upd H dx (.own x)) x (.ins C dx [])) := ⟨fun a o _ h _ => gr a o h, fun a o ha h z => by
      rcases z with z | ⟨n, o', h1, h2⟩
      · exact ha z
      · cases n with
        | zero =>
          simp only [List.getElem?_cons_zero, Option.some.injEq] at h1
          subst h1
          rw [hx] at h
          cases h
        | succ n => simp at h1⟩
    have s1 : SOk R (excl x0 S μ) [x] [(.ins c [], true)] (upd (upd H dx (.own x)) x (.ins C dx [])) := by
      refine ⟨rfl, by simp, fun a h => ?_, fun n a o h1 h2 => ?_, fun a h => ?_, fun n o h1 => ?_, fun n o h1 => ?_, R.tabk _ _ s.tab (fun a ps z => gr _ _ z) fun a φ z => gr _ _ z⟩
      · exact gr.keeps.there a (s.live a h)
      · cases n with
        | zero =>
          simp only [List.getElem?_cons_zero, Option.some.injEq] at h1
          subst h1
          exact nx
        | succ n => simp at h1
      · simp only [List.mem_singleton] at h
        subst h
        rw [upd_same]
        simp
      · cases n with
        | zero =>
          simp only [List.getElem?_cons_zero, Option.some.injEq, Prod.mk.injEq, and_true] at h1
          subst h1
          exact ⟨x, rfl, C, dx, [], hC, upd_same, rfl⟩
        | succ n => simp at h1
      · cases n with
        | zero => simp at h1
        | succ n => simp at h1
    refine ⟨excl x0 S μ, [x], .sh 0 :: ys, [(.ins c [], true)], rfl, by simp; omega, s1, ⟨_, _, rfl, .inl ⟨0, x, by omega, rfl, rfl, rfl⟩, (Reps.mono mo ys vs r).args⟩, ?_⟩
    have back : ∀ {μ2 : Mu} {H3 : Hp}, Go [x] [(.ins c [], true)] (upd (upd H dx (.own x)) x (.ins C dx [])) [x] μ2 H3 → Keeps H H3 := fun {μ2 H3} g => ⟨fun a o h ht => g.keep a o (gr a o h) ht fun n m h1 h2 => by
      cases n with
      | zero =>
        simp only [List.getElem?_cons_zero, Option.some.injEq] at h1
        subst h1
        rw [hx] at h
        cases h
      | succ n => simp at h1, fun a h => g.there a (gr.keeps.there a h)⟩
    match q : g (.sh 0 :: ys) [(.ins c [], true)] with
    | none => rw [q] at h; exact h
    | some (.ex xx, μ2) =>
      rw [q] at h
      intro cls d H3 g3 s3 r3
      have kk := back g3
      exact h cls d H3 kk.go (s.keeps kk s3.tab) (r3.keep (Mono.sub fun a z => .inl z) fun _ _ h _ => h)
    | some (.ok t, μ2) =>
      rw [q] at h
      intro v H3 g3 s3 r3
      have kk := back g3
      match t, μ2, h, r3, s3 with
      | .non, [(.ins c' fs, true)], h, r3, s3 =>
        have ev : v = .non := by
          rcases r3 with ⟨_, _, e, _⟩ | r3
          · cases e
          · exact r3
        obtain ⟨a, h1, h2⟩ := s3.sh 0 (.ins c' fs) rfl
        simp only [List.getElem?_cons_zero, Option.some.injEq] at h1
        subst h1
        refine ⟨ev, h (.ref x) H3 kk.go (s.keeps kk s3.tab) (.inr ?_)⟩
        exact RepM.rep (o := .ins c' fs) (h2.mono (Mono.sub fun a z => .inl z) fun _ h => h) nx
  · rw [if_neg hc] at h
    exact h.elim
end
end TL

set_option maxHeartbeats 4000000
namespace TL
open PySem PySem.Spec PyProof.Rows L2

def mMake (q np : Nat) (c : Str) (g : FM) (fs : Env → M (List T)) : Env → M T := fun ρ => (fs ρ).bind fun xs => (keepTs q xs).bind fun ys => makeM np c g ys
/-- the ends of a statement -/
inductive SR where
  | nx (ρ : Env) | rt (t : T) | bk (ρ : Env) | ct (ρ : Env) | ex (x : Exc)
abbrev Sm := Env → Mu → Option (SR × Mu)
section
variable (R : RC) (W : WX) (x0 : Addr → Prop) (S : List Addr) (μ : Mu) (H : Hp) (D : Ends)
def PostS : Option (SR × Mu) → Prop
  | none => False
  | some (.nx ρ', μ') => ∀ S' σ' H', Go S μ H S' μ' H' → EnvOk R x0 S' ρ' μ' σ' H' → D.nx σ' H'
  | some (.bk ρ', μ') => ∀ S' σ' H', Go S μ H S' μ' H' → EnvOk R x0 S' ρ' μ' σ' H' → D.bk σ' H'
  | some (.ct ρ', μ') => ∀ S' σ' H', Go S μ H S' μ' H' → EnvOk R x0 S' ρ' μ' σ' H' → D.ct σ' H'
  | some (.rt t, μ') => ∀ S' v H', Go S μ H S' μ' H' → SOk R x0 S' μ' H' → Rep R (excl x0 S' μ') H' t v → D.rt v H'
  | some (.ex x, μ') => ∀ S' cls d σ' H', Go S μ H S' μ' H' → SOk R x0 S' μ' H' → RepX R (excl x0 S' μ') H' x cls d → W cls d σ' H'
end
def tSv (R : RC) (W : WX) (f : Sm) : TS := fun D σ H => ∃ x0 S ρ μ, EnvOk R x0 S ρ μ σ H ∧ PostS R W x0 S μ H D (f ρ μ)
abbrev JS (X : Cx) (R : RC) (W : WX) (st : Stmt) (f : Sm) : Prop := PS X st (tSv R W f)
abbrev JSs (X : Cx) (R : RC) (W : WX) (sts : List Stmt) (f : Sm) : Prop := PSs X sts (tSv R W f)

def eM {α : Type} (m : M α) (k : α → Mu → Option (SR × Mu)) : Mu → Option (SR × Mu) := fun μ => match m μ with
  | none => none
  | some (.ok a, μ') => k a μ'
  | some (.ex x, μ') => some (.ex x, μ')
def mSkip : Sm := fun ρ μ => some (.nx ρ, μ)
def mNever : Sm := fun _ _ => none
def mSeq (f g : Sm) : Sm := fun ρ μ => match f ρ μ with
  | some (.nx ρ', μ') => g ρ' μ'
  | r => r
def mBreak : Sm := fun ρ μ => some (.bk ρ, μ)
def mCont : Sm := fun ρ μ => some (.ct ρ, μ)
def mSet (i : Nat) (f : Env → M T) : Sm := fun ρ => eM (f ρ) fun t μ => some (.nx (ρ.set i (some t)), μ)
def mDrop (f : Env → M T) : Sm := fun ρ => eM (f ρ) fun _ μ => some (.nx ρ, μ)
def mRet (P : Nat) (f : Env → M T) : Sm := fun ρ => eM (f ρ) fun t => eM (keepT P t) fun t' μ => some (.rt t', μ)
def mRetN : Sm := fun _ μ => some (.rt .non, μ)
def mIf (c : Env → M Bool) (f g : Sm) : Sm := fun ρ => eM (c ρ) fun b μ => if b = true then f ρ μ else g ρ μ
def mRaise (c : Str) : Sm := fun _ μ => some (.ex ⟨c, []⟩, μ)
/-- a def's body -/
def runB (P n : Nat) (f : Sm) : FM := fun ts μ => match f (ts.map some ++ List.replicate (n - ts.length) none) μ with
  | some (.nx _, μ') => some (.ok .non, μ'.take P)
  | some (.rt t, μ') => some (.ok t, μ'.take P)
  | some (.ex x, μ') => some (.ex x, μ'.take P)
  | _ => none
section
variable {X : Cx} {R : RC} {W : WX} {x0 : Addr → Prop} {S S' S1 S2 : List Addr} {ρ ρ' : Env} {μ μ' μ1 μ2 : Mu} {σ σ' : L2.St} {H H' H1 H2 : Hp} {t : T} {v : V} {Q : VK} {P np k q : Nat} {g : FM} {D : Ends} {f f' : Sm} {st : Stmt} {sts : List Stmt} {pos p : Pos} {x : Str} {e : Expr} {es : List Expr} {fs : Env → M (List T)} {fa : Env → M T}
theorem tEvK {C : Addr} (hC : R.cls x = some C) (h : tEv R W (mMake q np x g fs) σ H Q) : tMakeS C (spT R np 1 g) (WE W) (tEvA R W fs) σ H Q := by
  obtain ⟨x0, S, ρ, μ, e, k⟩ := h
  refine ⟨x0, S, ρ, μ, e, (PostA.bind (P := fun x0 S μ H r => Post R W x0 S μ σ H Q r) e k).imp fun xs H1 ⟨ts, μ1, g1, e1, r1, k1⟩ => ?_⟩
  obtain ⟨ys, μ2, g2, e2, r2, k2⟩ := keeps_bind (P := fun x0 S μ H r => Post R W x0 S μ σ H Q r) e1 r1 k1
  exact make_ok hC e2 r2 k2
theorem j_make (c : CalC X R k x np g) (hr : Room (k + 1) X.A) (tk : Takes X W) (hg : Gl X x) (ha : JA X R W (e :: es) fs) (hdb : (x == ("__debug__" : Str)) = false := by decide) (he : starEach (e :: es) X.env = (false, eval e X.env) :: starEach es X.env := by rfl) (hpl : (backTo pos (starEach es X.env)).any (·.1) = false := by rfl) :
    JE X R W (.Call (.Name x p) (e :: es) [] pos) (mMake q np x g fs) := by
  obtain ⟨C, f, fd, ps, hC, M, F, hm, hb⟩ := c
  refine PE.imp (t := tMakeS C (spT R np 1 g) (WE W) (tEvA R W fs)) ?_ fun _ _ _ => tEvK hC
  refine ⟨fun pins s σ H Q I h => ?_⟩
  refine wpAny_Call_Name_kw (ld_glob I hg hm ?_ hdb)
  refine PySem.W.callWith_K (h₀ := X.base) I.ok.mod.kin M.kp (thn (ha.run pos pins s σ H _ I h) fun us s1 ⟨vs, H1, I1, r, q⟩ => ⟨I1.kIn, ?_⟩) he hpl
  exact run_makeS M F hr hb (passAt tk σ) I1 r q
theorem j_make0 (c : CalC X R k x np g) (hr : Room (k + 1) X.A) (tk : Takes X W) (hg : Gl X x) (hdb : (x == ("__debug__" : Str)) = false := by decide) :
    JE X R W (.Call (.Name x p) [] [] pos) (mMake q np x g mNil) := by
  obtain ⟨C, f, fd, ps, hC, M, F, hm, hb⟩ := c
  refine PE.imp (t := tMakeS C (spT R np 1 g) (WE W) (fun _ H Q => Q [] H)) ?_ fun σ H Q h => ?_
  · refine ⟨fun pins s σ H Q I h => ?_⟩
    refine wpAny_Call_Name_kw (ld_glob I hg hm ?_ hdb)
    exact PySem.W.callWith_K0 I.kIn M.kp (run_makeS (us := []) M F hr hb (passAt tk σ) I .nil h)
  · obtain ⟨x0, S, ρ, μ, e, k⟩ := tEvK hC h
    exact k [] H (Go.refl _ _ _) e.so rfl

/-! ### statements -/
theorem PostS.shift {r : Option (SR × Mu)} (g : Go S μ H S1 μ1 H1) (hl : S.length = μ.length) (h : PostS R W x0 S μ H D r) : PostS R W x0 S1 μ1 H1 D r := by
  match r, h with
  | some (.nx ρ', μ'), h => exact fun S' σ' H' g' e' => h S' σ' H' (g.trans hl g') e'
  | some (.bk ρ', μ'), h => exact fun S' σ' H' g' e' => h S' σ' H' (g.trans hl g') e'
  | some (.ct ρ', μ'), h => exact fun S' σ' H' g' e' => h S' σ' H' (g.trans hl g') e'
  | some (.rt t, μ'), h => exact fun S' v H' g' s' r' => h S' v H' (g.trans hl g') s' r'
  | some (.ex x, μ'), h => exact fun S' cls d σ' H' g' s' r' => h S' cls d σ' H' (g.trans hl g') s' r'
theorem PostS.bind {m : M T} {k : T → Mu → Option (SR × Mu)} (e : EnvOk R x0 S ρ μ σ H) (h : PostS R W x0 S μ H D (eM m k μ)) :
    Post R W x0 S μ σ H (fun v H1 => ∃ t μ1, Go S μ H S μ1 H1 ∧ EnvOk R x0 S ρ μ1 σ H1 ∧ RepV R (excl x0 S μ1) S H1 t v ∧ PostS R W x0 S μ1 H1 D (k t μ1)) (m μ) := by
  unfold eM at h
  match q : m μ with
  | none => rw [q] at h; exact h
  | some (.ok t, μ1) =>
    rw [q] at h
    exact fun v H1 g s r => ⟨t, μ1, g, e.go g s, r, PostS.shift g e.so.len h⟩
  | some (.ex x, μ1) =>
    rw [q] at h
    exact fun cls d H1 g s r => h S cls d σ H1 g s r
theorem PostS.bindA {m : M (List T)} {k : List T → Mu → Option (SR × Mu)} (e : EnvOk R x0 S ρ μ σ H) (h : PostS R W x0 S μ H D (eM m k μ)) :
    PostA R W x0 S μ σ H (fun v H1 => ∃ t μ1, Go S μ H S μ1 H1 ∧ EnvOk R x0 S ρ μ1 σ H1 ∧ RepVs R (excl x0 S μ1) S H1 t v ∧ PostS R W x0 S μ1 H1 D (k t μ1)) (m μ) := by
  unfold eM at h
  match q : m μ with
  | none => rw [q] at h; exact h
  | some (.ok t, μ1) =>
    rw [q] at h
    exact fun v H1 g s r => ⟨t, μ1, g, e.go g s, r, PostS.shift g e.so.len h⟩
  | some (.ex x, μ1) =>
    rw [q] at h
    exact fun cls d H1 g s r => h S cls d σ H1 g s r
theorem PostS.bindT {m : M Bool} {k : Bool → Mu → Option (SR × Mu)} (e : EnvOk R x0 S ρ μ σ H) (h : PostS R W x0 S μ H D (eM m k μ)) :
    PostT R W x0 S μ σ H (fun b H1 => ∃ μ1, Go S μ H S μ1 H1 ∧ EnvOk R x0 S ρ μ1 σ H1 ∧ PostS R W x0 S μ1 H1 D (k b μ1)) (m μ) := by
  unfold eM at h
  match q : m μ with
  | none => rw [q] at h; exact h
  | some (.ok t, μ1) =>
    rw [q] at h
    exact fun H1 g s => ⟨μ1, g, e.go g s, PostS.shift g e.so.len h⟩
  | some (.ex x, μ1) =>
    rw [q] at h
    exact fun cls d H1 g s r => h S cls d σ H1 g s r
theorem PostS.keep {k : T → Mu → Option (SR × Mu)} (e : EnvOk R x0 S ρ μ σ H) (r : RepV R (excl x0 S μ) S H t v) (h : PostS R W x0 S μ H D (eM (keepT P t) k μ)) :
    ∃ t' μ1, Go S μ H S μ1 H ∧ EnvOk R x0 S ρ μ1 σ H ∧ Rep R (excl x0 S μ1) H t' v ∧ PostS R W x0 S μ1 H D (k t' μ1) := by
  unfold eM at h
  rcases keep_ok (P := P) e.so r with q | ⟨q, r'⟩ | ⟨t', n, q, r'⟩
  · rw [q] at h
    exact h.elim
  · rw [q] at h
    exact ⟨_, μ, Go.refl _ _ _, e, r', h⟩
  · rw [q] at h
    exact ⟨t', _, Go.drop, e.go Go.drop e.so.drop, r', PostS.shift Go.drop e.so.len h⟩
theorem PostS.seq (h : PostS R W x0 S μ H D (mSeq f f' ρ μ)) (hl : S.length = μ.length) : PostS R W x0 S μ H { D with nx := tSv R W f' D } (f ρ μ) := by
  unfold mSeq at h
  match q : f ρ μ with
  | none => rw [q] at h; exact h
  | some (.nx ρ', μ') =>
    rw [q] at h
    exact fun S' σ' H' g e => ⟨x0, S', ρ', μ', e, PostS.shift g hl h⟩
  | some (.bk ρ', μ') => rw [q] at h; exact h
  | some (.ct ρ', μ') => rw [q] at h; exact h
  | some (.rt t, μ') => rw [q] at h; exact h
  | some (.ex x, μ') => rw [q] at h; exact h
theorem js_nil : JSs X R W [] mSkip := pss_nil.imp fun D σ H ⟨x0, S, ρ, μ, e, k⟩ => k S σ H (Go.refl _ _ _) e
theorem js_cons (h1 : JS X R W st f) (h2 : JSs X R W sts f') : JSs X R W (st :: sts) (mSeq f f') :=
  (pss_cons h1 h2).imp fun D σ H ⟨x0, S, ρ, μ, e, k⟩ => ⟨x0, S, ρ, μ, e, PostS.seq k e.so.len⟩
theorem js_one (h1 : JS X R W st f) : JSs X R W [st] f := pss_one h1
theorem js_never : JS X R W st mNever := ⟨fun _ _ _ _ _ _ ⟨_, _, _, _, _, k⟩ => k.elim⟩
theorem jss_never : JSs X R W sts mNever := ⟨fun _ _ _ _ _ _ ⟨_, _, _, _, _, k⟩ => k.elim⟩
theorem js_pass : JS X R W (.Pass pos) mSkip := ps_pass.imp fun D σ H ⟨x0, S, ρ, μ, e, k⟩ => k S σ H (Go.refl _ _ _) e
theorem js_doc {j p2} : JS X R W (.Expr (.Constant (.str x) j pos) p2) mSkip := ps_doc.imp fun D σ H ⟨x0, S, ρ, μ, e, k⟩ => k S σ H (Go.refl _ _ _) e
theorem js_break : JS X R W (.Break pos) mBreak := ps_break.imp fun D σ H ⟨x0, S, ρ, μ, e, k⟩ => k S σ H (Go.refl _ _ _) e
theorem js_cont : JS X R W (.Continue pos) mCont := ps_continue.imp fun D σ H ⟨x0, S, ρ, μ, e, k⟩ => k S σ H (Go.refl _ _ _) e
theorem js_expr (h : JE X R W e fa) (hs : swapsWith e none pos.line X.env = pure false := by rfl) : JS X R W (.Expr e pos) (mDrop fa) :=
  (ps_expr h hs).imp fun D σ H ⟨x0, S, ρ, μ, e, k⟩ => ⟨x0, S, ρ, μ, e, (PostS.bind e k).imp fun v H1 ⟨t, μ1, g1, e1, r1, k1⟩ => k1 S σ H1 (Go.refl _ _ _) e1⟩
theorem EnvOk.set (e : EnvOk R x0 S ρ μ σ H) (r : RepV R (excl x0 S μ) S H t v) (i : Nat) : EnvOk R x0 S (ρ.set i (some t)) μ (σ.set i (some v)) H := by
  refine ⟨e.so, by rw [List.length_set, List.length_set, e.len], fun j u h => ?_⟩
  by_cases hij : i = j
  · subst hij
    have hlt : i < ρ.length := by have := ltE h; rw [List.length_set] at this; exact this
    rw [List.getElem?_set_self hlt] at h
    cases h
    exact ⟨v, by rw [List.getElem?_set_self (by rw [← e.len]; exact hlt)], r⟩
  · rw [List.getElem?_set_ne hij] at h
    obtain ⟨w, h1, h2⟩ := e.vars j u h
    exact ⟨w, by rw [List.getElem?_set_ne hij]; exact h1, h2⟩
theorem js_set {i : Nat} {p2 : Pos} (hN : X.N.Nodup) (hi : X.N[i]? = some x) (hx : Loc X.env.scope x) (h : JE X R W e fa) (hs : swapsWith e (some (.Name x p2)) pos.line X.env = pure false := by rfl) (hf : X.fn x = true ∨ X.env.scope.names.lookup x = some .local := by first | exact .inl rfl | exact .inr rfl | assumption) :
    JS X R W (.Assign [.Name x p2] e pos) (mSet i fa) :=
  (ps_set hN hi hx h hs hf).imp fun D σ H ⟨x0, S, ρ, μ, e, k⟩ => ⟨x0, S, ρ, μ, e, (PostS.bind e k).imp fun v H1 ⟨t, μ1, g1, e1, r1, k1⟩ => k1 S _ H1 (Go.refl _ _ _) (e1.set r1 i)⟩
theorem js_ret (h : JE X R W e fa) : JS X R W (.Return (some e) pos) (mRet P fa) :=
  (ps_ret h).imp fun D σ H ⟨x0, S, ρ, μ, e, k⟩ => by
    refine ⟨x0, S, ρ, μ, e, (PostS.bind e k).imp fun v H1 ⟨t, μ1, g1, e1, r1, k1⟩ => ?_⟩
    obtain ⟨t', μ2, g2, e2, r2, k2⟩ := PostS.keep e1 r1 k1
    exact k2 S v H1 (Go.refl _ _ _) e2.so r2
theorem js_retN : JS X R W (.Return none pos) mRetN := ps_retN.imp fun D σ H ⟨x0, S, ρ, μ, e, k⟩ => k S .non H (Go.refl _ _ _) e.so rfl
theorem js_if {c : Expr} {a b : List Stmt} {fc : Env → M Bool} (hc : JT X R W c fc) (ha : JSs X R W a f) (hb : JSs X R W b f') : JS X R W (.If c a b pos) (mIf fc f f') :=
  (ps_if hc ha hb).imp fun D σ H ⟨x0, S, ρ, μ, e, k⟩ => by
    refine ⟨x0, S, ρ, μ, e, (PostS.bindT e k).imp fun b H1 ⟨μ1, g1, e1, k1⟩ => ?_⟩
    cases b with
    | true => exact ⟨x0, S, ρ, μ1, e1, k1⟩
    | false => exact ⟨x0, S, ρ, μ1, e1, k1⟩
end
end TL

set_option maxHeartbeats 4000000
namespace TL
open PySem PySem.Spec PyProof.Rows L2

section
variable {X : Cx} {R : RC} {W : WX} {x0 : Addr → Prop} {S S' S1 S2 : List Addr} {ρ ρ' : Env} {μ μ' μ1 μ2 : Mu} {σ σ' : L2.St} {H H' H1 H2 : Hp} {t : T} {v : V} {Q : VK} {P np k q : Nat} {g : FM} {D : Ends} {f f' : Sm} {st : Stmt} {sts : List Stmt} {pos p : Pos} {x : Str} {e : Expr} {es : List Expr} {fs : Env → M (List T)} {fa : Env → M T}
/-! ### a def -/
theorem take_live {n : Nat} {o : MO} {b : Bool} (h : (μ.take P)[n]? = some (o, b)) : n < P ∧ μ[n]? = some (o, b) := by
  have hn : n < P := by have := ltE h; rw [List.length_take] at this; omega
  rw [List.getElem?_take_of_lt hn] at h
  exact ⟨hn, h⟩
theorem excl_take {a : Addr} (hl : S'.length = μ'.length) (h : excl x0 (S'.take P) (μ'.take P) a) : excl x0 S' μ' a := by
  rcases h with h | ⟨n, o, h1, h2⟩
  · exact .inl h
  · obtain ⟨hn, h2⟩ := take_live h2
    rw [List.getElem?_take_of_lt hn] at h1
    exact .inr ⟨n, o, h1, h2⟩
theorem SOk.trunc (s : SOk R x0 S' μ' H') : SOk R x0 (S'.take P) (μ'.take P) H' where
  len := by rw [List.length_take, List.length_take, s.len]
  nd := s.nd.sublist (List.take_sublist ..)
  xd := s.xd
  sx := fun n a o h1 h2 => by
    obtain ⟨hn, h2⟩ := take_live h2
    rw [List.getElem?_take_of_lt hn] at h1
    exact s.sx n a o h1 h2
  sd := fun a h => s.sd a (List.mem_of_mem_take h)
  sh := fun n o h => by
    obtain ⟨hn, h2⟩ := take_live h
    obtain ⟨a, h3, h4⟩ := s.sh n o h2
    exact ⟨a, by rw [List.getElem?_take_of_lt hn]; exact h3, h4.mono (Mono.sub fun a => excl_take s.len) fun _ h => h⟩
  fz := fun n o h => by
    obtain ⟨hn, h2⟩ := take_live h
    obtain ⟨a, h3, h4⟩ := s.fz n o h2
    exact ⟨a, by rw [List.getElem?_take_of_lt hn]; exact h3, Rep.mono (Mono.sub fun a => excl_take s.len) _ _ h4⟩
  tab := s.tab
theorem Go.trunc (hS : S.length = P) (hl : S.length = μ.length) (g : Go S μ H S' μ' H') : S'.take P = S ∧ Go S μ H S (μ'.take P) H' := by
  obtain ⟨more, e, hn⟩ := g.pre
  refine ⟨by rw [e, List.take_append_of_le_length (by omega), List.take_of_length_le (by omega)], ⟨[], by simp, by simp⟩, fun n o h => ?_, g.keep, g.there⟩
  have hlt : n < P := by have := ltE h; omega
  rw [List.getElem?_take_of_lt hlt]
  exact g.dead n o h
theorem start_ok {n : Nat} {ts : List T} {vs : List V} (s : SOk R x0 S μ H) (a : ArgsOk R (excl x0 S μ) S P H ts vs) {N : List Str} (hn : N.length = n) : EnvOk R x0 S (ts.map some ++ List.replicate (n - ts.length) none) μ (L2.start N vs) H := by
  have hl := a.length
  refine ⟨s, by unfold L2.start; simp only [List.length_append, List.length_map, List.length_replicate]; rw [hl, hn], fun i t h => ?_⟩
  by_cases hi : i < ts.length
  · rw [List.getElem?_append_left (by rw [List.length_map]; exact hi), List.getElem?_map] at h
    have : ∀ {ts : List T} {vs : List V} {i : Nat} {t : T}, ArgsOk R (excl x0 S μ) S P H ts vs → ts[i]? = some t → ∃ v, vs[i]? = some v ∧ ArgOk R (excl x0 S μ) S P H t v := by
      intro ts
      induction ts with
      | nil => intro vs i t _ h; simp at h
      | cons u us ih =>
        intro vs i t h e
        obtain ⟨x, r, rfl, h1, h2⟩ := h
        cases i with
        | zero => simp only [List.getElem?_cons_zero, Option.some.injEq] at e; subst e; exact ⟨x, rfl, h1⟩
        | succ i => simp only [List.getElem?_cons_succ] at e ⊢; exact ih h2 e
    cases q : ts[i]? with
    | none => rw [q] at h; cases h
    | some u =>
      rw [q] at h
      cases h
      obtain ⟨v, h1, h2⟩ := this a q
      refine ⟨v, ?_, ?_⟩
      · unfold L2.start
        rw [List.getElem?_append_left (by rw [List.length_map]; exact ltE h1), List.getElem?_map, h1]
        rfl
      · rcases h2 with ⟨n, a, _, e1, e2, e3⟩ | h2
        · exact .inl ⟨n, a, e1, e2, e3⟩
        · exact .inr h2
  · rw [List.getElem?_append_right (by rw [List.length_map]; omega), List.getElem?_replicate] at h
    split at h <;> cases h
theorem runB_ok {E : XK} {ts : List T} {n : Nat} (hS : S.length = P) (s : SOk R x0 S μ H) (h : Post R (fun cls d _ H' => E cls d H') x0 S μ [] H Q (runB P n f ts μ)) :
    PostS R (fun cls d _ H' => E cls d H') x0 S μ H { nx := fun _ H' => Q .non H', rt := Q } (f (ts.map some ++ List.replicate (n - ts.length) none) μ) := by
  unfold runB at h
  match q : f (ts.map some ++ List.replicate (n - ts.length) none) μ with
  | none => rw [q] at h; exact h
  | some (.nx ρ', μ') =>
    rw [q] at h
    intro S' σ' H' g e
    obtain ⟨e1, g1⟩ := g.trunc hS s.len
    have s1 := e.so.trunc (P := P)
    rw [e1] at s1
    exact h .non H' g1 s1 (.inr rfl)
  | some (.bk ρ', μ') => rw [q] at h; exact h.elim
  | some (.ct ρ', μ') => rw [q] at h; exact h.elim
  | some (.rt t, μ') =>
    rw [q] at h
    intro S' v H' g s' r
    obtain ⟨e1, g1⟩ := g.trunc hS s.len
    have s1 := s'.trunc (P := P)
    have r1 := Rep.mono (Mono.sub fun a => excl_take (P := P) s'.len) _ _ r
    rw [e1] at s1 r1
    exact h v H' g1 s1 (.inr r1)
  | some (.ex x, μ') =>
    rw [q] at h
    intro S' cls d σ' H' g s' r
    obtain ⟨e1, g1⟩ := g.trunc hS s.len
    have s1 := s'.trunc (P := P)
    have r1 := r.keep (Mono.sub fun a => excl_take (P := P) s'.len) fun _ _ h _ => h
    rw [e1] at s1 r1
    exact h cls d H' g1 s1 r1
theorem fn_tl {prog : Program} {w : World} {K : PySem.W.Frag} {mg : Str → Option Value} {base : Heap} {x qual : Str} {st : Stmt} {f : Addr} {fd : FuncData} {N ps : List Str} {mb : Sm} {n : Nat} (F : Fun K x qual st f fd) (Sc : FnScope N ps (defScope st)) (hnp : ps.length = np) (hn : N.length = n)
    (hbody : ∀ (cdv : Value) (A : Around) (outer : List PySem.Env) (s : Shared) (H : Hp) (E : XK), Room k (A.deeper (envOfC qual (defScope st) s.heap.objs.size f cdv)) →
      JSs (cxOf (L2.CX prog w) prog w K mg base N qual (defScope st) f cdv A outer s H E) R (fun cls d _ H' => E cls d H') (defBody st) mb) : FnOk prog w K mg base (L2.CX prog w) (k + 1) f fd ps (spT R np P (runB P n mb)) := by
  refine F.okX Sc (fun vs H Q E h => ?_) (fun cdv A outer s H vs Q E hr h => ?_)
  · obtain ⟨x0, S, ts, μ, _, hl, _, a, _⟩ := h
    rw [a.length, hl, hnp]
  · obtain ⟨x0, S, ts, μ, hS, hl, so, a, h⟩ := h
    exact ⟨_, hbody cdv A outer s H E hr, x0, S, _, μ, start_ok so a hn, runB_ok hS so h⟩
theorem takes_cx {prog : Program} {w : World} {K : PySem.W.Frag} {mg : Str → Option Value} {base : Heap} {N : List Str} {qual : Str} {scope : Scope} {f : Addr} {cd : Value} {A : Around} {outer : List PySem.Env} {s : Shared} {H : Hp} {E : XK} :
    Takes (cxOf (L2.CX prog w) prog w K mg base N qual scope f cd A outer s H E) (fun cls d _ H' => E cls d H') := takes_of rfl rfl rfl rfl
/-! ### raise -/
structure CalX (X : Cx) (R : RC) (x : Str) : Prop where
  ok : ∃ C, R.cls x = some C ∧ PySem.W.excIn X.K C [.type "ValueError", .type "Exception", .type "BaseException", .type "object"] "ValueError.__new__" = true ∧ X.mg x = some (.ref C) ∧ PySem.W.keepIn X.K (.ref C) = true ∧ Raises X (.ref C)
theorem js_raise {m : Str} {j : Nat} {p2 p3 : Pos} (c : CalX X R x) (hc : X.calm = true) (tk : Takes X W) (hg : Gl X x) (hdb : (x == ("__debug__" : Str)) = false := by decide) :
    JS X R W (.Raise (some (.Call (.Name x p) [.Constant (.str m) j p2] [] p3)) none pos) (mRaise x) := by
  obtain ⟨C, hC, q, gC, kC, r⟩ := c.ok
  exact (ps_raise hc tk (pmk_own PySem.F.excBase_ValueError q gC kC r hg hdb)).imp fun D σ H ⟨x0, S, ρ, μ, e, k⟩ => k S (.ref C) none σ H (Go.refl _ _ _) e.so ⟨C, rfl, hC, .inl ⟨rfl, rfl⟩⟩
end
end TL

set_option maxHeartbeats 4000000
namespace TL
open PySem PySem.Spec PyProof.Rows L2

/-! ### new things -/
abbrev xa (x0 : Addr → Prop) (a : Addr) : Addr → Prop := fun b => x0 b ∨ b = a
def PostF (R : RC) (W : WX) (x0 : Addr → Prop) (S : List Addr) (μ : Mu) (σ : L2.St) (H : Hp) (Q : VK) : Option (Res MO × Mu) → Prop
  | none => False
  | some (.ok o, μ') => ∀ a H', Go S μ H S μ' H' → H a = none → SOk R (xa x0 a) S μ' H' → RepM R (excl (xa x0 a) S μ') H' o a → Q (.ref a) H'
  | some (.ex x, μ') => ∀ cls d H', Go S μ H S μ' H' → SOk R x0 S μ' H' → RepX R (excl x0 S μ') H' x cls d → W cls d σ H'
def tEvF (R : RC) (W : WX) (f : Env → M MO) : TE := fun σ H Q => ∃ x0 S ρ μ, EnvOk R x0 S ρ μ σ H ∧ PostF R W x0 S μ σ H Q (f ρ μ)
abbrev JF (X : Cx) (R : RC) (W : WX) (e : Expr) (f : Env → M MO) : Prop := PE X e (tEvF R W f)
section
variable {X : Cx} {R : RC} {W : WX} {x0 : Addr → Prop} {S S' S1 S2 : List Addr} {ρ ρ' : Env} {μ μ' μ1 μ2 : Mu} {σ σ' : L2.St} {H H' H1 H2 : Hp} {t : T} {v : V} {Q : VK} {P np k q : Nat} {g : FM} {D : Ends} {f f' : Sm} {st : Stmt} {sts : List Stmt} {pos p : Pos} {x : Str} {e : Expr} {es : List Expr} {fs : Env → M (List T)} {fa : Env → M T} {a : Addr} {o : MO}
theorem PostF.shift {r : Option (Res MO × Mu)} (g : Go S μ H S μ1 H1) (hl : S.length = μ.length) (h : PostF R W x0 S μ σ H Q r) : PostF R W x0 S μ1 σ H1 Q r := by
  match r, h with
  | some (.ok t, μ'), h => exact fun v H' g' n s' r' => h v H' (g.trans hl g') (by
      cases q : H v with
      | none => rfl
      | some o => exact absurd n (g.there v (by rw [q]; simp))) s' r'
  | some (.ex x, μ'), h => exact fun cls d H' g' s' r' => h cls d H' (g.trans hl g') s' r'
instance endF {Q : VK} : Ending MO (fun x0 S μ H r => PostF R W x0 S μ σ H Q r) R W σ := ⟨fun _ _ _ _ h => h, fun _ _ _ _ _ _ h => h, fun _ _ _ _ _ _ _ g hl h => PostF.shift g hl h⟩
theorem PostF.imp {Q Q' : VK} {r : Option (Res MO × Mu)} (h : PostF R W x0 S μ σ H Q r) (k : ∀ v H', Q v H' → Q' v H') : PostF R W x0 S μ σ H Q' r := by
  match r, h with
  | some (.ok t, μ'), h => exact fun v H' g n s r => k _ _ (h v H' g n s r)
  | some (.ex x, μ'), h => exact h
theorem excl_push (hl : S.length = μ.length) : excl x0 (S ++ [a]) (μ ++ [(o, true)]) = excl (xa x0 a) S μ := by
  funext b
  apply propext
  constructor
  · rintro (h | ⟨n, o', h1, h2⟩)
    · exact .inl (.inl h)
    · by_cases hn : n < S.length
      · rw [List.getElem?_append_left hn] at h1
        rw [List.getElem?_append_left (by omega)] at h2
        exact .inr ⟨n, o', h1, h2⟩
      · have hn' : n = S.length := by
          have := ltE h1
          simp only [List.length_append, List.length_singleton] at this
          omega
        subst hn'
        simp at h1
        exact .inl (.inr h1.symm)
  · rintro ((h | h) | ⟨n, o', h1, h2⟩)
    · exact .inl h
    · subst h
      refine .inr ⟨S.length, o, by simp, ?_⟩
      rw [hl]
      simp
    · have hn := ltE h1
      exact .inr ⟨n, o', by rw [List.getElem?_append_left hn]; exact h1, by rw [List.getElem?_append_left (by omega)]; exact h2⟩
/-- the new thing joins the store -/
theorem push_ok (e : EnvOk R x0 S ρ μ σ H) (g : Go S μ H S μ' H') (n : H a = none) (s : SOk R (xa x0 a) S μ' H') (r : RepM R (excl (xa x0 a) S μ') H' o a) :
    Go S μ H (S ++ [a]) (μ' ++ [(o, true)]) H' ∧ EnvOk R x0 (S ++ [a]) ρ (μ' ++ [(o, true)]) σ H' := by
  have nS : a ∉ S := fun h => e.so.sd a h n
  have nx : ¬ x0 a := fun h => e.so.xd a h n
  have G : Go S μ H (S ++ [a]) (μ' ++ [(o, true)]) H' := ⟨⟨[a], rfl, fun b hb => by rw [List.mem_singleton] at hb; subst hb; exact n⟩, fun m o' h => by
    have h' := g.dead m o' h
    rw [List.getElem?_append_left (ltE h')]
    exact h', g.keep, g.there⟩
  have ex := excl_push (x0 := x0) (a := a) (o := o) s.len
  refine ⟨G, e.go G ⟨by simp [s.len], ?_, fun b h => s.xd b (.inl h), fun m b o' h1 h2 => ?_, fun b h => ?_, fun m o' h => ?_, fun m o' h => ?_, s.tab⟩⟩
  · rw [List.nodup_append]
    exact ⟨s.nd, by simp, fun b hb c hc hbc => by rw [List.mem_singleton] at hc; subst hc; subst hbc; exact nS hb⟩
  · by_cases hm : m < S.length
    · rw [List.getElem?_append_left hm] at h1
      rw [List.getElem?_append_left (by rw [← s.len]; exact hm)] at h2
      exact fun z => s.sx m b o' h1 h2 (.inl z)
    · rw [List.getElem?_append_right (by omega)] at h1
      have hb : b = a := by
        have := ltE h1
        simp only [List.length_singleton] at this
        have e0 : m - S.length = 0 := by omega
        rw [e0] at h1
        simp at h1
        exact h1.symm
      subst hb
      exact nx
  · rcases List.mem_append.mp h with h | h
    · exact s.sd b h
    · rw [List.mem_singleton] at h
      subst h
      exact s.xd b (.inr rfl)
  · rw [ex]
    by_cases hm : m < μ'.length
    · rw [List.getElem?_append_left hm] at h
      obtain ⟨b, h1, h2⟩ := s.sh m o' h
      exact ⟨b, by rw [List.getElem?_append_left (by rw [s.len]; exact hm)]; exact h1, h2⟩
    · rw [List.getElem?_append_right (by omega)] at h
      have e0 : m - μ'.length = 0 := by
        have := ltE h
        simp only [List.length_singleton] at this
        omega
      rw [e0] at h
      simp at h
      subst h
      have hm' : m = μ'.length := by omega
      refine ⟨a, ?_, r⟩
      rw [hm', ← s.len]
      simp
  · rw [ex]
    by_cases hm : m < μ'.length
    · rw [List.getElem?_append_left hm] at h
      obtain ⟨b, h1, h2⟩ := s.fz m o' h
      exact ⟨b, by rw [List.getElem?_append_left (by rw [s.len]; exact hm)]; exact h1, h2⟩
    · rw [List.getElem?_append_right (by omega)] at h
      have e0 : m - μ'.length = 0 := by
        have := ltE h
        simp only [List.length_singleton] at this
        omega
      rw [e0] at h
      simp at h
theorem SOk.unx (s : SOk R (xa x0 a) S μ H) : SOk R x0 S μ H where
  len := s.len
  nd := s.nd
  xd := fun b h => s.xd b (.inl h)
  sx := fun n b o h1 h2 h => s.sx n b o h1 h2 (.inl h)
  sd := s.sd
  sh := fun n o h => by
    obtain ⟨b, h1, h2⟩ := s.sh n o h
    exact ⟨b, h1, h2.mono (Mono.sub fun c hc => by
      rcases hc with hc | hc
      · exact .inl (.inl hc)
      · exact .inr hc) fun _ h => h⟩
  fz := fun n o h => by
    obtain ⟨b, h1, h2⟩ := s.fz n o h
    exact ⟨b, h1, Rep.mono (Mono.sub fun c hc => by
      rcases hc with hc | hc
      · exact .inl (.inl hc)
      · exact .inr hc) _ _ h2⟩
  tab := s.tab
/-- a new thing that is never written -/
def mOf (f : Env → M MO) : Env → M T := fun ρ μ => match f ρ μ with
  | none => none
  | some (.ok o, μ') => some (.ok o.t, μ')
  | some (.ex x, μ') => some (.ex x, μ')
theorem mOf_red {ff : Env → M MO} {σ : L2.St} {H : Hp} {Q : VK} : tEv R W (mOf ff) σ H Q → tEvF R W ff σ H Q := fun ⟨x0, S, ρ, μ, e, k⟩ => by
  refine ⟨x0, S, ρ, μ, e, ?_⟩
  unfold mOf at k
  match q : ff ρ μ with
  | none => rw [q] at k; exact k
  | some (.ex x, μ') => rw [q] at k; exact k
  | some (.ok o, μ') =>
    rw [q] at k
    intro a H' g n s r
    refine k (.ref a) H' g s.unx (.inr ?_)
    have nS : a ∉ S := fun h => e.so.sd a h n
    have nx : ¬ x0 a := fun h => e.so.xd a h n
    refine RepM.rep (r.mono (Mono.sub fun c hc => ?_) fun _ h => h) ?_
    · rcases hc with hc | hc
      · exact .inl (.inl hc)
      · exact .inr hc
    · rintro (h | ⟨m, o', h1, h2⟩)
      · exact nx h
      · exact nS (List.mem_of_getElem? h1)
theorem j_of {ff : Env → M MO} (h : JF X R W e ff) : JE X R W e (mOf ff) := PE.imp h fun _ _ _ => mOf_red
/-- what is laid just now -/
theorem newF (e : EnvOk R x0 S ρ μ σ H) (h : PostF R W x0 S μ σ H Q (some (.ok o, μ))) (n : H a = none) (gr : Grow H H') (ha : H' a ≠ none) (r : ∀ ex', Mono (excl x0 S μ) ex' H H' → RepM R ex' H' o a) : Q (.ref a) H' := by
  have mo : Mono (excl x0 S μ) (excl (xa x0 a) S μ) H H' := ⟨fun b o _ h _ => gr b o h, fun b o hx hb z => by
    rcases z with (z | z) | z
    · exact hx (.inl z)
    · subst z
      rw [n] at hb
      cases hb
    · exact hx (.inr z)⟩
  have s := e.so
  refine h a H' (Go.grow gr) n ⟨s.len, s.nd, fun b hb => ?_, fun m b o h1 h2 z => ?_, fun b hb => gr.keeps.there b (s.sd b hb), fun m o' hm => ?_, fun m o' hm => ?_, R.tabk _ _ s.tab (fun a ps z => gr _ _ z) fun a φ z => gr _ _ z⟩ (r _ mo)
  · rcases hb with hb | hb
    · exact gr.keeps.there b (s.xd b hb)
    · subst hb
      exact ha
  · rcases z with z | z
    · exact s.sx m b o h1 h2 z
    · subst z
      exact s.sd b (List.mem_of_getElem? h1) n
  · obtain ⟨b, h1, h2⟩ := s.sh m o' hm
    exact ⟨b, h1, h2.mono mo fun u hu => gr _ _ hu⟩
  · obtain ⟨b, h1, h2⟩ := s.fz m o' hm
    exact ⟨b, h1, Rep.mono mo _ _ h2⟩
def mLstF (P : Nat) (fs : Env → M (List T)) : Env → M MO := fun ρ => (fs ρ).bind fun xs => (keepTs P xs).bind fun ys μ => if ys.length ≤ 1000 then some (.ok (.lst ys), μ) else none
theorem j_lstF (h : JA X R W es fs) : JF X R W (.List es pos) (mLstF P fs) :=
  (pe_lst h).imp fun σ H Q ⟨x0, S, ρ, μ, e, k⟩ => by
    refine ⟨x0, S, ρ, μ, e, (PostA.bind (P := fun x0 S μ H r => PostF R W x0 S μ σ H Q r) e k).imp fun xs H1 ⟨txs, μ1, g1, e1, r1, k1⟩ => ?_⟩
    obtain ⟨ys, μ2, g2, e2, r2, k2⟩ := keeps_bind (P := fun x0 S μ H r => PostF R W x0 S μ σ H Q r) e1 r1 k1
    by_cases hz : ys.length ≤ 1000
    · simp only [if_pos hz] at k2
      refine ⟨by rw [r2.length]; exact Nat.le_trans hz (by decide), fun p hp => newF e2 k2 hp (Grow.new hp) (by rw [upd_same]; simp) fun ex' mo => ⟨xs, upd_same, Reps.mono mo _ _ r2⟩⟩
    · simp only [if_neg hz] at k2
      exact (k2 : False).elim
def mDctF (tk : Bool) : Env → M MO := fun _ μ => some (.ok (.dct tk []), μ)
theorem j_dctK : JF X R W (.Dict [] [] pos) (mDctF false) := pe_dnewK.imp fun σ H Q ⟨x0, S, ρ, μ, e, k⟩ => fun p hp => newF e k hp (Grow.new hp) (by rw [upd_same]; simp) fun ex' mo => ⟨[], upd_same, rfl⟩
theorem j_dctT : JF X R W (.Dict [] [] pos) (mDctF true) := pe_dnewT.imp fun σ H Q ⟨x0, S, ρ, μ, e, k⟩ => fun p hp => newF e k hp (Grow.new hp) (by rw [upd_same]; simp) fun ex' mo => ⟨[], upd_same, rfl⟩
/-- name = new thing -/
def mNew (i : Nat) (ff : Env → M MO) : Sm := fun ρ μ => match ff ρ μ with
  | none => none
  | some (.ok o, μ') => some (.nx (ρ.set i (some (.sh μ'.length))), μ' ++ [(o, true)])
  | some (.ex x, μ') => some (.ex x, μ')
theorem js_new {i : Nat} {p2 : Pos} {ff : Env → M MO} (hN : X.N.Nodup) (hi : X.N[i]? = some x) (hx : Loc X.env.scope x) (h : JF X R W e ff) (hs : swapsWith e (some (.Name x p2)) pos.line X.env = pure false := by rfl) (hf : X.fn x = true ∨ X.env.scope.names.lookup x = some .local := by first | exact .inl rfl | exact .inr rfl | assumption) :
    JS X R W (.Assign [.Name x p2] e pos) (mNew i ff) :=
  (ps_set hN hi hx h hs hf).imp fun D σ H ⟨x0, S, ρ, μ, e, k⟩ => by
    refine ⟨x0, S, ρ, μ, e, ?_⟩
    unfold mNew at k
    match q : ff ρ μ with
    | none => rw [q] at k; exact k
    | some (.ex x, μ') => rw [q] at k; exact fun cls d H' g s r => k S cls d σ H' g s r
    | some (.ok o, μ') =>
      rw [q] at k
      intro a H' g n s r
      obtain ⟨G, E⟩ := push_ok e g n s r
      exact k (S ++ [a]) _ H' G (E.set (.inl ⟨μ'.length, a, rfl, by rw [← s.len]; simp, rfl⟩) i)
/-! ### several at once -/
def PostG (R : RC) (W : WX) (x0 : Addr → Prop) (S : List Addr) (μ : Mu) (σ : L2.St) (H : Hp) (Q : List V → Hp → Prop) : Option (Res (List T) × Mu) → Prop
  | none => False
  | some (.ok ts, μ') => ∀ S' vs H', Go S μ H S' μ' H' → SOk R x0 S' μ' H' → RepVs R (excl x0 S' μ') S' H' ts vs → Q vs H'
  | some (.ex x, μ') => ∀ S' cls d H', Go S μ H S' μ' H' → SOk R x0 S' μ' H' → RepX R (excl x0 S' μ') H' x cls d → W cls d σ H'
def tEvG (R : RC) (W : WX) (f : Env → M (List T)) : TA := fun σ H Q => ∃ x0 S ρ μ, EnvOk R x0 S ρ μ σ H ∧ PostG R W x0 S μ σ H Q (f ρ μ)
abbrev JG (X : Cx) (R : RC) (W : WX) (es : List Expr) (f : Env → M (List T)) : Prop := PA X es (tEvG R W f)
theorem PostG.shift {Q : List V → Hp → Prop} {r : Option (Res (List T) × Mu)} (g : Go S μ H S1 μ1 H1) (hl : S.length = μ.length) (h : PostG R W x0 S μ σ H Q r) : PostG R W x0 S1 μ1 σ H1 Q r := by
  match r, h with
  | some (.ok t, μ'), h => exact fun S' v H' g' s' r' => h S' v H' (g.trans hl g') s' r'
  | some (.ex x, μ'), h => exact fun S' cls d H' g' s' r' => h S' cls d H' (g.trans hl g') s' r'
instance endG {Q : List V → Hp → Prop} : Ending (List T) (fun x0 S μ H r => PostG R W x0 S μ σ H Q r) R W σ := ⟨fun _ _ _ _ h => h, fun _ _ _ _ _ _ h => fun cls d H' g s r => h _ cls d H' g s r, fun _ _ _ _ _ _ _ g hl h => PostG.shift g hl h⟩
theorem PostG.imp {Q Q' : List V → Hp → Prop} {r : Option (Res (List T) × Mu)} (h : PostG R W x0 S μ σ H Q r) (k : ∀ v H', Q v H' → Q' v H') : PostG R W x0 S μ σ H Q' r := by
  match r, h with
  | some (.ok t, μ'), h => exact fun S' v H' g s r => k _ _ (h S' v H' g s r)
  | some (.ex x, μ'), h => exact h
/-- what follows in the list, then the first in front of it -/
theorem PostG.cons {Q : List V → Hp → Prop} {m : M (List T)} {u : T} {w : V} (hl : S.length = μ.length) (r0 : RepV R (excl x0 S μ) S H u w) (h : PostG R W x0 S μ σ H Q (M.bind m (fun xs => M.ret (u :: xs)) μ)) :
    PostG R W x0 S μ σ H (fun vs H' => Q (w :: vs) H') (m μ) := by
  unfold M.bind at h
  match q : m μ with
  | none => rw [q] at h; exact h
  | some (.ok ts, μ') =>
    rw [q] at h
    exact fun S' vs H' g s r => h S' (w :: vs) H' g s ⟨w, vs, rfl, g.v hl r0, r⟩
  | some (.ex x, μ') => rw [q] at h; exact h
def mConsN (ff : Env → M MO) (fr : Env → M (List T)) : Env → M (List T) := fun ρ μ => match ff ρ μ with
  | none => none
  | some (.ok o, μ') => ((fr ρ).bind fun xs => M.ret (.sh μ'.length :: xs)) (μ' ++ [(o, true)])
  | some (.ex x, μ') => some (.ex x, μ')
theorem jg_nil : JG X R W [] mNil := pa_nil.imp fun σ H Q ⟨x0, S, ρ, μ, e, k⟩ => k S [] H (Go.refl _ _ _) e.so rfl
theorem jg_cons {fr : Env → M (List T)} (ha : JE X R W e fa) (hr : JG X R W es fr) (hs : starEach (e :: es) X.env = (false, eval e X.env) :: starEach es X.env := by rfl) : JG X R W (e :: es) (mCons fa fr) :=
  (pa_cons ha hr hs).imp fun σ H Q ⟨x0, S, ρ, μ, e, k⟩ => by
    refine ⟨x0, S, ρ, μ, e, (Post.bind (P := fun x0 S μ H r => PostG R W x0 S μ σ H Q r) e k).imp fun x H1 ⟨tx, μ1, g1, e1, r1, k1⟩ => ?_⟩
    exact ⟨x0, S, ρ, μ1, e1, PostG.cons e1.so.len r1 k1⟩
theorem jg_consN {fr : Env → M (List T)} {ff : Env → M MO} (ha : JF X R W e ff) (hr : JG X R W es fr) (hs : starEach (e :: es) X.env = (false, eval e X.env) :: starEach es X.env := by rfl) : JG X R W (e :: es) (mConsN ff fr) :=
  (pa_cons ha hr hs).imp fun σ H Q ⟨x0, S, ρ, μ, e, k⟩ => by
    refine ⟨x0, S, ρ, μ, e, ?_⟩
    unfold mConsN at k
    match q : ff ρ μ with
    | none => rw [q] at k; exact k
    | some (.ex x, μ') => rw [q] at k; exact fun cls d H' g s r => k S cls d H' g s r
    | some (.ok o, μ') =>
      rw [q] at k
      intro a H' g n s r
      obtain ⟨G, E⟩ := push_ok e g n s r
      refine ⟨x0, _, ρ, _, E, PostG.cons E.so.len (.inl ⟨μ'.length, a, rfl, by rw [← s.len]; simp, rfl⟩) (PostG.shift G e.so.len k)⟩
/-- a, b, .. = .. -/
def setL : List Nat → List T → Env → Option Env
  | [], [], ρ => some ρ
  | i :: is, t :: ts, ρ => setL is ts (ρ.set i (some t))
  | _, _, _ => none
def mPar (is : List Nat) (fs : Env → M (List T)) : Sm := fun ρ => eM (fs ρ) fun ts μ => match setL is ts ρ with
  | some ρ' => some (.nx ρ', μ)
  | none => none
theorem PostS.bindG {m : M (List T)} {k : List T → Mu → Option (SR × Mu)} (e : EnvOk R x0 S ρ μ σ H) (h : PostS R W x0 S μ H D (eM m k μ)) :
    PostG R W x0 S μ σ H (fun v H1 => ∃ t S1 μ1, Go S μ H S1 μ1 H1 ∧ EnvOk R x0 S1 ρ μ1 σ H1 ∧ RepVs R (excl x0 S1 μ1) S1 H1 t v ∧ PostS R W x0 S1 μ1 H1 D (k t μ1)) (m μ) := by
  unfold eM at h
  match q : m μ with
  | none => rw [q] at h; exact h
  | some (.ok t, μ1) =>
    rw [q] at h
    exact fun S1 v H1 g s r => ⟨t, S1, μ1, g, e.go g s, r, PostS.shift g e.so.len h⟩
  | some (.ex x, μ1) =>
    rw [q] at h
    exact fun S1 cls d H1 g s r => h S1 cls d σ H1 g s r
theorem js_par {i j : Nat} {y : Str} {a b : Expr} {px py pt : Pos} {kt k2 pt2} (hc : X.calm = true) (hN : X.N.Nodup) (hi : X.N[i]? = some x) (hj : X.N[j]? = some y) (hij : i ≠ j)
    (hx : X.env.scope.names.lookup x = some .local) (hy : X.env.scope.names.lookup y = some .local) (ha : JG X R W [a, b] fs)
    (hw : swappedStores [.Tuple [.Name x px, .Name y py] kt pt] (.Tuple [a, b] k2 pt2) X.env = pure (some [x, y]))
    (hs : swapsWithSole [.Tuple [.Name x px, .Name y py] kt pt] (.Tuple [a, b] k2 pt2) pos.line X.env = pure false := by rfl) :
    JS X R W (.Assign [.Tuple [.Name x px, .Name y py] kt pt] (.Tuple [a, b] k2 pt2) pos) (mPar [i, j] fs) :=
  (ps_par hc hN hi hj hij hx hy ha hw hs).imp fun D σ H ⟨x0, S, ρ, μ, e, k⟩ => by
    refine ⟨x0, S, ρ, μ, e, (PostS.bindG e k).imp fun vs H1 ⟨ts, S1, μ1, g1, e1, r1, k1⟩ => ?_⟩
    match ts, r1, k1 with
    | [t, u], r1, k1 =>
      obtain ⟨v, _, rfl, r2, w, _, rfl, r3, rfl⟩ := r1
      exact ⟨v, w, rfl, k1 S1 _ H1 (Go.refl _ _ _) ((e1.set r2 i).set r3 j)⟩
    | [], r1, k1 => exact (k1 : False).elim
    | [t], r1, k1 => exact (k1 : False).elim
    | t :: u :: z :: r, r1, k1 => exact (k1 : False).elim
/-- names, one after another -/
inductive NmOk (X : Cx) : List Expr → List Nat → Prop
  | nil : NmOk X [] []
  | cons {x : Str} {pos : Pos} {i : Nat} {es : List Expr} {is : List Nat} (hi : X.N[i]? = some x) (hx : Loc X.env.scope x) (hf : X.fn x = true ∨ X.env.scope.names.lookup x = some .local) (h : NmOk X es is)
      (hs : (assignEach (.Name x pos :: es) X.env).map (·.2) = assign (.Name x pos) X.env :: (assignEach es X.env).map (·.2)) : NmOk X (.Name x pos :: es) (i :: is)
def gNames : List Nat → TGs
  | [] => gNil
  | i :: is => gCons (gName i) (gNames is)
theorem pgs_names (hN : X.N.Nodup) {tgs : List Expr} {is : List Nat} (h : NmOk X tgs is) : PGs X tgs (gNames is) := by
  induction h with
  | nil => exact pgs_nil
  | cons hi hx hf h hs ih => exact pgs_cons (pg_name hN hi hx hf) ih hs
theorem gNames_ok : ∀ {is : List Nat} {ts : List T} {vs : List V} {ρ ρ' : Env} {σ : L2.St} {Q : L2.St → Hp → Prop}, EnvOk R x0 S ρ μ σ H → RepVs R (excl x0 S μ) S H ts vs → setL is ts ρ = some ρ' → (∀ σ', EnvOk R x0 S ρ' μ σ' H → Q σ' H) → gNames is vs σ H Q
  | [], ts, vs, ρ, ρ', σ, Q, e, r, h, k => by
    match ts, h, r with
    | [], h, r => cases h; exact ⟨r, k σ e⟩
  | i :: is, ts, vs, ρ, ρ', σ, Q, e, r, h, k => by
    match ts, h, r with
    | t :: ts, h, r =>
      obtain ⟨v, vr, rfl, r1, r2⟩ := r
      exact ⟨v, vr, rfl, gNames_ok (e.set r1 i) r2 h k⟩
theorem js_parT {tgs : List Expr} {is : List Nat} {n : Nat} {kt k2 pt pt2} (hc : X.calm = true) (hN : X.N.Nodup) (hg : NmOk X tgs is) (ha : JG X R W es fs) (hn : (assignEach tgs X.env).length = n) (hl : is.length = n) (hz : n ≤ 1000) (hst : (assignEach tgs X.env).findIdx? (·.1) = none)
    (hs : swapsWithSole [.Tuple tgs kt pt] (.Tuple es k2 pt2) pos.line X.env = pure false) (hw : swappedStores [.Tuple tgs kt pt] (.Tuple es k2 pt2) X.env = pure none)
    (h1 : (assignEach [.Tuple tgs kt pt] X.env).map (·.2) = [assign (.Tuple tgs kt pt) X.env]) :
    JS X R W (.Assign [.Tuple tgs kt pt] (.Tuple es k2 pt2) pos) (mPar is fs) :=
  (ps_asg (pe_tup ha) (pg_tup hc (pgs_names hN hg) hn hst) hs hw h1).imp fun D σ H ⟨x0, S, ρ, μ, e, k⟩ => by
    refine ⟨x0, S, ρ, μ, e, (PostS.bindG e k).imp fun vs H1 ⟨ts, S1, μ1, g1, e1, r1, k1⟩ => ?_⟩
    cases q : setL is ts ρ with
    | none => simp only [q] at k1; exact (k1 : False).elim
    | some ρ' =>
      simp only [q] at k1
      have hlen : vs.length = n := by
        have h1 : ∀ {is : List Nat} {ts : List T} {ρ ρ' : Env}, setL is ts ρ = some ρ' → ts.length = is.length := by
          intro is
          induction is with
          | nil => intro ts ρ ρ' h; cases ts with
            | nil => rfl
            | cons => cases h
          | cons i is ih => intro ts ρ ρ' h; cases ts with
            | nil => cases h
            | cons t ts => simp [ih h]
        have h2 : ∀ {ts : List T} {vs : List V}, RepVs R (excl x0 S1 μ1) S1 H1 ts vs → vs.length = ts.length := by
          intro ts
          induction ts with
          | nil => intro vs h; cases h; rfl
          | cons t ts ih => intro vs h; obtain ⟨x, r, rfl, _, h2⟩ := h; simp [ih h2]
        rw [h2 r1, h1 q, hl]
      refine ⟨by rw [hlen]; exact Nat.le_trans hz (by decide), fun p hp => ⟨p, vs, rfl, .inl (.inl upd_same), hlen, ?_⟩⟩
      have gr : Grow H1 (upd H1 p (.tup vs)) := Grow.new hp
      have G : Go S1 μ1 H1 S1 μ1 (upd H1 p (.tup vs)) := Go.grow gr
      have e2 := e1.go G (e1.so.grow gr)
      exact gNames_ok e2 (G.vs e1.so.len r1) q fun σ' e3 => k1 S1 σ' _ G e3
end
end TL

set_option maxHeartbeats 4000000
namespace TL
open PySem PySem.Spec PyProof.Rows L2

/-! ### targets -/
abbrev TB := T → Env → Option Env
abbrev TBs := List T → Env → Option Env
def bNm (i : Nat) : TB := fun t ρ => some (ρ.set i (some t))
def bNil : TBs := fun ts ρ => match ts with
  | [] => some ρ
  | _ => none
def bCons (b : TB) (bs : TBs) : TBs := fun ts ρ => match ts with
  | t :: r => match b t ρ with
    | some ρ' => bs r ρ'
    | none => none
  | [] => none
def bTp (n : Nat) (bs : TBs) : TB := fun t ρ => match t with
  | .tup ts => if ts.length = n then bs ts ρ else none
  | .wt ts => if ts.length = n then bs ts ρ else none
  | _ => none
/-- the slots but those at vs are the same -/
def Agree (vs : List Nat) (σ σ' : L2.St) : Prop := σ'.length = σ.length ∧ ∀ i, i ∉ vs → σ'[i]? = σ[i]?
def gT (R : RC) (vs : List Nat) (b : TB) : TG := fun v σ H Q => ∃ x0 S ρ μ t ρ', EnvOk R x0 S ρ μ σ H ∧ RepV R (excl x0 S μ) S H t v ∧ b t ρ = some ρ' ∧ ∀ σ', EnvOk R x0 S ρ' μ σ' H → Agree vs σ σ' → Q σ' H
def gTs (R : RC) (us : List Nat) (b : TBs) : TGs := fun vs σ H Q => ∃ x0 S ρ μ ts ρ', EnvOk R x0 S ρ μ σ H ∧ RepVs R (excl x0 S μ) S H ts vs ∧ b ts ρ = some ρ' ∧ ∀ σ', EnvOk R x0 S ρ' μ σ' H → Agree us σ σ' → Q σ' H
abbrev JB (X : Cx) (R : RC) (tg : Expr) (vs : List Nat) (b : TB) : Prop := PG X tg (gT R vs b)
abbrev JBs (X : Cx) (R : RC) (tgs : List Expr) (vs : List Nat) (b : TBs) : Prop := PGs X tgs (gTs R vs b)
theorem _root_.L2.PG.imp {X : Cx} {e : Expr} {t t' : TG} (h : PG X e t) (k : ∀ v σ H Q, t' v σ H Q → t v σ H Q) : PG X e t' := ⟨fun pins s σ H v u Q I r hw => h.run pins s σ H v u Q I r (k v σ H Q hw)⟩
theorem _root_.L2.PGs.imp {X : Cx} {e : List Expr} {t t' : TGs} (h : PGs X e t) (k : ∀ v σ H Q, t' v σ H Q → t v σ H Q) : PGs X e t' := ⟨fun pins s σ H v u Q I r hw => h.run pins s σ H v u Q I r (k v σ H Q hw)⟩
theorem _root_.L2.PI.imp {X : Cx} {tg e : Expr} {t t' : TI} (h : PI X tg e t) (k : ∀ σ H Q, t' σ H Q → t σ H Q) : PI X tg e t' := ⟨fun pins s σ H Q I hw => h.run pins s σ H Q I (k σ H Q hw)⟩
theorem _root_.L2.PI.or {X : Cx} {tg e : Expr} {t t' : TI} (h : PI X tg e t) (h' : PI X tg e t') : PI X tg e (fun σ H Q => t σ H Q ∨ t' σ H Q) := ⟨fun pins s σ H Q I hw => by
  rcases hw with hw | hw
  · exact h.run pins s σ H Q I hw
  · exact h'.run pins s σ H Q I hw⟩
section
variable {X : Cx} {R : RC} {W : WX} {x0 : Addr → Prop} {S S' S1 S2 : List Addr} {ρ ρ' : Env} {μ μ' μ1 μ2 : Mu} {σ σ' : L2.St} {H H' H1 H2 : Hp} {t : T} {v : V} {Q : VK} {P np k q : Nat} {g : FM} {D : Ends} {f f' : Sm} {st : Stmt} {sts : List Stmt} {pos p : Pos} {x : Str} {e tg : Expr} {es : List Expr} {fs : Env → M (List T)} {fa : Env → M T} {a : Addr} {o : MO} {b : TB} {bs : TBs}
theorem jb_name {i : Nat} (hN : X.N.Nodup) (hi : X.N[i]? = some x) (hx : Loc X.env.scope x) (hf : X.fn x = true ∨ X.env.scope.names.lookup x = some .local := by first | exact .inl rfl | exact .inr rfl | assumption) : JB X R (.Name x pos) [i] (bNm i) :=
  (pg_name hN hi hx hf).imp fun v σ H Q ⟨x0, S, ρ, μ, t, ρ', e, r, h, k⟩ => by
    cases h
    exact k _ (e.set r i) ⟨List.length_set, fun j hj => List.getElem?_set_ne (fun z => hj (by rw [z]; exact List.mem_singleton_self _))⟩
theorem jbs_nil : JBs X R [] [] bNil := pgs_nil.imp fun vs σ H Q ⟨x0, S, ρ, μ, ts, ρ', e, r, h, k⟩ => by
  cases ts with
  | nil => cases h; exact ⟨r, k _ e ⟨rfl, fun _ _ => rfl⟩⟩
  | cons => cases h
theorem jbs_cons {us vs : List Nat} (h1 : JB X R e us b) (h2 : JBs X R es vs bs) (hs : (assignEach (e :: es) X.env).map (·.2) = assign e X.env :: (assignEach es X.env).map (·.2) := by rfl) : JBs X R (e :: es) (us ++ vs) (bCons b bs) :=
  (pgs_cons h1 h2 hs).imp fun ws σ H Q ⟨x0, S, ρ, μ, ts, ρ', e, r, h, k⟩ => by
    cases ts with
    | nil => cases h
    | cons t ts =>
      obtain ⟨v, vr, rfl, r1, r2⟩ := r
      unfold bCons at h
      cases q : b t ρ with
      | none => simp only [q] at h; cases h
      | some ρ1 =>
        simp only [q] at h
        exact ⟨v, vr, rfl, x0, S, ρ, μ, t, ρ1, e, r1, q, fun σ1 e1 a1 => ⟨x0, S, ρ1, μ, ts, ρ', e1, r2, h, fun σ2 e2 a2 => k σ2 e2 ⟨a2.1.trans a1.1, fun i hi => (a2.2 i fun z => hi (List.mem_append_right _ z)).trans (a1.2 i fun z => hi (List.mem_append_left _ z))⟩⟩⟩
theorem jb_tup {n kk : Nat} {us : List Nat} (hK : X.K = R.K) (hc : X.calm = true) (h : JBs X R es us bs) (hn : (assignEach es X.env).length = n := by rfl) (hst : (assignEach es X.env).findIdx? (·.1) = none := by rfl) : JB X R (.Tuple es kk pos) us (bTp n bs) :=
  (pg_tup hc h hn hst).imp fun v σ H Q ⟨x0, S, ρ, μ, t, ρ', e, r, h, k⟩ => by
    cases t with
    | tup ts =>
      unfold bTp at h
      simp only at h
      split at h
      · rename_i hl
        rcases r with ⟨_, _, z, _⟩ | r
        · cases z
        · obtain ⟨a, xs, rfl, h1, h2⟩ := Rep.sqt r
          rw [hK]
          exact ⟨a, xs, rfl, h1, by rw [h2.length, hl], x0, S, ρ, μ, ts, ρ', e, h2.vs, h, k⟩
      · cases h
    | wt ts =>
      unfold bTp at h
      simp only at h
      split at h
      · rename_i hl
        rcases r with ⟨_, _, z, _⟩ | r
        · cases z
        · obtain ⟨a, xs, rfl, h1, h2⟩ := Rep.sqw r
          rw [hK]
          exact ⟨a, xs, rfl, h1, by rw [h2.length, hl], x0, S, ρ, μ, ts, ρ', e, h2.vs, h, k⟩
      · cases h
    | _ => cases h
/-- target = value -/
def mAsg (b : TB) (f : Env → M T) : Sm := fun ρ => eM (f ρ) fun t μ => match b t ρ with
  | some ρ' => some (.nx ρ', μ)
  | none => none
theorem js_asg {us : List Nat} (he : JE X R W e fa) (hg : JB X R tg us b) (hs : swapsWithSole [tg] e pos.line X.env = pure false := by rfl) (hw : swappedStores [tg] e X.env = pure none := by rfl)
    (h1 : (assignEach [tg] X.env).map (·.2) = [assign tg X.env] := by rfl) : JS X R W (.Assign [tg] e pos) (mAsg b fa) :=
  (ps_asg he hg hs hw h1).imp fun D σ H ⟨x0, S, ρ, μ, e, k⟩ => by
    refine ⟨x0, S, ρ, μ, e, (PostS.bind e k).imp fun v H1 ⟨t, μ1, g1, e1, r1, k1⟩ => ?_⟩
    cases q : b t ρ with
    | none => simp only [q] at k1; exact (k1 : False).elim
    | some ρ' =>
      simp only [q] at k1
      exact ⟨x0, S, ρ, μ1, t, ρ', e1, r1, q, fun σ' e2 _ => k1 S σ' H1 (Go.refl _ _ _) e2⟩
/-! ### what is walked -/
def ItOk (R : RC) (ex : Addr → Prop) (H0 : Hp) (J : It) (ts : List T) : Prop := ∀ ex' H, Mono ex ex' H0 H → (∀ a, ex' a → H a ≠ none) →
  (∀ (i : Nat) t, ts[i]? = some t → J.go i H ∧ ∀ x H', J.yld i H x H' → Grow H H' ∧ Rep R ex' H' t x) ∧ ∀ i, ts.length ≤ i → J.stop i H
def PostI (R : RC) (W : WX) (x0 : Addr → Prop) (S : List Addr) (μ : Mu) (σ : L2.St) (H : Hp) (Q : It → Hp → Prop) : Option (Res (List T) × Mu) → Prop
  | none => False
  | some (.ok ts, μ') => ∀ J H', Go S μ H S μ' H' → SOk R x0 S μ' H' → ItOk R (excl x0 S μ') H' J ts → Q J H'
  | some (.ex x, μ') => ∀ cls d H', Go S μ H S μ' H' → SOk R x0 S μ' H' → RepX R (excl x0 S μ') H' x cls d → W cls d σ H'
def tEvI (R : RC) (W : WX) (f : Env → M (List T)) : TI := fun σ H Q => ∃ x0 S ρ μ, EnvOk R x0 S ρ μ σ H ∧ PostI R W x0 S μ σ H Q (f ρ μ)
abbrev JI (X : Cx) (R : RC) (W : WX) (tg it : Expr) (f : Env → M (List T)) : Prop := PI X tg it (tEvI R W f)
theorem PostI.shift {Q : It → Hp → Prop} {r : Option (Res (List T) × Mu)} (g : Go S μ H S μ1 H1) (hl : S.length = μ.length) (h : PostI R W x0 S μ σ H Q r) : PostI R W x0 S μ1 σ H1 Q r := by
  match r, h with
  | some (.ok t, μ'), h => exact fun v H' g' s' r' => h v H' (g.trans hl g') s' r'
  | some (.ex x, μ'), h => exact fun cls d H' g' s' r' => h cls d H' (g.trans hl g') s' r'
instance endI {Q : It → Hp → Prop} : Ending (List T) (fun x0 S μ H r => PostI R W x0 S μ σ H Q r) R W σ := ⟨fun _ _ _ _ h => h, fun _ _ _ _ _ _ h => h, fun _ _ _ _ _ _ _ g hl h => PostI.shift g hl h⟩
/-- a tree that is walked -/
def walkT : T → M (List T)
  | .lst ts => M.ret ts
  | .tup ts => M.ret ts
  | .wt ts => M.ret ts
  | .str s => M.ret (s.cps.toList.map fun c => T.str ⟨#[c]⟩)
  | _ => M.stuck
def mIter (P : Nat) (fa : Env → M T) : Env → M (List T) := fun ρ => (fa ρ).bind fun t => (keepT P t).bind walkT
theorem RIt.list {ex : Addr → Prop} {a : Addr} {xs : List V} {ts : List T} (hx1 : ¬ ex a) (h1 : H a = some (.lst xs)) (h2 : Reps R ex H ts xs) : ItOk R ex H (Itl R.K a) ts := by
  intro ex' H' mo hx
  have rs := Reps.mono mo _ _ h2
  have sq : SqL R.K H' a xs := SqL.of (mo.k a _ hx1 h1 (fun ps z => by cases z))
  have gt : ∀ {ts : List T} {xs : List V} {i : Nat} {t : T}, Reps R ex' H' ts xs → ts[i]? = some t → ∃ x, xs[i]? = some x ∧ Rep R ex' H' t x := by
    intro ts
    induction ts with
    | nil => intro xs i t _ e; simp at e
    | cons u us ih =>
      intro xs i t r e
      obtain ⟨x, rr, rfl, h3, h4⟩ := r
      cases i with
      | zero => simp only [List.getElem?_cons_zero, Option.some.injEq] at e; subst e; exact ⟨x, rfl, h3⟩
      | succ i => simp only [List.getElem?_cons_succ] at e ⊢; exact ih h4 e
  refine ⟨fun i t hi => ?_, fun i hi => ⟨xs, sq, by rw [h2.length]; exact hi⟩⟩
  obtain ⟨x, e1, e2⟩ := gt rs hi
  refine ⟨⟨xs, x, sq, e1⟩, fun y H2 ⟨e3, e4⟩ => ?_⟩
  subst e3
  have := e4 xs sq
  rw [e1] at this
  cases this
  exact ⟨Grow.refl _, e2⟩
theorem RIt.tup {ex : Addr → Prop} {a : Addr} {xs : List V} {ts : List T} (h1 : (¬ ex a ∧ H a = some (.tup xs)) ∨ WtT R.K ex H a xs) (h2 : Reps R ex H ts xs) : ItOk R ex H (Itt R.K a) ts := by
  intro ex' H' mo hx
  have rs := Reps.mono mo _ _ h2
  have sq : SqT R.K H' a xs := by
    rcases h1 with ⟨n, h1⟩ | ⟨o, its, n, q1, _, q2⟩ | ⟨n, o, _, h1⟩
    · exact .inl (.inl (mo.k a _ n h1 (fun ps z => by cases z)))
    · exact .inr ⟨o, its, n, q1, q2⟩
    · exact .inl (.inr ⟨o, mo.k a _ n h1 (fun ps z => by cases z)⟩)
  have gt : ∀ {ts : List T} {xs : List V} {i : Nat} {t : T}, Reps R ex' H' ts xs → ts[i]? = some t → ∃ x, xs[i]? = some x ∧ Rep R ex' H' t x := by
    intro ts
    induction ts with
    | nil => intro xs i t _ e; simp at e
    | cons u us ih =>
      intro xs i t r e
      obtain ⟨x, rr, rfl, h3, h4⟩ := r
      cases i with
      | zero => simp only [List.getElem?_cons_zero, Option.some.injEq] at e; subst e; exact ⟨x, rfl, h3⟩
      | succ i => simp only [List.getElem?_cons_succ] at e ⊢; exact ih h4 e
  refine ⟨fun i t hi => ?_, fun i hi => ⟨xs, sq, by rw [h2.length]; exact hi⟩⟩
  obtain ⟨x, e1, e2⟩ := gt rs hi
  refine ⟨⟨xs, x, sq, e1⟩, fun y H2 ⟨e3, e4⟩ => ?_⟩
  subst e3
  have := e4 xs sq
  rw [e1] at this
  cases this
  exact ⟨Grow.refl _, e2⟩
theorem RIt.range {ex : Addr → Prop} {lo : Int} {n : Nat} : ItOk R ex H (Itr lo n) ((List.range n).map fun (i : Nat) => T.int (lo + i)) := by
  intro ex' H' mo hx
  refine ⟨fun i t hi => ?_, fun i hi => by
    rw [List.length_map, List.length_range] at hi
    exact hi⟩
  have hlt := ltE hi
  simp only [List.length_map, List.length_range] at hlt
  refine ⟨hlt, fun x H2 ⟨e1, e2⟩ => ?_⟩
  subst e1 e2
  simp only [List.getElem?_map, List.getElem?_range hlt, Option.map_some, Option.some.injEq] at hi
  subst hi
  exact ⟨Grow.refl _, rfl⟩
def walkL : T → M (List T)
  | .lst ts => M.ret ts
  | _ => M.stuck
def walkU : T → M (List T)
  | .tup ts => M.ret ts
  | .wt ts => M.ret ts
  | _ => M.stuck
def walkS : T → M (List T)
  | .str s => M.ret (s.cps.toList.map fun c => T.str ⟨#[c]⟩)
  | _ => M.stuck
/-- behind the thing that is walked -/
theorem iter_ok {Rk : It → Hp → Prop} {wk : T → M (List T)} (h : tEvI R W (fun ρ => (fa ρ).bind fun t => (keepT P t).bind wk) σ H Rk) : tEv R W fa σ H fun x H1 => ∃ x0 S ρ μ t, EnvOk R x0 S ρ μ σ H1 ∧ Rep R (excl x0 S μ) H1 t x ∧ PostI R W x0 S μ σ H1 Rk (wk t μ) := by
  obtain ⟨x0, S, ρ, μ, e, k⟩ := h
  refine ⟨x0, S, ρ, μ, e, (Post.bind (P := fun x0 S μ H r => PostI R W x0 S μ σ H Rk r) e k).imp fun x H1 ⟨tx, μ1, g1, e1, r1, k1⟩ => ?_⟩
  obtain ⟨t', μ2, g2, e2, r2, k2⟩ := keep_bind (P := fun x0 S μ H r => PostI R W x0 S μ σ H Rk r) e1 r1 k1
  exact ⟨x0, S, ρ, μ2, t', e2, r2, k2⟩
theorem ji_list (hK : X.K = R.K) (he : JE X R W e fa) : JI X R W tg e (fun ρ => (fa ρ).bind fun t => (keepT P t).bind walkL) := (pi_list he).imp fun σ H Rk h => by
  obtain ⟨x0, S, ρ, μ, e, k⟩ := iter_ok h
  refine ⟨x0, S, ρ, μ, e, k.imp fun x H1 ⟨x0, S, ρ, μ, t, e, r, k⟩ => ?_⟩
  cases t with
  | lst ts =>
    obtain ⟨a, xs, rfl, hx, h1, h2⟩ := r
    rw [hK]
    exact ⟨a, rfl, ⟨xs, SqL.of h1⟩, k _ H1 (Go.refl _ _ _) e.so (RIt.list hx h1 h2)⟩
  | _ => exact k.elim
theorem ji_tup (hK : X.K = R.K) (he : JE X R W e fa) : JI X R W tg e (fun ρ => (fa ρ).bind fun t => (keepT P t).bind walkU) := (pi_tup he).imp fun σ H Rk h => by
  obtain ⟨x0, S, ρ, μ, e, k⟩ := iter_ok h
  refine ⟨x0, S, ρ, μ, e, k.imp fun x H1 ⟨x0, S, ρ, μ, t, e, r, k⟩ => ?_⟩
  cases t with
  | tup ts =>
    obtain ⟨a, xs, rfl, hx, h1, h2⟩ := r
    rw [hK]
    exact ⟨a, rfl, ⟨xs, .inl (.inl h1)⟩, k _ H1 (Go.refl _ _ _) e.so (RIt.tup (.inl ⟨hx, h1⟩) h2)⟩
  | wt ts =>
    obtain ⟨a, xs, rfl, h1, h2⟩ := r
    rw [hK]
    obtain ⟨a', xs', e', h3, _⟩ := Rep.sqw ⟨a, xs, rfl, h1, h2⟩
    cases e'
    exact ⟨a, rfl, ⟨xs', h3⟩, k _ H1 (Go.refl _ _ _) e.so (RIt.tup (.inr h1) h2)⟩
  | _ => exact k.elim
theorem RIt.str {ex : Addr → Prop} {s : Str} : ItOk R ex H (Its s) (s.cps.toList.map fun c => T.str ⟨#[c]⟩) := by
  intro ex' H' mo hx
  refine ⟨fun i t hi => ?_, fun i hi => by
    rw [List.length_map] at hi
    exact hi⟩
  have hlt := ltE hi
  simp only [List.length_map, Array.length_toList] at hlt
  refine ⟨hlt, fun x H2 ⟨e1, c, e2, e3⟩ => ?_⟩
  subst e1 e3
  simp only [List.getElem?_map, Array.getElem?_toList, e2, Option.map_some, Option.some.injEq] at hi
  subst hi
  exact ⟨Grow.refl _, rfl⟩
theorem ji_str (he : JE X R W e fa) : JI X R W tg e (fun ρ => (fa ρ).bind fun t => (keepT P t).bind walkS) := (pi_str he).imp fun σ H Rk h => by
  obtain ⟨x0, S, ρ, μ, e, k⟩ := iter_ok h
  refine ⟨x0, S, ρ, μ, e, k.imp fun x H1 ⟨x0, S, ρ, μ, t, e, r, k⟩ => ?_⟩
  cases t with
  | str s =>
    cases r
    exact ⟨s, rfl, k _ H1 (Go.refl _ _ _) e.so RIt.str⟩
  | _ => exact k.elim
/-- a list, a tuple, a text -/
theorem ji_any (hK : X.K = R.K) (he : JE X R W e fa) : JI X R W tg e (mIter P fa) := ((ji_list (P := P) hK he).or ((ji_tup (P := P) hK he).or (ji_str (P := P) he))).imp fun σ H Rk ⟨x0, S, ρ, μ, e, k⟩ => by
  unfold mIter M.bind at k
  match q : fa ρ μ with
  | none => rw [q] at k; exact k.elim
  | some (.ex x, μ') =>
    refine .inl ⟨x0, S, ρ, μ, e, ?_⟩
    show PostI R W x0 S μ σ H Rk ((fa ρ).bind (fun t => (keepT P t).bind walkL) μ)
    unfold M.bind
    rw [q] at k ⊢
    exact k
  | some (.ok t, μ') =>
    rw [q] at k
    match q2 : keepT P t μ' with
    | none => simp only [q2] at k; exact k.elim
    | some (.ex x, μ2) =>
      refine .inl ⟨x0, S, ρ, μ, e, ?_⟩
      show PostI R W x0 S μ σ H Rk ((fa ρ).bind (fun t => (keepT P t).bind walkL) μ)
      unfold M.bind
      rw [q]
      simp only [q2] at k ⊢
      exact k
    | some (.ok t', μ2) =>
      simp only [q2] at k
      match t', k, q2 with
      | .lst ts, k, q2 =>
        refine .inl ⟨x0, S, ρ, μ, e, ?_⟩
        show PostI R W x0 S μ σ H Rk ((fa ρ).bind (fun t => (keepT P t).bind walkL) μ)
        unfold M.bind
        rw [q]
        simp only [q2]
        exact k
      | .tup ts, k, q2 =>
        refine .inr (.inl ⟨x0, S, ρ, μ, e, ?_⟩)
        show PostI R W x0 S μ σ H Rk ((fa ρ).bind (fun t => (keepT P t).bind walkU) μ)
        unfold M.bind
        rw [q]
        simp only [q2]
        exact k
      | .wt ts, k, q2 =>
        refine .inr (.inl ⟨x0, S, ρ, μ, e, ?_⟩)
        show PostI R W x0 S μ σ H Rk ((fa ρ).bind (fun t => (keepT P t).bind walkU) μ)
        unfold M.bind
        rw [q]
        simp only [q2]
        exact k
      | .str ts, k, q2 =>
        refine .inr (.inr ⟨x0, S, ρ, μ, e, ?_⟩)
        show PostI R W x0 S μ σ H Rk ((fa ρ).bind (fun t => (keepT P t).bind walkS) μ)
        unfold M.bind
        rw [q]
        simp only [q2]
        exact k
/-- range(n), range(a, b) -/
def int1 : List T → Option Int
  | [.int i] => some i
  | _ => none
def int2 : List T → Option (Int × Int)
  | [.int i, .int j] => some (i, j)
  | _ => none
theorem int1_eq {ts : List T} {i : Int} (h : int1 ts = some i) : ts = [.int i] := by
  unfold int1 at h
  split at h
  · cases h; rfl
  · cases h
theorem int2_eq {ts : List T} {i : Int × Int} (h : int2 ts = some i) : ts = [.int i.1, .int i.2] := by
  unfold int2 at h
  split at h
  · cases h; rfl
  · cases h
def rng (lo hi : Int) : List T := (List.range (hi - lo).toNat).map fun (n : Nat) => T.int (lo + n)
def mRng1 (fs : Env → M (List T)) : Env → M (List T) := fun ρ => (fs ρ).bind fun ts => match int1 ts with
  | some j => if -(2 ^ 62) ≤ j ∧ j < 2 ^ 62 then M.ret (rng 0 j) else M.stuck
  | none => M.stuck
def mRng2 (fs : Env → M (List T)) : Env → M (List T) := fun ρ => (fs ρ).bind fun ts => match int2 ts with
  | some (i, j) => if -(2 ^ 62) ≤ i ∧ i < 2 ^ 62 ∧ -(2 ^ 62) ≤ j ∧ j < 2 ^ 62 then M.ret (rng i j) else M.stuck
  | none => M.stuck
theorem RepVs.one {ex : Addr → Prop} {j : Int} {vs : List V} (h : RepVs R ex S H [.int j] vs) : vs = [.int j] := by
  obtain ⟨x, r, rfl, h1, rfl⟩ := h
  rw [h1.int]
theorem RepVs.two {ex : Addr → Prop} {i j : Int} {vs : List V} (h : RepVs R ex S H [.int i, .int j] vs) : vs = [.int i, .int j] := by
  obtain ⟨x, r, rfl, h1, y, r2, rfl, h2, rfl⟩ := h
  rw [h1.int, h2.int]
theorem PostI.bindA {Rk : It → Hp → Prop} {m : M (List T)} {k : List T → M (List T)} (e : EnvOk R x0 S ρ μ σ H) (h : PostI R W x0 S μ σ H Rk (M.bind m k μ)) :
    PostA R W x0 S μ σ H (fun v H1 => ∃ t μ1, Go S μ H S μ1 H1 ∧ EnvOk R x0 S ρ μ1 σ H1 ∧ RepVs R (excl x0 S μ1) S H1 t v ∧ PostI R W x0 S μ1 σ H1 Rk (k t μ1)) (m μ) :=
  PostA.bind (P := fun x0 S μ H r => PostI R W x0 S μ σ H Rk r) e h
theorem ji_range1 {a : Expr} {p pos : Pos} (hg : Gl X "range") (hm : X.mg "range" = none) (ha : JA X R W [a] fs) (hs : starEach [a] X.env = [(false, eval a X.env)] := by rfl) : JI X R W tg (.Call (.Name "range" p) [a] [] pos) (mRng1 fs) :=
  (pi_range1 hg hm ha hs).imp fun σ H Rk ⟨x0, S, ρ, μ, e, k⟩ => by
    refine ⟨x0, S, ρ, μ, e, (PostI.bindA e k).imp fun vs H1 ⟨ts, μ1, g1, e1, r1, k1⟩ => ?_⟩
    cases q : int1 ts with
    | none => simp only [q] at k1; exact (k1 : False).elim
    | some j =>
      simp only [q] at k1
      rw [int1_eq q] at r1
      by_cases hj : -(2 ^ 62) ≤ j ∧ j < 2 ^ 62
      · simp only [if_pos hj] at k1
        refine ⟨j, r1.one, hj.1, hj.2, k1 _ H1 (Go.refl _ _ _) e1.so ?_⟩
        have := RIt.range (R := R) (H := H1) (ex := excl x0 S μ1) (lo := 0) (n := j.toNat)
        unfold rng
        rw [show (j - 0) = j by omega]
        exact this
      · simp only [if_neg hj] at k1
        exact (k1 : False).elim
theorem ji_range2 {a b : Expr} {p pos : Pos} (hg : Gl X "range") (hm : X.mg "range" = none) (ha : JA X R W [a, b] fs) (hs : starEach [a, b] X.env = [(false, eval a X.env), (false, eval b X.env)] := by rfl) (hs2 : starEach [b] X.env = [(false, eval b X.env)] := by rfl) : JI X R W tg (.Call (.Name "range" p) [a, b] [] pos) (mRng2 fs) :=
  (pi_range2 hg hm ha hs hs2).imp fun σ H Rk ⟨x0, S, ρ, μ, e, k⟩ => by
    refine ⟨x0, S, ρ, μ, e, (PostI.bindA e k).imp fun vs H1 ⟨ts, μ1, g1, e1, r1, k1⟩ => ?_⟩
    cases q : int2 ts with
    | none => simp only [q] at k1; exact (k1 : False).elim
    | some ij =>
      obtain ⟨i, j⟩ := ij
      simp only [q] at k1
      rw [int2_eq q] at r1
      by_cases hj : -(2 ^ 62) ≤ i ∧ i < 2 ^ 62 ∧ -(2 ^ 62) ≤ j ∧ j < 2 ^ 62
      · simp only [if_pos hj] at k1
        exact ⟨i, j, r1.two, hj, k1 _ H1 (Go.refl _ _ _) e1.so RIt.range⟩
      · simp only [if_neg hj] at k1
        exact (k1 : False).elim
/-! ### for -/
def forL (b : TB) (body : Sm) : List T → Sm
  | [], ρ, μ => some (.nx ρ, μ)
  | t :: ts, ρ, μ => match b t ρ with
    | none => none
    | some ρ1 => match body ρ1 μ with
      | some (.nx ρ2, μ2) => forL b body ts ρ2 μ2
      | some (.ct ρ2, μ2) => forL b body ts ρ2 μ2
      | some (.bk ρ2, μ2) => some (.nx ρ2, μ2)
      | r => r
def mFor (fi : Env → M (List T)) (b : TB) (body : Sm) : Sm := fun ρ => eM (fi ρ) fun ts μ => forL b body ts ρ μ
theorem PostS.bindI {m : M (List T)} {k : List T → Mu → Option (SR × Mu)} (e : EnvOk R x0 S ρ μ σ H) (h : PostS R W x0 S μ H D (eM m k μ)) :
    PostI R W x0 S μ σ H (fun J H1 => ∃ ts μ1, Go S μ H S μ1 H1 ∧ EnvOk R x0 S ρ μ1 σ H1 ∧ ItOk R (excl x0 S μ1) H1 J ts ∧ PostS R W x0 S μ1 H1 D (k ts μ1)) (m μ) := by
  unfold eM at h
  match q : m μ with
  | none => rw [q] at h; exact h
  | some (.ok t, μ1) =>
    rw [q] at h
    exact fun J H1 g s r => ⟨t, μ1, g, e.go g s, r, PostS.shift g e.so.len h⟩
  | some (.ex x, μ1) =>
    rw [q] at h
    exact fun cls d H1 g s r => h S cls d σ H1 g s r
theorem PostI.imp {Q Q' : It → Hp → Prop} {r : Option (Res (List T) × Mu)} (h : PostI R W x0 S μ σ H Q r) (k : ∀ v H', Q v H' → Q' v H') : PostI R W x0 S μ σ H Q' r := by
  match r, h with
  | some (.ok t, μ'), h => exact fun v H' g s r => k _ _ (h v H' g s r)
  | some (.ex x, μ'), h => exact h
theorem js_for {iter : Expr} {body : List Stmt} {fi : Env → M (List T)} {mb : Sm} {us : List Nat} (hp : PassesOwn (model X.prog X.w) X.A X.env X.xe) (hc : X.calm = true) (hi : JI X R W tg iter fi) (hg : JB X R tg us b) (hb : JSs X R W body mb)
    (hs : ∀ x, foldedSetIterable iter X.env x = pure x := by intro _; rfl) : JS X R W (.For tg iter body [] pos) (mFor fi b mb) :=
  (ps_for hp hc hi hg hb hs).imp fun D σ H ⟨x0, S, ρ, μ, e, k⟩ => by
    refine ⟨x0, S, ρ, μ, e, (PostS.bindI e k).imp fun J H1 ⟨ts, μ1, g1, e1, io, k1⟩ => ?_⟩
    refine ⟨fun i m σ H => m = ts.length - i ∧ ∃ S2 ρ2 μ2, Go S μ1 H1 S2 μ2 H ∧ EnvOk R x0 S2 ρ2 μ2 σ H ∧ PostS R W x0 S2 μ2 H D (forL b mb (ts.drop i) ρ2 μ2), ⟨_, rfl, S, ρ, μ1, Go.refl _ _ _, e1, by rw [List.drop_zero]; exact k1⟩, ?_⟩
    rintro i m σ2 H2 ⟨rfl, S2, ρ2, μ2, g2, e2, k2⟩
    obtain ⟨hgo, hstop⟩ := io _ H2 (g2.mono e1.so.len) e2.so.live
    by_cases hlt : i < ts.length
    · obtain ⟨t, ht⟩ := getE hlt
      have hdrop : ts.drop i = t :: ts.drop (i + 1) := by
        rw [List.drop_eq_getElem_cons hlt]
        rw [List.getElem?_eq_getElem hlt, Option.some.injEq] at ht
        rw [ht]
      rw [hdrop] at k2
      unfold forL at k2
      obtain ⟨h1, h2⟩ := hgo i t ht
      refine .inr ⟨h1, fun σ' H' => ∃ S3 ρ3 μ3, Go S μ1 H1 S3 μ3 H' ∧ EnvOk R x0 S3 ρ3 μ3 σ' H' ∧ PostS R W x0 S3 μ3 H' D (forL b mb (ts.drop (i + 1)) ρ3 μ3), fun σ' H' ⟨S3, ρ3, μ3, g3, e3, k3⟩ => ⟨ts.length - (i + 1), by omega, rfl, S3, ρ3, μ3, g3, e3, k3⟩, fun x H' hy => ?_⟩
      obtain ⟨gr, rx⟩ := h2 x H' hy
      have e2' := e2.go (Go.grow gr) (e2.so.grow gr)
      have g2' : Go S2 μ2 H2 S2 μ2 H' := Go.grow gr
      cases q : b t ρ2 with
      | none => simp only [q] at k2; exact (k2 : False).elim
      | some ρ3 =>
        simp only [q] at k2
        refine ⟨x0, S2, ρ2, μ2, t, ρ3, e2', .inr rx, q, fun σ3 e3 _ => ⟨x0, S2, ρ3, μ2, e3, ?_⟩⟩
        have g3 : Go S μ1 H1 S2 μ2 H' := g2.trans e1.so.len g2'
        match q2 : mb ρ3 μ2 with
        | none => rw [q2] at k2; exact k2
        | some (.nx ρ4, μ4) =>
          rw [q2] at k2
          exact fun S4 σ4 H4 g4 e4 => ⟨S4, ρ4, μ4, g3.trans e1.so.len g4, e4, PostS.shift (g2'.trans e2.so.len g4) e2.so.len k2⟩
        | some (.ct ρ4, μ4) =>
          rw [q2] at k2
          exact fun S4 σ4 H4 g4 e4 => ⟨S4, ρ4, μ4, g3.trans e1.so.len g4, e4, PostS.shift (g2'.trans e2.so.len g4) e2.so.len k2⟩
        | some (.bk ρ4, μ4) =>
          rw [q2] at k2
          exact fun S4 σ4 H4 g4 e4 => k2 S4 σ4 H4 (g2'.trans e2.so.len g4) e4
        | some (.rt t4, μ4) =>
          rw [q2] at k2
          exact PostS.shift g2' e2.so.len k2
        | some (.ex x4, μ4) =>
          rw [q2] at k2
          exact PostS.shift g2' e2.so.len k2
    · refine .inl ⟨hstop i (by omega), ?_⟩
      rw [List.drop_eq_nil_of_le (by omega)] at k2
      exact k2 S2 σ2 H2 (Go.refl _ _ _) e2
/-! ### while -/
def whileF (c : Env → M Bool) (body : Sm) : Nat → Sm
  | 0, _, _ => none
  | n + 1, ρ, μ => eM (c ρ) (fun b μ1 => if b = true then match body ρ μ1 with
      | some (.nx ρ2, μ2) => whileF c body n ρ2 μ2
      | some (.ct ρ2, μ2) => whileF c body n ρ2 μ2
      | some (.bk ρ2, μ2) => some (.nx ρ2, μ2)
      | r => r
    else some (.nx ρ, μ1)) μ
theorem js_while {c : Expr} {body : List Stmt} {fc : Env → M Bool} {mb : Sm} (n : Nat) (hp : PassesOwn (model X.prog X.w) X.A X.env X.xe) (hc : JT X R W c fc) (hb : JSs X R W body mb) : JS X R W (.While c body [] pos) (whileF fc mb n) :=
  (ps_while hp hc hb).imp fun D σ H ⟨x0, S, ρ, μ, e, k⟩ => by
    refine ⟨fun m σ H => ∃ S ρ μ, EnvOk R x0 S ρ μ σ H ∧ PostS R W x0 S μ H D (whileF fc mb m ρ μ), ⟨n, S, ρ, μ, e, k⟩, ?_⟩
    rintro m σ H ⟨S, ρ, μ, e, k⟩
    cases m with
    | zero => exact (k : False).elim
    | succ m =>
      refine ⟨x0, S, ρ, μ, e, (PostS.bindT e k).imp fun b H1 ⟨μ1, g1, e1, k1⟩ => ?_⟩
      cases b with
      | false => exact k1 S σ H1 (Go.refl _ _ _) e1
      | true =>
        refine ⟨fun σ' H' => ∃ S ρ μ, EnvOk R x0 S ρ μ σ' H' ∧ PostS R W x0 S μ H' D (whileF fc mb m ρ μ), fun σ' H' h => ⟨m, Nat.lt_succ_self m, h⟩, x0, S, ρ, μ1, e1, ?_⟩
        simp only [if_true] at k1
        match q2 : mb ρ μ1 with
        | none => rw [q2] at k1; exact k1
        | some (.nx ρ4, μ4) =>
          rw [q2] at k1
          exact fun S4 σ4 H4 g4 e4 => ⟨S4, ρ4, μ4, e4, PostS.shift g4 e1.so.len k1⟩
        | some (.ct ρ4, μ4) =>
          rw [q2] at k1
          exact fun S4 σ4 H4 g4 e4 => ⟨S4, ρ4, μ4, e4, PostS.shift g4 e1.so.len k1⟩
        | some (.bk ρ4, μ4) =>
          rw [q2] at k1
          exact fun S4 σ4 H4 g4 e4 => k1 S4 σ4 H4 g4 e4
        | some (.rt t4, μ4) =>
          rw [q2] at k1
          exact k1
        | some (.ex x4, μ4) =>
          rw [q2] at k1
          exact k1
end
end TL

set_option maxHeartbeats 4000000
namespace TL
open PySem PySem.Spec PyProof.Rows L2

/-! ### list comprehensions -/
abbrev Wf : WX := fun _ _ _ _ => False
def wipeE (ρ : Env) : List Nat → Env
  | [] => ρ
  | v :: vs => (wipeE ρ vs).set v none
def mYes : Env → M Bool := fun _ => M.ret true
abbrev JTs (X : Cx) (R : RC) (ifs : List Expr) (f : Env → M Bool) : Prop := PTs X ifs (tEvT R Wf f)
/-- the items that are made, one after another: no exception may leave -/
def lcE (P : Nat) (vs : List Nat) (b : TB) (c : Env → M Bool) (fe : Env → M T) (ρ : Env) : List T → Mu → Option (List T × Mu)
  | [], μ => some ([], μ)
  | t :: ts, μ => match b t (wipeE ρ vs) with
    | none => none
    | some ρ1 => match c ρ1 μ with
      | some (.ok true, μ1) => (match ((fe ρ1).bind (keepT P)) μ1 with
        | some (.ok y, μ2) => (match lcE P vs b c fe ρ ts μ2 with
          | some (ys, μ3) => some (y :: ys, μ3)
          | none => none)
        | _ => none)
      | some (.ok false, μ1) => lcE P vs b c fe ρ ts μ1
      | _ => none
def mLc (P : Nat) (vs : List Nat) (fi : Env → M (List T)) (b : TB) (c : Env → M Bool) (fe : Env → M T) : Env → M MO := fun ρ => (fi ρ).bind fun ts μ => if ts.length ≤ 1000000 then match lcE P vs b c fe ρ ts μ with
    | some (ys, μ') => some (.ok (.lst ys), μ')
    | none => none
  else none
section
variable {X : Cx} {R : RC} {W : WX} {x0 : Addr → Prop} {S S' S1 S2 : List Addr} {ρ ρ' : Env} {μ μ' μ1 μ2 : Mu} {σ σ' : L2.St} {H H' H1 H2 : Hp} {t : T} {v : V} {Q : VK} {P np k q : Nat} {g : FM} {D : Ends} {f f' : Sm} {st : Stmt} {sts : List Stmt} {pos p : Pos} {x : Str} {e tg elt iter : Expr} {es ifs : List Expr} {fs : Env → M (List T)} {fa fe : Env → M T} {a : Addr} {o : MO} {b : TB} {bs : TBs} {vs us : List Nat}
theorem jts_nil : JTs X R [] mYes := ⟨fun pins s σ H Q I ⟨x0, S, ρ, μ, e, k⟩ => pts_nil.run pins s σ H Q I (k H (Go.refl _ _ _) e.so)⟩
theorem jts_one {c : Expr} {fc : Env → M Bool} (h : JT X R Wf c fc) : JTs X R [c] fc := pts_one h
theorem wipe_get {σ : L2.St} {i : Nat} : ∀ {vs : List Nat}, i ∈ vs → (wipe σ vs)[i]? = if i < σ.length then some none else none
  | v :: vs, h => by
    unfold wipe
    rw [List.getElem?_set]
    by_cases e : v = i
    · subst e
      rw [if_pos rfl, wipe_length]
    · rw [if_neg e]
      exact wipe_get ((List.mem_cons.mp h).resolve_left fun z => e z.symm)
theorem wipe_agree (h : Agree us σ σ') (hs : ∀ i ∈ us, i ∈ vs) : wipe σ' vs = wipe σ vs := by
  apply List.ext_getElem?
  intro i
  by_cases hi : i ∈ vs
  · rw [wipe_get hi, wipe_get hi, h.1]
  · rw [wipe_out hi, wipe_out hi]
    exact h.2 i fun z => hi (hs i z)
theorem wipe_wipe : wipe (wipe σ vs) vs = wipe σ vs := by
  apply List.ext_getElem?
  intro i
  by_cases hi : i ∈ vs
  · rw [wipe_get hi, wipe_get hi, wipe_length]
  · rw [wipe_out hi]
theorem wipeE_length : ∀ {vs : List Nat}, (wipeE ρ vs).length = ρ.length
  | [] => rfl
  | v :: vs => by unfold wipeE; rw [List.length_set]; exact wipeE_length
theorem wipeE_some {i : Nat} {t : T} : ∀ {vs : List Nat}, (wipeE ρ vs)[i]? = some (some t) → ρ[i]? = some (some t) ∧ i ∉ vs
  | [], h => ⟨h, List.not_mem_nil⟩
  | v :: vs, h => by
    unfold wipeE at h
    rw [List.getElem?_set] at h
    by_cases e : v = i
    · rw [if_pos e] at h
      split at h <;> cases h
    · rw [if_neg e] at h
      obtain ⟨h1, h2⟩ := wipeE_some h
      exact ⟨h1, fun z => (List.mem_cons.mp z).elim (fun z => e z.symm) h2⟩
theorem EnvOk.wipe (e : EnvOk R x0 S ρ μ σ H) (vs : List Nat) : EnvOk R x0 S (wipeE ρ vs) μ (L2.wipe σ vs) H :=
  ⟨e.so, by rw [wipeE_length, wipe_length, e.len], fun i t h => by
    obtain ⟨h1, h2⟩ := wipeE_some h
    rw [wipe_out h2]
    exact e.vars i t h1⟩
theorem EnvOk.mv {x1 : Addr → Prop} (e : EnvOk R x0 S ρ μ σ H) (s : SOk R x1 S μ' H') (m : Mono (excl x0 S μ) (excl x1 S μ') H H') : EnvOk R x1 S ρ μ' σ H' :=
  ⟨s, e.len, fun i t h => let ⟨v, h1, h2⟩ := e.vars i t h; ⟨v, h1, h2.mono m fun _ _ h => h⟩⟩
theorem Mono.xa (g : Go S μ H S μ' H') (hl : S.length = μ.length) (n : H a = none) : Mono (excl x0 S μ) (excl (xa x0 a) S μ') H H' := by
  have m := Go.mono (x0 := x0) g hl
  refine ⟨m.k, fun b o hx h z => ?_⟩
  rcases z with (z | z) | z
  · exact m.x b o hx h (.inl z)
  · subst z
    rw [n] at h
    cases h
  · exact m.x b o hx h (.inr z)
/-- the new thing is written: nothing else leans on it -/
theorem SOk.write {xs : List V} (s : SOk R (xa x0 a) S μ H) (nS : a ∉ S) (hx : H a = some (.lst xs)) (o : HO) : SOk R (xa x0 a) S μ (upd H a o) := by
  have mo : Mono (excl (xa x0 a) S μ) (excl (xa x0 a) S μ) H (upd H a o) := ⟨fun b u hx h _ => by rw [upd_ne (fun z => hx (.inl (.inr z)))]; exact h, fun b u hx _ z => hx z⟩
  have th : ∀ b, H b ≠ none → upd H a o b ≠ none := fun b h => by
    by_cases e : b = a
    · subst e
      rw [upd_same]
      simp
    · rw [upd_ne e]
      exact h
  refine ⟨s.len, s.nd, fun b h => th b (s.xd b h), s.sx, fun b h => th b (s.sd b h), fun n m h => ?_, fun n m h => ?_, ?_⟩
  · obtain ⟨b, h1, h2⟩ := s.sh n m h
    refine ⟨b, h1, h2.mono mo fun u hu => ?_⟩
    rw [upd_ne (fun z => nS (by rw [← z]; exact List.mem_of_getElem? h1))]
    exact hu
  · obtain ⟨b, h1, h2⟩ := s.fz n m h
    exact ⟨b, h1, Rep.mono mo _ _ h2⟩
  · refine R.tabk _ _ s.tab (fun b ps z => ?_) fun b φ z => ?_
    · rw [upd_ne (fun e => by rw [e, hx] at z; cases z)]
      exact z
    · rw [upd_ne (fun e => by rw [e, hx] at z; cases z)]
      exact z
theorem Go.write (g : Go S μ H S μ' H') (n : H a = none) (h : H' a ≠ none) (o : HO) : Go S μ H S μ' (upd H' a o) := ⟨g.pre, g.dead, fun b u hb ht hx => by
    rw [upd_ne (fun z => by rw [z, n] at hb; cases hb)]
    exact g.keep b u hb ht hx, fun b hb => by
    rw [upd_ne (fun z => hb (by rw [z]; exact n))]
    exact g.there b hb⟩
theorem lc_red {fi : Env → M (List T)} {fc : Env → M Bool} (hu : ∀ i ∈ us, i ∈ vs) (σ : L2.St) (H : Hp) (Q : VK) : tEvF R W (mLc P vs fi b fc fe) σ H Q → tLc (tEvI R W fi) (gT R us b) (tEvT R Wf fc) (tEv R Wf fe) vs σ H Q := by
  intro ⟨x0, S, ρ, μ, e, k⟩
  refine ⟨x0, S, ρ, μ, e, ?_⟩
  unfold mLc M.bind at k
  match q : fi ρ μ with
  | none => rw [q] at k; exact k
  | some (.ex x, μ') => rw [q] at k; exact k
  | some (.ok ts, μ1) =>
    rw [q] at k
    intro J H1 g1 s1 io
    by_cases hz : ts.length ≤ 1000000
    · simp only [if_pos hz] at k
      cases ql : lcE P vs b fc fe ρ ts μ1 with
      | none => simp only [ql] at k; exact (k : False).elim
      | some r =>
        obtain ⟨ys, μe⟩ := r
        simp only [ql] at k
        intro D hD
        have hD0 : H D = none := by
          cases z : H D with
          | none => rfl
          | some o => exact absurd hD (g1.there D (by rw [z]; simp))
        have nS : D ∉ S := fun h => e.so.sd D h hD0
        have e1 := e.go g1 s1
        have gr1 : Grow H1 (upd H1 D (.lst [])) := Grow.new hD
        have G1 : Go S μ1 H1 S μ1 (upd H1 D (.lst [])) := Go.grow gr1
        have m1 := Mono.xa (x0 := x0) G1 s1.len hD
        have s2 : SOk R (xa x0 D) S μ1 (upd H1 D (.lst [])) := by
          refine ⟨s1.len, s1.nd, fun b hb => ?_, fun n b o h1 h2 z => ?_, fun b hb => gr1.keeps.there b (s1.sd b hb), fun n o h => ?_, fun n o h => ?_, R.tabk _ _ s1.tab (fun a ps z => gr1 _ _ z) fun a φ z => gr1 _ _ z⟩
          · rcases hb with hb | hb
            · exact gr1.keeps.there b (s1.xd b hb)
            · subst hb
              rw [upd_same]
              simp
          · rcases z with z | z
            · exact s1.sx n b o h1 h2 z
            · subst z
              exact nS (List.mem_of_getElem? h1)
          · obtain ⟨b, h1, h2⟩ := s1.sh n o h
            exact ⟨b, h1, h2.mono m1 fun u hu => gr1 _ _ hu⟩
          · obtain ⟨b, h1, h2⟩ := s1.fz n o h
            exact ⟨b, h1, Rep.mono m1 _ _ h2⟩
        refine ⟨fun i m H2 => m = ts.length - i ∧ ∃ μ2 acc accV ys', Go S μ1 H1 S μ2 H2 ∧ SOk R (xa x0 D) S μ2 H2 ∧ H2 D = some (.lst accV) ∧ Reps R (excl (xa x0 D) S μ2) H2 acc accV ∧ acc.length ≤ i ∧ lcE P vs b fc fe ρ (ts.drop i) μ2 = some (ys', μe) ∧ ys = acc ++ ys',
          ⟨_, rfl, μ1, [], [], ys, G1, s2, upd_same, rfl, Nat.le_refl _, by rw [List.drop_zero]; exact ql, rfl⟩, ?_⟩
        rintro i m H2 ⟨rfl, μ2, acc, accV, ys', g2, so2, hH, ra, hal, hl, hys⟩
        obtain ⟨hgo, hstop⟩ := io (excl (xa x0 D) S μ2) H2 (Mono.xa (x0 := x0) g2 s1.len hD) so2.live
        by_cases hlt : i < ts.length
        · obtain ⟨t, htt⟩ := getE hlt
          have hdrop : ts.drop i = t :: ts.drop (i + 1) := by
            rw [List.drop_eq_getElem_cons hlt]
            rw [List.getElem?_eq_getElem hlt, Option.some.injEq] at htt
            rw [htt]
          rw [hdrop] at hl
          unfold lcE at hl
          obtain ⟨h1, h2⟩ := hgo i t htt
          refine .inr ⟨h1, fun H' => ∃ μ2 acc accV ys', Go S μ1 H1 S μ2 H' ∧ SOk R (xa x0 D) S μ2 H' ∧ H' D = some (.lst accV) ∧ Reps R (excl (xa x0 D) S μ2) H' acc accV ∧ acc.length ≤ i + 1 ∧ lcE P vs b fc fe ρ (ts.drop (i + 1)) μ2 = some (ys', μe) ∧ ys = acc ++ ys',
            fun H' h => ⟨ts.length - (i + 1), by omega, rfl, h⟩, fun x H' hy => ?_⟩
          obtain ⟨gr, rx⟩ := h2 x H' hy
          have g2' : Go S μ2 H2 S μ2 H' := Go.grow gr
          have so2' := so2.grow gr
          have g12 : Go S μ1 H1 S μ2 H' := g2.trans s1.len g2'
          have e2 : EnvOk R (xa x0 D) S ρ μ2 σ H' := e1.mv so2' (Mono.xa g12 s1.len hD)
          have hH' : H' D = some (.lst accV) := gr _ _ hH
          have ra' := Reps.mono (g2'.mono so2.len) _ _ ra
          have e2w := e2.wipe vs
          cases qb : b t (wipeE ρ vs) with
          | none => simp only [qb] at hl; cases hl
          | some ρ1 =>
            simp only [qb] at hl
            refine ⟨xa x0 D, S, _, μ2, t, ρ1, e2w, .inr rx, qb, fun σ3 e3 ag => ⟨?_, xa x0 D, S, ρ1, μ2, e3, ?_⟩⟩
            · have := wipe_agree ag hu
              rw [wipe_wipe] at this
              exact this
            · match qc : fc ρ1 μ2 with
              | none => rw [qc] at hl; cases hl
              | some (.ex x, μ3) => rw [qc] at hl; cases hl
              | some (.ok false, μ3) =>
                rw [qc] at hl
                intro H3 g3 s3
                exact ⟨μ3, acc, accV, ys', g12.trans s1.len g3, s3, g3.keep D _ hH' (fun ps z => by cases z) fun n m h => absurd (List.mem_of_getElem? h) nS, Reps.mono (g3.mono so2'.len) _ _ ra', by omega, hl, hys⟩
              | some (.ok true, μ3) =>
                rw [qc] at hl
                simp only at hl
                intro H3 g3 s3
                have hH3 : H3 D = some (.lst accV) := g3.keep D _ hH' (fun ps z => by cases z) fun n m h => absurd (List.mem_of_getElem? h) nS
                have e4 := e3.go g3 s3
                refine ⟨xa x0 D, S, ρ1, μ3, e4, ?_⟩
                unfold M.bind at hl
                match qe : fe ρ1 μ3 with
                | none => rw [qe] at hl; cases hl
                | some (.ex x, μ4) => rw [qe] at hl; cases hl
                | some (.ok y, μ4) =>
                  rw [qe] at hl
                  intro w H4 g4 s4 r4
                  have hH4 : H4 D = some (.lst accV) := g4.keep D _ hH3 (fun ps z => by cases z) fun n m h => absurd (List.mem_of_getElem? h) nS
                  have fin : ∀ {y' : T} {μ5 : Mu}, Go S μ4 H4 S μ5 H4 → SOk R (xa x0 D) S μ5 H4 → Rep R (excl (xa x0 D) S μ5) H4 y' w → (match lcE P vs b fc fe ρ (ts.drop (i + 1)) μ5 with
                      | some (ys, μ3) => some (y' :: ys, μ3)
                      | none => none) = some (ys', μe) → ∃ acc, H4 D = some (.lst acc) ∧ acc.length < sizeLine ∧ ∃ μ2 acc_1 accV ys', Go S μ1 H1 S μ2 (upd H4 D (.lst (acc ++ [w]))) ∧ SOk R (xa x0 D) S μ2 (upd H4 D (.lst (acc ++ [w]))) ∧ upd H4 D (.lst (acc ++ [w])) D = some (.lst accV) ∧
                      Reps R (excl (xa x0 D) S μ2) (upd H4 D (.lst (acc ++ [w]))) acc_1 accV ∧ acc_1.length ≤ i + 1 ∧ lcE P vs b fc fe ρ (ts.drop (i + 1)) μ2 = some (ys', μe) ∧ ys = acc_1 ++ ys' := by
                    intro y' μ5 g5 s5 r5 hl
                    cases qr : lcE P vs b fc fe ρ (ts.drop (i + 1)) μ5 with
                    | none => rw [qr] at hl; cases hl
                    | some r =>
                      obtain ⟨ys2, μ6⟩ := r
                      rw [qr] at hl
                      cases hl
                      have g45 := g4.trans s3.len g5
                      have g15 : Go S μ1 H1 S μ5 H4 := (g12.trans s1.len g3).trans s1.len g45
                      have ra5 := Reps.mono ((g3.trans so2'.len g45).mono so2'.len) _ _ ra'
                      have mo : Mono (excl (xa x0 D) S μ5) (excl (xa x0 D) S μ5) H4 (upd H4 D (.lst (accV ++ [w]))) := ⟨fun b u hx h _ => by rw [upd_ne (fun z => hx (.inl (.inr z)))]; exact h, fun b u hx _ z => hx z⟩
                      have app : ∀ {l : List T} {lv : List V}, Reps R (excl (xa x0 D) S μ5) H4 l lv → Reps R (excl (xa x0 D) S μ5) H4 (l ++ [y']) (lv ++ [w]) := by
                        intro l
                        induction l with
                        | nil => intro lv h; cases h; exact ⟨w, [], rfl, r5, rfl⟩
                        | cons u us ih => intro lv h; obtain ⟨x, r, rfl, h1, h2⟩ := h; exact ⟨x, _, rfl, h1, ih h2⟩
                      refine ⟨accV, hH4, ?_, μ5, acc ++ [y'], accV ++ [w], ys2, g15.write hD (by rw [hH4]; simp) _, s5.write nS hH4 _, upd_same, Reps.mono mo _ _ (app ra5), by simp; omega, qr, by rw [hys]; simp⟩
                      have := ra.length
                      rw [this]
                      have h17 : (1000000 : Nat) < sizeLine := by decide
                      omega
                  have e5 : EnvOk R (xa x0 D) S ρ1 μ4 σ3 H4 := e4.go g4 s4
                  rcases keep_ok (P := P) s4 r4 with q5 | ⟨q5, r5⟩ | ⟨t', n, q5, r5⟩
                  · simp only [q5] at hl; cases hl
                  · simp only [q5] at hl
                    exact fin (Go.refl _ _ _) s4 r5 hl
                  · simp only [q5] at hl
                    exact fin Go.drop s4.drop r5 hl
        · refine .inl ⟨hstop i (by omega), ?_⟩
          rw [List.drop_eq_nil_of_le (by omega)] at hl
          unfold lcE at hl
          cases hl
          refine k D H2 (g1.trans e.so.len g2) hD0 so2 ⟨accV, hH, ?_⟩
          rw [hys, List.append_nil]
          exact ra
    · simp only [if_neg hz] at k
      exact (k : False).elim
theorem jf_lc {own : List (Str × Nat)} {scope : Scope} {fi : Env → M (List T)} {fc : Env → M Bool} (hc : X.calm = true) (hN : X.N.Nodup) (ok : BlkOk X.N X.env.scope scope own) (hv : own.map (·.2) = vs) (hu : ∀ i ∈ us, i ∈ vs)
    (hi : JI X R W tg iter fi)
    (hg : ∀ (s : Shared) (H : Hp) (C : Addr) (cl : List (Str × Addr)) (fp : List Addr), JB (X.blk s H scope (compEnvC scope cl C X.env) fp) R tg us b) (ht : ∀ (s : Shared) (H : Hp) (C : Addr) (cl : List (Str × Addr)) (fp : List Addr), JTs (X.blk s H scope (compEnvC scope cl C X.env) fp) R ifs fc)
    (he : ∀ (s : Shared) (H : Hp) (C : Addr) (cl : List (Str × Addr)) (fp : List Addr), JE (X.blk s H scope (compEnvC scope cl C X.env) fp) R Wf elt fe) (hs : ∀ x, foldedSetIterable iter X.env x = pure x := by intro _; rfl) :
    JF X R W (.ListComp elt [⟨tg, iter, ifs, 0⟩] scope pos) (mLc P vs fi b fc fe) := by
  subst hv
  exact (pe_lc hc hN hi ok hg ht he hs).imp (lc_red hu)
end
end TL

set_option maxHeartbeats 4000000
namespace TL
open PySem PySem.Spec PyProof.Rows L2

section
variable {X : Cx} {R : RC} {W : WX} {x0 : Addr → Prop} {S S' S1 S2 : List Addr} {ρ ρ' : Env} {μ μ' μ1 μ2 : Mu} {σ σ' : L2.St} {H H' H1 H2 : Hp} {t : T} {v : V} {Q : VK} {P np k q n : Nat} {g : FM} {D : Ends} {f f' : Sm} {st : Stmt} {sts : List Stmt} {pos p apos : Pos} {x : Str} {e e2 e3 tg elt iter : Expr} {es ifs : List Expr} {fs : Env → M (List T)} {fa fb fc fe : Env → M T} {a : Addr} {o o' : MO} {b : TB} {bs : TBs} {vs us : List Nat}
/-! ### what has a builtin's type -/
def tyT : T → Option String
  | .str _ => some "str"
  | .int _ => some "int"
  | .lst _ => some "list"
  | .dct _ _ => some "dict"
  | .wt _ => some "tuple"
  | _ => none
theorem ty_is {ex : Addr → Prop} {pins : List (Addr × Obj)} {s : Shared} {ty : String} {u : Value} (hK : X.K = R.K) (I : Inv X pins σ H s) (r : RelV v u) (rt : RepTop R ex H t v) (ht : tyT t = some ty) :
    s.TypeIs u ty ∧ ∀ a, u = .ref a → ∃ ob, s.heap.get? a = some ob ∧ ob.dict = none := by
  cases t with
  | str z =>
    cases rt
    cases ht
    exact tyV_is I r (show tyV X.K "str" (.str z) H from rfl)
  | int z =>
    cases rt
    cases ht
    exact tyV_is I r (show tyV X.K "int" (.int z) H from rfl)
  | lst ts =>
    obtain ⟨a, xs, rfl, h1, _⟩ := rt
    cases ht
    exact tyV_is I r (show tyV X.K "list" (.ref a) H from .inl ⟨rfl, xs, SqL.of h1⟩)
  | dct tk kvs =>
    obtain ⟨a, rfl, h1⟩ := rt
    cases ht
    have hd : IsD H a := by
      rcases h1 with ⟨_, ks, h1, _⟩ | ⟨_, ks, h1, _⟩
      · exact .inl ⟨ks, h1⟩
      · exact .inr ⟨ks, h1⟩
    obtain rfl : u = Value.ref a := r
    obtain ⟨q1, q2, _⟩ := isD_at I hd
    exact ⟨q1, q2⟩
  | wt ts =>
    obtain ⟨a, xs, rfl, h1, _⟩ := rt
    cases ht
    obtain rfl : u = Value.ref a := r
    rcases h1 with ⟨o, its, n, q1, q2, q3, _⟩ | ⟨_, o, q2, h1⟩
    · refine ⟨⟨o, I.kIn a o (by rw [hK]; exact q1), q3⟩, fun b e => ?_⟩
      cases e
      exact ⟨o, I.kIn _ o (by rw [hK]; exact q1), q2⟩
    · obtain ⟨e1, _, its, _, o', e2, e3, _⟩ := I.hok a _ h1
      rw [e1] at e2
      cases e2
      refine ⟨⟨o, e1, e3⟩, fun b e => ?_⟩
      cases e
      exact ⟨o, e1, q2⟩
  | _ => cases ht
def isTy (ty : String) : Option T → Bool
  | some t => tyT t == some ty
  | none => false
/-- o.m(..), m a builtin's method: by values -/
def mMt (ty : String) (f : T → List T → Option T) (fo : Env → M T) (fs : Env → M (List T)) : Env → M T := fun ρ => (fo ρ).bind fun x => fun μ => if isTy ty (look μ x) = true then ((fs ρ).bind fun xs => fun μ => match look μ x, looks μ xs with
    | some a, some as => M.opt (f a as) μ
    | _, _ => none) μ else none
def tMt (R : RC) (W : WX) (ty : String) (r : V → List V → Hp → VK → Prop) (fo : Env → M T) (tr : TA) : TE := fun σ H Q => tEv R W fo σ H fun x H1 => ∃ ex t, RepTop R ex H1 t x ∧ tyT t = some ty ∧ tr σ H1 fun xs H2 => r x xs H2 Q
theorem tEvMt {f : T → List T → Option T} {ty : String} {fo : Env → M T} (h : tEv R W (mMt ty f fo fs) σ H Q) : tMt R W ty (rOpM R f) fo (tEvA R W fs) σ H Q := by
  obtain ⟨x0, S, ρ, μ, e, k⟩ := h
  refine ⟨x0, S, ρ, μ, e, (Post.bind (P := fun x0 S μ H r => Post R W x0 S μ σ H Q r) e k).imp fun x H1 ⟨tx, μ1, g1, e1, r1, k1⟩ => ?_⟩
  cases ql : look μ1 tx with
  | none => simp [ql, isTy] at k1; exact k1.elim
  | some t =>
    by_cases hi : isTy ty (some t) = true
    · simp only [ql, if_pos hi] at k1
      refine ⟨_, t, look_rep e1.so r1 ql, by simpa [isTy] using hi, x0, S, ρ, μ1, e1, (PostA.bind (P := fun x0 S μ H r => Post R W x0 S μ σ H Q r) e1 k1).imp fun xs H2 ⟨ts, μ2, g2, e2, r2, k2⟩ => ?_⟩
      cases q1 : look μ2 tx with
      | none => simp only [q1] at k2; exact (k2 : False).elim
      | some a =>
        cases q2 : looks μ2 ts with
        | none => simp only [q1, q2] at k2; exact (k2 : False).elim
        | some as =>
          simp only [q1, q2] at k2
          obtain ⟨t2, e3, k3⟩ := opt_ok e2 k2
          exact ⟨_, a, as, t2, e2.so.live, look_rep e2.so (g2.v e1.so.len r1) q1, looks_rep e2.so r2 q2, e3, k3⟩
    · simp only [ql, if_neg hi] at k1
      exact (k1 : False).elim
variable {name : Str} {ty id : String} {fo : Env → M T} {cpos : Pos}
theorem j_mt0 {f : T → List T → Option T} (hK : X.K = R.K) (pa : PlainAttrs ty) (slot : Slot ty name id) (hty : typeOf (.builtin id) = pure (.type "method_descriptor")) (hm : MtR X id (rOpM R f)) (ho : JE X R W e fo)
    (hbase : attributeBase e name X.env (eval e X.env) = eval e X.env := by rfl) (hline : (apos.endLine == cpos.line) = true := by rfl) : JE X R W (.Call (.Attribute e name apos) [] [] cpos) (mMt ty f fo mNil) := by
  refine PE.imp (t := tMt R W ty (rOpM R f) fo (fun _ H Q => Q [] H)) ?_ fun σ H Q h => ?_
  · refine ⟨fun pins s σ H Q I h => ?_⟩
    refine wpAny_Call_method0_late hbase hline (thn (ho.run pins s σ H _ I h) fun v s1 ⟨x, H1, I1, r1, ex, t, rt, ht, q1⟩ => ?_)
    obtain ⟨h1, h2⟩ := ty_is hK I1 r1 rt ht
    exact ⟨ty, id, pa, slot, hty, h1, h2, Calls.callWith_builtin rfl (PySem.evalArgs_none (hm pins s1 σ H1 x [] v [] Q I1 r1 .nil q1))⟩
  · obtain ⟨x0, S, ρ, μ, e, k⟩ := tEvMt h
    refine ⟨x0, S, ρ, μ, e, k.imp fun x H1 ⟨ex, t, h1, h2, x0', S', ρ', μ', e', k'⟩ => ⟨ex, t, h1, h2, ?_⟩⟩
    exact k' [] H1 (Go.refl _ _ _) e'.so rfl
theorem j_mt {f : T → List T → Option T} (hK : X.K = R.K) (pa : PlainAttrs ty) (slot : Slot ty name id) (hty : typeOf (.builtin id) = pure (.type "method_descriptor")) (hm : MtR X id (rOpM R f)) (ho : JE X R W e fo) (ha : JA X R W (e2 :: es) fs)
    (hbase : attributeBase e name X.env (eval e X.env) = eval e X.env := by rfl)
    (hfew : ((backTo cpos (starEach (e2 :: es) X.env)).all (fun x => !x.1) && (backToKw cpos (keywordEach [] X.env)).all (fun x => x.1.isSome)
      && decide ((e2 :: es).length + ([] : List Keyword).length + (if ([] : List Keyword).isEmpty then 0 else 1) < 30)) = true := by rfl)
    (hline : (apos.endLine == cpos.line) = true := by rfl) (hs : starEach (e2 :: es) X.env = (false, eval e2 X.env) :: starEach es X.env := by rfl) (hplain : (backTo cpos (starEach es X.env)).any (·.1) = false := by rfl) :
    JE X R W (.Call (.Attribute e name apos) (e2 :: es) [] cpos) (mMt ty f fo fs) := by
  refine PE.imp (t := tMt R W ty (rOpM R f) fo (tEvA R W fs)) ?_ fun _ _ _ => tEvMt
  refine ⟨fun pins s σ H Q I h => ?_⟩
  refine wpAny_Call_method_late hbase hfew hline rfl (thn (ho.run pins s σ H _ I h) fun v s1 ⟨x, H1, I1, r1, ex, t, rt, ht, q1⟩ => ?_)
  obtain ⟨h1, h2⟩ := ty_is hK I1 r1 rt ht
  refine ⟨ty, id, pa, slot, hty, h1, h2, ?_⟩
  have hA := ha.run cpos pins s1 σ H1 _ I1 q1
  rw [hs] at hA ⊢
  refine Calls.callWith_builtin (by show (false || (backTo cpos (starEach es X.env)).any (·.1)) = false; rw [hplain] <;> rfl) (Calls.evalArgs_plain ?_)
  exact thn hA fun us s2 ⟨vs, H2, I2, r2, q2⟩ => hm pins s2 σ H2 x vs v us Q I2 r1 r2 q2
/-! ### the store written -/
theorem set_live {m : Nat} {o2 : MO} {b : Bool} (h : (μ.set n (o', true))[m]? = some (o2, b)) : (n = m ∧ o2 = o' ∧ b = true) ∨ (n ≠ m ∧ μ[m]? = some (o2, b)) := by
  rw [List.getElem?_set] at h
  by_cases e : n = m
  · rw [if_pos e] at h
    split at h
    · cases h; exact .inl ⟨e, rfl, rfl⟩
    · cases h
  · rw [if_neg e] at h
    exact .inr ⟨e, h⟩
theorem excl_set (hm : μ[n]? = some (o, true)) : excl x0 S (μ.set n (o', true)) = excl x0 S μ := by
  funext a
  apply propext
  constructor
  · rintro (h | ⟨m, o2, h1, h2⟩)
    · exact .inl h
    · rcases set_live h2 with ⟨rfl, _, _⟩ | ⟨_, h3⟩
      · exact .inr ⟨n, o, h1, hm⟩
      · exact .inr ⟨m, o2, h1, h3⟩
  · rintro (h | ⟨m, o2, h1, h2⟩)
    · exact .inl h
    · by_cases e : n = m
      · subst e
        exact .inr ⟨n, o', h1, by rw [List.getElem?_set_self (ltE h2)]⟩
      · exact .inr ⟨m, o2, h1, by rw [List.getElem?_set_ne e]; exact h2⟩
theorem put_ok {ho u : HO} (s : SOk R x0 S μ H) (h1 : S[n]? = some a) (hm : μ[n]? = some (o, true)) (hH : H a = some u) (ht : ∀ ps, u ≠ .tbl ps) (hx : ∀ φ, u ≠ .ext φ)
    (r : ∀ H', Mono (excl x0 S μ) (excl x0 S μ) H H' → H' a = some ho → RepM R (excl x0 S μ) H' o' a) : Go S μ H S (μ.set n (o', true)) (upd H a ho) ∧ SOk R x0 S (μ.set n (o', true)) (upd H a ho) := by
  have ea : excl x0 S μ a := .inr ⟨n, o, h1, hm⟩
  have mo : Mono (excl x0 S μ) (excl x0 S μ) H (upd H a ho) := ⟨fun b w hb h _ => by rw [upd_ne (fun z => hb (by rw [z]; exact ea))]; exact h, fun b w hb _ z => hb z⟩
  have th : ∀ b, H b ≠ none → upd H a ho b ≠ none := fun b h => by
    by_cases e : b = a
    · subst e; rw [upd_same]; simp
    · rw [upd_ne e]; exact h
  have ex := excl_set (x0 := x0) (S := S) (o' := o') hm
  refine ⟨⟨⟨[], by simp, by simp⟩, fun m o2 h => ?_, fun b w hb _ hnl => ?_, th⟩, ⟨by rw [List.length_set]; exact s.len, s.nd, fun b h => th b (s.xd b h), fun m b o2 h2 h3 => ?_, fun b h => th b (s.sd b h), fun m o2 h => ?_, fun m o2 h => ?_, ?_⟩⟩
  · by_cases e : n = m
    · subst e; rw [hm] at h; cases h
    · rw [List.getElem?_set_ne e]; exact h
  · rw [upd_ne (fun z => hnl n o (by rw [z]; exact h1) hm)]
    exact hb
  · rcases set_live h3 with ⟨rfl, _, _⟩ | ⟨_, h4⟩
    · exact s.sx n b o h2 hm
    · exact s.sx m b o2 h2 h4
  · rw [ex]
    rcases set_live h with ⟨rfl, rfl, _⟩ | ⟨hne, h4⟩
    · exact ⟨a, h1, r _ mo upd_same⟩
    · obtain ⟨c, h5, h6⟩ := s.sh m o2 h4
      refine ⟨c, h5, h6.mono mo fun w hw => ?_⟩
      rw [upd_ne (fun z => hne (nd_ix s.nd h1 (by rw [← z]; exact h5)))]
      exact hw
  · rw [ex]
    rcases set_live h with ⟨_, _, hb⟩ | ⟨hne, h4⟩
    · cases hb
    · obtain ⟨c, h5, h6⟩ := s.fz m o2 h4
      exact ⟨c, h5, Rep.mono mo _ _ h6⟩
  · refine R.tabk _ _ s.tab (fun b ps z => ?_) fun b φ z => ?_
    · rw [upd_ne (fun e => by rw [e, hH] at z; cases z; exact ht ps rfl)]; exact z
    · rw [upd_ne (fun e => by rw [e, hH] at z; cases z; exact hx φ rfl)]; exact z
/-- the store's thing behind a value -/
def liveL (μ : Mu) : T → Option (Nat × List T)
  | .sh n => match μ[n]? with
    | some (.lst ts, true) => some (n, ts)
    | _ => none
  | _ => none
theorem liveL_ok {ts : List T} (s : SOk R x0 S μ H) (r : RepV R (excl x0 S μ) S H t v) (h : liveL μ t = some (n, ts)) : ∃ a xs, v = .ref a ∧ S[n]? = some a ∧ μ[n]? = some (.lst ts, true) ∧ H a = some (.lst xs) ∧ Reps R (excl x0 S μ) H ts xs := by
  cases t with
  | sh m =>
    unfold liveL at h
    simp only at h
    split at h
    · rename_i us hm
      obtain ⟨rfl, rfl⟩ := Prod.mk.inj (Option.some.inj h)
      rcases r with ⟨m', a, e, h1, rfl⟩ | r
      · cases e
        obtain ⟨a', h2, xs, h3, h4⟩ := s.sh _ (.lst us) hm
        rw [h1] at h2
        cases h2
        exact ⟨a, xs, rfl, h1, hm, h3, h4⟩
      · exact r.elim
    · cases h
  | _ => cases h
theorem Reps.app {ex : Addr → Prop} : ∀ {l l2 : List T} {xs ys : List V}, Reps R ex H l xs → Reps R ex H l2 ys → Reps R ex H (l ++ l2) (xs ++ ys)
  | [], _, _, _, h, h2 => by cases h; exact h2
  | t :: ts, _, _, _, h, h2 => by obtain ⟨x, r, rfl, h3, h4⟩ := h; exact ⟨x, _, rfl, h3, Reps.app h4 h2⟩
/-- x.append(e) -/
def mApp (P : Nat) (fo : Env → M T) (fe : Env → M T) : Sm := fun ρ => eM (fo ρ) fun t μ => if (liveL μ t).isSome = true then eM (fe ρ) (fun u => eM (keepT P u) fun y μ => match liveL μ t with
    | some (n, ts) => if ts.length ≤ 1000000 then some (.nx ρ, μ.set n (.lst (ts ++ [y]), true)) else none
    | none => none) μ else none
theorem lenLine {α β : Type} {xs : List α} {ts : List β} (h : xs.length = ts.length) (h2 : ts.length ≤ 1000000) : xs.length < sizeLine := by
  have h17 : (1000000 : Nat) < sizeLine := by decide
  omega
theorem js_append (ho : JE X R W e fo) (he : JE X R W e2 fe) (hK : X.K = R.K)
    (hbase : attributeBase e "append" X.env (eval e X.env) = eval e X.env := by rfl)
    (hfew : ((backTo cpos (starEach [e2] X.env)).all (fun x => !x.1) && (backToKw cpos (keywordEach [] X.env)).all (fun x => x.1.isSome)
      && decide (([e2] : List Expr).length + ([] : List Keyword).length + (if ([] : List Keyword).isEmpty then 0 else 1) < 30)) = true := by rfl)
    (hline : (apos.endLine == cpos.line) = true := by rfl) (hs : starEach [e2] X.env = (false, eval e2 X.env) :: starEach [] X.env := by rfl) (hplain : (backTo cpos (starEach [] X.env)).any (·.1) = false := by rfl)
    (hs2 : swapsWith (.Call (.Attribute e "append" apos) [e2] [] cpos) none pos.line X.env = pure false := by rfl) : JS X R W (.Expr (.Call (.Attribute e "append" apos) [e2] [] cpos) pos) (mApp P fo fe) :=
  (ps_expr (pe_bm PySem.F.plainAttrs_list PySem.F.slot_list_append PySem.F.type_list_append mt_append ho (pa_cons he pa_nil hs) hbase hfew hline hs hplain) hs2).imp fun D σ H ⟨x0, S, ρ, μ, e, k⟩ => by
    refine ⟨x0, S, ρ, μ, e, (PostS.bind e k).imp fun x H1 ⟨tx, μ1, g1, e1, r1, k1⟩ => ?_⟩
    cases ql : liveL μ1 tx with
    | none => simp [ql] at k1; exact (k1 : False).elim
    | some nt =>
      obtain ⟨n, ts⟩ := nt
      simp only [ql, Option.isSome_some, if_true] at k1
      obtain ⟨a, xs, rfl, h1, hm, h3, h4⟩ := liveL_ok e1.so r1 ql
      refine ⟨.inl ⟨rfl, xs, .inl (.inl h3)⟩, x0, S, ρ, μ1, e1, (PostS.bind e1 k1).imp fun y H2 ⟨ty, μ2, g2, e2, r2, k2⟩ => ?_⟩
      obtain ⟨t', μ3, g3, e3, r3, k3⟩ := PostS.keep e2 r2 k2
      have r1' := g3.v e2.so.len (g2.v e1.so.len r1)
      cases q3 : liveL μ3 tx with
      | none => simp only [q3] at k3; exact (k3 : False).elim
      | some nt2 =>
        obtain ⟨n2, ts2⟩ := nt2
        simp only [q3] at k3
        obtain ⟨a2, xs2, ea, h1', hm', h3', h4'⟩ := liveL_ok e3.so r1' q3
        cases ea
        by_cases hz : ts2.length ≤ 1000000
        · simp only [if_pos hz] at k3
          refine ⟨a, xs2, y, rfl, rfl, h3', lenLine h4'.length hz, ?_⟩
          obtain ⟨G, so⟩ := put_ok (ho := .lst (xs2 ++ [y])) (o' := .lst (ts2 ++ [t'])) e3.so h1' hm' h3' (fun ps z => by cases z) (fun φ z => by cases z) fun H' mo hh => ⟨_, hh, Reps.app (Reps.mono mo _ _ h4') ⟨y, [], rfl, Rep.mono mo _ _ r3, rfl⟩⟩
          exact k3 S σ _ G (e3.go G so)
        · simp only [if_neg hz] at k3
          exact (k3 : False).elim
/-- x.pop() -/
def mPop (fo : Env → M T) : Env → M T := fun ρ => (fo ρ).bind fun t μ => match liveL μ t with
  | some (n, ts) => (match ts[ts.length - 1]? with
    | some y => some (.ok y, μ.set n (.lst ts.dropLast, true))
    | none => none)
  | none => none
theorem Reps.at {ex : Addr → Prop} : ∀ {ts : List T} {xs : List V} {i : Nat} {t : T}, Reps R ex H ts xs → ts[i]? = some t → ∃ x, xs[i]? = some x ∧ Rep R ex H t x
  | [], _, i, _, _, e => by simp at e
  | u :: us, _, i, t, h, e => by
    obtain ⟨x, rr, rfl, h3, h4⟩ := h
    cases i with
    | zero => simp only [List.getElem?_cons_zero, Option.some.injEq] at e; subst e; exact ⟨x, rfl, h3⟩
    | succ i => simp only [List.getElem?_cons_succ] at e ⊢; exact Reps.at h4 e
theorem Reps.dropLast {ex : Addr → Prop} : ∀ {ts : List T} {xs : List V}, Reps R ex H ts xs → Reps R ex H ts.dropLast xs.dropLast
  | [], _, h => by cases h; rfl
  | [u], _, h => by obtain ⟨x, rr, rfl, h3, h4⟩ := h; cases h4; rfl
  | u :: w :: us, _, h => by
    obtain ⟨x, rr, rfl, h3, y, r2, rfl, h4, h5⟩ := h
    exact ⟨x, _, rfl, h3, Reps.dropLast (ts := w :: us) ⟨y, r2, rfl, h4, h5⟩⟩
theorem j_pop (hK : X.K = R.K) (ho : JE X R W e fo) (hbase : attributeBase e "pop" X.env (eval e X.env) = eval e X.env := by rfl) (hline : (apos.endLine == cpos.line) = true := by rfl) : JE X R W (.Call (.Attribute e "pop" apos) [] [] cpos) (mPop fo) :=
  (pe_bm0 PySem.F.plainAttrs_list PySem.F.slot_list_pop PySem.F.type_list_pop mt_pop ho hbase hline).imp fun σ H Q ⟨x0, S, ρ, μ, e, k⟩ => by
    refine ⟨x0, S, ρ, μ, e, (Post.bind (P := fun x0 S μ H r => Post R W x0 S μ σ H Q r) e k).imp fun x H1 ⟨tx, μ1, g1, e1, r1, k1⟩ => ?_⟩
    cases ql : liveL μ1 tx with
    | none => simp only [ql] at k1; exact (k1 : False).elim
    | some nt =>
      obtain ⟨n, ts⟩ := nt
      simp only [ql] at k1
      obtain ⟨a, xs, rfl, h1, hm, h3, h4⟩ := liveL_ok e1.so r1 ql
      cases qy : ts[ts.length - 1]? with
      | none => simp only [qy] at k1; exact (k1 : False).elim
      | some y =>
        simp only [qy] at k1
        obtain ⟨w, hw, rw⟩ := h4.at qy
        refine ⟨.inl ⟨rfl, xs, .inl (.inl h3)⟩, a, xs, w, rfl, rfl, h3, by rw [h4.length]; exact hw, ?_⟩
        obtain ⟨G, so⟩ := put_ok (ho := .lst xs.dropLast) (o' := .lst ts.dropLast) e1.so h1 hm h3 (fun ps z => by cases z) (fun φ z => by cases z) fun H' mo hh => ⟨_, hh, Reps.mono mo _ _ h4.dropLast⟩
        refine k1 w _ G so (.inr (Rep.mono (G.mono e1.so.len) _ _ rw))
end
end TL

set_option maxHeartbeats 4000000
/-! tuple * 1, str * int -/
namespace L2
open PySem PySem.Spec PyProof.Rows
theorem tuple_mul1W (l : Addr) (items : Array Value) (n : Nat) (dd : Option Addr) (sl : Array (Option Value)) (u : Tok) :
    Meets (Builtin.«tuple.__mul__» ⟨[.ref l, .int 1 u], []⟩) (fun _ R s => s.heap.get? l = some { cls := .type "tuple", dict := dd, data := .seq items n, slots := sl } ∧
      R (.ok (.ret (Value.ref l))) s) :=
  .of_wp fun prog w A R s h => by
    obtain ⟨hp, g, d, tk, os⟩ := s
    obtain ⟨hl, h⟩ := h
    have f1 := AutoSeq1.idx_int
    have c1 : (items.isEmpty || (1:Int) == 1) = true := by rw [show ((1:Int) == 1) = true from rfl, Bool.or_true]
    wp_walk using wpAny_loadPart' hl
    repeat (first
      | (refine wpAny_ite_false (by decide) ?_; wp_walk using wpAny_loadPart' hl)
      | (refine wpAny_ite_true (decide_eq_true c1) ?_; wp_walk using wpAny_loadPart' hl))
    exact ⟨_, rfl, h⟩
def rRepT1 (K : PySem.W.Frag) : R2 := fun x y H Q => ∃ l xs, x = .ref l ∧ y = .int 1 ∧ SqT K H l xs ∧ Q (.ref l) H
def rRepS : R2 := fun x y H Q => ∃ (z : Str) (k : Int), x = .str z ∧ y = .int k ∧ k ≤ 1000000 ∧ -(2 ^ 62) < k ∧ z.length * k.toNat ≤ 1000000 ∧ Q (.str ⟨(List.replicate k.toNat z.cps.toList).flatten.toArray⟩) H
theorem foldl_repN (its : List Nat) : ∀ (m : Nat) (acc : List Nat), (List.replicate m its.toArray).foldl (fun x1 x2 => x1 ++ x2) acc.toArray = (acc ++ (List.replicate m its).flatten).toArray
  | 0, acc => by simp
  | m + 1, acc => by
    rw [List.replicate_succ, List.foldl_cons, List.replicate_succ, List.flatten_cons, List.append_toArray, foldl_repN its m, List.append_assoc]
section
variable {X : Cx}
theorem op_repT1 : OpR X (binaryOp .Mult) (rRepT1 X.K) := by
  intro pins s σ H x y v u Q I rx ry h
  obtain ⟨l, xs, rfl, rfl, hT, q⟩ := h
  cases rx
  obtain ⟨t, rfl⟩ := ry
  obtain ⟨its, r, ⟨⟨cls, dd, data, sl⟩, ho, hc, n, hd⟩, hs⟩ := I.tuple hT
  simp only at hc hd
  subst hc hd
  refine wpAny_binaryOp_repeat_ref (T := "tuple") (U := "int") (by decide) ⟨_, ho, rfl⟩ (fun s' => typeIs_int s' 1 t) noFill_tuple_mul F.fills_int_mul F.slot_int_rmul repeat_tuple F.slot_int_index.lookup
    (call_meets F.slot_int_rmul (typeIs_int s 1 t) F.entry_int_rmul (F.args_int_rmul_2 _ _) (int_rmul_tuple 1 t l its.toArray n dd sl)
      ⟨ho, rfl, ⟨_, ho, rfl⟩, call_meets F.slot_tuple_mul ⟨_, ho, rfl⟩ F.entry_tuple_mul (F.args_tuple_mul_2 _ _) (tuple_mul1W l its.toArray n dd sl t) ⟨ho, ?_⟩⟩)
  exact ⟨.ref l, H, I, rfl, q⟩
theorem op_repS : OpR X (binaryOp .Mult) rRepS := by
  intro pins s σ H x y v u Q I rx ry h
  obtain ⟨z, k, rfl, rfl, h1, h2, hz, q⟩ := h
  obtain ⟨t, rfl⟩ := rx
  obtain ⟨t', rfl⟩ := ry
  have z0 : z.cps.toList.length = z.length := rfl
  refine PySem.P.mul_str ?_ ?_ ?_ ?_
  · rw [decide_eq_false (by omega), decide_eq_false (by omega)]; rfl
  · intro c1 c2
    have a2 : z.length ≤ 1000000 := by
      have : z.length * 1 ≤ z.length * k.toNat := Nat.mul_le_mul_left _ (by omega)
      omega
    have a3 : (1000000 : Int) ≤ (2 ^ 63 - 1) / k := by
      have : (2 ^ 63 - 1) / (1000000:Int) ≤ (2 ^ 63 - 1) / k := by
        apply Int.le_ediv_of_mul_le (by omega)
        have : (2 ^ 63 - 1) / (1000000:Int) * k ≤ (2 ^ 63 - 1) / (1000000:Int) * 1000000 := Int.mul_le_mul_of_nonneg_left h1 (by decide)
        have e2 : (2 ^ 63 - 1) / (1000000:Int) * 1000000 ≤ 2 ^ 63 - 1 := by decide
        omega
      have e3 : (1000000 : Int) ≤ (2 ^ 63 - 1) / (1000000:Int) := by decide
      omega
    omega
  · intro c1 c2
    unfold Builtin.Str.tooLong
    rw [sizeLine_eq]
    exact decide_eq_false (by omega)
  · by_cases c1 : k < 1
    · rw [if_pos c1]
      refine ⟨by decide, ?_⟩
      have e : k.toNat = 0 := by omega
      rw [e] at q
      exact ⟨.str Str.empty, H, I.tok _, ⟨_, rfl⟩, q⟩
    · rw [if_neg c1]
      by_cases c2 : (k == 1 || z.length == 0) = true
      · rw [if_pos c2]
        have e : (List.replicate k.toNat z.cps.toList).flatten.toArray = z.cps := by
          rw [Bool.or_eq_true, beq_iff_eq, beq_iff_eq] at c2
          rcases c2 with c2 | c2
          · rw [c2]
            simp
          · have h0 : z.cps.toList = [] := List.eq_nil_of_length_eq_zero c2
            have h9 : z.cps = #[] := by rw [← Array.toList_eq_nil_iff]; exact h0
            rw [h9]
            simp
        rw [e] at q
        exact ⟨.str z, H, I.tok _, ⟨_, rfl⟩, q⟩
      · rw [if_neg c2]
        have e : (List.replicate k.toNat z.cps).foldl (· ++ ·) #[] = (List.replicate k.toNat z.cps.toList).flatten.toArray := by
          have := foldl_repN z.cps.toList k.toNat []
          rw [List.nil_append] at this
          rw [← this]
        rw [e]
        refine ⟨?_, ?_⟩
        · show (List.replicate k.toNat z.cps.toList).flatten.toArray.size ≤ sizeLine
          rw [List.size_toArray, PyProof.Rows.lm_len_rep_flat, sizeLine_eq, z0, Nat.mul_comm]
          omega
        · exact ⟨.str _, H, I.tok _, ⟨_, rfl⟩, q⟩
end
end L2

set_option maxHeartbeats 4000000
/-! sorted(tuple): by way of a list of its own items -/
namespace PySem.W
open PySem PySem.Spec PyProof.Rows PySem.Builtin
section
variable {prog : Program} {w : World} {A : Around} {E : Value → Shared → Prop} {s : Shared} {β : Type} {vs : List Value} {bs : List β} {enc : β → PyData} {R : Value → β → Prop} {t : Addr}
theorem tup_collect {Q : List Value → Shared → Prop} (hT : IsTup s.heap t vs.toArray) (hz : vs.length ≤ sizeLine)
    (k : Q vs { s with heap := (s.heap.push (seqObj "list" #[] 0)).update s.heap.objs.size (Obj.mapSeq (· ++ vs.toArray)) }) :
    wpAny (model prog w) A (collect (.ref t)) Q E s := by
  obtain ⟨ob, q1, q2, n, q3⟩ := hT
  have q4 : (s.heap.push (seqObj "list" #[] 0)).get? t = some ob := Heap.get?_push_of_some _ q1
  have q5 : (#[] ++ vs.toArray : Array Value).size ≤ sizeLine + 1 := by
    rw [Array.size_append, List.size_toArray]
    simp only [List.size_toArray, List.length_nil]
    omega
  unfold collect
  refine wpAny_bind (wpAny_runValue (codeAny_builtin entry_proto_collect' ?a))
  case a =>
    refine wpAny_bind (wpAny_newList (wpAny_pure ⟨Code.quiet_builtin _ (by decide +kernel), codeAny_builtin entry_list_iadd' ?b⟩))
    case b =>
      show wpAny _ _ (List.listExtendWith (.ref s.heap.objs.size) (.ref t) (.ref s.heap.objs.size)) _ _ { s with heap := s.heap.push (seqObj "list" #[] 0) }
      unfold List.listExtendWith
      refine wpAny_bind (wpAny_typeOf (T := "tuple") ⟨ob, q4, q2⟩ ?_)
      rw [if_pos (by rw [show (Value.type "tuple" == Value.type "tuple") = true from rfl, Bool.or_true])]
      refine wpAny_bind (listItems_at q4 q3 (wpAny_bind (listItems_at (xs := #[]) (n := 0) (Heap.get?_push_size _ rfl) rfl ?_)))
      rw [if_neg (by simp)]
      refine wpAny_bind (listUpdate_at (xs := #[]) (n := 0) (Heap.get?_push_size _ rfl) rfl (wpAny_pure ?_) (Nat.zero_le _) q5)
      refine wpAny_bind (wpAny_load (get?_update_seq (Heap.get?_push_size _ rfl) _) ?_)
      show wpAny _ _ (pure ((#[] : Array Value) ++ vs.toArray).toList) Q E _
      have q6 : ((#[] : Array Value) ++ vs.toArray).toList = vs := by simp
      rw [q6]
      exact wpAny_pure k
theorem tup_sorted {Q : Value → Shared → Prop} (hT : IsTup s.heap t vs.toArray) (e : EachIs R vs bs) (er : EachIs (fun v b => ∃ as, Reads s.heap v (enc b) as) vs bs) (hal : AllAlike (bs.map enc)) (hk : Sortable (bs.map enc)) (hL : bs.length ≤ sizeLine)
    (hu : ∀ b, b ∈ bs → A.units + 2 + (enc b).depth < cLine) (k : ∀ out, out.length = bs.length → EachIs R out (bs.mergeSort (dataLe false enc)) → Q (.ref (s.heap.objs.size + 1)) { s with heap := sortedAll s.heap vs (List.toArray out) }) :
    wpAny (model prog w) A (call (.builtin "sorted") [.ref t]) Q E s := by
  have hz : vs.length ≤ sizeLine := by rw [e.length]; exact hL
  have er2 : EachIs (fun v b => ∃ as, Reads (sortingHeap (copyHeap s.heap vs) (s.heap.objs.size + 1) vs) v (enc b) as) vs bs := er.mono fun _ _ ⟨as, r⟩ => ⟨as, Reads.keeps (fun _ _ => sorting_copy_old) r⟩
  have S := SortsAt.data (prog := prog) (w := w) (A := A.in1.in1) (s := { s with heap := sortingHeap (copyHeap s.heap vs) (s.heap.objs.size + 1) vs }) (each_map (R := fun v d => ∃ as, Reads (sortingHeap (copyHeap s.heap vs) (s.heap.objs.size + 1) vs) v d as) enc er2) hal hk (bound_map hu)
  have fin := k _ (by rw [sortVals_length false rfl]; exact e.length) (sortVals_data false e er2 hal)
  refine call_function_entry_kw kind_sorted plain_sorted entry_sorted (args_sorted1 _) ?_
  unfold Builtin.«sorted»
  refine wpAny_bind (m := checkCount "sorted" 1 1 _) (wpAny_pure (wpAny_bind (tup_collect hT hz (wpAny_bind (wpAny_newList ?_ hz)))))
  have z : ((s.heap.push (seqObj "list" #[] 0)).update s.heap.objs.size (Obj.mapSeq (· ++ vs.toArray))).objs.size = s.heap.objs.size + 1 := by rw [Heap.size_update, size_push']
  show wpAny _ _ _ _ _ { s with heap := copyHeap s.heap vs }
  rw [z]
  refine wpAny_bind (wpAny_holding (wpAny_call_entry_kw slot_list_sort ⟨_, copyHeap_at s.heap vs, rfl⟩ entry_list_sort ?c (args_list_sort _)))
  case c =>
    show wpAny (model prog w) A.in1.in1 (Builtin.«list.sort» ⟨[.ref (s.heap.objs.size + 1)], []⟩) _ _ _
    exact list_sort_vals (s := { s with heap := copyHeap s.heap vs }) (copyHeap_at s.heap vs) S hz ⟨_, rfl, wpAny_pure ⟨_, rfl, fin⟩⟩
end
end PySem.W

set_option maxHeartbeats 4000000
namespace TL
open PySem PySem.Spec PyProof.Rows PySem.SeqAt
/-! # an instance beside a text: unlike -/
section
variable {M : Model} {prog : Program} {w : World} {A : Around} {E : Value → Shared → Prop} {s : Shared} {K : PySem.W.Frag} {x C dx : Addr} {mA : Str → Option Value} {z : Str} {t : Tok}
theorem same_txt {P : Bool → Shared → Prop} (h : P false s) : wpAny M A (isSame (.ref x) (.str z t)) P E s := wpAny_of_eq (rfl : isSame (.ref x) (.str z t) = pure false) h
theorem objEq_txt {P : Fin → Shared → Prop} (hp : P (.done (.ret .notImplemented)) s) : wpAny M A (Builtin.«object.__eq__» ⟨[.ref x, .str z t], []⟩) P E s := by
  unfold Builtin.«object.__eq__»
  repeat (first | with_reducible refine same_txt ?_ | wp_step)
  exact hp
theorem sub_txt : PySem.W.subIn K (.type "str") (.ref C) = some false := by
  have m : fastBuiltinMro "str" = some [.type "str", .type "object"] := by decide +kernel
  show (fastBuiltinMro "str").map (·.contains (.ref C)) = some false
  rw [m]
  first
    | rfl
    | simp
variable {ox : Obj} {od : Option Obj}
theorem eqcall_txt {P : Value → Shared → Prop} (hK : K.In s.heap) (I : PySem.W.InstAt s.heap x ox C od) (e : EqI K C) (hp : P .notImplemented s) :
    wpAny (model prog w) A (call (.builtin "object.__eq__") [.ref x, .str z t]) P E s :=
  wpAny_call (codeAny_call_builtin F.cmp_object.eq.plain F.cmpEntry_eq (PySem.W.check_slot F.cmpKind_eq F.cmpSplit_eq (I.type.andThen (PySem.W.looks_mroIn hK e.top)) (F.cmpArgs_eq _ _) (objEq_txt hp)))
theorem bound_ne {rest : List Value} {P : Option Value → Shared → Prop} (hK : K.In s.heap) (I : PySem.W.InstAt s.heap x ox C od) (e : EqI K C)
    (h : wpAny M A (call (.builtin "object.__ne__") (.ref x :: rest)) (fun r => P (some r)) E s) : wpAny M A (callSpecialIfBound? (.ref x) "__ne__" rest) P E s := by
  simp only [callSpecialIfBound?, bindSpecialIfBound?]
  refine wpAny_holding (wpAny_bind (wpAny_bind (wpAny_bind (I.type.here ((PySem.W.looks_findIn hK e.ne).here ?_)))))
  refine wpAny_bind (wpAny_askSetting (wpAny_ite ?_))
  have last : wpAny M A (call (.builtin "object.__ne__") ([.ref x] ++ rest) >>= fun r => pure (some r)) P E s := wpAny_bind (wpAny_mono h (fun r s' q => wpAny_pure q) fun _ _ q => q)
  split
  · exact wpAny_bind (wpAny_of_eq (F.cmp_object.ne.bind _) (wpAny_pure (by exact last)))
  · exact wpAny_tryCatch (wpAny_bind (wpAny_of_eq (F.cmp_object.ne.bind _) (wpAny_pure (by exact last))))
theorem objNe_txt (hu : A.units < cLine) {P : Fin → Shared → Prop} (hK : K.In s.heap) (I : PySem.W.InstAt s.heap x ox C od) (e : EqI K C) (hp : P (.done (.ret .notImplemented)) s) :
    wpAny (model prog w) A (Builtin.«object.__ne__» ⟨[.ref x, .str z t], []⟩) P E s := by
  unfold Builtin.«object.__ne__»
  repeat (first
    | with_reducible refine wpAny_cRoomFor hu ?_
    | (refine wpAny_bind (m := callSpecialIfBound? (.ref x) (Str.ofString "__eq__") [.str z t]) (HN.ifBound_objEq hK I e.eq (eqcall_txt hK I e ?_)))
    | wp_step)
  exact hp
theorem necall_txt (hu : A.units + 1 < cLine) {P : Value → Shared → Prop} (hK : K.In s.heap) (I : PySem.W.InstAt s.heap x ox C od) (e : EqI K C) (hp : P .notImplemented s) :
    wpAny (model prog w) A (call (.builtin "object.__ne__") [.ref x, .str z t]) P E s :=
  wpAny_call (codeAny_call_builtin F.cmp_object.ne.plain F.cmpEntry_ne (PySem.W.check_slot F.cmpKind_ne F.cmpSplit_ne (I.type.andThen (PySem.W.looks_mroIn hK e.top)) (F.cmpArgs_ne _ _) (objNe_txt (by exact hu) hK I e hp)))
theorem asTxt_no {P : Option Str → Shared → Prop} (ho : s.heap.get? x = some ox) (hd : ∀ u v, ox.data ≠ .prim (.str u v)) (hp : P none s) : wpAny M A (asStr? (.ref x)) P E s := by
  simp only [asStr?]
  refine wpAny_bind (wpAny_load ho ?_)
  split
  · rename_i u v q
    exact absurd q (hd u v)
  · exact wpAny_pure hp
/-- the text's own == and != of an object that is no text -/
theorem txtEq {f : List Nat → List Nat → Bool} {nm : String} {P : Fin → Shared → Prop} (ho : s.heap.get? x = some ox) (hd : ∀ u v, ox.data ≠ .prim (.str u v)) (hp : P (.done (.ret .notImplemented)) s) :
    wpAny (model prog w) A (Builtin.Str.strCompare nm f ⟨[.str z t, .ref x], []⟩) P E s := by
  unfold Builtin.Str.strCompare
  repeat (first
    | (refine wpAny_bind (m := asStr? _) (asTxt_no ho hd ?_))
    | wp_step)
  exact hp
theorem richEq_txt (hu : A.units < cLine) {P : Value → Shared → Prop} (hK : K.In s.heap) (I : PySem.W.InstAt s.heap x ox C od) (hd : ∀ u v, ox.data ≠ .prim (.str u v)) (e : EqI K C) (hp : P (.bool false) s) :
    wpAny (model prog w) A (richCompare .Eq (.ref x) (.str z t)) P E s := by
  have a1 : wpAny (model prog w) A (tryCompare (.ref x) "__eq__" (.str z t)) (fun r s' => r = none ∧ s' = s) E s := by
    unfold tryCompare
    exact wpAny_bind (HN.ifBound_objEq hK I e.eq (eqcall_txt hK I e (wpAny_pure ⟨rfl, rfl⟩)))
  have a2 : wpAny (model prog w) A (tryCompare (.str z t) "__eq__" (.ref x)) (fun r s' => r = none ∧ s' = s) E s :=
    wpAny_tryCompare_declines (typeIs_str s z t) F.slot_str_eq_refl (GQ.call_here F.slot_str_eq_refl (typeIs_str s z t) F.entry_str_eq (F.args_str_eq_2 _ _) (txtEq (nm := "__eq__") I.at_ hd ⟨rfl, rfl, rfl⟩))
  simp only [richCompare, cmpInfo_Eq, oneThing_ref]
  refine wpAny_holding (wpAny_bind (wpAny_cRoomFor hu ?_))
  refine wpAny_bind (I.type.here ?_)
  refine wpAny_bind (wpAny_typeOf (typeIs_str s z t) ?_)
  split
  · refine wpAny_bind ((PySem.W.looks_subIn hK sub_txt).here ?_)
    simp only [Bool.false_eq_true, if_false, Bool.not_false, if_true]
    refine wpAny_bind (m := tryCompare (.ref x) _ _) (wpAny_mono a1 (fun r s1 q => ?_) fun _ _ q => q)
    obtain ⟨rfl, rfl⟩ := q
    refine wpAny_bind (m := tryCompare (.str z t) _ _) (wpAny_mono a2 (fun r s2 q => ?_) fun _ _ q => q)
    obtain ⟨rfl, rfl⟩ := q
    exact wpAny_bind (wpAny_rule (wpAny_bind (same_txt (wpAny_pure hp))))
  · rename_i q
    exact absurd (by simp) q
theorem richNe_txt (hu : A.units + 1 < cLine) {P : Value → Shared → Prop} (hK : K.In s.heap) (I : PySem.W.InstAt s.heap x ox C od) (hd : ∀ u v, ox.data ≠ .prim (.str u v)) (e : EqI K C) (hp : P (.bool true) s) :
    wpAny (model prog w) A (richCompare .NotEq (.ref x) (.str z t)) P E s := by
  have a1 : wpAny (model prog w) A (tryCompare (.ref x) "__ne__" (.str z t)) (fun r s' => r = none ∧ s' = s) E s := by
    unfold tryCompare
    exact wpAny_bind (bound_ne hK I e (necall_txt hu hK I e (wpAny_pure ⟨rfl, rfl⟩)))
  have a2 : wpAny (model prog w) A (tryCompare (.str z t) "__ne__" (.ref x)) (fun r s' => r = none ∧ s' = s) E s :=
    wpAny_tryCompare_declines (typeIs_str s z t) F.slot_str_ne_refl (GQ.call_here F.slot_str_ne_refl (typeIs_str s z t) F.entry_str_ne (F.args_str_ne_2 _ _) (txtEq (nm := "__ne__") I.at_ hd ⟨rfl, rfl, rfl⟩))
  simp only [richCompare, cmpInfo_NotEq, oneThing_ref]
  refine wpAny_holding (wpAny_bind (wpAny_cRoomFor (Nat.lt_of_succ_lt hu) ?_))
  refine wpAny_bind (I.type.here ?_)
  refine wpAny_bind (wpAny_typeOf (typeIs_str s z t) ?_)
  split
  · refine wpAny_bind ((PySem.W.looks_subIn hK sub_txt).here ?_)
    simp only [Bool.false_eq_true, if_false, Bool.not_false, if_true]
    refine wpAny_bind (m := tryCompare (.ref x) _ _) (wpAny_mono a1 (fun r s1 q => ?_) fun _ _ q => q)
    obtain ⟨rfl, rfl⟩ := q
    refine wpAny_bind (m := tryCompare (.str z t) _ _) (wpAny_mono a2 (fun r s2 q => ?_) fun _ _ q => q)
    obtain ⟨rfl, rfl⟩ := q
    exact wpAny_bind (wpAny_rule (wpAny_bind (same_txt (wpAny_pure hp))))
  · rename_i q
    exact absurd (by simp) q
end
end TL
namespace TL
open PySem PySem.Spec PyProof.Rows L2
section
variable {X : Cx} {R : RC} {W : WX} {x0 : Addr → Prop} {S : List Addr} {ρ : Env} {μ μ1 : Mu} {σ : L2.St} {H : Hp} {Q : VK}
theorem op_eqIS (hu : X.A.units + 1 < cLine) : OpR X (compareOp .Eq) (fun x y H Q => ∃ a C dx fs z, x = .ref a ∧ y = .str z ∧ H a = some (.ins C dx fs) ∧ EqI X.K C ∧ Q (.bl false) H) := by
  intro pins s σ H x y v u Q I rx ry h
  obtain ⟨a, C, dx, fs, z, rfl, rfl, ha, e, q⟩ := h
  obtain rfl : v = Value.ref a := rx
  obtain ⟨t, rfl⟩ := ry
  obtain ⟨mA, O, _⟩ := ins_get I.hok ha
  obtain ⟨od, J, _⟩ := O.look
  exact richEq_txt (Nat.lt_of_succ_lt hu) I.kIn J (fun _ _ w => by cases w) e ⟨.bl false, H, I, rfl, q⟩
theorem op_neIS (hu : X.A.units + 1 < cLine) : OpR X (compareOp .NotEq) (fun x y H Q => ∃ a C dx fs z, x = .ref a ∧ y = .str z ∧ H a = some (.ins C dx fs) ∧ EqI X.K C ∧ Q (.bl true) H) := by
  intro pins s σ H x y v u Q I rx ry h
  obtain ⟨a, C, dx, fs, z, rfl, rfl, ha, e, q⟩ := h
  obtain rfl : v = Value.ref a := rx
  obtain ⟨t, rfl⟩ := ry
  obtain ⟨mA, O, _⟩ := ins_get I.hok ha
  obtain ⟨od, J, _⟩ := O.look
  exact richNe_txt hu I.kIn J (fun _ _ w => by cases w) e ⟨.bl true, H, I, rfl, q⟩
end
end TL

set_option maxHeartbeats 4000000
namespace TL
open PySem PySem.Spec PyProof.Rows L2

section
variable {X : Cx} {R : RC} {H H' : Hp} {x y v : V} {Q : VK} {t : T} {ex : Addr → Prop}
theorem _root_.L2.OpR.imp {f : Value → Value → Sem Value} {r r' : R2} (h : OpR X f r) (k : ∀ x y H Q, r' x y H Q → r x y H Q) : OpR X f r' := fun pins s σ H x y v u Q I rx ry q => h pins s σ H x y v u Q I rx ry (k _ _ _ _ q)
theorem _root_.L2.UnR.imp {f : Value → Sem Value} {r r' : V → Hp → VK → Prop} (h : UnR X f r) (k : ∀ x H Q, r' x H Q → r x H Q) : UnR X f r' := fun pins s σ H x v Q I rx q => h pins s σ H x v Q I rx (k _ _ _ q)
theorem _root_.L2.IxR.imp {r r' : R2} (h : IxR X r) (k : ∀ x y H Q, r' x y H Q → r x y H Q) : IxR X r' := fun a b pins s σ H x y v u Q I rx ry q => h a b pins s σ H x y v u Q I rx ry (k _ _ _ _ q)
theorem _root_.L2.CallR.imp {f : Value} {r r' : List V → Hp → VK → Prop} (h : CallR X f r) (k : ∀ xs H Q, r' xs H Q → r xs H Q) : CallR X f r' := fun pins s σ H xs us Q I rx q => h pins s σ H xs us Q I rx (k _ _ _ q)
theorem _root_.L2.MtR.imp {id : String} {r r' : V → List V → Hp → VK → Prop} (h : MtR X id r) (k : ∀ x xs H Q, r' x xs H Q → r x xs H Q) : MtR X id r' := fun pins s σ H x xs v us Q I rx rs q => h pins s σ H x xs v us Q I rx rs (k _ _ _ _ q)
theorem _root_.L2.SlR.imp {r r' : V → Option Int → Option Int → Hp → VK → Prop} (h : SlR X r) (k : ∀ x a b H Q, r' x a b H Q → r x a b H Q) : SlR X r' := fun pins s σ H x v vl vu lo hi sl Q I rx a b c q => h pins s σ H x v vl vu lo hi sl Q I rx a b c (k _ _ _ _ _ q)

/-! ### arithmetic -/
def addT : T → T → Option T
  | .int i, .int j => some (.int (i + j))
  | .int i, .bl k => some (.int (i + b2i k))
  | .str a, .str b => if a.length + b.length ≤ 1000000 then some (.str (a ++ b)) else none
  | .lst a, .lst b => if a.length + b.length ≤ 1000000 then some (.lst (a ++ b)) else none
  | .tup a, .tup b => if a.length + b.length ≤ 1000000 then some (.tup (a ++ b)) else none
  | _, _ => none
theorem line6 {n : Nat} (h : n ≤ 1000000) : n ≤ sizeLine := Nat.le_trans h (by decide)
theorem new_lst {xs : List V} {ts : List T} (hx : ∀ a, ex a → H a ≠ none) (r : Reps R ex H ts xs) (p : Addr) (hp : H p = none) : Grow H (upd H p (.lst xs)) ∧ Rep R ex (upd H p (.lst xs)) (.lst ts) (.ref p) :=
  ⟨Grow.new hp, p, xs, rfl, fun z => hx p z hp, upd_same, Reps.mono (Mono.grow (Grow.new hp) hx) _ _ r⟩
theorem new_tup {xs : List V} {ts : List T} (hx : ∀ a, ex a → H a ≠ none) (r : Reps R ex H ts xs) (p : Addr) (hp : H p = none) : Grow H (upd H p (.tup xs)) ∧ Rep R ex (upd H p (.tup xs)) (.tup ts) (.ref p) :=
  ⟨Grow.new hp, p, xs, rfl, fun z => hx p z hp, upd_same, Reps.mono (Mono.grow (Grow.new hp) hx) _ _ r⟩
theorem o_add (hK : X.K = R.K) : OpR X (binaryOp .Add) (rOp2 R addT) := by
  refine (op_add.or (op_add_ib.or (op_add_str.or (op_cat.or op_catA)))).imp fun x y H Q ⟨ex, tx, ty, t, hx, r1, r2, e, k⟩ => ?_
  unfold addT at e
  split at e
  · cases e; cases r1; cases r2
    exact .inl ⟨_, _, rfl, rfl, k _ _ (Grow.refl _) rfl⟩
  · cases e; cases r1; cases r2
    exact .inr (.inl ⟨_, _, rfl, rfl, k _ _ (Grow.refl _) rfl⟩)
  · split at e
    · rename_i hl
      cases e; cases r1; cases r2
      exact .inr (.inr (.inl ⟨_, _, rfl, rfl, line6 hl, k _ _ (Grow.refl _) rfl⟩))
    · cases e
  · split at e
    · rename_i hl
      cases e
      obtain ⟨a, xs, rfl, h1, h2⟩ := r1
      obtain ⟨b, ys, rfl, h3, h4⟩ := r2
      refine .inr (.inr (.inr (.inl ⟨a, b, xs, ys, rfl, rfl, h1, h3, by rw [h2.length, h4.length]; exact line6 hl, fun p hp => ?_⟩)))
      obtain ⟨g, r⟩ := new_lst hx (h2.app h4) p hp
      exact k _ _ g r
    · cases e
  · split at e
    · rename_i ta tb hl
      cases e
      have q1 := r1
      have q2 := r2
      obtain ⟨a, xs, rfl, h1, h2⟩ := Rep.sqt r1
      obtain ⟨b, ys, rfl, h3, h4⟩ := Rep.sqt r2
      refine .inr (.inr (.inr (.inr ⟨a, b, xs, ys, rfl, rfl, by rw [hK]; exact h1, by rw [hK]; exact h3, by rw [h2.length, h4.length]; exact line6 hl, fun z => ?_, fun _ z => ?_, fun _ _ p hp => ?_⟩)))
      · subst z
        match ta, h2, k with
        | [], h2, k => exact k _ _ (Grow.refl _) q2
        | _ :: _, h2, k => obtain ⟨_, _, z, _⟩ := h2; cases z
      · subst z
        match tb, h4, k with
        | [], h4, k => exact k _ _ (Grow.refl _) (by rw [List.append_nil]; exact q1)
        | _ :: _, h4, k => obtain ⟨_, _, z, _⟩ := h4; cases z
      · obtain ⟨g, r⟩ := new_tup hx (h2.app h4) p hp
        exact k _ _ g r
    · cases e
  · cases e
def subT : T → T → Option T
  | .int i, .int j => some (.int (i - j))
  | _, _ => none
theorem o_sub : OpR X (binaryOp .Sub) (rOp2 R subT) := by
  refine op_sub.imp fun x y H Q ⟨ex, tx, ty, t, hx, r1, r2, e, k⟩ => ?_
  unfold subT at e
  split at e
  · cases e; cases r1; cases r2
    exact ⟨_, _, rfl, rfl, k _ _ (Grow.refl _) rfl⟩
  · cases e
instance {i j : Int} : Decidable (CMul i j) := by unfold CMul; infer_instance
instance {i j : Int} : Decidable (CDiv i j) := by unfold CDiv; infer_instance
instance {i j : Int} : Decidable (CDivN i j) := by unfold CDivN; infer_instance
def mulT : T → T → Option T
  | .int i, .int j => if CMul i j then some (.int (i * j)) else none
  | .lst ts, .int j => if -(2 ^ 63) ≤ j ∧ j < 2 ^ 63 ∧ ts.length * j.toNat ≤ 1000000 then some (.lst (List.replicate j.toNat ts).flatten) else none
  | .tup ts, .int j => if j = 1 then some (.tup ts) else if ts ≠ [] ∧ 2 ≤ j ∧ j ≤ 1000 ∧ ts.length ≤ 1000 then some (.tup (List.replicate j.toNat ts).flatten) else none
  | .str z, .int j => if j ≤ 1000000 ∧ -(2 ^ 62) < j ∧ z.length * j.toNat ≤ 1000000 then some (.str ⟨(List.replicate j.toNat z.cps.toList).flatten.toArray⟩) else none
  | _, _ => none
theorem Reps.repl {xs : List V} {ts : List T} (r : Reps R ex H ts xs) : ∀ n : Nat, Reps R ex H (List.replicate n ts).flatten (List.replicate n xs).flatten
  | 0 => rfl
  | n + 1 => by
    rw [List.replicate_succ, List.replicate_succ, List.flatten_cons, List.flatten_cons]
    exact r.app (r.repl n)
theorem o_mul (hK : X.K = R.K) : OpR X (binaryOp .Mult) (rOp2 R mulT) := by
  refine (op_mul.or (op_rep.or (op_repT1.or (op_repT.or op_repS)))).imp fun x y H Q ⟨ex, tx, ty, t, hx, r1, r2, e, k⟩ => ?_
  unfold mulT at e
  split at e
  · split at e
    · rename_i hc
      cases e; cases r1; cases r2
      exact .inl ⟨_, _, rfl, rfl, hc, k _ _ (Grow.refl _) rfl⟩
    · cases e
  · split at e
    · rename_i hc
      cases e; cases r2
      obtain ⟨a, xs, rfl, h1, h2⟩ := r1
      refine .inr (.inl ⟨a, _, xs, rfl, rfl, h1, hc.1, hc.2.1, by rw [h2.length]; exact line6 hc.2.2, fun p hp => ?_⟩)
      obtain ⟨g, r⟩ := new_lst hx (h2.repl _) p hp
      exact k _ _ g r
    · cases e
  · rename_i ts j
    cases r2
    have q1 := r1
    obtain ⟨a, xs, rfl, h1, h2⟩ := Rep.sqt r1
    split at e
    · rename_i hj
      cases e
      subst hj
      exact .inr (.inr (.inl ⟨a, xs, rfl, rfl, by rw [hK]; exact h1, k _ _ (Grow.refl _) q1⟩))
    · split at e
      · rename_i hc
        cases e
        have hl := h2.length
        refine .inr (.inr (.inr (.inl ⟨a, j, xs, rfl, rfl, by rw [hK]; exact h1, fun z => hc.1 (List.eq_nil_of_length_eq_zero (by rw [← hl, z]; rfl)), hc.2.1, hc.2.2.1, by rw [hl]; exact hc.2.2.2, fun p hp => ?_⟩)))
        obtain ⟨g, r⟩ := new_tup hx (h2.repl _) p hp
        exact k _ _ g r
      · cases e
  · split at e
    · rename_i hc
      cases e; cases r1; cases r2
      exact .inr (.inr (.inr (.inr ⟨_, _, rfl, rfl, hc.1, hc.2.1, hc.2.2, k _ _ (Grow.refl _) rfl⟩)))
    · cases e
  · cases e
def fdivT : T → T → Option T
  | .int i, .int j => if CDiv i j then some (.int (i / j)) else if CDivN i j then some (.int (i.fdiv j)) else none
  | _, _ => none
theorem o_fdiv : OpR X (binaryOp .FloorDiv) (rOp2 R fdivT) := by
  refine (op_fdiv.or op_fdivN).imp fun x y H Q ⟨ex, tx, ty, t, hx, r1, r2, e, k⟩ => ?_
  unfold fdivT at e
  split at e
  · split at e
    · rename_i hc
      cases e; cases r1; cases r2
      exact .inl ⟨_, _, rfl, rfl, hc, k _ _ (Grow.refl _) rfl⟩
    · split at e
      · rename_i hc
        cases e; cases r1; cases r2
        exact .inr ⟨_, _, rfl, rfl, hc, k _ _ (Grow.refl _) rfl⟩
      · cases e
  · cases e
def modT : T → T → Option T
  | .int i, .int j => if 0 < j then some (.int (i % j)) else if j ≠ 0 then some (.int (i.fmod j)) else none
  | _, _ => none
theorem o_mod : OpR X (binaryOp .Mod) (rOp2 R modT) := by
  refine (op_mod.or op_modN).imp fun x y H Q ⟨ex, tx, ty, t, hx, r1, r2, e, k⟩ => ?_
  unfold modT at e
  split at e
  · split at e
    · rename_i hc
      cases e; cases r1; cases r2
      exact .inl ⟨_, _, rfl, rfl, hc, k _ _ (Grow.refl _) rfl⟩
    · split at e
      · rename_i hc
        cases e; cases r1; cases r2
        exact .inr ⟨_, _, rfl, rfl, hc, k _ _ (Grow.refl _) rfl⟩
      · cases e
  · cases e
def negT : T → Option T
  | .int i => some (.int (-i))
  | _ => none
theorem o_neg : UnR X (unaryOp .USub) (rOp1 R negT) := by
  refine un_neg.imp fun x H Q ⟨ex, tx, t, hx, r1, e, k⟩ => ?_
  unfold negT at e
  split at e
  · cases e; cases r1
    exact ⟨_, rfl, k _ _ (Grow.refl _) rfl⟩
  · cases e
/-! ### order -/
def ltT : T → T → Option T
  | .int i, .int j => some (.bl (decide (i < j)))
  | .str i, .str j => some (.bl (decide (i.cps.toList < j.cps.toList)))
  | _, _ => none
def leT : T → T → Option T
  | .int i, .int j => some (.bl (decide (i ≤ j)))
  | .str i, .str j => some (.bl (!decide (j.cps.toList < i.cps.toList)))
  | _, _ => none
def gtT : T → T → Option T
  | .int i, .int j => some (.bl (decide (j < i)))
  | .str i, .str j => some (.bl (decide (j.cps.toList < i.cps.toList)))
  | _, _ => none
def geT : T → T → Option T
  | .int i, .int j => some (.bl (decide (j ≤ i)))
  | .str i, .str j => some (.bl (!decide (i.cps.toList < j.cps.toList)))
  | _, _ => none
theorem o_lt : OpR X (compareOp .Lt) (rOp2 R ltT) := by
  refine (op_lt.or op_lt_str).imp fun x y H Q ⟨ex, tx, ty, t, hx, r1, r2, e, k⟩ => ?_
  unfold ltT at e
  split at e
  · cases e; cases r1; cases r2
    exact .inl ⟨_, _, rfl, rfl, k _ _ (Grow.refl _) rfl⟩
  · cases e; cases r1; cases r2
    exact .inr ⟨_, _, rfl, rfl, k _ _ (Grow.refl _) rfl⟩
  · cases e
theorem o_le : OpR X (compareOp .LtE) (rOp2 R leT) := by
  refine (op_le.or op_le_str).imp fun x y H Q ⟨ex, tx, ty, t, hx, r1, r2, e, k⟩ => ?_
  unfold leT at e
  split at e
  · cases e; cases r1; cases r2
    exact .inl ⟨_, _, rfl, rfl, k _ _ (Grow.refl _) rfl⟩
  · cases e; cases r1; cases r2
    exact .inr ⟨_, _, rfl, rfl, k _ _ (Grow.refl _) rfl⟩
  · cases e
theorem o_gt : OpR X (compareOp .Gt) (rOp2 R gtT) := by
  refine (op_gt.or op_gt_str).imp fun x y H Q ⟨ex, tx, ty, t, hx, r1, r2, e, k⟩ => ?_
  unfold gtT at e
  split at e
  · cases e; cases r1; cases r2
    exact .inl ⟨_, _, rfl, rfl, k _ _ (Grow.refl _) rfl⟩
  · cases e; cases r1; cases r2
    exact .inr ⟨_, _, rfl, rfl, k _ _ (Grow.refl _) rfl⟩
  · cases e
theorem o_ge : OpR X (compareOp .GtE) (rOp2 R geT) := by
  refine (op_ge.or op_ge_str).imp fun x y H Q ⟨ex, tx, ty, t, hx, r1, r2, e, k⟩ => ?_
  unfold geT at e
  split at e
  · cases e; cases r1; cases r2
    exact .inl ⟨_, _, rfl, rfl, k _ _ (Grow.refl _) rfl⟩
  · cases e; cases r1; cases r2
    exact .inr ⟨_, _, rfl, rfl, k _ _ (Grow.refl _) rfl⟩
  · cases e
/-! ### ==, in -/
mutual
def toD : T → Option PyData
  | .non => some .none
  | .bl b => some (.bool b)
  | .int i => some (.int i)
  | .str s => some (.str s)
  | .lst ts => (toDs ts).map .list
  | .tup ts => (toDs ts).map .tuple
  | .wt ts => (toDs ts).map .tuple
  | _ => none
def toDs : List T → Option (List PyData)
  | [] => some []
  | t :: ts => match toD t, toDs ts with
    | some d, some ds => some (d :: ds)
    | _, _ => none
end
mutual
theorem toD_rep : ∀ (t : T) (v : V) (d : PyData), RepTop R ex H t v → toD t = some d → Dp R.K H v d
  | .non, _, _, r, e => by cases r; cases e; exact .non
  | .bl b, _, _, r, e => by cases r; cases e; exact .bl b
  | .int i, _, _, r, e => by cases r; cases e; exact .int i
  | .str s, _, _, r, e => by cases r; cases e; exact .str s
  | .lst ts, _, _, r, e => by
    obtain ⟨a, xs, rfl, h1, h2⟩ := r
    unfold toD at e
    cases q : toDs ts with
    | none => rw [q] at e; cases e
    | some ds => rw [q] at e; cases e; exact .lst (SqL.of h1) (toDs_rep ts xs ds h2 q)
  | .tup ts, _, _, r, e => by
    obtain ⟨a, xs, rfl, h1, h2⟩ := Rep.sqt r
    unfold toD at e
    cases q : toDs ts with
    | none => rw [q] at e; cases e
    | some ds => rw [q] at e; cases e; exact .tup h1 (toDs_rep ts xs ds h2 q)
  | .wt ts, _, _, r, e => by
    obtain ⟨a, xs, rfl, h1, h2⟩ := Rep.sqw r
    unfold toD at e
    cases q : toDs ts with
    | none => rw [q] at e; cases e
    | some ds => rw [q] at e; cases e; exact .tup h1 (toDs_rep ts xs ds h2 q)
  | .dct _ _, _, _, r, e => by cases e
  | .ins _ _, _, _, r, e => by cases e
  | .sh _, _, _, r, e => by cases e
theorem toDs_rep : ∀ (ts : List T) (vs : List V) (ds : List PyData), Reps R ex H ts vs → toDs ts = some ds → DpAll R.K H vs ds
  | [], _, _, r, e => by cases r; cases e; exact .nil
  | t :: ts, _, _, r, e => by
    obtain ⟨x, rr, rfl, h1, h2⟩ := r
    unfold toDs at e
    cases q : toD t with
    | none => rw [q] at e; cases e
    | some d =>
      cases q2 : toDs ts with
      | none => rw [q, q2] at e; cases e
      | some ds => rw [q, q2] at e; cases e; exact .cons (toD_rep t x d h1.top q) (toDs_rep ts rr ds h2 q2)
end
def eqB (a b : T) : Option Bool := match toD a, toD b with
  | some d, some e => if SeqAt.shaped d = true ∧ SeqAt.shaped e = true then some (PyData.eqv d e) else none
  | _, _ => none
/-- two lists of unlike lengths, whatever they hold -/
def lenB : T → T → Option Bool
  | .lst ts, .lst us => if (ts.length == us.length) = true then none else some false
  | _, _ => none
/-- an instance beside a text -/
def insB : T → T → Bool
  | .ins _ _, .str _ => true
  | _, _ => false
def eqL (a b : T) : Option Bool := match eqB a b with
  | some c => some c
  | none => if insB a b = true then some false else lenB a b
def eqT (a b : T) : Option T := (eqL a b).map .bl
def neT (a b : T) : Option T := match eqB a b with
  | some c => some (.bl (!c))
  | none => if insB a b = true then some (.bl true) else none
theorem insB_ok {a b : T} (r1 : RepTop R ex H a x) (r2 : RepTop R ex H b y) (h : insB a b = true) : ∃ p C dx fs z, x = .ref p ∧ y = .str z ∧ H p = some (.ins C dx fs) ∧ EqI R.K C := by
  unfold insB at h
  split at h
  · obtain ⟨p, C, dx, vs, rfl, hc, h1, _⟩ := r1
    cases r2
    exact ⟨p, C, dx, vs, _, rfl, rfl, h1, R.eqi _ _ hc⟩
  · cases h
theorem lenB_ok {a b : T} {c : Bool} (r1 : RepTop R ex H a x) (r2 : RepTop R ex H b y) (h : lenB a b = some c) : c = false ∧ ∃ p q xs ys, x = .ref p ∧ y = .ref q ∧ SqL R.K H p xs ∧ SqL R.K H q ys ∧ xs.length ≠ ys.length := by
  unfold lenB at h
  split at h
  · rename_i ts us
    split at h
    · cases h
    · rename_i hne
      cases h
      obtain ⟨p, xs, rfl, h1, h2⟩ := r1
      obtain ⟨q, ys, rfl, h3, h4⟩ := r2
      refine ⟨rfl, p, q, xs, ys, rfl, rfl, SqL.of h1, SqL.of h3, ?_⟩
      rw [h2.length, h4.length]
      simpa using hne
  · cases h
theorem op_eqLen (hu : X.A.units < cLine) : OpR X (compareOp .Eq) (fun x y H Q => ∃ p q xs ys, x = .ref p ∧ y = .ref q ∧ SqL X.K H p xs ∧ SqL X.K H q ys ∧ xs.length ≠ ys.length ∧ Q (.bl false) H) := by
  intro pins s σ H x y v u Q I rx ry h
  obtain ⟨p, q, xs, ys, rfl, rfl, h1, h2, h3, k⟩ := h
  obtain rfl : v = Value.ref p := rx
  obtain rfl : u = Value.ref q := ry
  obtain ⟨i1, v1, ⟨o1, n1, g1, c1, _, d1⟩, _⟩ := I.list h1
  obtain ⟨i2, v2, ⟨o2, n2, g2, c2, _, d2⟩, _⟩ := I.list h2
  exact PySem.SeqAt.eq_list_lengthsAt (items := i1.toArray) (items2 := i2.toArray) ⟨o1, g1, c1, n1, d1⟩ ⟨o2, g2, c2, n2, d2⟩ (by simpa [← v1.length, ← v2.length] using h3) hu ⟨.bl _, H, I, rfl, k⟩
theorem eqB_ok {a b : T} {c : Bool} (r1 : RepTop R ex H a x) (r2 : RepTop R ex H b y) (h : eqB a b = some c) : ∃ d e, Dp R.K H x d ∧ Dp R.K H y e ∧ SeqAt.shaped d = true ∧ SeqAt.shaped e = true ∧ PyData.eqv d e = c := by
  unfold eqB at h
  split at h
  · rename_i d e h1 h2
    split at h
    · rename_i hs
      cases h
      exact ⟨d, e, toD_rep _ _ _ r1 h1, toD_rep _ _ _ r2 h2, hs.1, hs.2, rfl⟩
    · cases h
  · cases h
theorem o_eq (hK : X.K = R.K) (hu : X.A.units + 64 < cLine) : OpR X (compareOp .Eq) (rOp2 R eqT) := by
  refine ((op_eqD hu).or ((op_eqLen (by omega)).or (op_eqIS (by omega)))).imp fun x y H Q ⟨ex, tx, ty, t, hx, r1, r2, e, k⟩ => ?_
  unfold eqT eqL at e
  cases q : eqB tx ty with
  | none =>
    rw [q] at e
    simp only at e
    by_cases qi : insB tx ty = true
    · rw [if_pos qi] at e
      cases e
      obtain ⟨p, C, dx, fs, z, rfl, rfl, h1, h2⟩ := insB_ok r1 r2 qi
      rw [hK]
      exact .inr (.inr ⟨p, C, dx, fs, z, rfl, rfl, h1, h2, k _ _ (Grow.refl _) rfl⟩)
    rw [if_neg qi] at e
    cases q2 : lenB tx ty with
    | none => rw [q2] at e; cases e
    | some c =>
      rw [q2] at e
      cases e
      obtain ⟨rfl, p, q, xs, ys, rfl, rfl, h1, h2, h3⟩ := lenB_ok r1 r2 q2
      rw [hK]
      exact .inr (.inl ⟨p, q, xs, ys, rfl, rfl, h1, h2, h3, k _ _ (Grow.refl _) rfl⟩)
  | some c =>
    rw [q] at e
    cases e
    obtain ⟨d, e, h1, h2, h3, h4, h5⟩ := eqB_ok r1 r2 q
    rw [hK]
    exact .inl ⟨d, e, h1, h2, h3, h4, by rw [h5]; exact k _ _ (Grow.refl _) rfl⟩
theorem o_ne (hK : X.K = R.K) (hu : X.A.units + 64 < cLine) : OpR X (compareOp .NotEq) (rOp2 R neT) := by
  refine ((op_neD hu).or (op_neIS (by omega))).imp fun x y H Q ⟨ex, tx, ty, t, hx, r1, r2, e, k⟩ => ?_
  unfold neT at e
  cases q : eqB tx ty with
  | none =>
    rw [q] at e
    simp only at e
    by_cases qi : insB tx ty = true
    · rw [if_pos qi] at e
      cases e
      obtain ⟨p, C, dx, fs, z, rfl, rfl, h1, h2⟩ := insB_ok r1 r2 qi
      rw [hK]
      exact .inr ⟨p, C, dx, fs, z, rfl, rfl, h1, h2, k _ _ (Grow.refl _) rfl⟩
    · rw [if_neg qi] at e
      cases e
  | some c =>
    rw [q] at e
    cases e
    obtain ⟨d, e, h1, h2, h3, h4, h5⟩ := eqB_ok r1 r2 q
    rw [hK]
    exact .inl ⟨d, e, h1, h2, h3, h4, by rw [h5]; exact k _ _ (Grow.refl _) rfl⟩
/-- a flat thing -/
def flT : T → Option V
  | .non => some .non
  | .bl b => some (.bl b)
  | .int i => some (.int i)
  | .str z => some (.str z)
  | _ => none
def flTs : List T → Option (List V)
  | [] => some []
  | t :: r => match flT t, flTs r with
    | some x, some xs => some (x :: xs)
    | _, _ => none
theorem flT_top {v u : V} (r : RepTop R ex H t v) (e : flT t = some u) : v = u ∧ flatV u = true := by
  cases t with
  | non => cases e; cases r; exact ⟨rfl, rfl⟩
  | bl b => cases e; cases r; exact ⟨rfl, rfl⟩
  | int b => cases e; cases r; exact ⟨rfl, rfl⟩
  | str b => cases e; cases r; exact ⟨rfl, rfl⟩
  | _ => cases e
theorem flTs_rep : ∀ {ts : List T} {vs us : List V}, Reps R ex H ts vs → flTs ts = some us → vs = us ∧ us.all flatV = true
  | [], _, _, r, e => by cases r; cases e; exact ⟨rfl, rfl⟩
  | t :: ts, _, _, r, e => by
    obtain ⟨x, rr, rfl, h1, h2⟩ := r
    unfold flTs at e
    cases q : flT t with
    | none => rw [q] at e; cases e
    | some d =>
      cases q2 : flTs ts with
      | none => rw [q, q2] at e; cases e
      | some ds =>
        rw [q, q2] at e
        cases e
        obtain ⟨rfl, f1⟩ := flT_top h1.top q
        obtain ⟨rfl, f2⟩ := flTs_rep h2 q2
        exact ⟨rfl, by rw [List.all_cons, f1, f2]; rfl⟩
def inF (a : T) (ts : List T) : Option Bool := match flT a, flTs ts with
  | some x, some xs => some (inV x xs)
  | _, _ => none
theorem inF_ok {a : T} {ts : List T} {xs : List V} {c : Bool} (r1 : RepTop R ex H a x) (r2 : Reps R ex H ts xs) (h : inF a ts = some c) : flatV x = true ∧ xs.all flatV = true ∧ inV x xs = c := by
  unfold inF at h
  split at h
  · rename_i u us h1 h2
    cases h
    obtain ⟨rfl, f1⟩ := flT_top r1 h1
    obtain ⟨rfl, f2⟩ := flTs_rep r2 h2
    exact ⟨f1, f2, rfl⟩
  · cases h
theorem op_inDT (hu : X.A.units + 65 < cLine) : OpR X (compareOp .In) (fun x y H Q => ∃ d ds, Dp X.K H x d ∧ Dp X.K H y (.tuple ds) ∧ SeqAt.shaped d = true ∧ PyData.canLayAll0 ds = true ∧ Q (.bl (ds.any fun z => PyData.eqv z d)) H) := by
  intro pins s σ H x y v u Q I rx ry h
  obtain ⟨d, ds, hx, hy, l1, l2, q⟩ := h
  obtain ⟨as, r1⟩ := Dp.reads I _ _ _ hy ry
  obtain ⟨bs, r2⟩ := Dp.reads I _ _ _ hx rx
  unfold SeqAt.shaped at l1
  rw [Bool.and_eq_true, decide_eq_true_eq] at l1
  exact PySem.SeqAt.in_tuple_reads r1 r2 l2 l1.1 (by have := Nat.min_le_right (PyData.depthAll ds) d.depth; omega) ⟨.bl _, H, I, rfl, q⟩
theorem op_notInDT (hu : X.A.units + 65 < cLine) : OpR X (compareOp .NotIn) (fun x y H Q => ∃ d ds, Dp X.K H x d ∧ Dp X.K H y (.tuple ds) ∧ SeqAt.shaped d = true ∧ PyData.canLayAll0 ds = true ∧ Q (.bl (!ds.any fun z => PyData.eqv z d)) H) := by
  intro pins s σ H x y v u Q I rx ry h
  obtain ⟨d, ds, hx, hy, l1, l2, q⟩ := h
  obtain ⟨as, r1⟩ := Dp.reads I _ _ _ hy ry
  obtain ⟨bs, r2⟩ := Dp.reads I _ _ _ hx rx
  unfold SeqAt.shaped at l1
  rw [Bool.and_eq_true, decide_eq_true_eq] at l1
  exact PySem.SeqAt.notIn_tuple_reads r1 r2 l2 l1.1 (by have := Nat.min_le_right (PyData.depthAll ds) d.depth; omega) ⟨.bl _, H, I, rfl, q⟩
/-- x in a list of data -/
def inB (a : T) : T → Option Bool
  | .lst ts => match toD a, toDs ts with
    | some d, some ds => if SeqAt.shaped d = true ∧ SeqAt.shaped (.list ds) = true then some (ds.any fun z => PyData.eqv z d) else none
    | _, _ => none
  | .str z => match a with
    | .str x => some (!(Builtin.Str.occurrences z x 0 z.length 1).isEmpty)
    | _ => none
  | .tup ts => match toD a, toDs ts with
    | some d, some ds => if SeqAt.shaped d = true ∧ PyData.canLayAll0 ds = true then some (ds.any fun z => PyData.eqv z d) else none
    | _, _ => none
  | .wt ts => inF a ts
  | _ => none
def inT (a b : T) : Option T := (inB a b).map .bl
def ninT (a b : T) : Option T := (inB a b).map fun c => .bl (!c)
theorem o_in (hK : X.K = R.K) (hu : X.A.units + 65 < cLine) : OpR X (compareOp .In) (rOp2 R inT) := by
  refine ((op_inD hu).or (op_in_str.or (op_in_seq.or (op_inDT hu)))).imp fun x y H Q ⟨ex, tx, ty, t, hx, r1, r2, e, k⟩ => ?_
  unfold inT at e
  cases q : inB tx ty with
  | none => rw [q] at e; cases e
  | some c =>
    rw [q] at e
    cases e
    unfold inB at q
    split at q
    · split at q
      · rename_i ts d ds h1 h2
        split at q
        · rename_i hs
          cases q
          rw [hK]
          exact .inl ⟨d, ds, toD_rep _ _ _ r1 h1, toD_rep (.lst _) _ _ r2 (by unfold toD; rw [h2]; rfl), hs.1, hs.2, k _ _ (Grow.refl _) rfl⟩
        · cases q
      · cases q
    · split at q
      · cases q; cases r1; cases r2
        exact .inr (.inl ⟨_, _, rfl, rfl, k _ _ (Grow.refl _) rfl⟩)
      · cases q
    · split at q
      · rename_i ts d ds h1 h2
        split at q
        · rename_i hs
          cases q
          rw [hK]
          exact .inr (.inr (.inr ⟨d, ds, toD_rep _ _ _ r1 h1, toD_rep (.tup _) _ _ r2 (by unfold toD; rw [h2]; rfl), hs.1, hs.2, k _ _ (Grow.refl _) rfl⟩))
        · cases q
      · cases q
    · obtain ⟨p, xs, rfl, h1, h2⟩ := Rep.sqw r2
      obtain ⟨f1, f2, f3⟩ := inF_ok r1 h2 q
      exact .inr (.inr (.inl ⟨p, xs, rfl, .inr (by rw [hK]; exact h1), f1, f2, by simp only [Bool.false_eq_true, if_false, if_true]; rw [f3]; exact k _ _ (Grow.refl _) rfl⟩))
    · cases q
theorem o_nin (hK : X.K = R.K) (hu : X.A.units + 65 < cLine) : OpR X (compareOp .NotIn) (rOp2 R ninT) := by
  refine ((op_notInD hu).or (op_notin_str.or (op_notIn_seq.or (op_notInDT hu)))).imp fun x y H Q ⟨ex, tx, ty, t, hx, r1, r2, e, k⟩ => ?_
  unfold ninT at e
  cases q : inB tx ty with
  | none => rw [q] at e; cases e
  | some c =>
    rw [q] at e
    cases e
    unfold inB at q
    split at q
    · split at q
      · rename_i ts d ds h1 h2
        split at q
        · rename_i hs
          cases q
          rw [hK]
          exact .inl ⟨d, ds, toD_rep _ _ _ r1 h1, toD_rep (.lst _) _ _ r2 (by unfold toD; rw [h2]; rfl), hs.1, hs.2, k _ _ (Grow.refl _) rfl⟩
        · cases q
      · cases q
    · split at q
      · cases q; cases r1; cases r2
        exact .inr (.inl ⟨_, _, rfl, rfl, k _ _ (Grow.refl _) rfl⟩)
      · cases q
    · split at q
      · rename_i ts d ds h1 h2
        split at q
        · rename_i hs
          cases q
          rw [hK]
          exact .inr (.inr (.inr ⟨d, ds, toD_rep _ _ _ r1 h1, toD_rep (.tup _) _ _ r2 (by unfold toD; rw [h2]; rfl), hs.1, hs.2, k _ _ (Grow.refl _) rfl⟩))
        · cases q
      · cases q
    · obtain ⟨p, xs, rfl, h1, h2⟩ := Rep.sqw r2
      obtain ⟨f1, f2, f3⟩ := inF_ok r1 h2 q
      exact .inr (.inr (.inl ⟨p, xs, rfl, .inr (by rw [hK]; exact h1), f1, f2, by simp only [Bool.false_eq_true, if_false, if_true]; rw [f3]; exact k _ _ (Grow.refl _) rfl⟩))
    · cases q
/-! ### subscripts, slices, len -/
def ixT : T → T → Option T
  | .lst ts, .int i => atI ts i
  | .tup ts, .int i => atI ts i
  | .wt ts, .int i => atI ts i
  | .str z, .int i => if z.length ≤ 1000000 then (atI z.cps.toList i).map fun c => .str ⟨#[c]⟩ else none
  | _, _ => none
theorem Reps.atI {ts : List T} {xs : List V} {i : Int} (r : Reps R ex H ts xs) (h : L2.atI ts i = some t) : ∃ x, L2.atI xs i = some x ∧ Rep R ex H t x := by
  unfold L2.atI at h ⊢
  rw [r.length]
  cases q : ixN ts.length i with
  | none => rw [q] at h; cases h
  | some j =>
    rw [q] at h
    exact r.at h
theorem o_ix (hK : X.K = R.K) : IxR X (rOp2 R ixT) := by
  refine ix_seq.imp fun x y H Q ⟨ex, tx, ty, t, hx, r1, r2, e, k⟩ => ?_
  unfold ixT at e
  split at e
  · obtain ⟨a, xs, rfl, h1, h2⟩ := r1
    cases r2
    obtain ⟨w, h3, h4⟩ := h2.atI e
    exact .inl ⟨a, xs, _, w, rfl, rfl, SqL.of h1, h3, k _ _ (Grow.refl _) h4⟩
  · obtain ⟨a, xs, rfl, h1, h2⟩ := Rep.sqt r1
    cases r2
    obtain ⟨w, h3, h4⟩ := h2.atI e
    exact .inr (.inl ⟨a, xs, _, w, rfl, rfl, by rw [hK]; exact h1, h3, k _ _ (Grow.refl _) h4⟩)
  · obtain ⟨a, xs, rfl, h1, h2⟩ := Rep.sqw r1
    cases r2
    obtain ⟨w, h3, h4⟩ := h2.atI e
    exact .inr (.inl ⟨a, xs, _, w, rfl, rfl, by rw [hK]; exact h1, h3, k _ _ (Grow.refl _) h4⟩)
  · split at e
    · rename_i z i hz
      cases r1; cases r2
      cases q : L2.atI z.cps.toList i with
      | none => rw [q] at e; cases e
      | some c =>
        rw [q] at e
        cases e
        exact .inr (.inr ⟨z, i, c, rfl, rfl, line6 hz, q, k _ _ (Grow.refl _) rfl⟩)
    · cases e
  · cases e
def cutL {α : Type} (xs : List α) (lo hi : Option Int) : List α := (xs.drop (HT.sIx xs.length 0 lo)).take (HT.sIx xs.length xs.length hi - HT.sIx xs.length 0 lo)
def sliceT : T → Option Int → Option Int → Option T
  | .lst ts, lo, hi => some (.lst (cutL ts lo hi))
  | .tup ts, lo, hi => some (.tup (cutL ts lo hi))
  | .str z, lo, hi => if z.length ≤ 1000000 then some (.str (Txt.slice z lo hi)) else none
  | _, _, _ => none
theorem Reps.take : ∀ {ts : List T} {xs : List V} (n : Nat), Reps R ex H ts xs → Reps R ex H (ts.take n) (xs.take n)
  | [], _, n, h => by cases h; simp; rfl
  | t :: ts, _, 0, h => by simp; rfl
  | t :: ts, _, n + 1, h => by obtain ⟨x, r, rfl, h1, h2⟩ := h; exact ⟨x, _, rfl, h1, Reps.take n h2⟩
theorem Reps.drop : ∀ {ts : List T} {xs : List V} (n : Nat), Reps R ex H ts xs → Reps R ex H (ts.drop n) (xs.drop n)
  | [], _, n, h => by cases h; simp; rfl
  | t :: ts, _, 0, h => h
  | t :: ts, _, n + 1, h => by obtain ⟨x, r, rfl, h1, h2⟩ := h; exact Reps.drop n h2
theorem Reps.cut {ts : List T} {xs : List V} {lo hi : Option Int} (r : Reps R ex H ts xs) : Reps R ex H (cutL ts lo hi) (cutV xs lo hi) := by
  unfold cutL cutV
  rw [r.length]
  exact (r.drop _).take _
theorem cutL_all {ts : List T} {lo hi : Option Int} (h : HT.sIx ts.length 0 lo = 0 ∧ HT.sIx ts.length ts.length hi = ts.length) : cutL ts lo hi = ts := by
  unfold cutL
  rw [h.1, h.2]
  simp
theorem o_slice (hK : X.K = R.K) : SlR X (rSl R sliceT) := by
  refine (sl_list.or (sl_tupA.or C8.sl_txt)).imp fun x lo hi H Q ⟨ex, tx, t, hx, r1, e, k⟩ => ?_
  unfold sliceT at e
  split at e
  · cases e
    obtain ⟨a, xs, rfl, h1, h2⟩ := r1
    refine .inl ⟨a, xs, rfl, SqL.of h1, fun p hp => ?_⟩
    obtain ⟨g, r⟩ := new_lst hx h2.cut p hp
    exact k _ _ g r
  · cases e
    have q1 := r1
    obtain ⟨a, xs, rfl, h1, h2⟩ := Rep.sqt r1
    refine .inr (.inl ⟨a, xs, rfl, by rw [hK]; exact h1, fun z => ?_, fun _ p hp => ?_⟩)
    · rw [h2.length] at z
      exact k _ _ (Grow.refl _) (by rw [cutL_all z]; exact q1)
    · obtain ⟨g, r⟩ := new_tup hx h2.cut p hp
      exact k _ _ g r
  · split at e
    · rename_i hz
      cases e; cases r1
      exact .inr (.inr ⟨_, rfl, line6 hz, k _ _ (Grow.refl _) rfl⟩)
    · cases e
  · cases e
def lenT : List T → Option T
  | [.lst ts] => some (.int ts.length)
  | [.tup ts] => some (.int ts.length)
  | [.wt ts] => some (.int ts.length)
  | [.str z] => if z.length ≤ 1000000 then some (.int z.length) else none
  | [.dct _ kvs] => some (.int kvs.length)
  | _ => none
theorem RepTops.one {xs : List V} (h : RepTops R ex H [t] xs) : ∃ x, xs = [x] ∧ RepTop R ex H t x := by
  obtain ⟨x, r, rfl, h1, rfl⟩ := h
  exact ⟨x, rfl, h1⟩
theorem RepTops.two {u : T} {xs : List V} (h : RepTops R ex H [t, u] xs) : ∃ x y, xs = [x, y] ∧ RepTop R ex H t x ∧ RepTop R ex H u y := by
  obtain ⟨x, r, rfl, h1, y, r2, rfl, h2, rfl⟩ := h
  exact ⟨x, y, rfl, h1, h2⟩
end
end TL

set_option maxHeartbeats 4000000
namespace TL
open PySem PySem.Spec PyProof.Rows L2

section
variable {X : Cx} {R : RC} {H H' : Hp} {x y v : V} {Q : VK} {t : T} {ex : Addr → Prop}
/-- len(d), the dict perhaps locked -/
theorem lenK_rd : CallR X (.builtin "len") (fun zs G P => ∃ d ks, zs = [V.ref d] ∧ Rd G d (.dK ks) ∧ P (.int ks.length) G) := fun pins s σ G zs us P I r ⟨d, ks, e, rd, p⟩ => by
  subst e
  obtain ⟨w, rfl, rw⟩ := vals1 r
  obtain rfl : w = Value.ref d := rw
  exact d_len I rd fun tt s2 I2 => ⟨.int ks.length, G, I2, ⟨tt, rfl⟩, p⟩
theorem lenT_rd : CallR X (.builtin "len") (fun zs G P => ∃ d ks, zs = [V.ref d] ∧ Rd G d (.dT ks) ∧ P (.int ks.length) G) := fun pins s σ G zs us P I r ⟨d, ks, e, rd, p⟩ => by
  subst e
  obtain ⟨w, rfl, rw⟩ := vals1 r
  obtain rfl : w = Value.ref d := rw
  obtain ⟨z1, z2, ls, z3, z4⟩ := dt_rd I.hok rd
  have z5 : ks.length = ls.length := Paired.length z3
  refine call_len_dictH z2 z4 (by rw [← z5]; rw [sizeLine_eq] at z1; omega) ?_
  rw [← z5]
  exact ⟨.int ks.length, G, I.tok _, ⟨_, rfl⟩, p⟩
theorem c_len (hK : X.K = R.K) : CallR X (.builtin "len") (rOpN R lenT) := by
  refine (call_len.or (lenK_rd.or lenT_rd)).imp fun xs H Q ⟨ex, ts, t, hx, r1, e, k⟩ => ?_
  unfold lenT at e
  split at e
  · cases e
    obtain ⟨x, rfl, a, ys, rfl, h1, h2⟩ := r1.one
    refine .inl ⟨_, _, rfl, .inl ⟨ys, SqL.of h1, rfl⟩, ?_⟩
    rw [h2.length]
    exact k _ _ (Grow.refl _) rfl
  · cases e
    obtain ⟨x, rfl, r⟩ := r1.one
    obtain ⟨a, ys, rfl, h1, h2⟩ := Rep.sqt r
    refine .inl ⟨_, _, rfl, .inr ⟨ys, by rw [hK]; exact h1, rfl⟩, ?_⟩
    rw [h2.length]
    exact k _ _ (Grow.refl _) rfl
  · cases e
    obtain ⟨x, rfl, r⟩ := r1.one
    obtain ⟨a, ys, rfl, h1, h2⟩ := Rep.sqw r
    refine .inl ⟨_, _, rfl, .inr ⟨ys, by rw [hK]; exact h1, rfl⟩, ?_⟩
    rw [h2.length]
    exact k _ _ (Grow.refl _) rfl
  · split at e
    · rename_i z hz
      cases e
      obtain ⟨x, rfl, r⟩ := r1.one
      cases r
      exact .inl ⟨_, _, rfl, ⟨line6 hz, rfl⟩, k _ _ (Grow.refl _) rfl⟩
    · cases e
  · cases e
    obtain ⟨x, rfl, a, rfl, r⟩ := r1.one
    rename_i kvs
    rcases r with ⟨_, ks, h1, h2⟩ | ⟨_, ks, h1, h2⟩
    · refine .inr (.inl ⟨a, ks, rfl, h1, ?_⟩)
      have : ∀ {kvs : List (T × T)} {ks : List (Key × V)}, RepK R ex H kvs ks → ks.length = kvs.length := by
        intro kvs
        induction kvs with
        | nil => intro ks h; cases h; rfl
        | cons p kvs ih => intro ks h; obtain ⟨k, t⟩ := p; obtain ⟨_, _, r, rfl, _, _, h⟩ := h; simp [ih h]
      rw [this h2]
      exact k _ _ (Grow.refl _) rfl
    · refine .inr (.inr ⟨a, ks, rfl, h1, ?_⟩)
      have : ∀ {kvs : List (T × T)} {ks : List (List Key × V)}, RepTK R ex H kvs ks → ks.length = kvs.length := by
        intro kvs
        induction kvs with
        | nil => intro ks h; cases h; rfl
        | cons p kvs ih => intro ks h; obtain ⟨k, t⟩ := p; obtain ⟨_, _, r, rfl, _, _, h⟩ := h; simp [ih h]
      rw [this h2]
      exact k _ _ (Grow.refl _) rfl
  · cases e
def absT : List T → Option T
  | [.int i] => some (.int (if i < 0 then -i else i))
  | _ => none
theorem c_abs : CallR X (.builtin "abs") (rOpN R absT) := by
  refine call_abs.imp fun xs H Q ⟨ex, ts, t, hx, r1, e, k⟩ => ?_
  unfold absT at e
  split at e
  · cases e
    obtain ⟨x, rfl, r⟩ := r1.one
    cases r
    exact ⟨_, rfl, k _ _ (Grow.refl _) rfl⟩
  · cases e
/-! ### the first of the least, of the greatest -/
open PySem.W in
theorem min_ix {prog : Program} {w : World} {A : Around} {E : Value → Shared → Prop} {s : Shared} {l : Addr} {vs : Array Value} {d : PyData} {ds : List PyData} {as : List Addr} {Q : Value → Shared → Prop} (hh : A.handled = none) (hl : s.heap.IsList l vs ∨ s.heap.IsTuple l vs) (hr : ReadsAll s.heap vs.toList (d :: ds) as) (ha : PySem.W.AlikeAll (d :: ds)) (hu : A.units + 1 + PyData.depthAll (d :: ds) < cLine)
    (h : ∀ v h' tk, vs[argBest (fun i j => dataLt ((d :: ds).getD i .none) ((d :: ds).getD j .none)) ds.length]? = some v → (∀ b o, s.heap.get? b = some o → h'.get? b = some o) → Q v { s with heap := h', toks := tk }) :
    wpAny (model prog w) A (call (.builtin "min") [.ref l]) Q E s := by
  have hn : vs.size = ds.length + 1 := readsAll_len hr
  have e1 : vs.size - 1 = ds.length := by omega
  rcases hl with hl | hl
  · refine call_min_walkH (iter_listW (A := A.in1) hh hl fun s₂ e W st hfp hw hk => ?_)
    refine ⟨_, _, _, _, _, _, _, s.heap, _, rfl, W, st, hfp, by omega, hw, hk, cmpIn_lt (A := A.in1) hr ha (by show A.units + 1 + _ < _; exact hu), fun v s' hP m => ?_⟩
    obtain ⟨h', tk, rfl, hk'⟩ := moved_old e rfl m
    rw [e1] at hP
    exact h v h' tk hP hk'
  · refine call_min_walkH (iter_tupleW (A := A.in1) hh hl fun s₂ e W st hfp hw hk => ?_)
    refine ⟨_, _, _, _, _, _, _, s.heap, _, rfl, W, st, hfp, by omega, hw, hk, cmpIn_lt (A := A.in1) hr ha (by show A.units + 1 + _ < _; exact hu), fun v s' hP m => ?_⟩
    obtain ⟨h', tk, rfl, hk'⟩ := moved_old e rfl m
    rw [e1] at hP
    exact h v h' tk hP hk'
open PySem.W in
theorem max_ix {prog : Program} {w : World} {A : Around} {E : Value → Shared → Prop} {s : Shared} {l : Addr} {vs : Array Value} {d : PyData} {ds : List PyData} {as : List Addr} {Q : Value → Shared → Prop} (hh : A.handled = none) (hl : s.heap.IsList l vs ∨ s.heap.IsTuple l vs) (hr : ReadsAll s.heap vs.toList (d :: ds) as) (ha : PySem.W.AlikeAll (d :: ds)) (hu : A.units + 1 + PyData.depthAll (d :: ds) < cLine)
    (h : ∀ v h' tk, vs[argBest (fun i j => dataLt ((d :: ds).getD j .none) ((d :: ds).getD i .none)) ds.length]? = some v → (∀ b o, s.heap.get? b = some o → h'.get? b = some o) → Q v { s with heap := h', toks := tk }) :
    wpAny (model prog w) A (call (.builtin "max") [.ref l]) Q E s := by
  have hn : vs.size = ds.length + 1 := readsAll_len hr
  have e1 : vs.size - 1 = ds.length := by omega
  rcases hl with hl | hl
  · refine call_max_walkH (iter_listW (A := A.in1) hh hl fun s₂ e W st hfp hw hk => ?_)
    refine ⟨_, _, _, _, _, _, _, s.heap, _, rfl, W, st, hfp, by omega, hw, hk, cmpIn_gt (A := A.in1) hr ha (by show A.units + 1 + _ < _; exact hu), fun v s' hP m => ?_⟩
    obtain ⟨h', tk, rfl, hk'⟩ := moved_old e rfl m
    rw [e1] at hP
    exact h v h' tk hP hk'
  · refine call_max_walkH (iter_tupleW (A := A.in1) hh hl fun s₂ e W st hfp hw hk => ?_)
    refine ⟨_, _, _, _, _, _, _, s.heap, _, rfl, W, st, hfp, by omega, hw, hk, cmpIn_gt (A := A.in1) hr ha (by show A.units + 1 + _ < _; exact hu), fun v s' hP m => ?_⟩
    obtain ⟨h', tk, rfl, hk'⟩ := moved_old e rfl m
    rw [e1] at hP
    exact h v h' tk hP hk'
def alikeB (ds : List PyData) : Bool := (ds.all fun x => ds.all fun y => PySem.W.alike x y) && (ds.all fun x => match x with | .none => false | _ => true) && decide (PyData.depthAll ds ≤ 60)
theorem alikeB_ok {ds : List PyData} (h : alikeB ds = true) : PySem.W.AlikeAll ds ∧ PyData.depthAll ds ≤ 60 := by
  simp only [alikeB, Bool.and_eq_true, List.all_eq_true, decide_eq_true_eq] at h
  refine ⟨⟨h.1.1, fun x hx e => ?_⟩, h.2⟩
  have := h.1.2 x hx
  rw [e] at this
  cases this
def bestT (f : PyData → PyData → Bool) (ts : List T) : Option T := match toDs ts with
  | some (d :: ds) => if alikeB (d :: ds) = true then ts[argBest (fun i j => f ((d :: ds).getD i .none) ((d :: ds).getD j .none)) ds.length]? else none
  | _ => none
def rBest (K : PySem.W.Frag) (f : PyData → PyData → Bool) : List V → Hp → VK → Prop := fun vs H Q => ∃ (a : Addr) (xs : List V) (d : PyData) (ds : List PyData) (v : V), vs = [.ref a] ∧ (SqL K H a xs ∨ SqT K H a xs) ∧ DpAll K H xs (d :: ds) ∧ alikeB (d :: ds) = true ∧
  xs[argBest (fun i j => f ((d :: ds).getD i .none) ((d :: ds).getD j .none)) ds.length]? = some v ∧ Q v H
theorem cr_minB (hc : X.calm = true) (hu : X.A.units + 64 < cLine) : CallR X (.builtin "min") (rBest X.K PySem.W.dataLt) := by
  intro pins s σ H vs us Q I r h
  obtain ⟨a, xs, d, ds, v, rfl, hs, hd, ha, hv, q⟩ := h
  obtain ⟨hal, hdep⟩ := alikeB_ok ha
  rw [Vals.ref1 r]
  have go : ∀ {its : List Value}, Vals xs its → (s.heap.IsList a its.toArray ∨ s.heap.IsTuple a its.toArray) → wpAny (model X.prog X.w) X.A (call (.builtin "min") [.ref a]) (EP X pins σ Q) X.xe s := by
    intro its rv hl
    obtain ⟨as, hr⟩ := Dp.readsAll I (d :: ds) xs its hd rv
    refine min_ix (I.ok.hd hc) hl hr hal (by omega) fun u h' tk hu' hk => ?_
    obtain ⟨u2, e2, r2⟩ := rv.get hv
    rw [List.getElem?_toArray, e2] at hu'
    cases hu'
    exact ⟨v, H, I.kept hk, r2, q⟩
  rcases hs with hs | hs
  · obtain ⟨its, rv, hl, _⟩ := I.list hs
    exact go rv (.inl hl.isList)
  · obtain ⟨its, rv, ⟨o, h1, h2, n, h3⟩, _⟩ := I.tuple hs
    exact go rv (.inr ⟨o, h1, h2, n, h3⟩)
theorem cr_maxB (hc : X.calm = true) (hu : X.A.units + 64 < cLine) : CallR X (.builtin "max") (rBest X.K fun x y => PySem.W.dataLt y x) := by
  intro pins s σ H vs us Q I r h
  obtain ⟨a, xs, d, ds, v, rfl, hs, hd, ha, hv, q⟩ := h
  obtain ⟨hal, hdep⟩ := alikeB_ok ha
  rw [Vals.ref1 r]
  have go : ∀ {its : List Value}, Vals xs its → (s.heap.IsList a its.toArray ∨ s.heap.IsTuple a its.toArray) → wpAny (model X.prog X.w) X.A (call (.builtin "max") [.ref a]) (EP X pins σ Q) X.xe s := by
    intro its rv hl
    obtain ⟨as, hr⟩ := Dp.readsAll I (d :: ds) xs its hd rv
    refine max_ix (I.ok.hd hc) hl hr hal (by omega) fun u h' tk hu' hk => ?_
    obtain ⟨u2, e2, r2⟩ := rv.get hv
    rw [List.getElem?_toArray, e2] at hu'
    cases hu'
    exact ⟨v, H, I.kept hk, r2, q⟩
  rcases hs with hs | hs
  · obtain ⟨its, rv, hl, _⟩ := I.list hs
    exact go rv (.inl hl.isList)
  · obtain ⟨its, rv, ⟨o, h1, h2, n, h3⟩, _⟩ := I.tuple hs
    exact go rv (.inr ⟨o, h1, h2, n, h3⟩)
theorem best_ok {f : PyData → PyData → Bool} {ts : List T} {xs : List V} (r : Reps R ex H ts xs) (e : bestT f ts = some t) : ∃ d ds v, DpAll R.K H xs (d :: ds) ∧ alikeB (d :: ds) = true ∧ xs[argBest (fun i j => f ((d :: ds).getD i .none) ((d :: ds).getD j .none)) ds.length]? = some v ∧ Rep R ex H t v := by
  unfold bestT at e
  split at e
  · rename_i d ds h
    split at e
    · rename_i ha
      obtain ⟨v, h1, h2⟩ := r.at e
      exact ⟨d, ds, v, toDs_rep _ _ _ r h, ha, h1, h2⟩
    · cases e
  · cases e
def minT : List T → Option T
  | [.int i, .int j] => some (.int (if j < i then j else i))
  | [.lst ts] => bestT PySem.W.dataLt ts
  | [.tup ts] => bestT PySem.W.dataLt ts
  | _ => none
def maxT : List T → Option T
  | [.int i, .int j] => some (.int (if j > i then j else i))
  | [.lst ts] => bestT (fun x y => PySem.W.dataLt y x) ts
  | [.tup ts] => bestT (fun x y => PySem.W.dataLt y x) ts
  | _ => none
theorem c_min (hK : X.K = R.K) (hc : X.calm = true) (hu : X.A.units + 64 < cLine) : CallR X (.builtin "min") (rOpN R minT) := by
  refine ((call_min2 hc).or (cr_minB hc hu)).imp fun xs H Q ⟨ex, ts, t, hx, r1, e, k⟩ => ?_
  unfold minT at e
  split at e
  · cases e
    obtain ⟨x, y, rfl, r, r2⟩ := r1.two
    cases r; cases r2
    exact .inl ⟨_, _, rfl, k _ _ (Grow.refl _) rfl⟩
  · obtain ⟨x, rfl, a, ys, rfl, h1, h2⟩ := r1.one
    obtain ⟨d, ds, v, h3, h4, h5, h6⟩ := best_ok h2 e
    rw [hK]
    exact .inr ⟨a, ys, d, ds, v, rfl, .inl (SqL.of h1), h3, h4, h5, k _ _ (Grow.refl _) h6⟩
  · obtain ⟨x, rfl, r⟩ := r1.one
    obtain ⟨a, ys, rfl, h1, h2⟩ := Rep.sqt r
    obtain ⟨d, ds, v, h3, h4, h5, h6⟩ := best_ok h2 e
    rw [hK]
    exact .inr ⟨a, ys, d, ds, v, rfl, .inr h1, h3, h4, h5, k _ _ (Grow.refl _) h6⟩
  · cases e
theorem c_max (hK : X.K = R.K) (hc : X.calm = true) (hu : X.A.units + 64 < cLine) : CallR X (.builtin "max") (rOpN R maxT) := by
  refine ((call_max2 hc).or (cr_maxB hc hu)).imp fun xs H Q ⟨ex, ts, t, hx, r1, e, k⟩ => ?_
  unfold maxT at e
  split at e
  · cases e
    obtain ⟨x, y, rfl, r, r2⟩ := r1.two
    cases r; cases r2
    exact .inl ⟨_, _, rfl, k _ _ (Grow.refl _) rfl⟩
  · obtain ⟨x, rfl, a, ys, rfl, h1, h2⟩ := r1.one
    obtain ⟨d, ds, v, h3, h4, h5, h6⟩ := best_ok h2 e
    rw [hK]
    exact .inr ⟨a, ys, d, ds, v, rfl, .inl (SqL.of h1), h3, h4, h5, k _ _ (Grow.refl _) h6⟩
  · obtain ⟨x, rfl, r⟩ := r1.one
    obtain ⟨a, ys, rfl, h1, h2⟩ := Rep.sqt r
    obtain ⟨d, ds, v, h3, h4, h5, h6⟩ := best_ok h2 e
    rw [hK]
    exact .inr ⟨a, ys, d, ds, v, rfl, .inr h1, h3, h4, h5, k _ _ (Grow.refl _) h6⟩
  · cases e
/-! ### sum, tuple, list, int, str, dict -/
def toInts : List T → Option (List Int)
  | [] => some []
  | .int i :: ts => (toInts ts).map (i :: ·)
  | _ :: _ => none
theorem toInts_rep : ∀ {ts : List T} {xs : List V} {ns : List Int}, Reps R ex H ts xs → toInts ts = some ns → xs = ns.map V.int
  | [], _, _, r, e => by cases r; cases e; rfl
  | t :: ts, _, _, r, e => by
    obtain ⟨x, rr, rfl, h1, h2⟩ := r
    cases t with
    | int i =>
      unfold toInts at e
      cases q : toInts ts with
      | none => rw [q] at e; cases e
      | some ns => rw [q] at e; cases e; cases h1; rw [toInts_rep h2 q]; rfl
    | _ => cases e
def sumT : List T → Option T
  | [.lst ts] => (toInts ts).map fun ns => .int ns.sum
  | _ => none
theorem c_sum (hK : X.K = R.K) (hc : X.calm = true) : CallR X (.builtin "sum") (rOpN R sumT) := by
  refine (cr_sum hc).imp fun xs H Q ⟨ex, ts, t, hx, r1, e, k⟩ => ?_
  unfold sumT at e
  split at e
  · rename_i ts
    obtain ⟨x, rfl, a, ys, rfl, h1, h2⟩ := r1.one
    cases q : toInts ts with
    | none => rw [q] at e; cases e
    | some ns =>
      rw [q] at e
      cases e
      rw [toInts_rep h2 q] at h1
      exact ⟨a, ns, rfl, SqL.of h1, k _ _ (Grow.refl _) rfl⟩
  · cases e
def tupleT : List T → Option T
  | [.lst ts] => some (.tup ts)
  | [.tup ts] => some (.tup ts)
  | _ => none
theorem c_tuple (hK : X.K = R.K) : CallR X (.type "tuple") (rOpN R tupleT) := by
  refine call_tuple_of.imp fun xs H Q ⟨ex, ts, t, hx, r1, e, k⟩ => ?_
  unfold tupleT at e
  split at e
  · cases e
    obtain ⟨x, rfl, a, ys, rfl, h1, h2⟩ := r1.one
    refine ⟨a, ys, rfl, .inl ⟨SqL.of h1, fun p hp => ?_⟩⟩
    obtain ⟨g, r⟩ := new_tup hx h2 p hp
    exact k _ _ g r
  · cases e
    obtain ⟨x, rfl, r⟩ := r1.one
    have q1 := r
    obtain ⟨a, ys, rfl, h1, h2⟩ := Rep.sqt r
    exact ⟨a, ys, rfl, .inr ⟨by rw [hK]; exact h1, k _ _ (Grow.refl _) q1⟩⟩
  · cases e
def listT : List T → Option T
  | [.lst ts] => some (.lst ts)
  | [.tup ts] => some (.lst ts)
  | [.wt ts] => some (.lst ts)
  | _ => none
theorem c_list (hK : X.K = R.K) : CallR X (.type "list") (rOpN R listT) := by
  refine call_list_of.imp fun xs H Q ⟨ex, ts, t, hx, r1, e, k⟩ => ?_
  unfold listT at e
  split at e
  · cases e
    obtain ⟨x, rfl, a, ys, rfl, h1, h2⟩ := r1.one
    refine ⟨a, ys, rfl, .inl (SqL.of h1), fun p hp => ?_⟩
    obtain ⟨g, r⟩ := new_lst hx h2 p hp
    exact k _ _ g r
  · cases e
    obtain ⟨x, rfl, r⟩ := r1.one
    obtain ⟨a, ys, rfl, h1, h2⟩ := Rep.sqt r
    refine ⟨a, ys, rfl, .inr (by rw [hK]; exact h1), fun p hp => ?_⟩
    obtain ⟨g, r⟩ := new_lst hx h2 p hp
    exact k _ _ g r
  · cases e
    obtain ⟨x, rfl, r⟩ := r1.one
    obtain ⟨a, ys, rfl, h1, h2⟩ := Rep.sqw r
    refine ⟨a, ys, rfl, .inr (by rw [hK]; exact h1), fun p hp => ?_⟩
    obtain ⟨g, r⟩ := new_lst hx h2 p hp
    exact k _ _ g r
  · cases e
def intT : List T → Option T
  | [.int i] => some (.int i)
  | [.bl b] => some (.int (if b then 1 else 0))
  | [.str a] => if a.length ≤ 640 then (PySem.intText? a).map .int else none
  | _ => none
theorem c_int : CallR X (.type "int") (rOpN R intT) := by
  refine (call_int1.or call_int_str).imp fun xs H Q ⟨ex, ts, t, hx, r1, e, k⟩ => ?_
  unfold intT at e
  split at e
  · cases e
    obtain ⟨x, rfl, r⟩ := r1.one
    cases r
    exact .inl (.inl ⟨_, rfl, k _ _ (Grow.refl _) rfl⟩)
  · cases e
    obtain ⟨x, rfl, r⟩ := r1.one
    cases r
    exact .inl (.inr ⟨_, rfl, k _ _ (Grow.refl _) rfl⟩)
  · split at e
    · rename_i a hl
      obtain ⟨x, rfl, r⟩ := r1.one
      cases r
      cases q : PySem.intText? a with
      | none => rw [q] at e; cases e
      | some n => rw [q] at e; cases e; exact .inr ⟨a, n, rfl, q, hl, k _ _ (Grow.refl _) rfl⟩
    · cases e
  · cases e
def strT : List T → Option T
  | [.int i] => if i.natAbs.log2 < 1920 then some (.str (toString i)) else none
  | _ => none
theorem c_str : CallR X (.type "str") (rOpN R strT) := by
  refine call_str_int.imp fun xs H Q ⟨ex, ts, t, hx, r1, e, k⟩ => ?_
  unfold strT at e
  split at e
  · split at e
    · rename_i i hl
      cases e
      obtain ⟨x, rfl, r⟩ := r1.one
      cases r
      exact ⟨i, rfl, hl, k _ _ (Grow.refl _) rfl⟩
    · cases e
  · cases e
end
end TL

set_option maxHeartbeats 4000000
namespace TL
open PySem PySem.Spec PyProof.Rows L2

/-! ### any, all over a generator: the loop -/
section
variable {P : Program} {w : World} {A : Around} {Rr : Result → Shared → Prop}
/-- an item: a truth value; st stops the loop -/
def YB (st : Bool) (Rr : Result → Shared → Prop) (a : Addr) (g : Nat) : Protocol := fun n s₀ v s₁ kap =>
  ∃ b, v = .bool b ∧ s₁.heap.IsGen a g ∧ s₁.heap.NoLimit ∧ g < s₁.gens.size ∧ (b = st → ∀ gs' : GenState, gs'.bare = true → Rr (.ok (.ret (.bool st))) (s₁.setGen g gs')) ∧
    (b ≠ st → ∀ gs' : GenState, gs'.bare = true → kap (.send .none) ((s₁.setGen g gs').setGen g .running))
def FB (st : Bool) (Rr : Result → Shared → Prop) (g : Nat) : Nat → Shared → Shared → Prop := fun _ _ s₁ => ∀ h' : Heap, (∀ b o, s₁.heap.get? b = some o → h'.get? b = some o) → Rr (.ok (.ret (.bool (!st)))) { s₁.setGen g .finished with heap := h' }
def RB (st : Bool) (Rr : Result → Shared → Prop) (g : Nat) : GenEnd := fun n s₀ r s₁ => ((r = .ok (.ret .none) ∨ r = .ok .next) ∧ FB st Rr g n s₀ s₁) ∨ ∃ e, r = .error e ∧ (fun _ _ => False : Value → Shared → Prop) e s₁
theorem any_drain {a : Addr} {g : Nat} (hh : A.handled = none) (hd : A.depth < recursionLimit) :
    ∀ (m : Nat) (s : Shared), s.heap.IsGen a g → s.heap.NoLimit →
      (∃ gs, s.gens[g]? = some gs ∧ gs.Goes (model P w) A.in1.in1 (RB true Rr g) (YB true Rr a g) m (.send .none) (s.setGen g .running)) → codeAny (model P w) A (.builtin "any.loop" ⟨[.ref a], []⟩) Rr s := by
  intro m
  induction m with
  | zero =>
    intro s hg hl ⟨gs, hgs, hgo⟩
    refine codeAny_builtin F.entry_any_loop ?_
    rw [Around.under_plainId F.plain_any_loop _]
    show wpAny _ A.in1 (pyNext (.ref a) >>= _) _ _ s
    refine wpAny_bind (next_genG (A := A.in1) (F := FB true Rr g) (Er := fun _ _ => False) hh hl hd hg hgs hgo (fun v s₁ gs' hb hv => ?_) (fun s₁ hp h' hk => ?_) (fun e s₁ he => he.elim))
    · obtain ⟨b, rfl, h1, h2, h3, h4, h5⟩ := hv
      refine wpAny_bind (wpAny_holding (wpAny_truthy_bool ?_))
      refine wpAny_bind (wpAny_letGo ?_)
      cases b with
      | false => exact (h5 Bool.false_ne_true gs' hb).elim
      | true =>
        simp only [if_true]
        exact wpAny_bind (wpAny_rule (wpAny_pure (h4 rfl gs' hb)))
    · exact wpAny_bind (wpAny_rule (wpAny_pure (hp h' hk)))
  | succ m ih =>
    intro s hg hl ⟨gs, hgs, hgo⟩
    refine codeAny_builtin F.entry_any_loop ?_
    rw [Around.under_plainId F.plain_any_loop _]
    show wpAny _ A.in1 (pyNext (.ref a) >>= _) _ _ s
    refine wpAny_bind (next_genG (A := A.in1) (F := FB true Rr g) (Er := fun _ _ => False) hh hl hd hg hgs hgo (fun v s₁ gs' hb hv => ?_) (fun s₁ hp h' hk => ?_) (fun e s₁ he => he.elim))
    · obtain ⟨b, rfl, h1, h2, h3, h4, h5⟩ := hv
      refine wpAny_bind (wpAny_holding (wpAny_truthy_bool ?_))
      refine wpAny_bind (wpAny_letGo ?_)
      cases b with
      | false =>
        simp only [Bool.false_eq_true, if_false]
        exact wpAny_pure ⟨plainId_quiet F.plain_any_loop _, ih _ h1 h2 ⟨gs', setGen_at h3, h5 Bool.false_ne_true gs' hb⟩⟩
      | true =>
        simp only [if_true]
        exact wpAny_bind (wpAny_rule (wpAny_pure (h4 rfl gs' hb)))
    · exact wpAny_bind (wpAny_rule (wpAny_pure (hp h' hk)))
theorem all_drain {a : Addr} {g : Nat} (hh : A.handled = none) (hd : A.depth < recursionLimit) :
    ∀ (m : Nat) (s : Shared), s.heap.IsGen a g → s.heap.NoLimit →
      (∃ gs, s.gens[g]? = some gs ∧ gs.Goes (model P w) A.in1.in1 (RB false Rr g) (YB false Rr a g) m (.send .none) (s.setGen g .running)) → codeAny (model P w) A (.builtin "all.loop" ⟨[.ref a], []⟩) Rr s := by
  intro m
  induction m with
  | zero =>
    intro s hg hl ⟨gs, hgs, hgo⟩
    refine codeAny_builtin F.entry_all_loop ?_
    rw [Around.under_plainId F.plain_all_loop _]
    show wpAny _ A.in1 (pyNext (.ref a) >>= _) _ _ s
    refine wpAny_bind (next_genG (A := A.in1) (F := FB false Rr g) (Er := fun _ _ => False) hh hl hd hg hgs hgo (fun v s₁ gs' hb hv => ?_) (fun s₁ hp h' hk => ?_) (fun e s₁ he => he.elim))
    · obtain ⟨b, rfl, h1, h2, h3, h4, h5⟩ := hv
      refine wpAny_bind (wpAny_holding (wpAny_truthy_bool ?_))
      refine wpAny_bind (wpAny_letGo ?_)
      cases b with
      | true => exact (h5 (fun z => by cases z) gs' hb).elim
      | false =>
        simp only [Bool.false_eq_true, if_false]
        exact wpAny_bind (wpAny_rule (wpAny_pure (h4 rfl gs' hb)))
    · exact wpAny_bind (wpAny_rule (wpAny_pure (hp h' hk)))
  | succ m ih =>
    intro s hg hl ⟨gs, hgs, hgo⟩
    refine codeAny_builtin F.entry_all_loop ?_
    rw [Around.under_plainId F.plain_all_loop _]
    show wpAny _ A.in1 (pyNext (.ref a) >>= _) _ _ s
    refine wpAny_bind (next_genG (A := A.in1) (F := FB false Rr g) (Er := fun _ _ => False) hh hl hd hg hgs hgo (fun v s₁ gs' hb hv => ?_) (fun s₁ hp h' hk => ?_) (fun e s₁ he => he.elim))
    · obtain ⟨b, rfl, h1, h2, h3, h4, h5⟩ := hv
      refine wpAny_bind (wpAny_holding (wpAny_truthy_bool ?_))
      refine wpAny_bind (wpAny_letGo ?_)
      cases b with
      | true =>
        simp only [if_true]
        exact wpAny_pure ⟨plainId_quiet F.plain_all_loop _, ih _ h1 h2 ⟨gs', setGen_at h3, h5 (fun z => by cases z) gs' hb⟩⟩
      | false =>
        simp only [Bool.false_eq_true, if_false]
        exact wpAny_bind (wpAny_rule (wpAny_pure (h4 rfl gs' hb)))
    · exact wpAny_bind (wpAny_rule (wpAny_pure (hp h' hk)))
end
end TL

set_option maxHeartbeats 4000000
namespace TL
open PySem PySem.Spec PyProof.Rows L2

/-- the context of a generator expression's frame -/
abbrev gCx (X : Cx) (A : Around) (s : Shared) (H : Hp) (cenv : PySem.Env) (fp : List Addr) (pn : List (Addr × Obj)) : Cx :=
  { X with A := A, s_0 := s, H_0 := H, env := cenv, outer := X.stack, stack := cenv :: X.stack, ex := fp, fn := fun _ => false, pn := pn, xe := fun _ _ => False }
/-- its names: its own, or captured -/
structure GenOk (N : List Str) (sc scope : Scope) (own : List (Str × Nat)) : Prop where
  kind : scope.kind = .function
  co : scope.isCoroutine = false
  cell : ∀ y ∈ scope.names, y.2 ≠ .cell
  dot : scope.names.lookup (".0" : Str) = some NameKind.local
  dotN : (".0" : Str) ∉ N
  uniq : ∀ y ∈ scope.names, scope.names.lookup y.1 = some y.2
  ix : ∀ p ∈ own, N[p.2]? = some p.1
  free : ∀ y ∈ scope.names, y.2 = .free → sc.names.lookup y.1 = some .cell ∨ sc.names.lookup y.1 = some .free
  own : ∀ y ∈ scope.names, y.2 = .local → y.1 ∈ own.map (·.1) ∨ y.1 ∉ N
def genC (N : List Str) (sc scope : Scope) (own : List (Str × Nat)) : Bool :=
  (match scope.kind with | .function => true | _ => false) && !scope.isCoroutine && (scope.names.all fun y => match y.2 with | .cell => false | _ => true) && decide (scope.names.lookup (".0" : Str) = some NameKind.local) && decide ((".0" : Str) ∉ N) &&
    (scope.names.all fun y => decide (scope.names.lookup y.1 = some y.2)) && (own.all fun p => decide (N[p.2]? = some p.1)) &&
    (scope.names.all fun y => match y.2 with
      | .free => (match sc.names.lookup y.1 with | some .cell => true | some .free => true | _ => false)
      | .local => decide (y.1 ∈ own.map (·.1)) || decide (y.1 ∉ N)
      | _ => true)
theorem genOk_by {N : List Str} {sc scope : Scope} {own : List (Str × Nat)} (h : genC N sc scope own = true) : GenOk N sc scope own := by
  unfold genC at h
  simp only [Bool.and_eq_true, List.all_eq_true, decide_eq_true_eq, Bool.not_eq_true'] at h
  obtain ⟨⟨⟨⟨⟨⟨⟨h1, h2⟩, h3⟩, h4⟩, h5⟩, h6⟩, h7⟩, h8⟩ := h
  refine ⟨?_, h2, fun y hy e => ?_, h4, h5, h6, h7, fun y hy e => ?_, fun y hy e => ?_⟩
  · split at h1
    · assumption
    · cases h1
  · have := h3 y hy
    rw [e] at this
    cases this
  · have := h8 y hy
    rw [e] at this
    simp only at this
    split at this
    · exact .inl (by assumption)
    · exact .inr (by assumption)
    · cases this
  · have := h8 y hy
    rw [e] at this
    simp only [Bool.or_eq_true, decide_eq_true_eq] at this
    exact this
section
variable {X : Cx} {pins : List (Addr × Obj)} {σ : L2.St} {H : Hp} {s : Shared}
/-- the frame is made, the generator's object behind it -/
theorem gen_start {scope : Scope} {own : List (Str × Nat)} {fp : List Addr} {A : Around} {code : Value} {bi : Addr} {h' : Heap} {m : Str → Option Value} {og : Obj} {gs : Array GenState} {tk : Nat} (I : Inv X pins σ H s) (ok : GenOk X.N X.env.scope scope own) (hN : X.N.Nodup) (hfp : ∀ b ∈ fp, FpOk X pins H b ∧ b < s.heap.objs.size)
    (hA : A.handled = none) (hF : A.frames = some (genEnv scope (cloFrom X.env.cells scope.names []) s.heap.objs.size code bi X.env :: X.stack)) (hbi : bi = builtinsNs) (hn : h'.Ns s.heap.objs.size m) (hs : Heap.SameBut s.heap.objs.size (s.heap.push { cls := .type "frame", data := .dict #[] }) h')
    (hofr : og.isFreed = false) (hog : ∀ v, og.data ≠ .cell v) (hg : AllBare gs) :
    Inv (gCx X A s H (genEnv scope (cloFrom X.env.cells scope.names []) s.heap.objs.size code bi X.env) fp [(h'.objs.size, og)]) [] (L2.wipe σ (own.map (·.2))) H { s with heap := h'.push og, gens := gs, toks := tk } := by
  have hfree : ∀ y ∈ scope.names, y.2 = .free → ∃ c, X.env.cells.lookup y.1 = some c := fun y hy e => by
    rcases ok.free y hy e with k | k
    · exact I.ok.has _ (.inl k)
    · exact I.ok.has _ (.inr k)
  generalize hcenv : genEnv scope (cloFrom X.env.cells scope.names []) s.heap.objs.size code bi X.env = cenv at hF ⊢
  have hsz : h'.objs.size = s.heap.objs.size + 1 := by rw [hs.1, Heap.size_push]
  have kp' : ∀ b o, s.heap.get? b = some o → h'.get? b = some o := fun b o e => hs.extBut b o (Nat.ne_of_lt (Heap.lt_size e)) (Heap.get?_push_of_some _ e)
  have kp : ∀ b o, s.heap.get? b = some o → (h'.push og).get? b = some o := fun b o e => Heap.get?_push_of_some _ (kp' b o e)
  have hL : cenv.locals = s.heap.objs.size := by rw [← hcenv]; rfl
  have hcl : cenv.cells = cloFrom X.env.cells scope.names [] := by rw [← hcenv]; rfl
  have hsc : cenv.scope = scope := by rw [← hcenv]; rfl
  have cm : ∀ {y c}, (y, c) ∈ cloFrom X.env.cells scope.names [] → X.env.cells.lookup y = some c ∧ c < s.heap.objs.size := fun {y c} hm => by
    rcases cloFrom_mem hm with hm | ⟨h1, rfl⟩
    · cases hm
    · obtain ⟨c, hc⟩ := hfree _ h1 rfl
      rw [hc]
      obtain ⟨w, z⟩ := I.cell _ _ hc
      exact ⟨rfl, z.lt⟩
  have mem : ∀ {y c}, cenv.cells.lookup y = some c → X.env.cells.lookup y = some c ∧ c < s.heap.objs.size := fun {y c} e => by
    rw [hcl] at e
    exact cm (PySem.mem_of_lookup e)
  have look : ∀ {y}, scope.names.lookup y = some .free → ∃ c, cenv.cells.lookup y = some c ∧ X.env.cells.lookup y = some c := fun {y} hl => by
    have hy : (y, NameKind.free) ∈ scope.names := PySem.mem_of_lookup hl
    obtain ⟨c', e'⟩ := mem_lookup (cloFrom_has (cells := X.env.cells) (acc := []) hy)
    rw [← hcl] at e'
    exact ⟨c', e', (mem e').1⟩
  have kind_of : ∀ y k, cenv.kindOf y = some k → scope.names.lookup y = some k := fun y k h => by
    unfold Env.kindOf at h
    rw [hsc] at h
    exact h
  have okB : (gCx X A s H cenv fp [(h'.objs.size, og)]).Ok := by
    refine ⟨I.ok.mod, by show cenv.scope.kind = _; rw [hsc]; exact ok.kind, by show cenv.globals = _; rw [← hcenv]; exact I.ok.glob, by show cenv.builtins = _; rw [← hcenv]; exact hbi, by show s.heap.objs.size ≤ cenv.locals; rw [hL]; exact Nat.le_refl _,
      fun y z c e1 e2 => I.ok.inj y z c (mem e1).1 (mem e2).1, fun y hy => ?_, fun y c z e => (by cases z), fun _ => hA, hF, .inr ⟨rfl, by show cenv.frame = some cenv.locals; rw [← hcenv]; rfl⟩, fun b hb => ⟨?_, fun y c e z => ?_⟩, I.bs, Nat.le_trans I.ok.bsz I.sz, fun b o e hb => ?_, fun b hb z => ?_, I.stack, I.stkFree⟩
    · show ∃ c, cenv.cells.lookup y = some c
      rcases hy with hy | hy
      · exact absurd (kind_of y _ hy) fun z => ok.cell _ (PySem.mem_of_lookup z) rfl
      · obtain ⟨c, h1, _⟩ := look (kind_of y _ hy)
        exact ⟨c, h1⟩
    · show b ≠ cenv.locals
      rw [hL]; exact Nat.ne_of_lt (hfp b hb).2
    · exact (hfp b hb).1.2.2.2.2.1 y c (mem e).1 z
    · rcases (hfp b hb).1.2.2.2.1 with z | z
      · exact I.ok.noex b o e z
      · exact absurd (Nat.lt_of_lt_of_le (Heap.lt_size e) (Nat.le_trans I.ok.bsz z)) (Nat.lt_irrefl _)
    · rcases List.mem_cons.mp (I.stkSub b z) with z | z
      · exact (hfp b hb).1.2.1 z
      · exact (hfp b hb).1.2.2.1 z
  have nfr : ∀ b, s.heap.objs.size ≤ b → b ∉ frs X.stack := fun b hb z => by
    rcases List.mem_cons.mp (I.stkSub b z) with z | z
    · have := I.lt; rw [← z] at this; exact absurd (Nat.lt_of_lt_of_le this hb) (Nat.lt_irrefl _)
    · exact I.nofs hb z
  have hnew : ∀ b, s.heap.objs.size ≤ b → H b = none := fun b hb => I.hok.fresh hb
  refine ⟨okB, rfl, hg, Un.kept kp, ⟨m, ?_, fun i y av e1 e2 e3 => ?_⟩, fun y c e => ?_, ?_, fun y c e => ?_, fun p hp => ?_, I.hok.kept kp, by rw [wipe_length]; exact I.len⟩
  · show Heap.Ns _ cenv.locals _
    rw [hL]
    exact hn.push _
  · obtain ⟨e2, hne⟩ := wipe_some e2
    have hfr : scope.names.lookup y = some .free := by
      have no : ¬ scope.names.lookup y = some .local := fun z => by
        rcases ok.own _ (PySem.mem_of_lookup z) rfl with e' | e'
        · obtain ⟨p, hp, hpy⟩ := List.mem_map.mp e'
          have e3 := ok.ix p hp
          have : p.1 = y := hpy
          rw [this] at e3
          exact hne (List.mem_map.mpr ⟨p, hp, nodup_ix hN e3 e1⟩)
        · exact e' (List.mem_of_getElem? e1)
      have e3 : Vis cenv.scope y := e3
      rw [hsc] at e3
      rcases e3 with e3 | e3 | e3
      · exact absurd e3 no
      · exact absurd rfl (ok.cell _ (PySem.mem_of_lookup e3))
      · exact e3
    obtain ⟨m, hn, hl⟩ := I.loc
    have hvis : Vis X.env.scope y := (ok.free _ (PySem.mem_of_lookup hfr) rfl).elim (fun k => .inr (.inl k)) (fun k => .inr (.inr k))
    obtain ⟨w, r, q⟩ := hl i y av e1 e2 hvis
    refine ⟨w, r, .inr ⟨.inr (by show cenv.kindOf y = _; unfold Env.kindOf; rw [hsc]; exact hfr), ?_⟩⟩
    obtain ⟨c, h1, h2⟩ := look hfr
    rcases q with ⟨k, _⟩ | ⟨_, c', e', z⟩
    · have k : X.env.scope.names.lookup y = some .local := k
      rcases ok.free _ (PySem.mem_of_lookup hfr) rfl with k' | k' <;> rw [show X.env.scope.names.lookup y = _ from k'] at k <;> cases k
    · rw [h2] at e'; cases e'
      exact ⟨c, h1, z.keeps kp⟩
  · obtain ⟨w, z⟩ := I.cell _ _ (mem e).1
    exact ⟨w, z.keeps kp⟩
  · show H cenv.locals = none
    rw [hL]
    exact hnew _ (Nat.le_refl _)
  · exact I.freeC _ _ (mem e).1
  · have hp : p ∈ [(h'.objs.size, og)] ++ ([] : List (Addr × Obj)) := hp
    rw [List.append_nil, List.mem_singleton] at hp
    subst hp
    refine ⟨Heap.get?_push_size _ hofr, hnew _ (by omega), ?_, nfr _ (by omega), hog⟩
    show h'.objs.size ≠ cenv.locals
    rw [hL]
    omega
end
end TL

set_option maxHeartbeats 4000000
namespace TL
open PySem PySem.Spec PyProof.Rows L2

/-- any (st: true), all (st: false) of the items that are made, up to the first that decides -/
def anyL (st : Bool) (vs : List Nat) (b : TB) (c : Env → M Bool) (fe : Env → M T) (ρ : Env) : List T → Mu → Option (Bool × Mu)
  | [], μ => some (!st, μ)
  | t :: ts, μ => match b t (wipeE ρ vs) with
    | none => none
    | some ρ1 => match c ρ1 μ with
      | some (.ok true, μ1) => (match fe ρ1 μ1 with
        | some (.ok (.bl k), μ2) => if k = st then some (st, μ2) else anyL st vs b c fe ρ ts μ2
        | _ => none)
      | some (.ok false, μ1) => anyL st vs b c fe ρ ts μ1
      | _ => none
section
variable {X : Cx} {pins : List (Addr × Obj)} {σ : L2.St} {H : Hp} {s : Shared}
theorem _root_.L2.Inv.gens (I : Inv X pins σ H s) {gs : Array GenState} (h : AllBare gs) : Inv X pins σ H { s with gens := gs } := ⟨I.ok, I.os, h, I.base, I.loc, I.cell, I.free, I.freeC, I.pin, I.hok, I.len⟩
end
section
variable {X : Cx} {R : RC} {W : WX} {x0 : Addr → Prop} {S : List Addr} {ρ : Env} {μ1 μe : Mu} {σ : L2.St} {H1 H0 : Hp} {s0 : Shared} {A : Around} {cenv : PySem.Env} {fp : List Addr} {a it : Addr} {og : Obj} {g : Nat} {tg elt iter : Expr} {ifs : List Expr} {scope : Scope} {pos : Pos} {J : It} {tn : Nat → Heap → Prop} {vs us : List Nat} {b : TB} {fc : Env → M Bool} {fe : Env → M T} {st r : Bool} {Rr : Result → Shared → Prop} {ts : List T}
theorem seg_gen (hh : A.handled = none) (hc : X.calm = true) (Tu : Turn X.prog X.w X.K tg J fp it tn) (hfa : ∀ b ∈ fp, b ≠ a) (io : ItOk R (excl x0 S μ1) H1 J ts) (hl : S.length = μ1.length) (e1 : EnvOk R x0 S ρ μ1 σ H1)
    (hu : ∀ i ∈ us, i ∈ vs) (hG : ∀ h : Heap, h.get? a = some og → h.IsGen a g) (hco : cenv.scope.isCoroutine = false) (hoc : ∀ v, og.data ≠ .cell v)
    (pg : JB (gCx X (A.deeper cenv) s0 H0 cenv fp [(a, og)]) R tg us b) (pt : JTs (gCx X (A.deeper cenv) s0 H0 cenv fp [(a, og)]) R ifs fc) (pe : JE (gCx X (A.deeper cenv) s0 H0 cenv fp [(a, og)]) R Wf elt fe)
    (hfin : ∀ σ' H' s', Inv (gCx X (A.deeper cenv) s0 H0 cenv fp [(a, og)]) [] σ' H' s' → (∀ b ∈ fp, H' b = none) → Go S μ1 H1 S μe H' → SOk R x0 S μe H' → Rr (.ok (.ret (.bool r))) s') :
    ∀ (ts' : List T) (i n : Nat) (s₀ s : Shared) (H' : Hp) (μ2 : Mu), ts.drop i = ts' → ts'.length ≤ n → Inv (gCx X (A.deeper cenv) s0 H0 cenv fp [(a, og)]) [] (L2.wipe σ vs) H' s → tn i s.heap → (∀ b ∈ fp, H' b = none) → Go S μ1 H1 S μ2 H' → SOk R x0 S μ2 H' →
      anyL st vs b fc fe ρ ts' μ2 = some (r, μe) → g < s.gens.size →
      Seg (model X.prog X.w) A (RB st Rr g) (YB st Rr a g) n s₀ (.compLoop (.GeneratorExp elt [⟨tg, iter, ifs, 0⟩] scope pos) 0 (.ref it) .none cenv)
        ((model X.prog X.w).den (.compLoop (.GeneratorExp elt [⟨tg, iter, ifs, 0⟩] scope pos) 0 (.ref it) .none cenv)) [] s := by
  have hov : A.over (.compLoop (.GeneratorExp elt [⟨tg, iter, ifs, 0⟩] scope pos) 0 (.ref it) .none cenv) [] = A.deeper cenv := rfl
  have stat : ∀ {σ' : L2.St} {H' : Hp} {s' : Shared}, Inv (gCx X (A.deeper cenv) s0 H0 cenv fp [(a, og)]) [] σ' H' s' → (∀ b ∈ fp, H' b = none) → ∀ b ∈ fp, FpOk (gCx X (A.deeper cenv) s0 H0 cenv fp [(a, og)]) [] H' b := fun {σ' H' s'} I' hn b hb =>
    ⟨hn b hb, (I'.ok.exf b hb).1, I'.ok.exfs b hb, .inl hb, fun x c e => (I'.ok.exf b hb).2 x c e, fun p hp => by
      have hp : p ∈ [(a, og)] ++ ([] : List (Addr × Obj)) := hp
      rw [List.append_nil, List.mem_singleton] at hp
      subst hp
      exact fun z => hfa b hb z.symm⟩
  have gen : ∀ {pins : List (Addr × Obj)} {σ' : L2.St} {H' : Hp} {s' : Shared}, Inv (gCx X (A.deeper cenv) s0 H0 cenv fp [(a, og)]) pins σ' H' s' → s'.heap.IsGen a g := fun I' => hG _ (I'.pin (a, og) (List.mem_append_left _ (List.mem_singleton_self _))).1
  intro ts'
  induction ts' with
  | nil =>
    intro i n s₀ s H' μ2 hd hn I tnS nf G so hm hg
    show Seg _ A _ _ _ s₀ _ ((compTurn (.GeneratorExp elt [⟨tg, iter, ifs, 0⟩] scope pos) 0 (.ref it) .none cenv).onRaise (leaving cenv)) [] s
    rw [compTurn_gen, Sem.onRaise_eq_wrap]
    refine seg_bind_wrap (wpAny_standAt ?_)
    obtain ⟨_, hstop⟩ := io _ H' (G.mono hl) so.live
    have hlen : ts.length ≤ i := by
      have := congrArg List.length hd
      rw [List.length_drop, List.length_nil] at this
      omega
    have td := Tu.done (gCx X (A.deeper cenv) s0 H0 cenv fp [(a, og)]) rfl rfl rfl hc i [] s _ H' (fun _ _ => False) I (stat I nf) tnS (hstop i hlen)
    refine seg_bind_wrap (wpAny_mono td (fun r' s6 ⟨hr, I6⟩ => ?_) fun _ _ z => z.elim)
    subst hr
    refine seg_end (.ok .next) (.inl ⟨.inr rfl, fun h' hk => ?_⟩)
    unfold anyL at hm
    cases hm
    exact hfin _ _ _ ((I6.kept (t' := s6.toks) hk).gens (allBare_setGen I6.bare rfl)) nf G so
  | cons t ts' ih =>
    intro i n s₀ s H' μ2 hd hn I tnS nf G so hm hg
    show Seg _ A _ _ _ s₀ _ ((compTurn (.GeneratorExp elt [⟨tg, iter, ifs, 0⟩] scope pos) 0 (.ref it) .none cenv).onRaise (leaving cenv)) [] s
    rw [compTurn_gen, Sem.onRaise_eq_wrap]
    refine seg_bind_wrap (wpAny_standAt ?_)
    obtain ⟨hgo, _⟩ := io _ H' (G.mono hl) so.live
    have hlt : i < ts.length := by
      have := congrArg List.length hd
      rw [List.length_drop, List.length_cons] at this
      omega
    have hti : ts[i]? = some t := by
      rw [List.drop_eq_getElem_cons hlt] at hd
      rw [List.getElem?_eq_getElem hlt, (List.cons.inj hd).1]
    have hd1 : ts.drop (i + 1) = ts' := by
      rw [List.drop_eq_getElem_cons hlt] at hd
      exact (List.cons.inj hd).2
    obtain ⟨h1, h2⟩ := hgo i t hti
    have ti := Tu.item (gCx X (A.deeper cenv) s0 H0 cenv fp [(a, og)]) rfl rfl rfl hc i [] s _ H' (fun _ _ => False) I (stat I nf) tnS h1
    refine seg_bind_wrap (GenW.wpAny_gsz (n := g + 1) hg (wpAny_mono ti (fun r' s6 ⟨u, hr, h6⟩ hz6 => ?_) fun _ _ z => z.elim))
    subst hr
    refine seg_bind_wrap (GenW.wpAny_gsz (n := g + 1) hz6 (wpAny_mono h6 (fun _ s7 ⟨x, H7, I7, r7, y7, st7, n7⟩ hz7 => ?_) fun _ _ z => z.elim))
    have I7' := I7.pinned (stat I7 n7) (Tu.obj _ _ st7)
    obtain ⟨gr, rx⟩ := h2 x H7 y7
    have g27 : Go S μ2 H' S μ2 H7 := Go.grow gr
    have so7 := so.grow gr
    have G7 : Go S μ1 H1 S μ2 H7 := G.trans hl g27
    have e7 : EnvOk R x0 S ρ μ2 σ H7 := e1.go G7 so7
    have e7w := e7.wipe vs
    unfold anyL at hm
    cases qb : b t (wipeE ρ vs) with
    | none => simp only [qb] at hm; cases hm
    | some ρ1 =>
      simp only [qb] at hm
      refine seg_bind_wrap (GenW.wpAny_gsz (n := g + 1) hz7 (wpAny_mono (pg.run _ s7 _ H7 x u (fun σ8 H8 => H8 = H7 ∧ EnvOk R x0 S ρ1 μ2 σ8 H7 ∧ Agree us (L2.wipe σ vs) σ8) I7' r7 ⟨x0, S, _, μ2, t, ρ1, e7w, .inr rx, qb, fun σ8 e8 ag => ⟨rfl, e8, ag⟩⟩) (fun _ s8 ⟨σ8, H8, I8, eH, e8, ag⟩ hz8 => ?_) fun _ _ z => z.elim))
      subst eH
      have hw8 : L2.wipe σ8 vs = L2.wipe σ vs := by
        have := wipe_agree ag hu
        rw [wipe_wipe] at this
        exact this
      have hl8 : (L2.wipe σ vs).length = σ8.length := by rw [← hw8, wipe_length]
      -- the end of a turn
      have fin : ∀ {s' : Shared} {H' : Hp}, Inv (gCx X (A.deeper cenv) s0 H0 cenv fp [(a, og)]) ([] ++ pinsAt fp s7.heap) σ8 H' s' → Inv (gCx X (A.deeper cenv) s0 H0 cenv fp [(a, og)]) [] (L2.wipe σ vs) H' s' ∧ tn (i + 1) s'.heap ∧ ∀ b ∈ fp, H' b = none := fun {s' H'} I' => by
        have pin' : ∀ b ∈ fp, ∀ o, s7.heap.get? b = some o → s'.heap.get? b = some o ∧ H' b = none := fun b hb o e =>
          let z := I'.pin (b, o) (List.mem_append_right _ (List.mem_append_right _ (mem_pinsAt hb e)))
          ⟨z.1, z.2.1⟩
        refine ⟨(I'.unpinned (pins := [])).weak hl8 (fun j v e => ?_), Tu.keep _ _ _ st7 fun b hb o e => (pin' b hb o e).1, fun b hb => ?_⟩
        · rw [← hw8] at e
          exact (wipe_some e).1
        · obtain ⟨o, e, _⟩ := Tu.obj _ _ st7 b hb
          exact (pin' b hb o e).2
      match qc : fc ρ1 μ2 with
      | none => rw [qc] at hm; cases hm
      | some (.ex x, μ3) => rw [qc] at hm; cases hm
      | some (.ok false, μ3) =>
        rw [qc] at hm
        refine seg_bind_wrap (GenW.wpAny_gsz (n := g + 1) hz8 (wpAny_mono (pt.run _ s8 σ8 H8 (fun b' H9 => b' = false ∧ Go S μ2 H8 S μ3 H9 ∧ SOk R x0 S μ3 H9) I8 ⟨x0, S, ρ1, μ2, e8, by rw [qc]; exact fun H9 g9 s9 => ⟨rfl, g9, s9⟩⟩) (fun b' s9 ⟨H9, I9, eb, g9, so9⟩ hz9 => ?_) fun _ _ z => z.elim))
        subst eb
        simp only [Bool.false_eq_true, if_false]
        obtain ⟨J1, J2, J3⟩ := fin I9
        exact seg_again rfl (ih (i + 1) n s₀ s9 H9 μ3 hd1 (by simp at hn; omega) J1 J2 J3 (G7.trans hl g9) so9 hm hz9)
      | some (.ok true, μ3) =>
        rw [qc] at hm
        simp only at hm
        refine seg_bind_wrap (GenW.wpAny_gsz (n := g + 1) hz8 (wpAny_mono (pt.run _ s8 σ8 H8 (fun b' H9 => b' = true ∧ Go S μ2 H8 S μ3 H9 ∧ SOk R x0 S μ3 H9) I8 ⟨x0, S, ρ1, μ2, e8, by rw [qc]; exact fun H9 g9 s9 => ⟨rfl, g9, s9⟩⟩) (fun b' s9 ⟨H9, I9, eb, g9, so9⟩ hz9 => ?_) fun _ _ z => z.elim))
        subst eb
        simp only [if_true]
        have e9 := e8.go g9 so9
        obtain ⟨m, hnm⟩ : ∃ m, n = m + 1 := ⟨n - 1, by simp at hn; omega⟩
        have hy : ∀ v, yieldOut cenv v = yieldValue v := fun v => by simp only [yieldOut, hco, Bool.false_eq_true, if_false]
        simp only [hy]
        rw [Sem.bind_eq_wrap', Sem.bind_eq_wrap', Sem.wrap_wrap, Sem.wrap_wrap]
        match qe : fe ρ1 μ3 with
        | none => rw [qe] at hm; cases hm
        | some (.ex x, μ4) => rw [qe] at hm; cases hm
        | some (.ok (.bl k), μ4) =>
          rw [qe] at hm
          simp only at hm
          refine seg_wrap (GenW.wpAny_gsz (n := g + 1) hz9 (wpAny_mono (pe.run _ s9 σ8 H9 (fun v H10 => v = .bl k ∧ Go S μ3 H9 S μ4 H10 ∧ SOk R x0 S μ4 H10) I9 ⟨x0, S, ρ1, μ3, e9, by rw [qe]; exact fun v H10 g10 s10 r10 => ⟨r10.bl, g10, s10⟩⟩) (fun y s10 ⟨v, H10, I10, r10, ev, g10, so10⟩ hz10 => ?_) fun _ _ z => z.elim))
          subst ev
          cases r10
          obtain ⟨J1, J2, J3⟩ := fin I10
          have G10 : Go S μ1 H1 S μ4 H10 := (G7.trans hl g9).trans hl g10
          subst hnm
          refine seg_at (seg_yield rfl rfl rfl ⟨k, rfl, gen I10, I10.nolimit, hz10, fun hk gs' hb => ?_, fun hk gs' hb => ?_⟩)
          · rw [if_pos hk] at hm
            cases hm
            exact hfin _ _ _ (J1.gens (allBare_setGen I10.bare hb)) J3 G10 so10
          · rw [if_neg hk] at hm
            refine seg_again rfl (ih (i + 1) m _ _ H10 μ4 hd1 (by simp at hn; omega) (J1.gens (allBare_setGen (allBare_setGen I10.bare hb) rfl)) J2 J3 G10 so10 hm ?_)
            show g < (Array.setIfInBounds (Array.setIfInBounds s10.gens g gs') g .running).size
            rw [Array.size_setIfInBounds, Array.size_setIfInBounds]
            exact hz10
        | some (.ok .non, μ4) => rw [qe] at hm; cases hm
        | some (.ok (.int _), μ4) => rw [qe] at hm; cases hm
        | some (.ok (.str _), μ4) => rw [qe] at hm; cases hm
        | some (.ok (.lst _), μ4) => rw [qe] at hm; cases hm
        | some (.ok (.tup _), μ4) => rw [qe] at hm; cases hm
        | some (.ok (.wt _), μ4) => rw [qe] at hm; cases hm
        | some (.ok (.dct _ _), μ4) => rw [qe] at hm; cases hm
        | some (.ok (.ins _ _), μ4) => rw [qe] at hm; cases hm
        | some (.ok (.sh _), μ4) => rw [qe] at hm; cases hm
end
end TL

set_option maxHeartbeats 4000000
namespace TL
open PySem PySem.Spec PyProof.Rows L2

/-- any(.. for .. in ..), all(..) -/
def mAny (st : Bool) (vs : List Nat) (fi : Env → M (List T)) (b : TB) (c : Env → M Bool) (fe : Env → M T) : Env → M T := fun ρ => (fi ρ).bind fun ts μ => match anyL st vs b c fe ρ ts μ with
  | some (r, μ') => some (.ok (.bl r), μ')
  | none => none
/-- what is said of the code objects' tables: those at Ps are tables -/
structure TabsOk (R : RC) (P : Addr) : Prop where
  get : ∀ H, R.Tab H → GxR.TabG H P
  put : ∀ H ps, R.Tab H → TriplesOk ps.toList → R.Tab (upd H P (.tbl ps))
section
variable {X : Cx} {R : RC} {W : WX} {x0 : Addr → Prop} {S : List Addr} {ρ : Env} {μ : Mu} {σ : L2.St} {H : Hp} {Q : VK} {tg elt iter : Expr} {ifs : List Expr} {scope : Scope} {p pos gpos : Pos} {vs us : List Nat} {b : TB} {fi : Env → M (List T)} {fc : Env → M Bool} {fe : Env → M T} {st : Bool} {own : List (Str × Nat)} {k : Nat} {c P : Addr}
/-- from the iterable to the generator at hand, ready to run -/
theorem gen_eval {pins : List (Addr × Obj)} {s : Shared} {Q' : Value → Shared → Prop} (hr : Room (k + 3) X.A) (hc : X.calm = true) (hN : X.N.Nodup) (TB : GxR.TabB X.base X.mg c P) (TO : TabsOk R P) (hcode : X.env.code = .ref c) (ok : GenOk X.N X.env.scope scope own)
    {wi : TI} (hi : PI X tg iter wi) (hs : ∀ v, genFold iter X.env v = pure v) (I : Inv X pins σ H s) (hw : ∀ K, tEvI R W fi σ H K → wi σ H K) {Kf : Env → List T → M T} (h : tEv R W (fun ρ => (fi ρ).bind (Kf ρ)) σ H Q)
    (hQ : ∀ (x0 : Addr → Prop) (S : List Addr) (ρ : Env) (μ1 : Mu) (ts : List T) (s3 : Shared) (H3 : Hp) (it : Addr) (fp : List Addr) (tn : Nat → Heap → Prop) (J : It) (code : Value) (h' : Heap) (m : Str → Option Value) (tk : Nat) (nm qn : Value),
      EnvOk R x0 S ρ μ1 σ H3 → Post R W x0 S μ1 σ H3 Q (Kf ρ ts μ1) → Inv X pins σ H3 s3 → Turn X.prog X.w X.K tg J fp it tn → tn 0 s3.heap → (∀ b ∈ fp, FpOk X pins H3 b ∧ b < s3.heap.objs.size) → ItOk R (excl x0 S μ1) H3 J ts →
      h'.Ns s3.heap.objs.size m → Heap.SameBut s3.heap.objs.size (s3.heap.push { cls := .type "frame", data := .dict #[] }) h' →
      Q' (.ref h'.objs.size) { s3 with
        gens := s3.gens.push (.fresh (.compStart (.GeneratorExp elt [⟨tg, iter, ifs, 0⟩] scope gpos) 0 (.ref it) .none (genEnv scope (cloFrom X.env.cells scope.names []) s3.heap.objs.size code builtinsNs X.env))),
        toks := tk,
        heap := h'.push { cls := .type "generator", data := .fields #[.int s3.gens.size 0, nm, qn] } }) :
    wpAny (model X.prog X.w) X.A (eval (.GeneratorExp elt [⟨tg, iter, ifs, 0⟩] scope gpos) X.env) Q' X.xe s := by
  have hfree : ∀ y ∈ scope.names, y.2 = .free → ∃ c, X.env.cells.lookup y.1 = some c := fun y hy e => by
    rcases ok.free y hy e with k | k
    · exact I.ok.has _ (.inl k)
    · exact I.ok.has _ (.inr k)
  obtain ⟨x0, S, ρ, μ, e, km⟩ := h
  refine wpAny_GeneratorExp_make ok.co (closure_ok hfree) ok.cell ok.dot ok.kind (by have := hr.dp; omega) ?_ hs
  have hI : tEvI R W fi σ H (fun J H2 => ∃ ts μ1, EnvOk R x0 S ρ μ1 σ H2 ∧ Post R W x0 S μ1 σ H2 Q (Kf ρ ts μ1) ∧ ItOk R (excl x0 S μ1) H2 J ts) := by
    refine ⟨x0, S, ρ, μ, e, ?_⟩
    simp only [M.bind] at km
    match q : fi ρ μ with
    | none => rw [q] at km; exact km
    | some (.ex x, μ') => rw [q] at km; exact km
    | some (.ok ts, μ1) =>
      rw [q] at km
      exact fun J H2 g s2 io => ⟨ts, μ1, e.go g s2, Post.shift g e.so.len km, io⟩
  refine thn (hi.run pins s σ H _ I (hw _ hI)) fun xv s1 hx => thn hx fun itv s2 h2 => ?_
  obtain ⟨it, fp, tn, J, H2, ei, I2, Tu, st2, f2, ts, μ1, e2, hq, io⟩ := h2
  subst ei
  refine ⟨I2.nolimit, ?_⟩
  obtain ⟨ps, hP, ht⟩ := TO.get H2 e2.so.tab
  have hPs : s2.heap.get? P = some { cls := .none, data := .fields ps } := I2.hok P _ hP
  have cd : PySem.W.CodeHd s2.heap c P := TB.code.keeps fun b u e => I2.bk b u e
  have cont : ∀ (code : Value) (h3 : Heap) (tk : Nat) (ps' : Array Value), Heap.ExtBut P s2.heap h3 → s2.heap.objs.size ≤ h3.objs.size → h3.get? P = some { cls := .none, data := .fields ps' } → (∃ more, ps' = ps ++ more) → TriplesOk ps'.toList →
      wpAny (model X.prog X.w) X.A (builtinsFor X.env.globals X.env.builtins) (fun bi s₄ => ∀ h', h'.Ns s₄.heap.objs.size (fun y => if y = ".0" then some (.ref it) else none) → Heap.SameBut s₄.heap.objs.size (s₄.heap.push { cls := .type "frame", data := .dict #[] }) h' →
          Q' (.ref h'.objs.size) { s₄ with
            gens := s₄.gens.push (.fresh (.compStart (.GeneratorExp elt [⟨tg, iter, ifs, 0⟩] scope gpos) 0 (.ref it) .none (genEnv scope (cloFrom X.env.cells scope.names []) s₄.heap.objs.size code bi X.env))),
            toks := s₄.toks + 1 + 1 + 1,
            heap := h'.push { cls := .type "generator", data := .fields #[.int s₄.gens.size 0, .str "<genexpr>" (s₄.toks + 1), .str (X.env.qual ++ "<genexpr>") (s₄.toks + 1 + 1)] } }) X.xe { s2 with heap := h3, toks := tk } := by
    intro code h3 tk ps' hx hsz hP3 hmore ht3
    obtain ⟨bm, ob, e1, e2', e3, e4, e5, e6, e7, e8⟩ := TB.bm
    obtain ⟨more, em⟩ := hmore
    refine wpAny_builtinsFor (m := X.mg) (by rw [I2.ok.glob]; exact (I2.mod.glob.keeps I2.bk).extBut hx TB.gP) e1 e2' (hx _ _ e4 (I2.bk _ _ e5)) e6 e7 e8 ?_
    intro h' hn hsb
    have I3 : Inv X pins σ (upd H2 P (.tbl (ps ++ more))) { s2 with heap := h3, toks := tk } := by
      have := GxR.inv_tab (more := more) (h' := h3) (g' := s2.gens) (d' := s2.drawn) (t' := tk) I2 hP (fun b u hb e => hx b u hb e) (by rw [← em]; exact hP3) I2.bare
      exact this
    have kp : Keeps H2 (upd H2 P (.tbl (ps ++ more))) := ⟨fun a o ha ht => by rw [upd_ne (fun z => by rw [z, hP] at ha; cases ha; exact ht _ rfl)]; exact ha, fun a ha => by
      by_cases z : a = P
      · subst z; rw [upd_same]; simp
      · rw [upd_ne z]; exact ha⟩
    have tb : R.Tab (upd H2 P (.tbl (ps ++ more))) := TO.put H2 _ e2.so.tab (by rw [← em]; exact ht3)
    have G : Go S μ1 H2 S μ1 (upd H2 P (.tbl (ps ++ more))) := kp.go
    have nP : ∀ b ∈ fp, b ≠ P := fun b hb z => by
      have := (f2 b hb).1
      rw [z, hP] at this
      cases this
    refine hQ x0 S ρ μ1 ts _ (upd H2 P (.tbl (ps ++ more))) it fp tn J code h' _ _ _ _ (e2.go G (e2.so.keeps kp tb)) (Post.shift G e2.so.len hq) I3 Tu (Tu.keep _ _ _ st2 fun b hb o e => hx b o (nP b hb) e) (fun b hb => ?_) (fun ex' H' mo hl => ?_) hn hsb
    · obtain ⟨o, eo, _⟩ := Tu.obj _ _ st2 b hb
      refine ⟨⟨?_, (f2 b hb).2⟩, Nat.lt_of_lt_of_le (Heap.lt_size eo) hsz⟩
      rw [upd_ne (nP b hb)]
      exact (f2 b hb).1
    · refine io ex' H' ⟨fun a o hx ha ht => mo.k a o hx (kp.keep a o ha ht) ht, fun a o hxa ha => ?_⟩ hl
      by_cases z : a = P
      · rw [z] at hxa ⊢
        exact mo.x _ _ hxa upd_same
      · exact mo.x a o hxa (by rw [upd_ne z]; exact ha)
  cases hf : codeAmong gpos ps.toList with
  | none =>
    refine wpAny_genexprCodeX hcode (cd.code hPs ht) (cd.tab hPs) hf fun c' h' tk hx hge hlt hco' _ htab' _ => ?_
    obtain ⟨o1, vs, f1, tf, fl, tg, inF, tx, tt, op, _, _, _, _, _, _, _, _, _, htr, _⟩ := hco'
    exact cont _ h' tk _ hx (Nat.le_trans hge (Nat.le_of_lt hlt)) htab'.2 ⟨_, rfl⟩ htr
  | some cv =>
    refine wpAny_genexprCode_hit hcode (cd.code hPs ht) hf ?_
    exact cont cv s2.heap s2.toks ps (Heap.ExtBut.refl _ _) (Nat.le_refl _) hPs ⟨#[], by simp⟩ ht
/-- the generator runs from its start -/
theorem seg_start {A : Around} {cenv : PySem.Env} {it : Addr} {R' : GenEnd} {Y : Protocol} {n : Nat} {s₀ s : Shared} {J : It} {tn : Nat → Heap → Prop} {fp : List Addr} (Tu : Turn X.prog X.w X.K tg J fp it tn) (ht : tn 0 s.heap)
    (loop : Seg (model X.prog X.w) A R' Y n s₀ (.compLoop (.GeneratorExp elt [⟨tg, iter, ifs, 0⟩] scope pos) 0 (.ref it) .none cenv) ((model X.prog X.w).den (.compLoop (.GeneratorExp elt [⟨tg, iter, ifs, 0⟩] scope pos) 0 (.ref it) .none cenv)) [] s) :
    Seg (model X.prog X.w) A R' Y n s₀ (.compStart (.GeneratorExp elt [⟨tg, iter, ifs, 0⟩] scope pos) 0 (.ref it) .none cenv) ((model X.prog X.w).den (.compStart (.GeneratorExp elt [⟨tg, iter, ifs, 0⟩] scope pos) 0 (.ref it) .none cenv)) [] s := by
  show Seg _ A _ _ _ s₀ _ ((compStart (.GeneratorExp elt [⟨tg, iter, ifs, 0⟩] scope pos) 0 (.ref it) .none cenv).onRaise (leaving cenv)) [] s
  unfold compStart
  rw [Sem.onRaise_eq_wrap]
  show Seg _ A _ _ _ s₀ _ ((ask >>= _).wrap _ _ _ _) [] s
  refine seg_bind_wrap (wpAny_askSetting ?_)
  split
  · exact seg_again rfl loop
  · first
      | exact seg_bind_wrap (wpAny_rule (seg_bind_wrap (wpAny_standAt (seg_bind_wrap (Tu.self _ 0 s _ _ ht (seg_again rfl loop))))))
      | (refine seg_bind_wrap (wpAny_rule ?_); show Seg _ A _ _ _ s₀ _ ((standAt iter.pos >>= _).wrap _ _ _ _) [] s; exact seg_bind_wrap (wpAny_standAt (seg_bind_wrap (Tu.self _ 0 s _ _ ht (seg_again rfl loop)))))
/-- the generator, driven by any or all: what it needs -/
theorem gen_goes {pins : List (Addr × Obj)} {A : Around} {μ1 μe : Mu} {r : Bool} {ts : List T} {s3 : Shared} {H3 : Hp} {it : Addr} {fp : List Addr} {tn : Nat → Heap → Prop} {J : It} {code : Value} {h' : Heap} {m : Str → Option Value} {tk : Nat} {nm qn : Value} {Rr : Result → Shared → Prop}
    (hA : A.handled = none) (hF : A.frames = some X.stack) (hr : ∀ env, Room k (A.deeper env)) (hc : X.calm = true) (hN : X.N.Nodup) (ok : GenOk X.N X.env.scope scope own) (hv : own.map (·.2) = vs) (hu : ∀ i ∈ us, i ∈ vs)
    (pg : ∀ (A : Around) (s : Shared) (H : Hp) (C : Addr) (code : Value) (fp : List Addr) (pn : List (Addr × Obj)), Room k A → JB (gCx X A s H (genEnv scope (cloFrom X.env.cells scope.names []) C code builtinsNs X.env) fp pn) R tg us b)
    (pt : ∀ (A : Around) (s : Shared) (H : Hp) (C : Addr) (code : Value) (fp : List Addr) (pn : List (Addr × Obj)), Room k A → JTs (gCx X A s H (genEnv scope (cloFrom X.env.cells scope.names []) C code builtinsNs X.env) fp pn) R ifs fc)
    (pe : ∀ (A : Around) (s : Shared) (H : Hp) (C : Addr) (code : Value) (fp : List Addr) (pn : List (Addr × Obj)), Room k A → JE (gCx X A s H (genEnv scope (cloFrom X.env.cells scope.names []) C code builtinsNs X.env) fp pn) R Wf elt fe)
    (e : EnvOk R x0 S ρ μ1 σ H3) (ha : anyL st vs b fc fe ρ ts μ1 = some (r, μe)) (I : Inv X pins σ H3 s3) (Tu : Turn X.prog X.w X.K tg J fp it tn) (h0 : tn 0 s3.heap) (f3 : ∀ b ∈ fp, FpOk X pins H3 b ∧ b < s3.heap.objs.size) (io : ItOk R (excl x0 S μ1) H3 J ts)
    (hn : h'.Ns s3.heap.objs.size m) (hs : Heap.SameBut s3.heap.objs.size (s3.heap.push { cls := .type "frame", data := .dict #[] }) h')
    (hfin : ∀ H' s', Inv X pins σ H' s' → Go S μ1 H3 S μe H' → SOk R x0 S μe H' → Rr (.ok (.ret (.bool r))) s') :
    let s5 : Shared := { s3 with
        gens := s3.gens.push (.fresh (.compStart (.GeneratorExp elt [⟨tg, iter, ifs, 0⟩] scope gpos) 0 (.ref it) .none (genEnv scope (cloFrom X.env.cells scope.names []) s3.heap.objs.size code builtinsNs X.env))),
        toks := tk,
        heap := h'.push { cls := .type "generator", data := .fields #[.int s3.gens.size 0, nm, qn] } }
    s5.heap.IsGen h'.objs.size s3.gens.size ∧ s5.heap.NoLimit ∧
      ∃ gs, s5.gens[s3.gens.size]? = some gs ∧ gs.Goes (model X.prog X.w) A (RB st Rr s3.gens.size) (YB st Rr h'.objs.size s3.gens.size) ts.length (.send .none) (s5.setGen s3.gens.size .running) := by
  subst hv
  intro s5
  have hsz : h'.objs.size = s3.heap.objs.size + 1 := by rw [hs.1, Heap.size_push]
  have Ig := gen_start (A := A.deeper (genEnv scope (cloFrom X.env.cells scope.names []) s3.heap.objs.size code builtinsNs X.env)) (code := code) (bi := builtinsNs) (og := { cls := .type "generator", data := .fields #[.int s3.gens.size 0, nm, qn] })
    (gs := (s5.setGen s3.gens.size .running).gens) (tk := tk) I ok hN f3 hA (by show A.frames.map _ = _; rw [hF]; rfl) rfl hn hs rfl (fun v z => by cases z) (allBare_setGen (s := s5) (I.bare.push rfl) rfl)
  have hG : ∀ h : Heap, h.get? h'.objs.size = some { cls := .type "generator", data := .fields #[.int s3.gens.size 0, nm, qn] } → h.IsGen h'.objs.size s3.gens.size := fun h e => ⟨_, nm, qn, e, rfl, rfl, rfl⟩
  refine ⟨hG _ (Heap.get?_push_size _ rfl), Ig.nolimit, _, Array.getElem?_push_size .., rfl, ?_⟩
  have kp : ∀ b o, s3.heap.get? b = some o → s5.heap.get? b = some o := fun b o e => Heap.get?_push_of_some _ (hs.extBut b o (Nat.ne_of_lt (Heap.lt_size e)) (Heap.get?_push_of_some _ e))
  refine seg_start Tu (Tu.keep _ _ _ h0 fun b _ o e => kp b o e) ?_
  refine seg_gen (H1 := H3) (σ := σ) hA hc Tu (fun b hb z => by have := (f3 b hb).2; rw [z, hsz] at this; exact Nat.lt_irrefl _ (Nat.lt_of_succ_lt this)) io e.so.len e hu hG ok.co (fun v z => by cases z) (pg _ _ _ _ _ _ _ (hr _)) (pt _ _ _ _ _ _ _ (hr _)) (pe _ _ _ _ _ _ _ (hr _)) (fun σ' H' s' I' nf g' so' => ?_)
    ts 0 ts.length _ _ H3 μ1 List.drop_zero (Nat.le_refl _) Ig (Tu.keep _ _ _ h0 fun b _ o e => kp b o e) (fun b hb => (f3 b hb).1.1) (Go.refl _ _ _) e.so ha (by
      show s3.gens.size < (Array.setIfInBounds (s3.gens.push _) _ _).size
      rw [Array.size_setIfInBounds, Array.size_push]
      omega)
  exact hfin H' s' (I.call' (ch := fp) I'.os I'.base I'.hok I'.bare fun b hb => ⟨(f3 b hb).1.2.2.2.1, (f3 b hb).1.2.1, (f3 b hb).1.2.2.2.2.1, (f3 b hb).1.2.2.2.2.2⟩) g' so'
theorem j_any' {wi : TI} (hr : Room (k + 3) X.A) (hg : Gl X "any") (hm : X.mg "any" = none) (hc : X.calm = true) (hN : X.N.Nodup) (TB : GxR.TabB X.base X.mg c P) (TO : TabsOk R P) (hcode : X.env.code = .ref c) (ok : GenOk X.N X.env.scope scope own) (hv : own.map (·.2) = vs) (hu : ∀ i ∈ us, i ∈ vs)
    (hi : PI X tg iter wi)
    (pg : ∀ (A : Around) (s : Shared) (H : Hp) (C : Addr) (code : Value) (fp : List Addr) (pn : List (Addr × Obj)), Room k A → JB (gCx X A s H (genEnv scope (cloFrom X.env.cells scope.names []) C code builtinsNs X.env) fp pn) R tg us b)
    (pt : ∀ (A : Around) (s : Shared) (H : Hp) (C : Addr) (code : Value) (fp : List Addr) (pn : List (Addr × Obj)), Room k A → JTs (gCx X A s H (genEnv scope (cloFrom X.env.cells scope.names []) C code builtinsNs X.env) fp pn) R ifs fc)
    (pe : ∀ (A : Around) (s : Shared) (H : Hp) (C : Addr) (code : Value) (fp : List Addr) (pn : List (Addr × Obj)), Room k A → JE (gCx X A s H (genEnv scope (cloFrom X.env.cells scope.names []) C code builtinsNs X.env) fp pn) R Wf elt fe)
    (hs : ∀ v, genFold iter X.env v = pure v := by intro _; rfl)
    (he : starEach [.GeneratorExp elt [⟨tg, iter, ifs, 0⟩] scope gpos] X.env = (false, eval (.GeneratorExp elt [⟨tg, iter, ifs, 0⟩] scope gpos) X.env) :: starEach [] X.env := by rfl) :
    PE X (.Call (.Name "any" p) [.GeneratorExp elt [⟨tg, iter, ifs, 0⟩] scope gpos] [] pos) (fun σ H Q => tEv R W (mAny true vs fi b fc fe) σ H Q ∧ ∀ K, tEvI R W fi σ H K → wi σ H K) := by
  refine ⟨fun pins s σ H Q I ⟨h, hw⟩ => ?_⟩
  refine wpAny_Call_Name_kw (ld_blt I hg hm boot_any ?_)
  refine PyProof.Rows.callWith_builtin1 ?_ he (by rfl)
  rw [he]
  show wpAny _ _ (spliced ((false, eval (.GeneratorExp elt [⟨tg, iter, ifs, 0⟩] scope gpos) X.env) :: backTo pos (starEach [] X.env))) _ _ s
  refine Calls.spliced_cons (gen_eval hr hc hN TB TO hcode ok hi hs I hw h fun x0 S ρ μ1 ts s3 H3 it fp tn J code h' m tk nm qn e hq I3 Tu h0 f3 io hn hsb => ?_)
  obtain ⟨r, μe, ha, hq⟩ : ∃ r μe, anyL true vs b fc fe ρ ts μ1 = some (r, μe) ∧ ∀ H', Go S μ1 H3 S μe H' → SOk R x0 S μe H' → Q (.bl r) H' := by
    cases qa : anyL true vs b fc fe ρ ts μ1 with
    | none => simp only [qa] at hq; exact (hq : False).elim
    | some r =>
      obtain ⟨r, μe⟩ := r
      simp only [qa] at hq
      exact ⟨r, μe, rfl, fun H' g' s' => hq (.bl r) H' g' s' (.inr rfl)⟩
  refine Calls.spliced_nil ?_
  refine call_function_tree F.kind_any F.plain_any F.entry_any (F.args_any1 _) ?_
  unfold Builtin.«any»
  refine wpAny_bind (m := oneArg "any" _) (wpAny_pure ?_)
  have hdp := hr.dp
  have gg := fun (Rr : Result → Shared → Prop) hf => gen_goes (st := true) (iter := iter) (gpos := gpos) (nm := nm) (qn := qn) (tk := tk) (code := code) (Rr := Rr) (A := X.A.in1.in1) hr.hd (by show X.A.frames = _; exact I3.ok.frames) (fun env => ((hr.in1).in1).deeper env) hc hN ok hv hu pg pt pe e ha I3 Tu h0 f3 io hn hsb hf
  refine wpAny_bind (wpAny_pyIter_gen (gg (fun _ _ => True) fun _ _ _ _ _ => trivial).1 ?_)
  refine wpAny_pure ⟨plainId_quiet F.plain_any_loop _, ?_⟩
  refine any_drain (g := s3.gens.size) hr.hd (by omega) ts.length _ (gg (fun _ _ => True) fun _ _ _ _ _ => trivial).1 (gg (fun _ _ => True) fun _ _ _ _ _ => trivial).2.1 ?_
  refine (gg _ fun H' s' I' g' so' => ?_).2.2
  exact ⟨.bl r, H', I', rfl, hq H' g' so'⟩
theorem j_any (hr : Room (k + 3) X.A) (hg : Gl X "any") (hm : X.mg "any" = none) (hc : X.calm = true) (hN : X.N.Nodup) (TB : GxR.TabB X.base X.mg c P) (TO : TabsOk R P) (hcode : X.env.code = .ref c) (ok : GenOk X.N X.env.scope scope own) (hv : own.map (·.2) = vs) (hu : ∀ i ∈ us, i ∈ vs)
    (hi : JI X R W tg iter fi)
    (pg : ∀ (A : Around) (s : Shared) (H : Hp) (C : Addr) (code : Value) (fp : List Addr) (pn : List (Addr × Obj)), Room k A → JB (gCx X A s H (genEnv scope (cloFrom X.env.cells scope.names []) C code builtinsNs X.env) fp pn) R tg us b)
    (pt : ∀ (A : Around) (s : Shared) (H : Hp) (C : Addr) (code : Value) (fp : List Addr) (pn : List (Addr × Obj)), Room k A → JTs (gCx X A s H (genEnv scope (cloFrom X.env.cells scope.names []) C code builtinsNs X.env) fp pn) R ifs fc)
    (pe : ∀ (A : Around) (s : Shared) (H : Hp) (C : Addr) (code : Value) (fp : List Addr) (pn : List (Addr × Obj)), Room k A → JE (gCx X A s H (genEnv scope (cloFrom X.env.cells scope.names []) C code builtinsNs X.env) fp pn) R Wf elt fe)
    (hs : ∀ v, genFold iter X.env v = pure v := by intro _; rfl)
    (he : starEach [.GeneratorExp elt [⟨tg, iter, ifs, 0⟩] scope gpos] X.env = (false, eval (.GeneratorExp elt [⟨tg, iter, ifs, 0⟩] scope gpos) X.env) :: starEach [] X.env := by rfl) :
    JE X R W (.Call (.Name "any" p) [.GeneratorExp elt [⟨tg, iter, ifs, 0⟩] scope gpos] [] pos) (mAny true vs fi b fc fe) := (j_any' hr hg hm hc hN TB TO hcode ok hv hu hi pg pt pe hs he).imp fun _ _ _ h => ⟨h, fun _ z => z⟩
theorem j_all' {wi : TI} (hr : Room (k + 3) X.A) (hg : Gl X "all") (hm : X.mg "all" = none) (hc : X.calm = true) (hN : X.N.Nodup) (TB : GxR.TabB X.base X.mg c P) (TO : TabsOk R P) (hcode : X.env.code = .ref c) (ok : GenOk X.N X.env.scope scope own) (hv : own.map (·.2) = vs) (hu : ∀ i ∈ us, i ∈ vs)
    (hi : PI X tg iter wi)
    (pg : ∀ (A : Around) (s : Shared) (H : Hp) (C : Addr) (code : Value) (fp : List Addr) (pn : List (Addr × Obj)), Room k A → JB (gCx X A s H (genEnv scope (cloFrom X.env.cells scope.names []) C code builtinsNs X.env) fp pn) R tg us b)
    (pt : ∀ (A : Around) (s : Shared) (H : Hp) (C : Addr) (code : Value) (fp : List Addr) (pn : List (Addr × Obj)), Room k A → JTs (gCx X A s H (genEnv scope (cloFrom X.env.cells scope.names []) C code builtinsNs X.env) fp pn) R ifs fc)
    (pe : ∀ (A : Around) (s : Shared) (H : Hp) (C : Addr) (code : Value) (fp : List Addr) (pn : List (Addr × Obj)), Room k A → JE (gCx X A s H (genEnv scope (cloFrom X.env.cells scope.names []) C code builtinsNs X.env) fp pn) R Wf elt fe)
    (hs : ∀ v, genFold iter X.env v = pure v := by intro _; rfl)
    (he : starEach [.GeneratorExp elt [⟨tg, iter, ifs, 0⟩] scope gpos] X.env = (false, eval (.GeneratorExp elt [⟨tg, iter, ifs, 0⟩] scope gpos) X.env) :: starEach [] X.env := by rfl) :
    PE X (.Call (.Name "all" p) [.GeneratorExp elt [⟨tg, iter, ifs, 0⟩] scope gpos] [] pos) (fun σ H Q => tEv R W (mAny false vs fi b fc fe) σ H Q ∧ ∀ K, tEvI R W fi σ H K → wi σ H K) := by
  refine ⟨fun pins s σ H Q I ⟨h, hw⟩ => ?_⟩
  refine wpAny_Call_Name_kw (ld_blt I hg hm boot_all ?_)
  refine PyProof.Rows.callWith_builtin1 ?_ he (by rfl)
  rw [he]
  show wpAny _ _ (spliced ((false, eval (.GeneratorExp elt [⟨tg, iter, ifs, 0⟩] scope gpos) X.env) :: backTo pos (starEach [] X.env))) _ _ s
  refine Calls.spliced_cons (gen_eval hr hc hN TB TO hcode ok hi hs I hw h fun x0 S ρ μ1 ts s3 H3 it fp tn J code h' m tk nm qn e hq I3 Tu h0 f3 io hn hsb => ?_)
  obtain ⟨r, μe, ha, hq⟩ : ∃ r μe, anyL false vs b fc fe ρ ts μ1 = some (r, μe) ∧ ∀ H', Go S μ1 H3 S μe H' → SOk R x0 S μe H' → Q (.bl r) H' := by
    cases qa : anyL false vs b fc fe ρ ts μ1 with
    | none => simp only [qa] at hq; exact (hq : False).elim
    | some r =>
      obtain ⟨r, μe⟩ := r
      simp only [qa] at hq
      exact ⟨r, μe, rfl, fun H' g' s' => hq (.bl r) H' g' s' (.inr rfl)⟩
  refine Calls.spliced_nil ?_
  refine call_function_tree F.kind_all F.plain_all F.entry_all (F.args_all1 _) ?_
  unfold Builtin.«all»
  refine wpAny_bind (m := oneArg "all" _) (wpAny_pure ?_)
  have hdp := hr.dp
  have gg := fun (Rr : Result → Shared → Prop) hf => gen_goes (st := false) (iter := iter) (gpos := gpos) (nm := nm) (qn := qn) (tk := tk) (code := code) (Rr := Rr) (A := X.A.in1.in1) hr.hd (by show X.A.frames = _; exact I3.ok.frames) (fun env => ((hr.in1).in1).deeper env) hc hN ok hv hu pg pt pe e ha I3 Tu h0 f3 io hn hsb hf
  refine wpAny_bind (wpAny_pyIter_gen (gg (fun _ _ => True) fun _ _ _ _ _ => trivial).1 ?_)
  refine wpAny_pure ⟨plainId_quiet F.plain_all_loop _, ?_⟩
  refine all_drain (g := s3.gens.size) hr.hd (by omega) ts.length _ (gg (fun _ _ => True) fun _ _ _ _ _ => trivial).1 (gg (fun _ _ => True) fun _ _ _ _ _ => trivial).2.1 ?_
  refine (gg _ fun H' s' I' g' so' => ?_).2.2
  exact ⟨.bl r, H', I', rfl, hq H' g' so'⟩
theorem j_all (hr : Room (k + 3) X.A) (hg : Gl X "all") (hm : X.mg "all" = none) (hc : X.calm = true) (hN : X.N.Nodup) (TB : GxR.TabB X.base X.mg c P) (TO : TabsOk R P) (hcode : X.env.code = .ref c) (ok : GenOk X.N X.env.scope scope own) (hv : own.map (·.2) = vs) (hu : ∀ i ∈ us, i ∈ vs)
    (hi : JI X R W tg iter fi)
    (pg : ∀ (A : Around) (s : Shared) (H : Hp) (C : Addr) (code : Value) (fp : List Addr) (pn : List (Addr × Obj)), Room k A → JB (gCx X A s H (genEnv scope (cloFrom X.env.cells scope.names []) C code builtinsNs X.env) fp pn) R tg us b)
    (pt : ∀ (A : Around) (s : Shared) (H : Hp) (C : Addr) (code : Value) (fp : List Addr) (pn : List (Addr × Obj)), Room k A → JTs (gCx X A s H (genEnv scope (cloFrom X.env.cells scope.names []) C code builtinsNs X.env) fp pn) R ifs fc)
    (pe : ∀ (A : Around) (s : Shared) (H : Hp) (C : Addr) (code : Value) (fp : List Addr) (pn : List (Addr × Obj)), Room k A → JE (gCx X A s H (genEnv scope (cloFrom X.env.cells scope.names []) C code builtinsNs X.env) fp pn) R Wf elt fe)
    (hs : ∀ v, genFold iter X.env v = pure v := by intro _; rfl)
    (he : starEach [.GeneratorExp elt [⟨tg, iter, ifs, 0⟩] scope gpos] X.env = (false, eval (.GeneratorExp elt [⟨tg, iter, ifs, 0⟩] scope gpos) X.env) :: starEach [] X.env := by rfl) :
    JE X R W (.Call (.Name "all" p) [.GeneratorExp elt [⟨tg, iter, ifs, 0⟩] scope gpos] [] pos) (mAny false vs fi b fc fe) := (j_all' hr hg hm hc hN TB TO hcode ok hv hu hi pg pt pe hs he).imp fun _ _ _ h => ⟨h, fun _ z => z⟩
end
end TL

set_option maxHeartbeats 4000000
namespace TL
open PySem PySem.Spec PyProof.Rows L2

/-- the ints that are made -/
def intsL (vs : List Nat) (b : TB) (c : Env → M Bool) (fe : Env → M T) (ρ : Env) : List T → Mu → Option (List Int × Mu)
  | [], μ => some ([], μ)
  | t :: ts, μ => match b t (wipeE ρ vs) with
    | none => none
    | some ρ1 => match c ρ1 μ with
      | some (.ok true, μ1) => (match fe ρ1 μ1 with
        | some (.ok (.int k), μ2) => (match intsL vs b c fe ρ ts μ2 with
          | some (ks, μ3) => some (k :: ks, μ3)
          | none => none)
        | _ => none)
      | some (.ok false, μ1) => intsL vs b c fe ρ ts μ1
      | _ => none
/-- each sum on the way is below 2 ^ 63 -/
def longs : Int → List Int → Bool
  | _, [] => true
  | acc, k :: ks => decide (-(2 ^ 63) ≤ k ∧ k < 2 ^ 63 ∧ -(2 ^ 63) ≤ acc + k ∧ acc + k < 2 ^ 63) && longs (acc + k) ks
def mSum (vs : List Nat) (fi : Env → M (List T)) (b : TB) (c : Env → M Bool) (fe : Env → M T) : Env → M T := fun ρ => (fi ρ).bind fun ts μ => match intsL vs b c fe ρ ts μ with
  | some (ks, μ') => if longs 0 ks = true then some (.ok (.int ks.sum), μ') else none
  | none => none
/-- the list that holds the sum so far -/
def accO (acc : Int) (t : Tok) (c : Nat) : Obj := { cls := .type "list", dict := none, data := .seq #[.int acc t] c, slots := #[] }
def YS (ks : List Int) (a : Addr) (g : Nat) (D : Addr) : Protocol := fun n s₀ v s₁ kap =>
  ∃ k t, ks[ks.length - 1 - n]? = some k ∧ v = .int k t ∧ s₁.heap.IsGen a g ∧ s₁.heap.NoLimit ∧ g < s₁.gens.size ∧ (∀ o, s₀.heap.get? D = some o → s₁.heap.get? D = some o) ∧
    ∀ (gs' : GenState) (h2 : Heap) (tk : Nat), gs'.bare = true → (∀ b o, b ≠ D → s₁.heap.get? b = some o → h2.get? b = some o) → (∃ acc t c, h2.get? D = some (accO acc t c)) → kap (.send .none) ({ s₁.setGen g gs' with heap := h2, toks := tk }.setGen g .running)
def FS (Rr : Result → Shared → Prop) (tot : Int) (g : Nat) (D : Addr) : Nat → Shared → Shared → Prop := fun n s₀ s₁ => n = 0 ∧ (∀ o, s₀.heap.get? D = some o → s₁.heap.get? D = some o) ∧ ∀ (h' : Heap) t, (∀ b o, s₁.heap.get? b = some o → h'.get? b = some o) → Rr (.ok (.ret (.int tot t))) { s₁.setGen g .finished with heap := h' }
def RS (Rr : Result → Shared → Prop) (tot : Int) (g : Nat) (D : Addr) : GenEnd := fun n s₀ r s₁ => ((r = .ok (.ret .none) ∨ r = .ok .next) ∧ FS Rr tot g D n s₀ s₁) ∨ ∃ e, r = .error e ∧ (fun _ _ => False : Value → Shared → Prop) e s₁
section
variable {P : Program} {w : World} {A : Around} {Rr : Result → Shared → Prop}
theorem sum_drain {a D : Addr} {g : Nat} {ks : List Int} (hh : A.handled = none) (hd : A.depth < recursionLimit) (hDa : D ≠ a) (hDc : D ≠ cStatics) :
    ∀ (m i : Nat) (acc : Int) (t : Tok) (c : Nat) (s : Shared), ks.length - i = m → i ≤ ks.length → longs acc (ks.drop i) = true → acc + (ks.drop i).sum = ks.sum → s.heap.get? D = some (accO acc t c) → s.heap.IsGen a g → s.heap.NoLimit →
      (∃ gs, s.gens[g]? = some gs ∧ gs.Goes (model P w) A.in1.in1 (RS Rr ks.sum g D) (YS ks a g D) m (.send .none) (s.setGen g .running)) → codeAny (model P w) A (.builtin "sum.loop" ⟨[.ref a, .ref D, rawInt 0, rawInt 0], []⟩) Rr s := by
  intro m
  induction m with
  | zero =>
    intro i acc t c s hm hi hlo hsum hD hg hl ⟨gs, hgs, hgo⟩
    refine codeAny_builtin F.entry_sum_loop ?_
    rw [Around.under_plainId F.plain_sum_loop _]
    show wpAny _ A.in1 (seqItems? (.ref D) >>= _) _ _ s
    refine wpAny_bind (wpAny_seqItems hD rfl ?_)
    show wpAny _ A.in1 (tryCatch (pyNext (.ref a)) _ >>= _) _ _ s
    refine wpAny_bind (wpAny_tryCatch (next_genG (A := A.in1) (F := FS Rr ks.sum g D) (Er := fun _ _ => False) hh hl hd hg hgs hgo (fun v s₁ gs' hb hv => ?_) (fun s₁ hp h' hk => ?_) (fun e s₁ he => he.elim)))
    · obtain ⟨k, tt, hk, hv1, h1, h2, h3, h4, h5⟩ := hv
      exact (h5 gs' s₁.heap s₁.toks hb (fun _ _ _ h => h) ⟨acc, t, c, h4 _ hD⟩).elim
    · obtain ⟨_, hk1, hk2⟩ := hp
      have e0 : acc = ks.sum := by
        rw [List.drop_eq_nil_of_le (by omega)] at hsum
        simpa using hsum
      have := hk2 h' t hk
      rw [← e0] at this
      exact wpAny_pure this
  | succ m ih =>
    intro i acc t c s hm hi hlo hsum hD hg hl ⟨gs, hgs, hgo⟩
    have hlt : i < ks.length := by omega
    refine codeAny_builtin F.entry_sum_loop ?_
    rw [Around.under_plainId F.plain_sum_loop _]
    show wpAny _ A.in1 (seqItems? (.ref D) >>= _) _ _ s
    refine wpAny_bind (wpAny_seqItems hD rfl ?_)
    show wpAny _ A.in1 (tryCatch (pyNext (.ref a)) _ >>= _) _ _ s
    refine wpAny_bind (wpAny_tryCatch (next_genG (A := A.in1) (F := FS Rr ks.sum g D) (Er := fun _ _ => False) hh hl hd hg hgs hgo (fun v s₁ gs' hb hv => ?_) (fun s₁ hp h' hk => ?_) (fun e s₁ he => he.elim)))
    · obtain ⟨k, tt, hk, rfl, h1, h2, h3, h4, h5⟩ := hv
      have hix : ks.length - 1 - (m + 1 - 1) = i := by omega
      rw [hix] at hk
      have hD1 : (s₁.setGen g gs').heap.get? D = some (accO acc t c) := h4 _ hD
      have hdr : ks.drop i = k :: ks.drop (i + 1) := by
        rw [List.drop_eq_getElem_cons hlt]
        rw [List.getElem?_eq_getElem hlt, Option.some.injEq] at hk
        rw [hk]
      rw [hdr] at hlo hsum
      simp only [longs, Bool.and_eq_true, decide_eq_true_eq] at hlo
      obtain ⟨⟨f1, f2, f3, f4⟩, hlo'⟩ := hlo
      have hc : ((decide (-(2 ^ 63) ≤ k) && decide (k < 2 ^ 63)) && (decide (-(2 ^ 63) ≤ acc + k) && decide (acc + k < 2 ^ 63))) = true := by
        simp only [Bool.and_eq_true, decide_eq_true_eq]
        exact ⟨⟨f1, f2⟩, f3, f4⟩
      show wpAny _ A.in1 (if (_ : Bool) = true then (mkInt (acc + k) >>= _) else _) _ _ _
      split
      · refine wpAny_bind (wpAny_mkInt ?_)
        show wpAny _ A.in1 (updateSeq D (fun _ => #[.int (acc + k) _]) >>= _) _ _ _
        refine wpAny_bind ?_
        refine wpAny_updateSeq hD1 rfl (wpAny_pure ⟨plainId_quiet F.plain_sum_loop _, ?_⟩)
        have hDn : ∃ c', (Heap.update s₁.heap D (Obj.mapSeq fun _ => #[Value.int (acc + k) (s₁.setGen g gs').toks])).get? D = some (accO (acc + k) (s₁.setGen g gs').toks c') := ⟨_, Heap.get?_update_self _ hD1 rfl⟩
        obtain ⟨c', hDn⟩ := hDn
        have kept : ∀ b o, b ≠ D → s₁.heap.get? b = some o → (Heap.update s₁.heap D (Obj.mapSeq fun _ => #[Value.int (acc + k) (s₁.setGen g gs').toks])).get? b = some o := fun b o hb e => (Heap.get?_update_other _ _ (Ne.symm hb)).trans e
        refine ih (i + 1) (acc + k) (s₁.setGen g gs').toks c' _ (by omega) hlt hlo' (by rw [← hsum]; simp; omega) hDn ?_ ?_ ⟨gs', setGen_at h3, h5 gs' _ _ hb kept ⟨_, _, _, hDn⟩⟩
        · obtain ⟨o, nm, qn, ho, r⟩ := h1
          exact ⟨o, nm, qn, kept _ _ (Ne.symm hDa) ho, r⟩
        · obtain ⟨mc, hns, hnn⟩ := h2
          exact ⟨mc, hns.at' fun o e => kept _ _ (Ne.symm hDc) e, hnn⟩
      · rename_i hneg
        exact absurd hc hneg
    · exact absurd hp.1 (Nat.succ_ne_zero m)
end
section
variable {X : Cx} {R : RC} {W : WX} {x0 : Addr → Prop} {S : List Addr} {ρ : Env} {μ1 μe : Mu} {σ : L2.St} {H1 H0 : Hp} {s0 : Shared} {A : Around} {cenv : PySem.Env} {fp : List Addr} {a it : Addr} {og : Obj} {g : Nat} {tg elt iter : Expr} {ifs : List Expr} {scope : Scope} {pos : Pos} {J : It} {tn : Nat → Heap → Prop} {vs us : List Nat} {b : TB} {fc : Env → M Bool} {fe : Env → M T} {ks : List Int} {D : Addr} {Rr : Result → Shared → Prop} {ts : List T}
theorem seg_sum (hh : A.handled = none) (hc : X.calm = true) (Tu : Turn X.prog X.w X.K tg J fp it tn) (hfa : ∀ b ∈ fp, b ≠ a) (io : ItOk R (excl x0 S μ1) H1 J ts) (hl : S.length = μ1.length) (e1 : EnvOk R x0 S ρ μ1 σ H1)
    (hu : ∀ i ∈ us, i ∈ vs) (hDa : D ≠ a) (hDf : ∀ b ∈ fp, D ≠ b) (hDL : D ≠ cenv.locals) (hDs : D ∉ frs X.stack) (hD0 : s0.heap.objs.size ≤ D) (hDc : ∀ x c, cenv.cells.lookup x = some c → c ≠ D) (hG : ∀ h : Heap, h.get? a = some og → h.IsGen a g) (hco : cenv.scope.isCoroutine = false) (hoc : ∀ v, og.data ≠ .cell v)
    (pg : JB (gCx X (A.deeper cenv) s0 H0 cenv fp [(a, og)]) R tg us b) (pt : JTs (gCx X (A.deeper cenv) s0 H0 cenv fp [(a, og)]) R ifs fc) (pe : JE (gCx X (A.deeper cenv) s0 H0 cenv fp [(a, og)]) R Wf elt fe)
    (hfin : ∀ σ' H' s', Inv (gCx X (A.deeper cenv) s0 H0 cenv fp [(a, og)]) [] σ' H' s' → (∀ b ∈ fp, H' b = none) → Go S μ1 H1 S μe H' → SOk R x0 S μe H' → ∀ t, Rr (.ok (.ret (.int ks.sum t))) s') :
    ∀ (ts' : List T) (i j n : Nat) (ks' : List Int) (s₀ s : Shared) (H' : Hp) (μ2 : Mu), ts.drop i = ts' → ks.drop j = ks' → ks'.length = n → H' D = none → (∃ acc t c, s.heap.get? D = some (accO acc t c)) → (∀ o, s₀.heap.get? D = some o → s.heap.get? D = some o) → Inv (gCx X (A.deeper cenv) s0 H0 cenv fp [(a, og)]) [] (L2.wipe σ vs) H' s → tn i s.heap → (∀ b ∈ fp, H' b = none) → Go S μ1 H1 S μ2 H' → SOk R x0 S μ2 H' →
      intsL vs b fc fe ρ ts' μ2 = some (ks', μe) → g < s.gens.size →
      Seg (model X.prog X.w) A (RS Rr ks.sum g D) (YS ks a g D) n s₀ (.compLoop (.GeneratorExp elt [⟨tg, iter, ifs, 0⟩] scope pos) 0 (.ref it) .none cenv)
        ((model X.prog X.w).den (.compLoop (.GeneratorExp elt [⟨tg, iter, ifs, 0⟩] scope pos) 0 (.ref it) .none cenv)) [] s := by
  have hov : A.over (.compLoop (.GeneratorExp elt [⟨tg, iter, ifs, 0⟩] scope pos) 0 (.ref it) .none cenv) [] = A.deeper cenv := rfl
  have stat : ∀ {σ' : L2.St} {H' : Hp} {s' : Shared}, ∀ {oD : Obj}, Inv (gCx X (A.deeper cenv) s0 H0 cenv fp [(a, og)]) [(D, oD)] σ' H' s' → (∀ b ∈ fp, H' b = none) → ∀ b ∈ fp, FpOk (gCx X (A.deeper cenv) s0 H0 cenv fp [(a, og)]) [(D, oD)] H' b := fun {σ' H' s' oD} I' hn b hb =>
    ⟨hn b hb, (I'.ok.exf b hb).1, I'.ok.exfs b hb, .inl hb, fun x c e => (I'.ok.exf b hb).2 x c e, fun p hp => by
      have hp : p ∈ [(a, og)] ++ [(D, oD)] := hp
      rcases List.mem_append.mp hp with hp | hp
      · rw [List.mem_singleton] at hp
        subst hp
        exact fun z => hfa b hb z.symm
      · rw [List.mem_singleton] at hp
        subst hp
        exact hDf b hb⟩
  have addP : ∀ {σ' : L2.St} {H' : Hp} {s' : Shared} {oD : Obj}, Inv (gCx X (A.deeper cenv) s0 H0 cenv fp [(a, og)]) [] σ' H' s' → H' D = none → s'.heap.get? D = some oD → (∀ v, oD.data ≠ .cell v) → Inv (gCx X (A.deeper cenv) s0 H0 cenv fp [(a, og)]) [(D, oD)] σ' H' s' := fun {σ' H' s' oD} I' hn ho hc => by
    refine ⟨I'.ok, I'.os, I'.bare, I'.base, I'.loc, I'.cell, I'.free, I'.freeC, fun p hp => ?_, I'.hok, I'.len⟩
    rcases List.mem_append.mp hp with hp | hp
    · exact I'.pin p (List.mem_append_left _ hp)
    · rw [List.mem_singleton] at hp
      subst hp
      exact ⟨ho, hn, hDL, hDs, hc⟩
  have getP : ∀ {pl : List (Addr × Obj)} {σ' : L2.St} {H' : Hp} {s' : Shared} {oD : Obj}, Inv (gCx X (A.deeper cenv) s0 H0 cenv fp [(a, og)]) ([(D, oD)] ++ pl) σ' H' s' → s'.heap.get? D = some oD ∧ H' D = none := fun {pl σ' H' s' oD} I' =>
    have z := I'.pin (D, oD) (List.mem_append_right _ (List.mem_append_left _ (List.mem_singleton_self _)))
    ⟨z.1, z.2.1⟩
  have gen : ∀ {pins : List (Addr × Obj)} {σ' : L2.St} {H' : Hp} {s' : Shared}, Inv (gCx X (A.deeper cenv) s0 H0 cenv fp [(a, og)]) pins σ' H' s' → s'.heap.IsGen a g := fun I' => hG _ (I'.pin (a, og) (List.mem_append_left _ (List.mem_singleton_self _))).1
  intro ts'
  induction ts' with
  | nil =>
    intro i j n ks' s₀ s H' μ2 hd hkd hn hDn ⟨acc, ta, ca, hDo⟩ hD00 I0 tnS nf G so hm hg
    have I := addP I0 hDn hDo (fun v z => by cases z)
    show Seg _ A _ _ _ s₀ _ ((compTurn (.GeneratorExp elt [⟨tg, iter, ifs, 0⟩] scope pos) 0 (.ref it) .none cenv).onRaise (leaving cenv)) [] s
    rw [compTurn_gen, Sem.onRaise_eq_wrap]
    refine seg_bind_wrap (wpAny_standAt ?_)
    obtain ⟨_, hstop⟩ := io _ H' (G.mono hl) so.live
    have hlen : ts.length ≤ i := by
      have := congrArg List.length hd
      rw [List.length_drop, List.length_nil] at this
      omega
    have td := Tu.done (gCx X (A.deeper cenv) s0 H0 cenv fp [(a, og)]) rfl rfl rfl hc i [(D, accO acc ta ca)] s _ H' (fun _ _ => False) I (stat I nf) tnS (hstop i hlen)
    refine seg_bind_wrap (wpAny_mono td (fun r' s6 ⟨hr, I6⟩ => ?_) fun _ _ z => z.elim)
    subst hr
    unfold intsL at hm
    cases hm
    obtain ⟨hDo6, hDn6⟩ := getP (pl := []) I6
    refine seg_end (.ok .next) (.inl ⟨.inr rfl, ?_, fun o ho => ?_, fun h' t hk => ?_⟩)
    · rw [← hn]; rfl
    · have := hD00 o ho
      rw [hDo] at this
      cases this
      exact hDo6
    · exact hfin _ _ _ (((I6.unpinned (pins := [])).kept (t' := s6.toks) hk).gens (allBare_setGen I6.bare rfl)) nf G so t
  | cons t ts' ih =>
    intro i j n ks' s₀ s H' μ2 hd hkd hn hDn ⟨acc, ta, ca, hDo⟩ hD00 I0 tnS nf G so hm hg
    have I := addP I0 hDn hDo (fun v z => by cases z)
    show Seg _ A _ _ _ s₀ _ ((compTurn (.GeneratorExp elt [⟨tg, iter, ifs, 0⟩] scope pos) 0 (.ref it) .none cenv).onRaise (leaving cenv)) [] s
    rw [compTurn_gen, Sem.onRaise_eq_wrap]
    refine seg_bind_wrap (wpAny_standAt ?_)
    obtain ⟨hgo, _⟩ := io _ H' (G.mono hl) so.live
    have hlt : i < ts.length := by
      have := congrArg List.length hd
      rw [List.length_drop, List.length_cons] at this
      omega
    have hti : ts[i]? = some t := by
      rw [List.drop_eq_getElem_cons hlt] at hd
      rw [List.getElem?_eq_getElem hlt, (List.cons.inj hd).1]
    have hd1 : ts.drop (i + 1) = ts' := by
      rw [List.drop_eq_getElem_cons hlt] at hd
      exact (List.cons.inj hd).2
    obtain ⟨h1, h2⟩ := hgo i t hti
    have ti := Tu.item (gCx X (A.deeper cenv) s0 H0 cenv fp [(a, og)]) rfl rfl rfl hc i [(D, accO acc ta ca)] s _ H' (fun _ _ => False) I (stat I nf) tnS h1
    refine seg_bind_wrap (GenW.wpAny_gsz (n := g + 1) hg (wpAny_mono ti (fun r' s6 ⟨u, hr, h6⟩ hz6 => ?_) fun _ _ z => z.elim))
    subst hr
    refine seg_bind_wrap (GenW.wpAny_gsz (n := g + 1) hz6 (wpAny_mono h6 (fun _ s7 ⟨x, H7, I7, r7, y7, st7, n7⟩ hz7 => ?_) fun _ _ z => z.elim))
    have I7' := I7.pinned (stat I7 n7) (Tu.obj _ _ st7)
    obtain ⟨gr, rx⟩ := h2 x H7 y7
    have g27 : Go S μ2 H' S μ2 H7 := Go.grow gr
    have so7 := so.grow gr
    have G7 : Go S μ1 H1 S μ2 H7 := G.trans hl g27
    have e7 : EnvOk R x0 S ρ μ2 σ H7 := e1.go G7 so7
    have e7w := e7.wipe vs
    unfold intsL at hm
    cases qb : b t (wipeE ρ vs) with
    | none => simp only [qb] at hm; cases hm
    | some ρ1 =>
      simp only [qb] at hm
      refine seg_bind_wrap (GenW.wpAny_gsz (n := g + 1) hz7 (wpAny_mono (pg.run _ s7 _ H7 x u (fun σ8 H8 => H8 = H7 ∧ EnvOk R x0 S ρ1 μ2 σ8 H7 ∧ Agree us (L2.wipe σ vs) σ8) I7' r7 ⟨x0, S, _, μ2, t, ρ1, e7w, .inr rx, qb, fun σ8 e8 ag => ⟨rfl, e8, ag⟩⟩) (fun _ s8 ⟨σ8, H8, I8, eH, e8, ag⟩ hz8 => ?_) fun _ _ z => z.elim))
      subst eH
      have hw8 : L2.wipe σ8 vs = L2.wipe σ vs := by
        have := wipe_agree ag hu
        rw [wipe_wipe] at this
        exact this
      have hl8 : (L2.wipe σ vs).length = σ8.length := by rw [← hw8, wipe_length]
      -- the end of a turn
      have fin : ∀ {s' : Shared} {H' : Hp}, Inv (gCx X (A.deeper cenv) s0 H0 cenv fp [(a, og)]) ([(D, accO acc ta ca)] ++ pinsAt fp s7.heap) σ8 H' s' → Inv (gCx X (A.deeper cenv) s0 H0 cenv fp [(a, og)]) [] (L2.wipe σ vs) H' s' ∧ tn (i + 1) s'.heap ∧ (∀ b ∈ fp, H' b = none) := fun {s' H'} I' => by
        have pin' : ∀ b ∈ fp, ∀ o, s7.heap.get? b = some o → s'.heap.get? b = some o ∧ H' b = none := fun b hb o e =>
          let z := I'.pin (b, o) (List.mem_append_right _ (List.mem_append_right _ (mem_pinsAt hb e)))
          ⟨z.1, z.2.1⟩
        refine ⟨(I'.unpinned (pins := [])).weak hl8 (fun j v e => ?_), Tu.keep _ _ _ st7 fun b hb o e => (pin' b hb o e).1, fun b hb => ?_⟩
        · rw [← hw8] at e
          exact (wipe_some e).1
        · obtain ⟨o, e, _⟩ := Tu.obj _ _ st7 b hb
          exact (pin' b hb o e).2
      match qc : fc ρ1 μ2 with
      | none => rw [qc] at hm; cases hm
      | some (.ex x, μ3) => rw [qc] at hm; cases hm
      | some (.ok false, μ3) =>
        rw [qc] at hm
        refine seg_bind_wrap (GenW.wpAny_gsz (n := g + 1) hz8 (wpAny_mono (pt.run _ s8 σ8 H8 (fun b' H9 => b' = false ∧ Go S μ2 H8 S μ3 H9 ∧ SOk R x0 S μ3 H9) I8 ⟨x0, S, ρ1, μ2, e8, by rw [qc]; exact fun H9 g9 s9 => ⟨rfl, g9, s9⟩⟩) (fun b' s9 ⟨H9, I9, eb, g9, so9⟩ hz9 => ?_) fun _ _ z => z.elim))
        subst eb
        simp only [Bool.false_eq_true, if_false]
        obtain ⟨J1, J2, J3⟩ := fin I9
        obtain ⟨hDo9, hDn9⟩ := getP I9
        exact seg_again rfl (ih (i + 1) j n ks' s₀ s9 H9 μ3 hd1 hkd hn hDn9 ⟨acc, ta, ca, hDo9⟩ (fun o ho => by have := hD00 o ho; rw [hDo] at this; cases this; exact hDo9) J1 J2 J3 (G7.trans hl g9) so9 hm hz9)
      | some (.ok true, μ3) =>
        rw [qc] at hm
        simp only at hm
        refine seg_bind_wrap (GenW.wpAny_gsz (n := g + 1) hz8 (wpAny_mono (pt.run _ s8 σ8 H8 (fun b' H9 => b' = true ∧ Go S μ2 H8 S μ3 H9 ∧ SOk R x0 S μ3 H9) I8 ⟨x0, S, ρ1, μ2, e8, by rw [qc]; exact fun H9 g9 s9 => ⟨rfl, g9, s9⟩⟩) (fun b' s9 ⟨H9, I9, eb, g9, so9⟩ hz9 => ?_) fun _ _ z => z.elim))
        subst eb
        simp only [if_true]
        have e9 := e8.go g9 so9
        have hy : ∀ v, yieldOut cenv v = yieldValue v := fun v => by simp only [yieldOut, hco, Bool.false_eq_true, if_false]
        simp only [hy]
        rw [Sem.bind_eq_wrap', Sem.bind_eq_wrap', Sem.wrap_wrap, Sem.wrap_wrap]
        match qe : fe ρ1 μ3 with
        | none => rw [qe] at hm; cases hm
        | some (.ex x, μ4) => rw [qe] at hm; cases hm
        | some (.ok (.int k), μ4) =>
          rw [qe] at hm
          simp only at hm
          cases qr : intsL vs b fc fe ρ ts' μ4 with
          | none => rw [qr] at hm; cases hm
          | some rr =>
            obtain ⟨ks2, μ5⟩ := rr
            rw [qr] at hm
            cases hm
            refine seg_wrap (GenW.wpAny_gsz (n := g + 1) hz9 (wpAny_mono (pe.run _ s9 σ8 H9 (fun v H10 => v = .int k ∧ Go S μ3 H9 S μ4 H10 ∧ SOk R x0 S μ4 H10) I9 ⟨x0, S, ρ1, μ3, e9, by rw [qe]; exact fun v H10 g10 s10 r10 => ⟨r10.int, g10, s10⟩⟩) (fun y s10 ⟨v, H10, I10, r10, ev, g10, so10⟩ hz10 => ?_) fun _ _ z => z.elim))
            subst ev
            obtain ⟨ty, rfl⟩ := r10
            obtain ⟨J1, J2, J3⟩ := fin I10
            obtain ⟨hDo10, hDn10⟩ := getP I10
            have G10 : Go S μ1 H1 S μ4 H10 := (G7.trans hl g9).trans hl g10
            have hn' : n = ks2.length + 1 := hn.symm
            subst hn'
            have hkj : ks[j]? = some k ∧ ks.drop (j + 1) = ks2 := by
              have hlt : j < ks.length := by
                have := congrArg List.length hkd
                rw [List.length_drop, List.length_cons] at this
                omega
              rw [List.drop_eq_getElem_cons hlt] at hkd
              exact ⟨by rw [List.getElem?_eq_getElem hlt, (List.cons.inj hkd).1], (List.cons.inj hkd).2⟩
            have hjl : ks.length - 1 - ks2.length = j := by
              have := congrArg List.length hkd
              rw [List.length_drop, List.length_cons] at this
              omega
            refine seg_at (seg_yield rfl rfl rfl ⟨k, ty, by rw [hjl]; exact hkj.1, rfl, gen I10, I10.nolimit, hz10, fun o ho => ?_, fun gs' h2 tk hb hk2 hD2 => ?_⟩)
            · have := hD00 o ho
              rw [hDo] at this
              cases this
              exact hDo10
            · have nfpD : ∀ b ∈ fp, b ≠ D := fun b hb z => hDf b hb z.symm
              have J1' : Inv (gCx X (A.deeper cenv) s0 H0 cenv fp [(a, og)]) [] (L2.wipe σ vs) H10 { s10 with heap := h2, toks := tk } := J1.turned (t' := tk) (h' := h2) (it := D) hk2 hDn10 hDL (.inr hD0) hDc (fun p hp => by
                have hp : p ∈ [(a, og)] ++ ([] : List (Addr × Obj)) := hp
                rw [List.append_nil, List.mem_singleton] at hp
                subst hp
                exact fun z => hDa z.symm)
              refine seg_again rfl (ih (i + 1) (j + 1) ks2.length ks2 _ _ H10 μ4 hd1 hkj.2 rfl hDn10 hD2 (fun o ho => ho) (J1'.gens (allBare_setGen (s := { s10.setGen g gs' with heap := h2, toks := tk }) (allBare_setGen I10.bare hb) rfl)) (Tu.keep _ _ _ J2 fun b hb o e => hk2 b o (nfpD b hb) e) J3 G10 so10 qr ?_)
              show g < (Array.setIfInBounds (Array.setIfInBounds s10.gens g gs') g .running).size
              rw [Array.size_setIfInBounds, Array.size_setIfInBounds]
              exact hz10
        | some (.ok .non, μ4) => rw [qe] at hm; cases hm
        | some (.ok (.bl _), μ4) => rw [qe] at hm; cases hm
        | some (.ok (.str _), μ4) => rw [qe] at hm; cases hm
        | some (.ok (.lst _), μ4) => rw [qe] at hm; cases hm
        | some (.ok (.tup _), μ4) => rw [qe] at hm; cases hm
        | some (.ok (.wt _), μ4) => rw [qe] at hm; cases hm
        | some (.ok (.dct _ _), μ4) => rw [qe] at hm; cases hm
        | some (.ok (.ins _ _), μ4) => rw [qe] at hm; cases hm
        | some (.ok (.sh _), μ4) => rw [qe] at hm; cases hm
end
end TL

set_option maxHeartbeats 4000000
namespace TL
open PySem PySem.Spec PyProof.Rows L2
section
variable {X : Cx} {R : RC} {W : WX} {x0 : Addr → Prop} {S : List Addr} {ρ : Env} {μ : Mu} {σ : L2.St} {H : Hp} {Q : VK} {tg elt iter : Expr} {ifs : List Expr} {scope : Scope} {p pos gpos : Pos} {vs us : List Nat} {b : TB} {fi : Env → M (List T)} {fc : Env → M Bool} {fe : Env → M T} {own : List (Str × Nat)} {k : Nat} {c P : Addr}
theorem j_sumG' {wi : TI} (hr : Room (k + 3) X.A) (hg : Gl X "sum") (hm : X.mg "sum" = none) (hc : X.calm = true) (hN : X.N.Nodup) (TB : GxR.TabB X.base X.mg c P) (TO : TabsOk R P) (hcode : X.env.code = .ref c) (ok : GenOk X.N X.env.scope scope own) (hv : own.map (·.2) = vs) (hu : ∀ i ∈ us, i ∈ vs)
    (hi : PI X tg iter wi)
    (pg : ∀ (A : Around) (s : Shared) (H : Hp) (C : Addr) (code : Value) (fp : List Addr) (pn : List (Addr × Obj)), Room k A → JB (gCx X A s H (genEnv scope (cloFrom X.env.cells scope.names []) C code builtinsNs X.env) fp pn) R tg us b)
    (pt : ∀ (A : Around) (s : Shared) (H : Hp) (C : Addr) (code : Value) (fp : List Addr) (pn : List (Addr × Obj)), Room k A → JTs (gCx X A s H (genEnv scope (cloFrom X.env.cells scope.names []) C code builtinsNs X.env) fp pn) R ifs fc)
    (pe : ∀ (A : Around) (s : Shared) (H : Hp) (C : Addr) (code : Value) (fp : List Addr) (pn : List (Addr × Obj)), Room k A → JE (gCx X A s H (genEnv scope (cloFrom X.env.cells scope.names []) C code builtinsNs X.env) fp pn) R Wf elt fe)
    (hs : ∀ v, genFold iter X.env v = pure v := by intro _; rfl)
    (he : starEach [.GeneratorExp elt [⟨tg, iter, ifs, 0⟩] scope gpos] X.env = (false, eval (.GeneratorExp elt [⟨tg, iter, ifs, 0⟩] scope gpos) X.env) :: starEach [] X.env := by rfl) :
    PE X (.Call (.Name "sum" p) [.GeneratorExp elt [⟨tg, iter, ifs, 0⟩] scope gpos] [] pos) (fun σ H Q => tEv R W (mSum vs fi b fc fe) σ H Q ∧ ∀ K, tEvI R W fi σ H K → wi σ H K) := by
  subst hv
  refine ⟨fun pins s σ H Q I ⟨h, hw⟩ => ?_⟩
  refine wpAny_Call_Name_kw (ld_blt I hg hm boot_sum ?_)
  refine PyProof.Rows.callWith_builtin1 ?_ he (by rfl)
  rw [he]
  show wpAny _ _ (spliced ((false, eval (.GeneratorExp elt [⟨tg, iter, ifs, 0⟩] scope gpos) X.env) :: backTo pos (starEach [] X.env))) _ _ s
  refine Calls.spliced_cons (gen_eval hr hc hN TB TO hcode ok hi hs I hw h fun x0 S ρ μ1 ts s3 H3 it fp tn J code h' m tk nm qn e hq I3 Tu h0 f3 io hn hsb => ?_)
  obtain ⟨ks, μe, ha, hlo, hq⟩ : ∃ ks μe, intsL (own.map (·.2)) b fc fe ρ ts μ1 = some (ks, μe) ∧ longs 0 ks = true ∧ ∀ H', Go S μ1 H3 S μe H' → SOk R x0 S μe H' → Q (.int ks.sum) H' := by
    cases qa : intsL (own.map (·.2)) b fc fe ρ ts μ1 with
    | none => simp only [qa] at hq; exact (hq : False).elim
    | some r =>
      obtain ⟨ks, μe⟩ := r
      simp only [qa] at hq
      split at hq
      · rename_i hl
        exact ⟨ks, μe, rfl, hl, fun H' g' s' => hq (.int ks.sum) H' g' s' (.inr rfl)⟩
      · exact (hq : False).elim
  refine Calls.spliced_nil ?_
  refine call_function_tree F.kind_sum F.plain_sum F.entry_sum (F.args_sum1 _) ?_
  unfold Builtin.«sum»
  simp only [List.length_cons, List.length_nil]
  rw [if_neg (by decide)]
  refine wpAny_bind (wpAny_of_eq (show Builtin.Builtins.bindParams "sum" ["start"] 0 { } = pure [none] from rfl) ?_)
  have hsz : h'.objs.size = s3.heap.objs.size + 1 := by rw [hsb.1, Heap.size_push]
  have hG : ∀ h : Heap, h.get? h'.objs.size = some { cls := .type "generator", data := .fields #[.int s3.gens.size 0, nm, qn] } → h.IsGen h'.objs.size s3.gens.size := fun h e => ⟨_, nm, qn, e, rfl, rfl, rfl⟩
  refine wpAny_bind (wpAny_pyIter_gen (hG _ (Heap.get?_push_size _ rfl)) ?_)
  refine wpAny_bind (wpAny_mkInt ?_)
  refine wpAny_bind (wpAny_pure ?_)
  simp only [List.forIn_cons, List.forIn_nil]
  refine wpAny_bind (wpAny_bind (wpAny_bind (wpAny_isInstance (T := "int") (b := false) (typeIs_int _ _ _) PySem.sub_int_str ?_)))
  simp only [Bool.false_eq_true, if_false]
  refine wpAny_pure (wpAny_bind (wpAny_bind (wpAny_isInstance (T := "int") (b := false) (typeIs_int _ _ _) PySem.sub_int_bytes ?_)))
  simp only [Bool.false_eq_true, if_false]
  refine wpAny_pure (wpAny_bind (wpAny_bind (wpAny_isInstance (T := "int") (b := false) (typeIs_int _ _ _) PySem.sub_int_bytearray ?_)))
  simp only [Bool.false_eq_true, if_false]
  refine wpAny_pure (wpAny_pure ?_)
  refine wpAny_bind (wpAny_newObj_type ?_)
  refine wpAny_pure ⟨plainId_quiet F.plain_sum_loop _, ?_⟩
  -- the generator's frame, its object, the list of the sum
  have hA : X.A.in1.in1.handled = none := hr.hd
  have hF : X.A.in1.in1.frames = some X.stack := I3.ok.frames
  have hdp := hr.dp
  have hR : ∀ env, Room k (X.A.in1.in1.deeper env) := fun env => ((hr.in1).in1).deeper env
  have kp5 : ∀ b o, s3.heap.get? b = some o → (h'.push { cls := .type "generator", data := .fields #[.int s3.gens.size 0, nm, qn] }).get? b = some o := fun b o e => Heap.get?_push_of_some _ (hsb.extBut b o (Nat.ne_of_lt (Heap.lt_size e)) (Heap.get?_push_of_some _ e))
  have Ig := gen_start (A := X.A.in1.in1.deeper (genEnv scope (cloFrom X.env.cells scope.names []) s3.heap.objs.size code builtinsNs X.env)) (code := code) (bi := builtinsNs) (og := { cls := .type "generator", data := .fields #[.int s3.gens.size 0, nm, qn] })
    (gs := (s3.gens.push (.fresh (.compStart (.GeneratorExp elt [⟨tg, iter, ifs, 0⟩] scope gpos) 0 (.ref it) .none (genEnv scope (cloFrom X.env.cells scope.names []) s3.heap.objs.size code builtinsNs X.env)))).setIfInBounds s3.gens.size .running) (tk := tk) I3 ok hN f3 hA (by show X.A.frames.map _ = _; rw [I3.ok.frames]; rfl) rfl hn hsb rfl (fun v z => by cases z)
    (allBare_setGen (s := { s3 with gens := s3.gens.push _ }) (I3.bare.push rfl) rfl)
  have hsz5 : (h'.push { cls := .type "generator", data := .fields #[.int s3.gens.size 0, nm, qn] }).objs.size = s3.heap.objs.size + 2 := by rw [Heap.size_push, hsz]
  have hcst : cStatics < s3.heap.objs.size := let ⟨_, hns, _⟩ := I3.nolimit; hns.lt
  have lim5 := Ig.nolimit
  have cm : ∀ x c, (genEnv scope (cloFrom X.env.cells scope.names []) s3.heap.objs.size code builtinsNs X.env).cells.lookup x = some c → c < s3.heap.objs.size := fun x c e => by
    rcases cloFrom_mem (PySem.mem_of_lookup e) with hm | ⟨h1, rfl⟩
    · cases hm
    · rcases ok.free _ h1 rfl with k | k
      · obtain ⟨c, hc⟩ := I3.ok.has _ (.inl k)
        obtain ⟨w, z⟩ := I3.cell _ _ hc
        rw [hc]
        exact z.lt
      · obtain ⟨c, hc⟩ := I3.ok.has _ (.inr k)
        obtain ⟨w, z⟩ := I3.cell _ _ hc
        rw [hc]
        exact z.lt
  refine sum_drain (ks := ks) (g := s3.gens.size) hr.hd (by omega) ?_ ?_ ks.length 0 0 _ _ _ (Nat.sub_zero _) (Nat.zero_le _) (by rw [List.drop_zero]; exact hlo) (by rw [List.drop_zero]; omega) (Heap.get?_push_size _ rfl) (hG _ (Heap.get?_push_of_some _ (Heap.get?_push_size _ rfl))) (lim5.push _) ⟨_, Array.getElem?_push_size .., rfl, ?_⟩
  · show (h'.push _).objs.size ≠ h'.objs.size
    rw [Heap.size_push]
    exact Nat.succ_ne_self _
  · exact fun z => by
      have : (h'.push { cls := .type "generator", data := .fields #[.int s3.gens.size 0, nm, qn] }).objs.size = cStatics := z
      rw [hsz5] at this
      rw [← this] at hcst
      exact absurd hcst (Nat.not_lt.mpr (Nat.le_add_right _ 2))
  · have kp6 : ∀ (o : Obj) b u, s3.heap.get? b = some u → ((h'.push { cls := .type "generator", data := .fields #[.int s3.gens.size 0, nm, qn] }).push o).get? b = some u := fun o b u e => Heap.get?_push_of_some _ (kp5 b u e)
    refine seg_start Tu (Tu.keep _ _ _ h0 fun b _ o e => kp6 _ b o e) ?_
    refine seg_sum (H1 := H3) (σ := σ) (s0 := s3) (H0 := H3) hA hc Tu (fun b hb z => by have := (f3 b hb).2; rw [z, hsz] at this; exact Nat.lt_irrefl _ (Nat.lt_of_succ_lt this)) io e.so.len e hu ?_ ?_ ?_ ?_ ?_ ?_ hG ok.co (fun v z => by cases z) (pg _ _ _ _ _ _ _ (hR _)) (pt _ _ _ _ _ _ _ (hR _)) (pe _ _ _ _ _ _ _ (hR _)) (fun σ' H' s' I' nf g' so' t => ?_)
      ts 0 0 ks.length ks _ _ H3 μ1 List.drop_zero List.drop_zero rfl ?_ ⟨0, _, _, Heap.get?_push_size _ rfl⟩ (fun o ho => ho) (Ig.kept (fun b o e => Heap.get?_push_of_some _ e)) (Tu.keep _ _ _ h0 fun b _ o e => kp6 _ b o e) (fun b hb => (f3 b hb).1.1) (Go.refl _ _ _) e.so ha ?_
    · show (h'.push _).objs.size ≠ h'.objs.size
      rw [Heap.size_push]
      exact Nat.succ_ne_self _
    · intro b hb z
      have h1 := (f3 b hb).2
      rw [← z, hsz5] at h1
      exact absurd h1 (Nat.not_lt.mpr (Nat.le_add_right _ 2))
    · show (h'.push _).objs.size ≠ s3.heap.objs.size
      rw [hsz5]
      exact Nat.ne_of_gt (Nat.lt_of_lt_of_le (Nat.lt_succ_self _) (Nat.le_succ _))
    · intro z
      rcases List.mem_cons.mp (I3.stkSub _ z) with z | z
      · have h1 := I3.lt
        rw [← z, hsz5] at h1
        exact absurd h1 (Nat.not_lt.mpr (Nat.le_add_right _ 2))
      · exact I3.nofs (by rw [hsz5]; exact Nat.le_add_right _ 2) z
    · rw [hsz5]
      exact Nat.le_add_right _ 2
    · intro x c e z
      have h1 := cm x c e
      rw [z, hsz5] at h1
      exact absurd h1 (Nat.not_lt.mpr (Nat.le_add_right _ 2))
    · exact ⟨.int ks.sum, H', I3.call' (ch := fp) I'.os I'.base I'.hok I'.bare fun b hb => ⟨(f3 b hb).1.2.2.2.1, (f3 b hb).1.2.1, (f3 b hb).1.2.2.2.2.1, (f3 b hb).1.2.2.2.2.2⟩, ⟨t, rfl⟩, hq H' g' so'⟩
    · exact I3.hok.fresh (by rw [hsz5]; exact Nat.le_add_right _ 2)
    · show s3.gens.size < (Array.setIfInBounds (s3.gens.push _) _ _).size
      rw [Array.size_setIfInBounds, Array.size_push]
      exact Nat.lt_succ_self _
theorem j_sumG (hr : Room (k + 3) X.A) (hg : Gl X "sum") (hm : X.mg "sum" = none) (hc : X.calm = true) (hN : X.N.Nodup) (TB : GxR.TabB X.base X.mg c P) (TO : TabsOk R P) (hcode : X.env.code = .ref c) (ok : GenOk X.N X.env.scope scope own) (hv : own.map (·.2) = vs) (hu : ∀ i ∈ us, i ∈ vs)
    (hi : JI X R W tg iter fi)
    (pg : ∀ (A : Around) (s : Shared) (H : Hp) (C : Addr) (code : Value) (fp : List Addr) (pn : List (Addr × Obj)), Room k A → JB (gCx X A s H (genEnv scope (cloFrom X.env.cells scope.names []) C code builtinsNs X.env) fp pn) R tg us b)
    (pt : ∀ (A : Around) (s : Shared) (H : Hp) (C : Addr) (code : Value) (fp : List Addr) (pn : List (Addr × Obj)), Room k A → JTs (gCx X A s H (genEnv scope (cloFrom X.env.cells scope.names []) C code builtinsNs X.env) fp pn) R ifs fc)
    (pe : ∀ (A : Around) (s : Shared) (H : Hp) (C : Addr) (code : Value) (fp : List Addr) (pn : List (Addr × Obj)), Room k A → JE (gCx X A s H (genEnv scope (cloFrom X.env.cells scope.names []) C code builtinsNs X.env) fp pn) R Wf elt fe)
    (hs : ∀ v, genFold iter X.env v = pure v := by intro _; rfl)
    (he : starEach [.GeneratorExp elt [⟨tg, iter, ifs, 0⟩] scope gpos] X.env = (false, eval (.GeneratorExp elt [⟨tg, iter, ifs, 0⟩] scope gpos) X.env) :: starEach [] X.env := by rfl) :
    JE X R W (.Call (.Name "sum" p) [.GeneratorExp elt [⟨tg, iter, ifs, 0⟩] scope gpos] [] pos) (mSum vs fi b fc fe) := (j_sumG' hr hg hm hc hN TB TO hcode ok hv hu hi pg pt pe hs he).imp fun _ _ _ h => ⟨h, fun _ z => z⟩
end
end TL

set_option maxHeartbeats 4000000
namespace TL
open PySem PySem.Spec PyProof.Rows L2

/-- what is said of tables: gs are those of generator expressions, ls those of lambdas with their names -/
def TabR (gs : List Addr) (ls : List (Addr × Str)) (H : Hp) : Prop := (∀ P ∈ gs, GxR.TabG H P) ∧ LamX.Tabs ls H
theorem TabR.keep {gs : List Addr} {ls : List (Addr × Str)} (H H' : Hp) (t : TabR gs ls H) (h1 : ∀ a ps, H a = some (.tbl ps) → H' a = some (.tbl ps)) (h2 : ∀ a φ, H a = some (.ext φ) → H' a = some (.ext φ)) : TabR gs ls H' := by
  refine ⟨fun P hP => ?_, fun p hp => ?_⟩
  · obtain ⟨ps, e, ok⟩ := t.1 P hP
    exact ⟨ps, h1 _ _ e, ok⟩
  · obtain ⟨ps, e, ok, hc⟩ := t.2 p hp
    refine ⟨ps, h1 _ _ e, ok, fun pos cv h => ?_⟩
    obtain ⟨c, e1, e2⟩ := hc pos cv h
    exact ⟨c, e1, h2 _ _ e2⟩
theorem TabR.okG {K : PySem.W.Frag} {cls : Str → Option Addr} {ei : ∀ c C, cls c = some C → EqI K C} {gs : List Addr} {ls : List (Addr × Str)} {P : Addr} (hP : P ∈ gs) (hn : ∀ p ∈ ls, p.1 ≠ P) : TabsOk ⟨K, cls, TabR gs ls, TabR.keep, ei⟩ P where
  get := fun H t => t.1 P hP
  put := fun H ps t ok => by
    refine ⟨fun P' hP' => ?_, fun p hp => ?_⟩
    · by_cases e : P' = P
      · subst e
        exact ⟨ps, upd_same, ok⟩
      · obtain ⟨ps', e1, ok'⟩ := t.1 P' hP'
        exact ⟨ps', by rw [upd_ne e]; exact e1, ok'⟩
    · obtain ⟨ps', e1, ok', hc⟩ := t.2 p hp
      obtain ⟨ps0, e0, _⟩ := t.1 P hP
      refine ⟨ps', by rw [upd_ne (hn p hp)]; exact e1, ok', fun pos cv h => ?_⟩
      obtain ⟨c, e2, e3⟩ := hc pos cv h
      exact ⟨c, e2, by rw [upd_ne (fun z => by rw [z, e0] at e3; cases e3)]; exact e3⟩
/-- told: the name of the exception's class, by the clauses -/
def mTold (l : List (Str × Str)) (f : Env → M T) : Env → M T := fun ρ μ => match f ρ μ with
  | none => none
  | some (.ok t, μ') => some (.ok t, μ')
  | some (.ex x, μ') => match l.lookup x.cls with
    | some s => some (.ok (.str s), μ')
    | none => none
/-- what a lambda's making may change -/
structure LamK (ls : List (Addr × Str)) (P : Addr) (H H1 : Hp) : Prop where
  keep : ∀ b o, H b = some o → b ≠ P → H1 b = some o
  at_ : H1 P ≠ none
  tabs : LamX.Tabs ls H1
section
variable {X : Cx} {pins : List (Addr × Obj)} {σ : L2.St} {H : Hp} {s : Shared}
/-- a lambda without parameters: a function object f, its code object c' -/
theorem lam_mk {ls : List (Addr × Str)} {c P : Addr} {q : Str} {params : Arguments} {body : Expr} {scope : Scope} {pos : Pos} {Q : Value → Shared → Prop} (I : Inv X pins σ H s) (TB : LamX.TabB X.base X.mg c P) (hcode : X.env.code = .ref c) (hq : q = X.env.qual ++ "<lambda>")
    (hm : (P, q) ∈ ls) (hu : ∀ p ∈ ls, p.1 = P → p.2 = q) (hT : LamX.Tabs ls H) (hdef : defaultsOf params X.env = ([], [])) (hfree : ∀ y ∈ scope.names, y.2 = .free → ∃ c, X.env.cells.lookup y.1 = some c)
    (go : ∀ (f c' : Addr) (pm ctv : Value) (H1 : Hp) (s' : Shared), Inv X pins σ H1 s' → LamK ls P H H1 → s'.heap.get? f = some (PySem.W.kla_obj "<lambda>" q params body scope (cloFrom X.env.cells scope.names []) pm c' ctv) → H1 f = none → f ∉ frs X.stack → H1 c' = some (LamX.CodeO c' q) → Q (.ref f) s') :
    wpAny (model X.prog X.w) X.A (eval (.Lambda params body scope pos) X.env) Q X.xe s := by
  subst hq
  obtain ⟨ps, eP, tri, names⟩ := hT _ hm
  have oP := I.hok P _ eP
  have fresh : ∀ f, s.heap.objs.size ≤ f → f ∉ frs X.stack := fun f hf z => by
    rcases List.mem_cons.mp (I.stkSub _ z) with e | e
    · subst e
      exact absurd I.lt (Nat.not_lt.mpr hf)
    · exact I.nofs hf e
  have codeNe : ∀ {c0 : Addr}, H c0 = some (LamX.CodeO c0 (X.env.qual ++ "<lambda>")) → c0 ≠ P := fun {c0} e z => by
    subst z
    rw [eP] at e
    cases e
  refine PySem.W.kla_eval hdef ?_
  cases hc : codeAmong pos ps.toList with
  | some cv =>
    obtain ⟨c', rfl, hco⟩ := names pos cv hc
    refine PySem.W.kla_makeFunctionHit (closure_ok hfree) I.ok.glob (I.mod.glob.keeps I.bk) hcode (TB.code.keeps I.bk) oP tri hc (TB.bm.keeps I.bk) fun ctv h' tk kept big => ?_
    exact go _ c' _ ctv H _ (I.kept fun b o e => Heap.get?_push_of_some _ (kept b o e)) ⟨fun _ _ h _ => h, by rw [eP]; simp, hT⟩ (Heap.get?_push_size _ rfl) (I.hok.fresh big) (fresh _ big) hco
  | none =>
    refine PySem.W.kla_makeFunction (closure_ok hfree) I.ok.glob (I.mod.glob.keeps I.bk) hcode (TB.code.keeps I.bk) oP tri hc TB.gP (TB.bm.keeps I.bk) fun c' ctv h' tk kept lo hi rec newP => ?_
    obtain ⟨_, oc, vs, t, ec, hoc, hd, hv⟩ := rec
    cases ec
    have big : s.heap.objs.size ≤ h'.objs.size := Nat.le_trans lo (Nat.le_of_lt hi)
    have none' : H c' = none := I.hok.fresh lo
    have cP : P ≠ c' := fun z => by rw [z, none'] at eP; cases eP
    refine go h'.objs.size c' _ ctv _ _ (LamX.inv_table (t' := tk) I eP (fun b o hb e => Heap.get?_push_of_some _ (kept b o hb e)) (Heap.get?_push_of_some _ newP) lo ⟨oc, vs, t, Heap.get?_push_of_some _ hoc, hd, hv⟩) ⟨fun b o e hb => ?_, ?_, fun p hp => ?_⟩ (Heap.get?_push_size _ rfl) ?_ (fresh _ big) upd_same
    · rw [upd_ne (ne_of_none e none'), upd_ne hb]
      exact e
    · rw [upd_ne cP, upd_same]
      simp
    · by_cases hb : p.1 = P
      · refine ⟨_, by rw [hb, upd_ne cP, upd_same], ?_, fun pos' cv h => ?_⟩
        · rw [Array.toList_append]
          exact PySem.TriplesOk_snoc _ _ _ _ tri
        · rw [Array.toList_append] at h
          rw [hu p hp hb]
          rcases LamX.among_app _ tri h with z | z
          · obtain ⟨c0, e1, e2⟩ := names pos' cv z
            exact ⟨c0, e1, by rw [upd_ne (ne_of_none e2 none'), upd_ne (codeNe e2)]; exact e2⟩
          · exact ⟨c', z, upd_same⟩
      · obtain ⟨ps', e1, ok', hc'⟩ := hT p hp
        refine ⟨ps', by rw [upd_ne (ne_of_none e1 none'), upd_ne hb]; exact e1, ok', fun pos' cv h => ?_⟩
        obtain ⟨c0, e2, e3⟩ := hc' pos' cv h
        exact ⟨c0, e2, by rw [upd_ne (ne_of_none e3 none'), upd_ne (fun z => by rw [z, eP] at e3; cases e3)]; exact e3⟩
    · rw [upd_ne (Nat.ne_of_gt hi), upd_ne (Nat.ne_of_gt (Nat.lt_of_lt_of_le (ObjOk.lt oP) big))]
      exact I.hok.fresh big
end
end TL

set_option maxHeartbeats 4000000
namespace TL
open PySem PySem.Spec PyProof.Rows L2

/-- except N: return 's', one after another -/
inductive HdStr (mg : Str → Option Value) (sc : Scope) : List ExceptHandler → List (Addr × Str) → Prop
  | nil : HdStr mg sc [] []
  | cons {e s : Str} {C : Addr} {hds : List ExceptHandler} {l : List (Addr × Str)} {j : Nat} {p1 p2 p3 p4 : Pos} (hg : sc.names.lookup e = some .globalImplicit) (hm : mg e = some (.ref C)) (hd : (e == ("__debug__" : Str)) = false) (r : HdStr mg sc hds l) :
      HdStr mg sc (.ExceptHandler (some (.Name e p1)) none [.Return (some (.Constant (.str s) j p2)) p3] p4 :: hds) ((C, s) :: l)
def hMany (K : PySem.W.Frag) : List (Addr × Str) → Value → (Str → Prop) → Prop
  | [], _, _ => False
  | (C, s) :: l, cls, q => ∃ b, PySem.W.exmOne K cls (.ref C) = some b ∧ (b = true → q s) ∧ (b = false → hMany K l cls q)
def hdTs : List (Addr × Str) → List (Value × (Addr → Value → Option Addr → TS)) := List.map fun p => (.ref p.1, fun _ _ _ => tRet (tC (.str p.2)))
theorem hMany_w {K : PySem.W.Frag} {D : Ends} {σ : L2.St} {H : Hp} {cls : Value} {d : Option Addr} : ∀ {l : List (Addr × Str)}, hMany K l cls (fun s => D.rt (.str s) H) → wMany K (fun _ _ _ _ => False) D (hdTs l) cls d σ H
  | [], h => h
  | (C, s) :: l, ⟨b, h1, h2, h3⟩ => ⟨b, h1, fun hb a _ => h2 hb, fun hb => hMany_w (h3 hb)⟩
theorem hds_ok {X : Cx} {hds : List ExceptHandler} {l : List (Addr × Str)} (h : HdStr X.mg X.env.scope hds l) : HdsOk X hds (hdTs l) := by
  induction h with
  | nil => exact .nil
  | cons hg hm hd r ih => exact .cons ⟨hg, hd, .inl hm⟩ (fun a oe cls d pn _ _ => pss_one (ps_ret pe_str)) ih
/-- the clauses' names and their classes -/
inductive ClsOk (R : RC) : List (Str × Str) → List (Addr × Str) → Prop
  | nil : ClsOk R [] []
  | cons {n s : Str} {C : Addr} {l : List (Str × Str)} {lC : List (Addr × Str)} (h : R.cls n = some C) (r : ClsOk R l lC) : ClsOk R ((n, s) :: l) ((C, s) :: lC)
theorem hMany_at {K : PySem.W.Frag} {R : RC} {n s : Str} {C : Addr} {q : Str → Prop} {l : List (Str × Str)} {lC : List (Addr × Str)} (h : ClsOk R l lC) (hx : ∀ n1 s1 C1, (n1, s1) ∈ l → R.cls n1 = some C1 → PySem.W.exmOne K (.ref C) (.ref C1) = some (decide (n = n1))) (hl : l.lookup n = some s) (hq : q s) : hMany K lC (.ref C) q := by
  induction h with
  | nil => cases hl
  | @cons n1 s1 C1 l lC hc r ih =>
    refine ⟨decide (n = n1), hx n1 s1 C1 List.mem_cons_self hc, fun hb => ?_, fun hb => ih (fun n2 s2 C2 hm => hx n2 s2 C2 (List.mem_cons_of_mem _ hm)) ?_⟩
    · have e : n = n1 := of_decide_eq_true hb
      subst e
      simp only [List.lookup, BEq.rfl] at hl
      cases hl
      exact hq
    · have e : ¬ n = n1 := of_decide_eq_false hb
      have e2 : (n == n1) = false := beq_eq_false_iff_ne.mpr e
      simp only [List.lookup, e2] at hl
      exact hl
theorem lookup_mem {n s : Str} : ∀ {l : List (Str × Str)}, l.lookup n = some s → (n, s) ∈ l
  | [], h => by cases h
  | (m, t) :: l, h => by
    simp only [List.lookup] at h
    split at h
    · rename_i e
      cases h
      rw [eq_of_beq e]
      exact List.mem_cons_self
    · exact List.mem_cons_of_mem _ (lookup_mem h)
section
variable {X : Cx} {R : RC} {W : WX}
/-- what the def told must be -/
structure ToldOk (X : Cx) (R : RC) (x a : Str) (sT : Stmt) (l : List (Str × Str)) : Prop where
  fn : ∃ g fd, X.mg x = some (.ref g) ∧ Fun X.K x x sT g fd ∧ L2.Binds X.K fd [a] []
  sc : ∃ Ng, FnScope Ng [a] (defScope sT) ∧ Ng[0]? = some a
  vis : Vis (defScope sT) a
  ad : (a == ("__debug__" : Str)) = false
  ac : (a == ("__classdict__" : Str)) = false
  body : ∃ h₀ hds lC p1 p2 p3 p8, defBody sT = [.Try [.Return (some (.Call (.Name a p1) [] [] p2)) p3] (h₀ :: hds) [] [] p8] ∧ HdStr X.mg (defScope sT) (h₀ :: hds) lC ∧ ClsOk R l lC
  exm : ∀ n s n1 s1 C C1, (n, s) ∈ l → (n1, s1) ∈ l → R.cls n = some C → R.cls n1 = some C1 → PySem.W.exmOne X.K (.ref C) (.ref C1) = some (decide (n = n1))
theorem j_told {x a : Str} {sT : Stmt} {l : List (Str × Str)} {ls : List (Addr × Str)} {c P : Addr} {k : Nat} {params : Arguments} {body : Expr} {scope : Scope} {fb : Env → M T} {p lpos pos : Pos} (O : ToldOk X R x a sT l) (hg : Gl X x)
    (hTab : ∀ H, R.Tab H → LamX.Tabs ls H) (hTab' : ∀ H H1, R.Tab H → LamK ls P H H1 → R.Tab H1) (TB : LamX.TabB X.base X.mg c P) (hcode : X.env.code = .ref c) (hm : (P, X.env.qual ++ "<lambda>") ∈ ls) (hu : ∀ p ∈ ls, p.1 = P → p.2 = X.env.qual ++ "<lambda>") (hr : Room (k + 2) X.A) (L : LamX.LamS X.env.scope scope)
    (hfb : ∀ (A : Around) (outer : List PySem.Env) (s : Shared) (H : Hp) (E : XK) (f c' : Addr), Room k (A.deeper (LamX.lamEnv X scope s.heap.objs.size f c')) → JE (LamX.lamCx X A outer s H E scope f c') R (fun cls d _ H' => E cls d H') body fb)
    (hdef : defaultsOf params X.env = ([], []) := by rfl) (hbind : ∀ (q : Str) (cl : List (Str × Addr)) (pm cv ctv : Value), bindArgs (PySem.W.kla_fn "<lambda>" q params body scope cl pm cv ctv) ⟨[], []⟩ = pure [] := by intros; rfl) (hdb : (x == ("__debug__" : Str)) = false := by decide) :
    JE X R W (.Call (.Name x p) [.Lambda params body scope lpos] [] pos) (mTold l fb) := by
  obtain ⟨g, fd, hmx, F, hb⟩ := O.fn
  obtain ⟨oc, od, kV, doc, pm0, an, cdv, ct, osl, rfl, lk, hcg⟩ := F.ex
  obtain ⟨Ng, Sg, hNg⟩ := O.sc
  obtain ⟨h₀, hds, lC, p1, p2, p3, p8, eb, hH, hC⟩ := O.body
  refine ⟨fun pins s σ H Q I h => ?_⟩
  obtain ⟨x0, S, ρ, μ, e, km⟩ := h
  refine wpAny_Call_Name_kw (ld_glob I hg hmx ?_ hdb)
  refine PySem.W.callWith_K (h₀ := X.base) I.ok.mod.kin F.kp ?_ (by rfl) (by rfl)
  show wpAny _ _ (spliced ((false, eval (.Lambda params body scope lpos) X.env) :: backTo pos (starEach [] X.env))) _ _ s
  refine Calls.spliced_cons (lam_mk I TB hcode rfl hm hu (hTab H e.so.tab) hdef (L.has I.ok) fun f c' pm ctv H1 s' I1 lk1 hf hfn hfr hco => ?_)
  refine Calls.spliced_nil ⟨I1.kIn, ?_⟩
  have kp : Keeps H H1 := ⟨fun b o hb ht => lk1.keep b o hb (fun z => by
      obtain ⟨ps, eP, _⟩ := hTab H e.so.tab _ hm
      rw [z, eP] at hb
      cases hb
      exact ht ps rfl), fun b hb => by
      by_cases z : b = P
      · subst z; exact lk1.at_
      · cases q : H b with
        | none => exact absurd q hb
        | some o => rw [lk1.keep b o q z]; simp⟩
  have G : Go S μ H S μ H1 := kp.go
  have e1 : EnvOk R x0 S ρ μ σ H1 := e.go G (e.so.keeps kp (hTab' _ _ e.so.tab lk1))
  have km1 := Post.shift G e.so.len km
  have rc : codeAny (model X.prog X.w) X.A (.call (.ref g) ⟨[.ref f], []⟩) (CR C8.CX0 X.stack X.prog X.w H1 s' Q C8.E0) s' := by
    refine LamX.run_ofS (N := Ng) (ps := [a]) (us := [.ref f]) (vs := [.ref f]) lk hcg Sg hr I1.env0 (hb s' [.ref f] I1.kIn rfl) (.cons rfl .nil) rfl fun hr' => ?_
    rw [eb]
    refine ⟨_, PSs.nox (pss_one (ps_try_many (X := (cxOf C8.CX0 X.prog X.w X.K X.mg X.base Ng x (defScope sT) g cdv X.A X.stack s' H1 C8.E0).nox) (l := hdTs lC) (Wout := fun _ _ _ _ => False)
      (tb := fun W' D σZ HZ => ∃ Ech : XK, (∀ cls d σ' H', Ech cls d H' → W' cls d σ' H') ∧ σZ[0]? = some (some (.ref f)) ∧ HZ c' = some (LamX.CodeO c' (X.env.qual ++ "<lambda>")) ∧ tEv R (fun cls d _ H' => Ech cls d H') fb σ HZ D.rt)
      rfl rfl takes_none5 (fun W' pn xe tk _ => ?_) (hds_ok hH))), ?_⟩
    · refine ⟨fun pins' s2 σ' H' D I' h' => ?_⟩
      obtain ⟨Ech, hW, h1, h2, h3⟩ := h'
      have hp := LamX.pe_act (i := 0) (CXg := C8.CX0) (Eg := C8.E0) (p1 := p1) (p2 := p2) (tb := tEv R (fun cls d _ H' => Ech cls d H') fb) I1 L hf hfn hfr (hbind _ _ _ _ _) tk hW hr' (fun A outer s H hr2 => hfb A outer s H Ech f c' hr2) hNg O.vis O.ad O.ac
      exact (pss_one (ps_ret (pos := p3) hp)).run pins' s2 σ' H' D I' ⟨h1, h2, h3⟩
    · refine ⟨fun cls _ H' => hMany X.K lC cls (fun s => Q (.str s) H'), fun cls d σ' H' hh => hMany_w hh, ?_, hco, x0, S, ρ, μ, e1, ?_⟩
      · show (L2.start Ng [V.ref f])[0]? = _
        rfl
      · unfold mTold at km1
        match q : fb ρ μ with
        | none => rw [q] at km1; exact km1
        | some (.ok t, μ') => rw [q] at km1; exact km1
        | some (.ex xx, μ') =>
          rw [q] at km1
          intro cls d H' g' s'' r
          cases ql : l.lookup xx.cls with
          | none => simp only [ql] at km1; exact (km1 : False).elim
          | some str =>
            simp only [ql] at km1
            obtain ⟨C, rfl, hC1, _⟩ := r
            exact hMany_at hC (fun n1 s1 C1 hm1 h1 => O.exm _ _ n1 s1 C C1 (lookup_mem ql) hm1 hC1 h1) ql (km1 (.str str) H' g' s'' (.inr rfl))
  refine wpAny_call (codeAny_mono rc fun r s2 hq => ?_)
  cases r with
  | error e => exact (show False from hq).elim
  | ok fl =>
    cases fl with
    | ret u => exact I1.after hq
    | next => exact False.elim hq
    | brk => exact False.elim hq
    | cont => exact False.elim hq
end
end TL

set_option maxHeartbeats 4000000
namespace TL
open PySem PySem.Spec PyProof.Rows L2

section
variable {X : Cx} {R : RC} {W : WX} {x0 : Addr → Prop} {S S' S1 S2 : List Addr} {ρ ρ' : Env} {μ μ' μ1 μ2 : Mu} {σ σ' : L2.St} {H H' H1 H2 : Hp} {t : T} {v : V} {Q : VK} {P np k q n : Nat} {g : FM} {D : Ends} {f f' : Sm} {st : Stmt} {sts : List Stmt} {pos p apos tpos : Pos} {x : Str} {e e2 e3 tg elt iter : Expr} {es ifs : List Expr} {fs : Env → M (List T)} {fa fo fv fe : Env → M T} {a : Addr} {o o' : MO} {b : TB} {bs : TBs} {vs us : List Nat}
/-- x[i] = v of a list -/
def mSubL (P : Nat) (fo fi fv : Env → M T) : Sm := fun ρ => eM (fv ρ) fun v => eM (fo ρ) fun o => eM (fi ρ) fun i => eM (keepT P v) fun y μ => match liveL μ o, i with
  | some (n, ts), .int k => (match ixN ts.length k with
    | some j => some (.nx ρ, μ.set n (.lst (ts.set j y), true))
    | none => none)
  | _, _ => none
theorem Reps.set {ex : Addr → Prop} {t : T} {x : V} : ∀ {ts : List T} {xs : List V} (j : Nat), Reps R ex H ts xs → Rep R ex H t x → Reps R ex H (ts.set j t) (xs.set j x)
  | [], _, j, h, _ => by cases h; rfl
  | u :: us, _, 0, h, r => by obtain ⟨y, rr, rfl, h1, h2⟩ := h; exact ⟨x, rr, rfl, r, h2⟩
  | u :: us, _, j + 1, h, r => by obtain ⟨y, rr, rfl, h1, h2⟩ := h; exact ⟨y, _, rfl, h1, Reps.set j h2 r⟩
theorem js_subL {fi : Env → M T} (ho : JE X R W e fo) (hi : JE X R W e2 fi) (hv : JE X R W e3 fv)
    (ha : ∀ v, assign (.Subscript e e2 tpos) X.env v = (do
      let ov ← holding [v] (eval e X.env)
      let iv ← holding [v, ov] (eval e2 X.env)
      standAt tpos
      holding [v, ov, iv] (setItem ov iv v)
      release [v, ov, iv] []) := by intro _; rfl)
    (hs : swapsWithSole [.Subscript e e2 tpos] e3 pos.line X.env = pure false := by rfl) (hw : swappedStores [.Subscript e e2 tpos] e3 X.env = pure none := by rfl)
    (h1 : (assignEach [.Subscript e e2 tpos] X.env).map (·.2) = [assign (.Subscript e e2 tpos) X.env] := by rfl) : JS X R W (.Assign [.Subscript e e2 tpos] e3 pos) (mSubL P fo fi fv) :=
  (ps_asg hv (pg_sub ho hi set_list ha) hs hw h1).imp fun D σ H ⟨x0, S, ρ, μ, e, k⟩ => by
    refine ⟨x0, S, ρ, μ, e, (PostS.bind e k).imp fun y H1 ⟨ty, μ1, g1, e1, r1, k1⟩ => ?_⟩
    refine ⟨x0, S, ρ, μ1, e1, (PostS.bind e1 k1).imp fun ov H2 ⟨to, μ2, g2, e2, r2, k2⟩ => ?_⟩
    refine ⟨x0, S, ρ, μ2, e2, (PostS.bind e2 k2).imp fun iv H3 ⟨ti, μ3, g3, e3, r3, k3⟩ => ?_⟩
    obtain ⟨t', μ4, g4, e4, r4, k4⟩ := PostS.keep e3 (g3.v e2.so.len (g2.v e1.so.len r1)) k3
    have r2' := g4.v e3.so.len (g3.v e2.so.len r2)
    cases ql : liveL μ4 to with
    | none => simp only [ql] at k4; exact (k4 : False).elim
    | some nt =>
      obtain ⟨n, ts⟩ := nt
      cases ti with
      | int i =>
        simp only [ql] at k4
        cases qi : ixN ts.length i with
        | none => simp only [qi] at k4; exact (k4 : False).elim
        | some j =>
          simp only [qi] at k4
          obtain ⟨a, xs, rfl, h1, hm, h3, h4⟩ := liveL_ok e4.so r2' ql
          refine ⟨a, xs, i, j, rfl, r3.int, h3, by rw [h4.length]; exact qi, ?_⟩
          obtain ⟨G, so⟩ := put_ok (ho := .lst (xs.set j y)) (o' := .lst (ts.set j t')) e4.so h1 hm h3 (fun ps z => by cases z) (fun φ z => by cases z) fun H' mo hh => ⟨_, hh, Reps.set j (Reps.mono mo _ _ h4) (Rep.mono mo _ _ r4)⟩
          exact k4 S σ _ G (e4.go G so)
      | _ => simp only [ql] at k4; exact (k4 : False).elim
/-- name op= e, a new value -/
def mAug (i : Nat) (f : T → T → Option T) (fe : Env → M T) : Sm := fun ρ => match ρ[i]? with
  | some (some x) => eM ((fe ρ).bind fun y => op2 f x y) fun z μ => some (.nx (ρ.set i (some z)), μ)
  | _ => fun _ => none
theorem js_aug {i : Nat} {op : Operator} {f : T → T → Option T} {p2 : Pos} (hN : X.N.Nodup) (hi : X.N[i]? = some x) (hx : Loc X.env.scope x) (he : JE X R W e fe) (hop : OpR X (inplaceOp op) (rOp2 R f)) (hf : X.fn x = true ∨ X.env.scope.names.lookup x = some .local := by first | exact .inl rfl | exact .inr rfl | assumption) :
    JS X R W (.AugAssign (.Name x p2) op e pos) (mAug i f fe) :=
  (ps_aug (ti := rOp2 R f) hN hi hx he hop hf).imp fun D σ H ⟨x0, S, ρ, μ, e, k⟩ => by
    unfold mAug at k
    match q : ρ[i]? with
    | none => rw [q] at k; exact (k : False).elim
    | some none => rw [q] at k; exact (k : False).elim
    | some (some tx) =>
      rw [q] at k
      obtain ⟨w, hw, rw⟩ := e.vars i tx q
      refine ⟨w, hw, x0, S, ρ, μ, e, (Post.bind (P := fun x0 S μ H r => Post R W x0 S μ σ H (fun z H2 => D.nx (σ.set i (some z)) H2) r) e ((PostS.bind e k).imp fun z H2 ⟨tz, μ2, g2, e2, r2, k2⟩ => k2 S _ H2 (Go.refl _ _ _) (e2.set r2 i))).imp fun y H1 ⟨ty, μ1, g1, e1, r1, k1⟩ => ?_⟩
      exact op2_ok e1 (g1.v e.so.len rw) r1 k1
/-- name += a list, in its place -/
def mExt (i : Nat) (P : Nat) (fe : Env → M T) : Sm := fun ρ => match ρ[i]? with
  | some (some x) => eM (fe ρ) fun y μ => (match liveL μ x, y with
    | some (n, ts), .lst us => if ts.length + us.length ≤ 1000000 then some (.nx ρ, μ.set n (.lst (ts ++ us), true)) else none
    | _, _ => none)
  | _ => fun _ => none
theorem js_ext {i : Nat} {p2 : Pos} (hN : X.N.Nodup) (hi : X.N[i]? = some x) (hx : Loc X.env.scope x) (he : JE X R W e fe) (hf : X.fn x = true ∨ X.env.scope.names.lookup x = some .local := by first | exact .inl rfl | exact .inr rfl | assumption) :
    JS X R W (.AugAssign (.Name x p2) .Add e pos) (mExt i P fe) :=
  (ps_aug (ti := rExt2) hN hi hx he iop_ext hf).imp fun D σ H ⟨x0, S, ρ, μ, e, k⟩ => by
    unfold mExt at k
    match q : ρ[i]? with
    | none => rw [q] at k; exact (k : False).elim
    | some none => rw [q] at k; exact (k : False).elim
    | some (some tx) =>
      rw [q] at k
      obtain ⟨w, hw, rw⟩ := e.vars i tx q
      refine ⟨w, hw, x0, S, ρ, μ, e, (PostS.bind e k).imp fun y H1 ⟨ty, μ1, g1, e1, r1, k1⟩ => ?_⟩
      cases ql : liveL μ1 tx with
      | none => simp only [ql] at k1; exact (k1 : False).elim
      | some nt =>
        obtain ⟨n, ts⟩ := nt
        cases ty with
        | lst us =>
          simp only [ql] at k1
          by_cases hz : ts.length + us.length ≤ 1000000
          · simp only [if_pos hz] at k1
            obtain ⟨a, xs, rfl, h1, hm, h3, h4⟩ := liveL_ok e1.so (g1.v e.so.len rw) ql
            rcases r1 with ⟨_, _, z, _⟩ | ⟨b, ys, rfl, nx, h5, h6⟩
            · cases z
            · refine ⟨a, b, xs, ys, rfl, rfl, h3, h5, by rw [h4.length, h6.length]; exact line6 hz, ?_⟩
              obtain ⟨G, so⟩ := put_ok (ho := .lst (xs ++ ys)) (o' := .lst (ts ++ us)) e1.so h1 hm h3 (fun ps z => by cases z) (fun φ z => by cases z) fun H' mo hh => ⟨_, hh, Reps.app (Reps.mono mo _ _ h4) (Reps.mono mo _ _ h6)⟩
              have e2 := e1.go G so
              obtain ⟨w2, hw2, rw2⟩ := e2.vars i tx q
              have : σ.set i (some (.ref a)) = σ := by
                apply List.ext_getElem?
                intro j
                by_cases hj : i = j
                · subst hj
                  rw [List.getElem?_set_self (ltE hw)]
                  exact hw.symm
                · rw [List.getElem?_set_ne hj]
              rw [this]
              exact k1 S σ _ G e2
          · simp only [if_neg hz] at k1
            exact (k1 : False).elim
        | _ => simp only [ql] at k1; exact (k1 : False).elim
theorem tSet_of {i : Nat} {te : TE} {fa : Env → M T} (h : ∀ σ H Q, tEv R W fa σ H Q → te σ H Q) : ∀ D σ H, tSv R W (mSet i fa) D σ H → tAsg te (gName i) D σ H := fun D σ H ⟨x0, S, ρ, μ, e, k⟩ =>
  h σ H _ ⟨x0, S, ρ, μ, e, (PostS.bind e k).imp fun v H1 ⟨t, μ1, g1, e1, r1, k1⟩ => k1 S _ H1 (Go.refl _ _ _) (e1.set r1 i)⟩
theorem tNew_of {i : Nat} {te : TE} {ff : Env → M MO} (h : ∀ σ H Q, tEvF R W ff σ H Q → te σ H Q) : ∀ D σ H, tSv R W (mNew i ff) D σ H → tAsg te (gName i) D σ H := fun D σ H ⟨x0, S, ρ, μ, e, k⟩ => h σ H _ (by
    refine ⟨x0, S, ρ, μ, e, ?_⟩
    unfold mNew at k
    match q : ff ρ μ with
    | none => rw [q] at k; exact k
    | some (.ex x, μ') => rw [q] at k; exact fun cls d H' g s r => k S cls d σ H' g s r
    | some (.ok o, μ') =>
      rw [q] at k
      intro a H' g n s r
      obtain ⟨G, E⟩ := push_ok e g n s r
      exact k (S ++ [a]) _ H' G (E.set (.inl ⟨μ'.length, a, rfl, by rw [← s.len]; simp, rfl⟩) i))
section
variable {own : List (Str × Nat)} {scope : Scope} {fi : Env → M (List T)} {fc : Env → M Bool} {y : Str} {py spos : Pos} {i : Nat}
/-- name = [..] on one line, the name a local -/
theorem js_setLc (hc : X.calm = true) (hN : X.N.Nodup) (hy : X.N[i]? = some y) (hyl : X.env.scope.names.lookup y = some .local)
    (hsw : swapsWith (.ListComp elt [⟨tg, iter, ifs, 0⟩] scope pos) (some (.Name y py)) spos.line X.env = pure true) (ok : BlkOk X.N X.env.scope scope own) (hv : own.map (·.2) = vs) (hu : ∀ i ∈ us, i ∈ vs) (hi : JI X R W tg iter fi)
    (hg : ∀ (s : Shared) (H : Hp) (C : Addr) (cl : List (Str × Addr)) (fp : List Addr), JB (X.blk s H scope (compEnvC scope cl C X.env) fp) R tg us b) (ht : ∀ (s : Shared) (H : Hp) (C : Addr) (cl : List (Str × Addr)) (fp : List Addr), JTs (X.blk s H scope (compEnvC scope cl C X.env) fp) R ifs fc)
    (he : ∀ (s : Shared) (H : Hp) (C : Addr) (cl : List (Str × Addr)) (fp : List Addr), JE (X.blk s H scope (compEnvC scope cl C X.env) fp) R Wf elt fe) (hs : ∀ x, foldedSetIterable iter X.env x = pure x := by intro _; rfl) :
    JS X R W (.Assign [.Name y py] (.ListComp elt [⟨tg, iter, ifs, 0⟩] scope pos) spos) (mSet i (mOf (mLc P vs fi b fc fe))) := by
  subst hv
  exact (ps_setLc hc hN hy hyl hsw hi ok hg ht he hs).imp (tSet_of fun σ H Q h => lc_red hu σ H Q (mOf_red h))
theorem js_newLc (hc : X.calm = true) (hN : X.N.Nodup) (hy : X.N[i]? = some y) (hyl : X.env.scope.names.lookup y = some .local)
    (hsw : swapsWith (.ListComp elt [⟨tg, iter, ifs, 0⟩] scope pos) (some (.Name y py)) spos.line X.env = pure true) (ok : BlkOk X.N X.env.scope scope own) (hv : own.map (·.2) = vs) (hu : ∀ i ∈ us, i ∈ vs) (hi : JI X R W tg iter fi)
    (hg : ∀ (s : Shared) (H : Hp) (C : Addr) (cl : List (Str × Addr)) (fp : List Addr), JB (X.blk s H scope (compEnvC scope cl C X.env) fp) R tg us b) (ht : ∀ (s : Shared) (H : Hp) (C : Addr) (cl : List (Str × Addr)) (fp : List Addr), JTs (X.blk s H scope (compEnvC scope cl C X.env) fp) R ifs fc)
    (he : ∀ (s : Shared) (H : Hp) (C : Addr) (cl : List (Str × Addr)) (fp : List Addr), JE (X.blk s H scope (compEnvC scope cl C X.env) fp) R Wf elt fe) (hs : ∀ x, foldedSetIterable iter X.env x = pure x := by intro _; rfl) :
    JS X R W (.Assign [.Name y py] (.ListComp elt [⟨tg, iter, ifs, 0⟩] scope pos) spos) (mNew i (mLc P vs fi b fc fe)) := by
  subst hv
  exact (ps_setLc hc hN hy hyl hsw hi ok hg ht he hs).imp (tNew_of fun σ H Q h => lc_red hu σ H Q h)
end
end
end TL

set_option maxHeartbeats 4000000
namespace TL
open PySem PySem.Spec PyProof.Rows L2

section
variable {X : Cx} {R : RC} {W : WX} {x0 : Addr → Prop} {S S' S1 S2 : List Addr} {ρ ρ' : Env} {μ μ' μ1 μ2 : Mu} {σ σ' : L2.St} {H H' H1 H2 : Hp} {t : T} {v : V} {Q : VK} {P np k q n : Nat} {g : FM} {D : Ends} {f f' : Sm} {st : Stmt} {sts : List Stmt} {pos p apos tpos : Pos} {x : Str} {e e2 e3 tg elt iter : Expr} {es ifs : List Expr} {fs : Env → M (List T)} {fa fo fv fe : Env → M T} {a : Addr} {o o' : MO} {b : TB} {bs : TBs} {vs us : List Nat}
/-! ### three at once -/
theorem js_par3 {i j l : Nat} {y z : Str} {a b c : Expr} {px py pz pt : Pos} {kt k2 pt2} (hc : X.calm = true) (hN : X.N.Nodup) (hi : X.N[i]? = some x) (hj : X.N[j]? = some y) (hl : X.N[l]? = some z) (hij : i ≠ j) (hil : i ≠ l) (hjl : j ≠ l)
    (hx : X.env.scope.names.lookup x = some .local) (hy : X.env.scope.names.lookup y = some .local) (hz : X.env.scope.names.lookup z = some .local) (ha : JG X R W [a, b, c] fs)
    (hw : swappedStores [.Tuple [.Name x px, .Name y py, .Name z pz] kt pt] (.Tuple [a, b, c] k2 pt2) X.env = pure (some [x, y, z]))
    (hs : swapsWithSole [.Tuple [.Name x px, .Name y py, .Name z pz] kt pt] (.Tuple [a, b, c] k2 pt2) pos.line X.env = pure false := by rfl) :
    JS X R W (.Assign [.Tuple [.Name x px, .Name y py, .Name z pz] kt pt] (.Tuple [a, b, c] k2 pt2) pos) (mPar [i, j, l] fs) :=
  (ps_par3 hc hN hi hj hl hij hil hjl hx hy hz ha hw hs).imp fun D σ H ⟨x0, S, ρ, μ, e, k⟩ => by
    refine ⟨x0, S, ρ, μ, e, (PostS.bindG e k).imp fun vs H1 ⟨ts, S1, μ1, g1, e1, r1, k1⟩ => ?_⟩
    match ts, r1, k1 with
    | [t, u, w], r1, k1 =>
      obtain ⟨v, _, rfl, r2, v2, _, rfl, r3, v3, _, rfl, r4, rfl⟩ := r1
      exact ⟨v, v2, v3, rfl, k1 S1 _ H1 (Go.refl _ _ _) (((e1.set r2 i).set r3 j).set r4 l)⟩
    | [], r1, k1 => exact (k1 : False).elim
    | [t], r1, k1 => exact (k1 : False).elim
    | [t, u], r1, k1 => exact (k1 : False).elim
    | t :: u :: z :: w :: r, r1, k1 => exact (k1 : False).elim
/-! ### what stands in the module -/
/-- a global's value that is a tree for ever -/
def GTree (R : RC) (u : Option Value) (t : T) : Prop := ∃ u' v, u = some u' ∧ RelV v u' ∧ ∀ ex H, Rep R ex H t v
theorem j_glob (hg : Gl X x) (h : GTree R (X.mg x) t) (hd : (x == ("__debug__" : Str)) = false := by decide) : JE X R W (.Name x pos) (mCst t) := by
  obtain ⟨u, v, hm, hr, h⟩ := h
  exact j_cst (pe_glob hg hm hr hd) h
theorem gt_int {i : Int} {u : Option Value} {u' : Value} (h : u = some u') (r : RelV (.int i) u') : GTree R u (.int i) := ⟨_, .int i, h, r, fun _ _ => rfl⟩
theorem gt_str {s : Str} {u : Option Value} {u' : Value} (h : u = some u') (r : RelV (.str s) u') : GTree R u (.str s) := ⟨_, .str s, h, r, fun _ _ => rfl⟩
def strVs : List Str → List V := List.map V.str
theorem Reps.strs {ex : Addr → Prop} : ∀ ss : List Str, Reps R ex H (ss.map T.str) (strVs ss)
  | [] => rfl
  | s :: r => ⟨.str s, _, rfl, rfl, Reps.strs r⟩
theorem gt_tup {ss : List Str} {u : Option Value} (h : u = some (.ref a)) (hw : WrT R.K a (strVs ss)) : GTree R u (.wt (ss.map T.str)) :=
  ⟨_, .ref a, h, rfl, fun ex H => ⟨a, strVs ss, rfl, .inl hw, Reps.strs ss⟩⟩
def intVs : List Int → List V := List.map V.int
theorem Reps.ints' {ex : Addr → Prop} : ∀ ss : List Int, Reps R ex H (ss.map T.int) (intVs ss)
  | [] => rfl
  | s :: r => ⟨.int s, _, rfl, rfl, Reps.ints' r⟩
theorem gt_tupI {ss : List Int} {u : Option Value} (h : u = some (.ref a)) (hw : WrT R.K a (intVs ss)) : GTree R u (.wt (ss.map T.int)) :=
  ⟨_, .ref a, h, rfl, fun ex H => ⟨a, intVs ss, rfl, .inl hw, Reps.ints' ss⟩⟩
/-! ### an attribute stored -/
def liveI (μ : Mu) (c : Str) : T → Option (Nat × List (Str × T))
  | .sh n => match μ[n]? with
    | some (.ins c' fs, true) => if c' = c then some (n, fs) else none
    | _ => none
  | _ => none
theorem liveI_ok {c : Str} {fs : List (Str × T)} (s : SOk R x0 S μ H) (r : RepV R (excl x0 S μ) S H t v) (h : liveI μ c t = some (n, fs)) : ∃ a C dx vs, v = .ref a ∧ R.cls c = some C ∧ S[n]? = some a ∧ μ[n]? = some (.ins c fs, true) ∧ H a = some (.ins C dx vs) ∧ RepF R (excl x0 S μ) H fs vs := by
  cases t with
  | sh m =>
    unfold liveI at h
    simp only at h
    split at h
    · rename_i c' us hm
      split at h
      · rename_i hc
        subst hc
        obtain ⟨rfl, rfl⟩ := Prod.mk.inj (Option.some.inj h)
        rcases r with ⟨m', a, e, h1, rfl⟩ | r
        · cases e
          obtain ⟨a', h2, C, dx, vs, hC, h3, h4⟩ := s.sh _ (.ins _ us) hm
          rw [h1] at h2
          cases h2
          exact ⟨a, C, dx, vs, rfl, hC, h1, hm, h3, h4⟩
        · exact r.elim
      · cases h
    · cases h
  | _ => cases h
def putFT (f : Str) (v : T) : List (Str × T) → List (Str × T)
  | [] => [(f, v)]
  | (g, x) :: r => if g = f then (g, v) :: r else (g, x) :: putFT f v r
theorem RepF.put {ex : Addr → Prop} {f : Str} {t : T} {v : V} : ∀ {fs : List (Str × T)} {vs : List (Str × V)}, RepF R ex H fs vs → Rep R ex H t v → RepF R ex H (putFT f t fs) (putF f v vs)
  | [], _, h, r => by cases h; exact ⟨v, [], rfl, r, rfl⟩
  | (g, u) :: fs, _, h, r => by
    obtain ⟨y, rr, rfl, h1, h2⟩ := h
    simp only [putFT, putF]
    split
    · exact ⟨v, rr, rfl, r, h2⟩
    · exact ⟨y, _, rfl, h1, RepF.put h2 r⟩
theorem RepF.length {ex : Addr → Prop} : ∀ {fs : List (Str × T)} {vs : List (Str × V)}, RepF R ex H fs vs → vs.length = fs.length
  | [], _, h => by cases h; rfl
  | (g, u) :: fs, _, h => by obtain ⟨y, rr, rfl, h1, h2⟩ := h; simp [RepF.length h2]
def mFldS (P : Nat) (c f : Str) (fo fv : Env → M T) : Sm := fun ρ => eM (fv ρ) fun v => eM (fo ρ) fun o => eM (keepT P v) fun y μ => match liveI μ c o with
  | some (n, fs) => if fs.length < 1000 then some (.nx ρ, μ.set n (.ins c (putFT f y fs), true)) else none
  | none => none
theorem js_fld {c fl : Str} {pos' : Pos} (hK : X.K = R.K) (hc : FldOk R fl [c]) (ho : JE X R W e fo) (hv : JE X R W e3 fv) (hs : swapsWith e3 (some (.Attribute e fl pos')) pos.line X.env = pure false := by rfl) :
    JS X R W (.Assign [.Attribute e fl pos'] e3 pos) (mFldS P c fl fo fv) :=
  (ps_fld ho hv hs).imp fun D σ H ⟨x0, S, ρ, μ, e, k⟩ => by
    refine ⟨x0, S, ρ, μ, e, (PostS.bind e k).imp fun y H1 ⟨ty, μ1, g1, e1, r1, k1⟩ => ?_⟩
    refine ⟨x0, S, ρ, μ1, e1, (PostS.bind e1 k1).imp fun ov H2 ⟨to, μ2, g2, e2, r2, k2⟩ => ?_⟩
    obtain ⟨t', μ4, g4, e4, r4, k4⟩ := PostS.keep e2 (g2.v e1.so.len r1) k2
    have r2' := g4.v e2.so.len r2
    cases ql : liveI μ4 c to with
    | none => simp only [ql] at k4; exact (k4 : False).elim
    | some nt =>
      obtain ⟨n, fs⟩ := nt
      simp only [ql] at k4
      by_cases hz : fs.length < 1000
      · rw [if_pos hz] at k4
        obtain ⟨a, C, dx, vs, rfl, hC, h1, hm, h3, h4⟩ := liveI_ok e4.so r2' ql
        obtain ⟨k1', k2'⟩ := hc c (by simp) C hC
        rw [hK]
        refine ⟨a, C, dx, vs, rfl, h3, k1', k2', by rw [h4.length]; exact hz, ?_⟩
        obtain ⟨G, so⟩ := put_ok (ho := .ins C dx (putF fl y vs)) (o' := .ins c (putFT fl t' fs)) e4.so h1 hm h3 (fun ps z => by cases z) (fun φ z => by cases z) fun H' mo hh => ⟨C, dx, _, hC, hh, RepF.put (RepF.mono mo _ _ h4) (Rep.mono mo _ _ r4)⟩
        exact k4 S σ _ G (e4.go G so)
      · rw [if_neg hz] at k4
        exact (k4 : False).elim
end
end TL

set_option maxHeartbeats 4000000
namespace TL
open PySem PySem.Spec PyProof.Rows L2

/-! ### dicts as lists of pairs of trees -/
section
variable {κ : Type} [DecidableEq κ]
def sameK (kf : T → Option κ) (a b : T) : Bool := decide (kf a = kf b)
def getP (kf : T → Option κ) (kvs : List (T × T)) (k : T) : Option T := (kvs.find? fun p => sameK kf p.1 k).map (·.2)
def putP (kf : T → Option κ) (kvs : List (T × T)) (k v : T) : List (T × T) :=
  if (kvs.any fun p => sameK kf p.1 k) = true then kvs.map (fun p => if sameK kf p.1 k = true then (p.1, v) else p) else kvs ++ [(k, v)]
/-- pairs of trees, pairs of values -/
def RepP (R : RC) (ex : Addr → Prop) (H : Hp) (kf : T → Option κ) : List (T × T) → List (κ × V) → Prop
  | [], xs => xs = []
  | (k, t) :: ts, xs => ∃ kk x r, xs = (kk, x) :: r ∧ kf k = some kk ∧ Rep R ex H t x ∧ RepP R ex H kf ts r
variable {R : RC} {ex : Addr → Prop} {H : Hp} {kf : T → Option κ}
theorem RepP.length : ∀ {kvs : List (T × T)} {ks : List (κ × V)}, RepP R ex H kf kvs ks → ks.length = kvs.length
  | [], _, h => by cases h; rfl
  | (k, t) :: ts, _, h => by obtain ⟨kk, x, r, rfl, _, _, h⟩ := h; simp [RepP.length h]
theorem sameK_of {a b : T} {ka kb : κ} (h1 : kf a = some ka) (h2 : kf b = some kb) : sameK kf a b = decide (ka = kb) := by
  unfold sameK
  rw [h1, h2]
  simp
/-- what may be there, as a tree and as a value -/
def RepO (R : RC) (ex : Addr → Prop) (H : Hp) : Option T → Option V → Prop
  | none, o => o = none
  | some t, o => ∃ v, o = some v ∧ Rep R ex H t v
theorem RepP.get {k : T} {kk : κ} (hk : kf k = some kk) : ∀ {kvs : List (T × T)} {ks : List (κ × V)}, RepP R ex H kf kvs ks → RepO R ex H (getP kf kvs k) (valV ks kk)
  | [], _, h => by cases h; rfl
  | (j, t) :: ts, _, h => by
    obtain ⟨jj, x, r, rfl, hj, h1, h2⟩ := h
    have ih := RepP.get hk h2
    unfold getP at ih ⊢
    rw [List.find?_cons]
    simp only [sameK_of hj hk]
    by_cases e : jj = kk
    · simp only [e, decide_true, Option.map_some]
      exact ⟨x, valV_pos rfl, h1⟩
    · simp only [e, decide_false]
      rw [valV_neg e]
      exact ih
theorem RepP.any {k : T} {kk : κ} (hk : kf k = some kk) : ∀ {kvs : List (T × T)} {ks : List (κ × V)}, RepP R ex H kf kvs ks → (kvs.any fun p => sameK kf p.1 k) = ks.any fun p => decide (p.1 = kk)
  | [], _, h => by cases h; rfl
  | (j, t) :: ts, _, h => by
    obtain ⟨jj, x, r, rfl, hj, h1, h2⟩ := h
    simp only [List.any_cons, sameK_of hj hk, RepP.any hk h2]
theorem RepP.snoc {k t : T} {kk : κ} {x : V} (hk : kf k = some kk) (h0 : Rep R ex H t x) : ∀ {kvs : List (T × T)} {ks : List (κ × V)}, RepP R ex H kf kvs ks → RepP R ex H kf (kvs ++ [(k, t)]) (ks ++ [(kk, x)])
  | [], _, h => by cases h; exact ⟨kk, x, [], rfl, hk, h0, rfl⟩
  | (j, u) :: ts, _, h => by
    obtain ⟨jj, y, r, rfl, hj, h1, h2⟩ := h
    exact ⟨jj, y, _, rfl, hj, h1, RepP.snoc hk h0 h2⟩
theorem RepP.repl {k t : T} {kk : κ} {x : V} (hk : kf k = some kk) (h0 : Rep R ex H t x) : ∀ {kvs : List (T × T)} {ks : List (κ × V)}, RepP R ex H kf kvs ks →
    RepP R ex H kf (kvs.map fun p => if sameK kf p.1 k = true then (p.1, t) else p) (ks.map fun p => if p.1 = kk then (p.1, x) else p)
  | [], _, h => by cases h; rfl
  | (j, u) :: ts, _, h => by
    obtain ⟨jj, y, r, rfl, hj, h1, h2⟩ := h
    simp only [List.map_cons, sameK_of hj hk, decide_eq_true_eq]
    by_cases e : jj = kk
    · simp only [if_pos e]
      exact ⟨jj, x, _, rfl, hj, h0, RepP.repl hk h0 h2⟩
    · simp only [if_neg e]
      exact ⟨jj, y, _, rfl, hj, h1, RepP.repl hk h0 h2⟩
theorem RepP.put {k t : T} {kk : κ} {x : V} {kvs : List (T × T)} {ks : List (κ × V)} (h : RepP R ex H kf kvs ks) (hk : kf k = some kk) (h0 : Rep R ex H t x) : RepP R ex H kf (putP kf kvs k t) (putK ks kk x) := by
  unfold putP putK
  rw [RepP.any hk h]
  split
  · exact RepP.repl hk h0 h
  · exact RepP.snoc hk h0 h
end
section
variable {X : Cx} {R : RC} {W : WX} {x0 : Addr → Prop} {S S' S1 S2 : List Addr} {ρ ρ' : Env} {μ μ' μ1 μ2 : Mu} {σ σ' : L2.St} {H H' H1 H2 : Hp} {t : T} {v x y : V} {Q : VK} {P np k q n : Nat} {g : FM} {D : Ends} {f f' : Sm} {st : Stmt} {sts : List Stmt} {pos p apos tpos cpos : Pos} {e e2 e3 tg elt iter : Expr} {es ifs : List Expr} {fs : Env → M (List T)} {fa fo fv fe : Env → M T} {a : Addr} {o o' : MO} {ex : Addr → Prop}
theorem repK_P : ∀ {kvs : List (T × T)} {ks : List (Key × V)}, RepK R ex H kvs ks ↔ RepP R ex H keyT kvs ks
  | [], _ => Iff.rfl
  | (k, t) :: ts, _ => ⟨fun ⟨kk, x, r, e, h1, h2, h3⟩ => ⟨kk, x, r, e, h1, h2, repK_P.mp h3⟩, fun ⟨kk, x, r, e, h1, h2, h3⟩ => ⟨kk, x, r, e, h1, h2, repK_P.mpr h3⟩⟩
theorem repTK_P : ∀ {kvs : List (T × T)} {ks : List (List Key × V)}, RepTK R ex H kvs ks ↔ RepP R ex H tkeyT kvs ks
  | [], _ => Iff.rfl
  | (k, t) :: ts, _ => ⟨fun ⟨kk, x, r, e, h1, h2, h3⟩ => ⟨kk, x, r, e, h1, h2, repTK_P.mp h3⟩, fun ⟨kk, x, r, e, h1, h2, h3⟩ => ⟨kk, x, r, e, h1, h2, repTK_P.mpr h3⟩⟩
/-- a key as a value -/
theorem keyT_rep {kt : T} {kk : Key} (r : RepTop R ex H kt y) (e : keyT kt = some kk) : y = kV kk := by
  cases kt with
  | int i => cases e; cases r; rfl
  | str i => cases e; cases r; rfl
  | _ => cases e
theorem keyT_in {kt : T} {kk : Key} (r : Rep R ex H kt y) (e : keyT kt = some kk) : y = kV kk := keyT_rep r.top e
theorem keysT_rep : ∀ {ts : List T} {xs : List V} {ks : List Key}, Reps R ex H ts xs → keysT ts = some ks → xs = ks.map kV
  | [], _, _, h, e => by cases h; cases e; rfl
  | t :: ts, _, _, h, e => by
    obtain ⟨x, r, rfl, h1, h2⟩ := h
    unfold keysT at e
    cases q : keyT t with
    | none => rw [q] at e; cases e
    | some d =>
      cases q2 : keysT ts with
      | none => rw [q, q2] at e; cases e
      | some ds =>
        rw [q, q2] at e
        cases e
        rw [keyT_in h1 q, keysT_rep h2 q2]
        rfl
theorem tkeyT_rep {kt : T} {ks : List Key} (r : RepTop R ex H kt y) (e : tkeyT kt = some ks) : ∃ b, y = .ref b ∧ H b = some (.tup (ks.map kV)) := by
  cases kt with
  | tup ts =>
    obtain ⟨b, xs, rfl, _, h1, h2⟩ := r
    rw [keysT_rep h2 e] at h1
    exact ⟨b, rfl, h1⟩
  | _ => cases e
/-- what stands at a key (none: stuck) -/
def dgetT (tk : Bool) (kvs : List (T × T)) (k : T) : Option (Option T) := match tk with
  | false => match keyT k with
    | some _ => some (getP keyT kvs k)
    | none => none
  | true => match tkeyT k with
    | some _ => some (getP tkeyT kvs k)
    | none => none
def dputT (tk : Bool) (kvs : List (T × T)) (k v : T) : Option (List (T × T)) := match tk with
  | false => match keyT k with
    | some _ => some (putP keyT kvs k v)
    | none => none
  | true => match tkeyT k with
    | some _ => some (putP tkeyT kvs k v)
    | none => none
theorem dget_ok {tk : Bool} {kvs : List (T × T)} {kt : T} {ot : Option T} (r : RepTop R ex H (.dct tk kvs) x) (rk : RepTop R ex H kt y) (h : dgetT tk kvs kt = some ot) :
    ∃ a ov, x = .ref a ∧ DGet H a y ov ∧ RepO R ex H ot ov := by
  obtain ⟨a, rfl, r⟩ := r
  unfold dgetT at h
  rcases r with ⟨rfl, ks, h1, h2⟩ | ⟨rfl, ks, h1, h2⟩
  · simp only at h
    cases q : keyT kt with
    | none => rw [q] at h; cases h
    | some kk =>
      rw [q] at h
      cases h
      have g := RepP.get q (repK_P.mp h2)
      rw [keyT_rep rk q]
      exact ⟨a, _, rfl, .inl ⟨_, _, h1, rfl, rfl⟩, g⟩
  · simp only at h
    cases q : tkeyT kt with
    | none => rw [q] at h; cases h
    | some kk =>
      rw [q] at h
      cases h
      have g := RepP.get q (repTK_P.mp h2)
      obtain ⟨b, rfl, hb⟩ := tkeyT_rep rk q
      exact ⟨a, _, rfl, .inr ⟨_, _, _, h1, rfl, hb, rfl⟩, g⟩
/-! ### d[k], k in d, d.get -/
theorem ix_dict (hu : X.A.units + 1 < cLine) : IxR X (fun x y H Q => ∃ a v, x = .ref a ∧ DGet H a y (some v) ∧ Q v H) := by
  intro value slice pins s σ H x y v u Q I rx ry h hs
  obtain ⟨a, w, rfl, g, q⟩ := h
  obtain rfl : v = Value.ref a := rx
  exact tail_any (dict_typeIs I g) PySem.F.slot_dict_getitem.lookup (d_getItem hu I g ry fun w' s3 I3 rw' => ⟨w, H, I3, rw', q⟩) hs
def ixA : T → T → Option T
  | .dct tk kvs, k => (dgetT tk kvs k).join
  | x, k => ixT x k
theorem o_ixA (hK : X.K = R.K) (hu : X.A.units + 1 < cLine) : IxR X (rOp2 R ixA) := by
  refine ((o_ix hK).or (ix_dict hu)).imp fun x y H Q ⟨ex, tx, ty, t, hx, r1, r2, e, k⟩ => ?_
  unfold ixA at e
  split at e
  · rename_i tk kvs
    cases q : dgetT tk kvs ty with
    | none => rw [q] at e; cases e
    | some ot =>
      rw [q] at e
      obtain ⟨a, ov, rfl, g, h⟩ := dget_ok r1 r2 q
      cases ot with
      | none => cases e
      | some t' =>
        cases e
        obtain ⟨v, rfl, h⟩ := h
        exact .inr ⟨a, v, rfl, g, k _ _ (Grow.refl _) h⟩
  · exact .inl ⟨ex, tx, ty, t, hx, r1, r2, e, k⟩
theorem op_in_dct (hu : X.A.units + 1 < cLine) : OpR X (compareOp .In) (fun y x H Q => ∃ a o, x = .ref a ∧ DGet H a y o ∧ Q (.bl o.isSome) H) := by
  intro pins s σ H y x v u Q I ry rx h
  obtain ⟨a, o, rfl, g, q⟩ := h
  obtain rfl : u = Value.ref a := rx
  exact d_in hu I g ry fun s3 I3 => ⟨.bl _, H, I3, rfl, q⟩
theorem op_notIn_dct (hu : X.A.units + 1 < cLine) : OpR X (compareOp .NotIn) (fun y x H Q => ∃ a o, x = .ref a ∧ DGet H a y o ∧ Q (.bl (!o.isSome)) H) := by
  intro pins s σ H y x v u Q I ry rx h
  obtain ⟨a, o, rfl, g, q⟩ := h
  obtain rfl : u = Value.ref a := rx
  exact d_notIn hu I g ry fun s3 I3 => ⟨.bl _, H, I3, rfl, q⟩
def inA (neg : Bool) : T → T → Option T
  | k, .dct tk kvs => (dgetT tk kvs k).map fun o => .bl (if neg then !o.isSome else o.isSome)
  | x, y => if neg then ninT x y else inT x y
theorem o_inA (hK : X.K = R.K) (hu : X.A.units + 65 < cLine) : OpR X (compareOp .In) (rOp2 R (inA false)) := by
  refine ((o_in hK hu).or (op_in_dct (by omega))).imp fun x y H Q ⟨ex, tx, ty, t, hx, r1, r2, e, k⟩ => ?_
  unfold inA at e
  split at e
  · rename_i _ tk kvs
    cases q : dgetT tk kvs tx with
    | none => rw [q] at e; cases e
    | some ot =>
      rw [q] at e
      cases e
      obtain ⟨a, ov, rfl, g, h⟩ := dget_ok r2 r1 q
      refine .inr ⟨a, ov, rfl, g, ?_⟩
      cases ot with
      | none => cases h; exact k _ _ (Grow.refl _) rfl
      | some t' => obtain ⟨v, rfl, h⟩ := h; exact k _ _ (Grow.refl _) rfl
  · exact .inl ⟨ex, tx, ty, t, hx, r1, r2, e, k⟩
theorem o_ninA (hK : X.K = R.K) (hu : X.A.units + 65 < cLine) : OpR X (compareOp .NotIn) (rOp2 R (inA true)) := by
  refine ((o_nin hK hu).or (op_notIn_dct (by omega))).imp fun x y H Q ⟨ex, tx, ty, t, hx, r1, r2, e, k⟩ => ?_
  unfold inA at e
  split at e
  · rename_i _ tk kvs
    cases q : dgetT tk kvs tx with
    | none => rw [q] at e; cases e
    | some ot =>
      rw [q] at e
      cases e
      obtain ⟨a, ov, rfl, g, h⟩ := dget_ok r2 r1 q
      refine .inr ⟨a, ov, rfl, g, ?_⟩
      cases ot with
      | none => cases h; exact k _ _ (Grow.refl _) rfl
      | some t' => obtain ⟨v, rfl, h⟩ := h; exact k _ _ (Grow.refl _) rfl
  · exact .inl ⟨ex, tx, ty, t, hx, r1, r2, e, k⟩
end
end TL

set_option maxHeartbeats 4000000
namespace TL
open PySem PySem.Spec PyProof.Rows L2

section
variable {X : Cx} {R : RC} {W : WX} {x0 : Addr → Prop} {S S' S1 S2 : List Addr} {ρ ρ' : Env} {μ μ' μ1 μ2 : Mu} {σ σ' : L2.St} {H H' H1 H2 : Hp} {t : T} {v x y : V} {Q : VK} {P np k q n : Nat} {g : FM} {D : Ends} {f f' : Sm} {st : Stmt} {sts : List Stmt} {pos p apos tpos cpos pos' : Pos} {e e2 e3 tg elt iter : Expr} {es ifs : List Expr} {fs : Env → M (List T)} {fa fo fv fe : Env → M T} {a : Addr} {o o' : MO} {ex : Addr → Prop}
/-! ### d.get(k), d.get(k, x) -/
def getT : T → List T → Option T
  | .dct tk kvs, [k] => (dgetT tk kvs k).map fun o => o.getD .non
  | .dct tk kvs, [k, z] => (dgetT tk kvs k).map fun o => o.getD z
  | _, _ => none
theorem RepTops.one' {t : T} {xs : List V} (h : RepTops R ex H [t] xs) : ∃ x, xs = [x] ∧ RepTop R ex H t x := h.one
/-- what a tree's value is, if it is no list, dict, instance that is written -/
def plainT : T → Bool
  | .lst _ => false
  | .dct _ _ => false
  | .ins _ _ => false
  | _ => true
theorem plain_rep (r : RepTop R ex H t x) (h : plainT t = true) : Rep R ex H t x := by
  cases t with
  | lst _ => cases h
  | dct _ _ => cases h
  | ins _ _ => cases h
  | _ => exact r
def getA : T → List T → Option T
  | d, [k] => getT d [k]
  | d, [k, z] => if plainT z = true then getT d [k, z] else none
  | _, _ => none
theorem mt_get (hu : X.A.units + 1 < cLine) : MtR X "dict.get" (rOpM R getA) := by
  intro pins s σ H x xs v us Q I rx rxs ⟨ex, tx, ts, t, hx, r1, r2, e, k⟩
  unfold getA at e
  split at e
  · rename_i kt
    unfold getT at e
    split at e
    · rename_i tk kvs k' hk
      cases hk
      cases q : dgetT tk kvs kt with
      | none => rw [q] at e; cases e
      | some ot =>
        rw [q] at e
        cases e
        obtain ⟨y, rfl, ry⟩ := r2.one
        obtain ⟨a, ov, rfl, g, h⟩ := dget_ok r1 ry q
        obtain rfl : v = Value.ref a := rx
        cases rxs with
        | cons r rr =>
          cases rr
          refine d_get1 hu I g r fun w' s' I' rw' => ⟨ov.getD .non, H, I', rw', ?_⟩
          cases ot with
          | none => cases h; exact k _ _ (Grow.refl _) rfl
          | some t' => obtain ⟨w, rfl, h⟩ := h; exact k _ _ (Grow.refl _) h
    · rename_i hk; cases hk
    · cases e
  · rename_i kt z
    split at e
    · rename_i hp
      unfold getT at e
      split at e
      · rename_i hk; cases hk
      · rename_i tk kvs k' z' hk
        cases hk
        cases q : dgetT tk kvs kt with
        | none => rw [q] at e; cases e
        | some ot =>
          rw [q] at e
          cases e
          obtain ⟨y, z2, rfl, ry, rz⟩ := r2.two
          obtain ⟨a, ov, rfl, g, h⟩ := dget_ok r1 ry q
          obtain rfl : v = Value.ref a := rx
          cases rxs with
          | cons r rr =>
            cases rr with
            | cons r' rr' =>
              cases rr'
              refine d_get2 hu I g r r' fun w' s' I' rw' => ⟨ov.getD z2, H, I', rw', ?_⟩
              cases ot with
              | none => cases h; exact k _ _ (Grow.refl _) (plain_rep rz hp)
              | some t' => obtain ⟨w, rfl, h⟩ := h; exact k _ _ (Grow.refl _) h
      · cases e
    · cases e
  · cases e
/-! ### dict([(k, v), ..]) -/
def pairT : T → Option (T × T)
  | .tup [k, v] => some (k, v)
  | _ => none
def pairsT : List T → Option (List (T × T))
  | [] => some []
  | t :: r => match pairT t, pairsT r with
    | some p, some ps => if (keyT p.1).isSome = true then some (p :: ps) else none
    | _, _ => none
def dictT : List T → Option T
  | [.lst ts] => (pairsT ts).map fun ps => .dct false (ps.foldl (fun acc p => putP keyT acc p.1 p.2) [])
  | _ => none
theorem pairs_rep : ∀ {ts : List T} {xs : List V} {ps : List (T × T)}, Reps R ex H ts xs → pairsT ts = some ps →
    ∃ (bs : List Addr) (kvs : List (Key × V)), xs = bs.map V.ref ∧ Paired (fun p kv => SqT R.K H p [kV kv.1, kv.2]) bs kvs ∧ RepP R ex H keyT ps kvs
  | [], _, _, h, e => by cases h; cases e; exact ⟨[], [], rfl, .nil, rfl⟩
  | t :: ts, _, _, h, e => by
    obtain ⟨x, r, rfl, h1, h2⟩ := h
    unfold pairsT at e
    cases q : pairT t with
    | none => rw [q] at e; cases e
    | some p =>
      cases q2 : pairsT ts with
      | none => rw [q, q2] at e; cases e
      | some ps =>
        rw [q, q2] at e
        simp only at e
        cases q3 : keyT p.1 with
        | none => rw [q3] at e; cases e
        | some kk =>
          rw [q3] at e
          cases e
          obtain ⟨bs, kvs, rfl, h3, h4⟩ := pairs_rep h2 q2
          unfold pairT at q
          split at q
          · cases q
            obtain ⟨b, ys, rfl, _, h5, y1, _, rfl, h6, y2, _, rfl, h7, rfl⟩ := h1
            rw [keyT_in h6 q3] at h5
            exact ⟨b :: bs, (kk, y2) :: kvs, rfl, .cons (.inl (.inl h5)) h3, kk, y2, kvs, rfl, q3, h7, h4⟩
          · cases q
theorem merge_rep : ∀ {ps acc : List (T × T)} {kvs ks : List (Key × V)}, RepP R ex H keyT ps kvs → RepP R ex H keyT acc ks → RepP R ex H keyT (ps.foldl (fun acc p => putP keyT acc p.1 p.2) acc) (mergeK ks kvs)
  | [], _, _, _, h, h0 => by cases h; exact h0
  | (k, t) :: ps, _, _, _, h, h0 => by
    obtain ⟨kk, x, r, rfl, hk, h1, h2⟩ := h
    exact merge_rep (ps := ps) (acc := putP keyT _ k t) (ks := putK _ kk x) (kvs := r) h2 (h0.put hk h1)
theorem c_dict (hc : X.calm = true) (hK : X.K = R.K) : CallR X (.type "dict") (rOpN R dictT) := by
  refine (call_dictP hc).imp fun xs H Q ⟨ex, ts, t, hx, r1, e, k⟩ => ?_
  unfold dictT at e
  split at e
  · rename_i us
    cases q : pairsT us with
    | none => rw [q] at e; cases e
    | some ps =>
      rw [q] at e
      cases e
      obtain ⟨x, rfl, a, ys, rfl, h1, h2⟩ := r1.one
      obtain ⟨bs, kvs, rfl, h3, h4⟩ := pairs_rep h2 q
      rw [hK]
      refine ⟨a, bs, kvs, rfl, SqL.of h1, h3, fun p hp => ?_⟩
      have gr : Grow H (upd H p (.dK (mergeK [] kvs))) := Grow.new hp
      refine k _ _ gr ⟨p, rfl, fun z => hx p z hp, .inl ⟨rfl, _, .inl upd_same, ?_⟩⟩
      exact RepK.mono (Mono.grow gr hx) _ _ (repK_P.mpr (merge_rep h4 rfl))
  · cases e
end
end TL

set_option maxHeartbeats 4000000
namespace TL
open PySem PySem.Spec PyProof.Rows L2

section
variable {X : Cx} {R : RC} {W : WX} {x0 : Addr → Prop} {S S' S1 S2 : List Addr} {ρ ρ' : Env} {μ μ' μ1 μ2 : Mu} {σ σ' : L2.St} {H H' H1 H2 : Hp} {t : T} {v x y : V} {Q : VK} {P np k q n : Nat} {g : FM} {D : Ends} {f f' : Sm} {st : Stmt} {sts : List Stmt} {pos p apos tpos cpos pos' : Pos} {e e2 e3 tg elt iter : Expr} {es ifs : List Expr} {fs : Env → M (List T)} {fa fo fv fe : Env → M T} {a : Addr} {o o' : MO} {ex : Addr → Prop}
/-! ### d[k] = v -/
def liveD (μ : Mu) : T → Option (Nat × Bool × List (T × T))
  | .sh n => match μ[n]? with
    | some (.dct tk kvs, true) => some (n, tk, kvs)
    | _ => none
  | _ => none
theorem liveD_ok {tk : Bool} {kvs : List (T × T)} (s : SOk R x0 S μ H) (r : RepV R (excl x0 S μ) S H t v) (h : liveD μ t = some (n, tk, kvs)) : ∃ a, v = .ref a ∧ S[n]? = some a ∧ μ[n]? = some (.dct tk kvs, true) ∧ RepM R (excl x0 S μ) H (.dct tk kvs) a := by
  cases t with
  | sh m =>
    unfold liveD at h
    simp only at h
    split at h
    · rename_i tk' us hm
      cases h
      rcases r with ⟨m', a, e, h1, rfl⟩ | r
      · cases e
        obtain ⟨a', h2, h3⟩ := s.sh _ _ hm
        rw [h1] at h2
        cases h2
        exact ⟨a, rfl, h1, hm, h3⟩
      · exact r.elim
    · cases h
  | _ => cases h
def mPutD (P : Nat) (fo fi fv : Env → M T) : Sm := fun ρ => eM (fv ρ) fun v => eM (fo ρ) fun o => eM (fi ρ) fun i => eM (keepT P v) fun y μ => match liveD μ o, look μ i with
  | some (n, tk, kvs), some i' => (match dputT tk kvs i' y with
    | some kvs' => if kvs.length < 1000000 then some (.nx ρ, μ.set n (.dct tk kvs', true)) else none
    | none => none)
  | _, _ => none
theorem js_put {fi : Env → M T} (hu : X.A.units + 1 < cLine) (ho : JE X R W e fo) (hi : JE X R W e2 fi) (hv : JE X R W e3 fv)
    (hs : swapsWith e3 (some (.Subscript e e2 tpos)) pos.line X.env = pure false := by rfl) : JS X R W (.Assign [.Subscript e e2 tpos] e3 pos) (mPutD P fo fi fv) :=
  (ps_dput hu ho hi hv hs).imp fun D σ H ⟨x0, S, ρ, μ, e, k⟩ => by
    refine ⟨x0, S, ρ, μ, e, (PostS.bind e k).imp fun y H1 ⟨ty, μ1, g1, e1, r1, k1⟩ => ?_⟩
    refine ⟨x0, S, ρ, μ1, e1, (PostS.bind e1 k1).imp fun ov H2 ⟨to, μ2, g2, e2, r2, k2⟩ => ?_⟩
    refine ⟨x0, S, ρ, μ2, e2, (PostS.bind e2 k2).imp fun iv H3 ⟨ti, μ3, g3, e3, r3, k3⟩ => ?_⟩
    obtain ⟨t', μ4, g4, e4, r4, k4⟩ := PostS.keep e3 (g3.v e2.so.len (g2.v e1.so.len r1)) k3
    have r2' := g4.v e3.so.len (g3.v e2.so.len r2)
    have r3' := g4.v e3.so.len r3
    cases ql : liveD μ4 to with
    | none => simp only [ql] at k4; exact (k4 : False).elim
    | some nt =>
      obtain ⟨n, tk, kvs⟩ := nt
      cases qk : look μ4 ti with
      | none => simp only [ql, qk] at k4; exact (k4 : False).elim
      | some ti' =>
        simp only [ql, qk] at k4
        have rk := look_rep e4.so r3' qk
        obtain ⟨a, rfl, h1, hm, h3⟩ := liveD_ok e4.so r2' ql
        cases qp : dputT tk kvs ti' t' with
        | none => simp only [qp] at k4; exact (k4 : False).elim
        | some kvs' =>
          simp only [qp] at k4
          by_cases hz : kvs.length < 1000000
          · rw [if_pos hz] at k4
            have hline : ∀ {κ : Type} {ks : List (κ × V)}, ks.length = kvs.length → ks.length < sizeLine := fun h => by
              have h17 : (1000000 : Nat) < sizeLine := by decide
              omega
            unfold dputT at qp
            cases tk with
            | false =>
              obtain ⟨ks, h4, h5⟩ := h3
              have h5 := repK_P.mp h5
              simp only at qp
              cases q : keyT ti' with
              | none => rw [q] at qp; cases qp
              | some kk =>
                rw [q] at qp
                cases qp
                rw [keyT_rep rk q]
                refine ⟨a, _, rfl, DPut.k h4 (hline h5.length), ?_⟩
                obtain ⟨G, so⟩ := put_ok (ho := .dK (putK ks kk y)) (o' := .dct false (putP keyT kvs ti' t')) e4.so h1 hm h4 (fun ps z => by cases z) (fun φ z => by cases z)
                  fun H' mo hh => ⟨_, hh, RepK.mono mo _ _ (repK_P.mpr (h5.put q r4))⟩
                exact k4 S σ _ G (e4.go G so)
            | true =>
              obtain ⟨ks, h4, h5⟩ := h3
              have h5 := repTK_P.mp h5
              simp only at qp
              cases q : tkeyT ti' with
              | none => rw [q] at qp; cases qp
              | some kk =>
                rw [q] at qp
                cases qp
                obtain ⟨b, rfl, hb⟩ := tkeyT_rep rk q
                refine ⟨a, _, rfl, DPut.t h4 hb (hline h5.length), ?_⟩
                obtain ⟨G, so⟩ := put_ok (ho := .dT (putK ks kk y)) (o' := .dct true (putP tkeyT kvs ti' t')) e4.so h1 hm h4 (fun ps z => by cases z) (fun φ z => by cases z)
                  fun H' mo hh => ⟨_, hh, RepTK.mono mo _ _ (repTK_P.mpr (h5.put q r4))⟩
                exact k4 S σ _ G (e4.go G so)
          · rw [if_neg hz] at k4
            exact (k4 : False).elim
end
end TL

set_option maxHeartbeats 4000000
namespace TL
open PySem PySem.Spec PyProof.Rows L2

section
variable {X : Cx} {R : RC} {H H' : Hp} {x y v : V} {Q : VK} {t : T} {ex : Addr → Prop}
/-! ### sorted(list) -/
def sortableB (ds : List PyData) : Bool := (ds.all fun d => match d with | .tuple (_ :: _) => true | _ => false) || (ds.all fun d => match d with | .none => false | .tuple _ => false | _ => true)
theorem sortableB_ok {ds : List PyData} (h : sortableB ds = true) : PySem.W.Sortable ds := by
  unfold sortableB at h
  rw [Bool.or_eq_true] at h
  rcases h with h | h
  · refine .inl fun d hd => ?_
    have := List.all_eq_true.mp h d hd
    cases d with
    | tuple l => cases l with
      | nil => cases this
      | cons x r => exact ⟨x, r, rfl⟩
    | _ => cases this
  · refine .inr fun d hd => ?_
    have := List.all_eq_true.mp h d hd
    cases d with
    | tuple l => cases this
    | none => cases this
    | _ => exact ⟨(fun z => nomatch z), (fun _ z => nomatch z)⟩
abbrev TVD := T × V × PyData
theorem trip : ∀ {ts : List T} {xs : List V} {ds : List PyData}, Reps R ex H ts xs → toDs ts = some ds →
    ∃ bs : List TVD, bs.map (·.1) = ts ∧ bs.map (·.2.1) = xs ∧ bs.map (·.2.2) = ds ∧ bs.map (fun b => (b.1, b.2.2)) = ts.zip ds ∧ ∀ b ∈ bs, Rep R ex H b.1 b.2.1
  | [], _, _, h, e => by cases h; cases e; exact ⟨[], rfl, rfl, rfl, rfl, fun _ h => by cases h⟩
  | t :: ts, _, _, h, e => by
    obtain ⟨x, r, rfl, h1, h2⟩ := h
    unfold toDs at e
    cases q : toD t with
    | none => rw [q] at e; cases e
    | some d =>
      cases q2 : toDs ts with
      | none => rw [q, q2] at e; cases e
      | some ds =>
        rw [q, q2] at e
        cases e
        obtain ⟨bs, e1, e2, e3, e4, e5⟩ := trip h2 q2
        refine ⟨(t, x, d) :: bs, by simp [e1], by simp [e2], by simp [e3], by simp [e4], fun b hb => ?_⟩
        rcases List.mem_cons.mp hb with rfl | hb
        · exact h1
        · exact e5 b hb
theorem reps_of : ∀ {bs : List TVD}, (∀ b ∈ bs, Rep R ex H b.1 b.2.1) → Reps R ex H (bs.map (·.1)) (bs.map (·.2.1))
  | [], _ => rfl
  | b :: bs, h => ⟨b.2.1, _, rfl, h b (by simp), reps_of fun c hc => h c (by simp [hc])⟩
theorem each_of : ∀ {bs : List TVD} {us : List Value}, Vals (bs.map (·.2.1)) us → PySem.W.EachIs (fun u b => RelV b.2.1 u) us bs
  | [], _, r => by cases r; exact .nil
  | b :: bs, us, r => by
    cases r with
    | cons r rr => exact .cons r (each_of rr)
theorem vals_of : ∀ {bs : List TVD} {us : List Value}, PySem.W.EachIs (fun u b => RelV b.2.1 u) us bs → Vals (bs.map (·.2.1)) us
  | [], _, r => by cases r; exact .nil
  | b :: bs, us, r => by
    cases r with
    | cons r rr => exact .cons r (vals_of rr)
def sortL (ts : List T) (ds : List PyData) : List T := ((ts.zip ds).mergeSort (PySem.W.dataLe false fun p => p.2)).map (·.1)
/-- keys that are texts -/
def strKs : List (T × T) → Option (List Str)
  | [] => some []
  | (.str s, _) :: r => (strKs r).map (s :: ·)
  | _ => none
def sortS (ks : List Str) : List Str := ks.mergeSort fun a b => !ltCps b.cps.toList a.cps.toList
theorem cps_inj {a b : Str} (h : a.cps.toList = b.cps.toList) : a = b := by
  cases a with
  | mk x => cases b with
    | mk y =>
      have : x = y := by
        cases x; cases y; exact congrArg Array.mk h
      rw [this]
def leS (a b : Str) : Prop := ltCps b.cps.toList a.cps.toList = false
theorem leS_iff {a b : Str} : leS a b ↔ a.cps.toList ≤ b.cps.toList := by
  unfold leS
  rw [PyProof.Rows.ltCps_eq, decide_eq_false_iff_not]
  exact Iff.rfl
theorem leS_trans {a b c : Str} (h1 : leS a b) (h2 : leS b c) : leS a c := leS_iff.mpr (List.le_trans (leS_iff.mp h1) (leS_iff.mp h2))
theorem leS_anti {a b : Str} (h1 : leS a b) (h2 : leS b a) : a = b := cps_inj (List.le_antisymm (leS_iff.mp h1) (leS_iff.mp h2))
theorem leS_total {a b : Str} : leS a b ∨ leS b a := by
  rcases List.le_total a.cps.toList b.cps.toList with h | h
  · exact .inl (leS_iff.mpr h)
  · exact .inr (leS_iff.mpr h)
theorem pair_of_rising : ∀ (r : List Str) (p : Str), risingS p r = true → (∀ x ∈ r, leS p x) ∧ r.Pairwise leS
  | [], _, _ => ⟨fun _ h => (by cases h), List.Pairwise.nil⟩
  | x :: r, p, h => by
    unfold risingS at h
    rw [Bool.and_eq_true] at h
    obtain ⟨h1, h2⟩ := pair_of_rising r x h.2
    have hp : leS p x := by have := h.1; unfold leS; simpa using this
    refine ⟨fun y hy => ?_, List.pairwise_cons.mpr ⟨h1, h2⟩⟩
    rcases List.mem_cons.mp hy with rfl | hy
    · exact hp
    · exact leS_trans hp (h1 y hy)
theorem pair_of_sorted : ∀ (r : List Str), sortedS r = true → r.Pairwise leS
  | [], _ => List.Pairwise.nil
  | x :: r, h => List.pairwise_cons.mpr (pair_of_rising r x h)
theorem sortS_eq {ks ys : List Str} (hp : ys.Perm ks) (hs : sortedS ys = true) : ys = sortS ks := by
  have h1 : (sortS ks).Pairwise leS := by
    have := List.pairwise_mergeSort (le := fun a b : Str => !ltCps b.cps.toList a.cps.toList)
      (fun a b c h1 h2 => by
        have e1 : leS a b := by unfold leS; simpa using h1
        have e2 : leS b c := by unfold leS; simpa using h2
        have := leS_trans e1 e2
        unfold leS at this
        simp [this])
      (fun a b => by
        rcases @leS_total a b with h | h
        · unfold leS at h; simp [h]
        · unfold leS at h; simp [h]) ks
    refine this.imp fun h => ?_
    unfold leS
    simpa using h
  exact List.Perm.eq_of_pairwise (fun a b _ _ h1 h2 => leS_anti h1 h2) (pair_of_sorted ys hs) h1 (hp.trans (List.mergeSort_perm _ _).symm)
theorem strKs_rep {H : Hp} {R : RC} {ex : Addr → Prop} : ∀ {kvs : List (T × T)} {xs : List (Key × V)} {ks : List Str}, RepK R ex H kvs xs → strKs kvs = some ks → xs.map (·.1) = ks.map Sum.inr
  | [], _, _, h, e => by cases h; cases e; rfl
  | (k, t) :: ts, _, _, h, e => by
    obtain ⟨kk, x, r, rfl, h1, h2, h3⟩ := h
    unfold strKs at e
    split at e
    · rename_i he; cases he
    · rename_i s u r' he
      cases he
      cases q : strKs ts with
      | none => rw [q] at e; cases e
      | some l =>
        rw [q] at e
        cases e
        cases h1
        rw [List.map_cons, List.map_cons, strKs_rep h3 q]
    · cases e
theorem reps_strs {H : Hp} {R : RC} {ex : Addr → Prop} : ∀ (ks : List Str), Reps R ex H (ks.map T.str) (ks.map V.str)
  | [] => rfl
  | k :: ks => ⟨V.str k, _, rfl, rfl, reps_strs ks⟩
def sortT : List T → Option T
  | [.dct false kvs] => match strKs kvs with
    | some ks => if ks.length < 64 then some (.lst ((sortS ks).map T.str)) else none
    | none => none
  | [.lst ts] => match toDs ts with
    | some ds => if alikeB ds = true ∧ sortableB ds = true ∧ (ds.all fun d => decide (d.depth ≤ 60)) = true ∧ ts.length ≤ 1000000 then some (.lst (sortL ts ds)) else none
    | none => none
  | [.tup ts] => match toDs ts with
    | some ds => if alikeB ds = true ∧ sortableB ds = true ∧ (ds.all fun d => decide (d.depth ≤ 60)) = true ∧ ts.length ≤ 1000000 then some (.lst (sortL ts ds)) else none
    | none => none
  | _ => none
theorem c_sorted (hc : X.calm = true) (hK : X.K = R.K) (hu : X.A.units + 64 < cLine) : CallR X (.builtin "sorted") (rOpN R sortT) := by
  intro pins s σ H vs us Q I r ⟨ex, ts, t, hx, r1, e, k⟩
  unfold sortT at e
  split at e
  · rename_i kvs
    cases q : strKs kvs with
    | none => rw [q] at e; cases e
    | some ks =>
      rw [q] at e
      simp only at e
      split at e
      · rename_i h64
        cases e
        obtain ⟨x, rfl, q1⟩ := r1.one
        obtain ⟨a, rfl, q2⟩ := q1
        rcases q2 with ⟨_, xs, h1, h2⟩ | ⟨h0, _⟩
        · refine call_sortedD hc _ _ _ _ _ _ _ I r ⟨a, xs, ks, rfl, h1, strKs_rep h2 q, h64, fun ys p hp hs hn => ?_⟩
          rw [sortS_eq hp hs]
          obtain ⟨g, r⟩ := new_lst hx (reps_strs (sortS ks)) _ hn
          exact k _ _ g r
        · cases h0
      · cases e
  · rename_i ts
    cases q : toDs ts with
    | none => rw [q] at e; cases e
    | some ds =>
      rw [q] at e
      simp only at e
      split at e
      · rename_i hc
        obtain ⟨h1, h2, h3, h4⟩ := hc
        cases e
        obtain ⟨x, rfl, a, xs, rfl, ha, hr⟩ := r1.one
        obtain ⟨u, rfl, ru⟩ := vals1 r
        obtain rfl : u = Value.ref a := ru
        obtain ⟨its, rv, hl, hz⟩ := I.list (SqL.of ha)
        have hd := toDs_rep _ _ _ hr q
        rw [← hK] at hd
        obtain ⟨as, hrd⟩ := Dp.readsAll I ds xs its hd rv
        obtain ⟨bs, e1, e2, e3, e4, e5⟩ := trip hr q
        have hlen : bs.length = ts.length := by rw [← e1, List.length_map]
        subst e2
        refine PySem.W.sorted_data (R := fun u (b : TVD) => RelV b.2.1 u) (enc := fun b : TVD => b.2.2) (bs := bs) hl.isList (each_of rv) (PySem.W.readsAll_each _ (by rw [e3]; exact hrd)) (by rw [e3]; exact (alikeB_ok h1).1.1) (by rw [e3]; exact sortableB_ok h2)
          (by rw [hlen]; exact line6 h4) (fun b hb => ?_) fun out ho eo => ?_
        · have := List.all_eq_true.mp h3 b.2.2 (by rw [← e3]; exact List.mem_map_of_mem hb)
          simp only [decide_eq_true_eq] at this
          omega
        · have hmem : ∀ b ∈ bs.mergeSort (PySem.W.dataLe false fun b : TVD => b.2.2), Rep R ex H b.1 b.2.1 := fun b hb => e5 b ((List.mergeSort_perm _ _).mem_iff.mp hb)
          have hT : (bs.mergeSort (PySem.W.dataLe false fun b : TVD => b.2.2)).map (·.1) = sortL ts ds := by
            unfold sortL
            rw [← e4, ← List.map_mergeSort (r := PySem.W.dataLe false fun b : TVD => b.2.2) (s := PySem.W.dataLe false fun p : T × PyData => p.2) (f := fun b : TVD => (b.1, b.2.2)) (fun a _ b _ => rfl), List.map_map]
            rfl
          have hp : H (s.heap.objs.size + 1) = none := I.hok.fresh (Nat.le_succ _)
          obtain ⟨c, hc⟩ := sortedAll_at s.heap its out.toArray
          have hr2 := reps_of hmem
          rw [hT] at hr2
          obtain ⟨g, r⟩ := new_lst hx hr2 _ hp
          refine ⟨.ref (s.heap.objs.size + 1), upd H (s.heap.objs.size + 1) (.lst _), I.laid (t' := s.toks) (fun _ _ => sortedAll_old) (Nat.le_succ _) ⟨?_, out, c, vals_of eo, hc⟩, rfl, k _ _ g r⟩
          rw [List.length_map, List.length_mergeSort, hlen]
          exact line6 h4
      · cases e
  · rename_i ts
    cases q : toDs ts with
    | none => rw [q] at e; cases e
    | some ds =>
      rw [q] at e
      simp only at e
      split at e
      · rename_i hc
        obtain ⟨h1, h2, h3, h4⟩ := hc
        cases e
        obtain ⟨x, rfl, rx0⟩ := r1.one
        obtain ⟨a, xs, rfl, ha, hr⟩ := Rep.sqt rx0
        obtain ⟨u, rfl, ru⟩ := vals1 r
        obtain rfl : u = Value.ref a := ru
        obtain ⟨its, rv, hl, hz⟩ := I.tuple (by rw [hK]; exact ha)
        have hd := toDs_rep _ _ _ hr q
        rw [← hK] at hd
        obtain ⟨as, hrd⟩ := Dp.readsAll I ds xs its hd rv
        obtain ⟨bs, e1, e2, e3, e4, e5⟩ := trip hr q
        have hlen : bs.length = ts.length := by rw [← e1, List.length_map]
        subst e2
        refine PySem.W.tup_sorted (R := fun u (b : TVD) => RelV b.2.1 u) (enc := fun b : TVD => b.2.2) (bs := bs) hl (each_of rv) (PySem.W.readsAll_each _ (by rw [e3]; exact hrd)) (by rw [e3]; exact (alikeB_ok h1).1.1) (by rw [e3]; exact sortableB_ok h2)
          (by rw [hlen]; exact line6 h4) (fun b hb => ?_) fun out ho eo => ?_
        · have := List.all_eq_true.mp h3 b.2.2 (by rw [← e3]; exact List.mem_map_of_mem hb)
          simp only [decide_eq_true_eq] at this
          omega
        · have hmem : ∀ b ∈ bs.mergeSort (PySem.W.dataLe false fun b : TVD => b.2.2), Rep R ex H b.1 b.2.1 := fun b hb => e5 b ((List.mergeSort_perm _ _).mem_iff.mp hb)
          have hT : (bs.mergeSort (PySem.W.dataLe false fun b : TVD => b.2.2)).map (·.1) = sortL ts ds := by
            unfold sortL
            rw [← e4, ← List.map_mergeSort (r := PySem.W.dataLe false fun b : TVD => b.2.2) (s := PySem.W.dataLe false fun p : T × PyData => p.2) (f := fun b : TVD => (b.1, b.2.2)) (fun a _ b _ => rfl), List.map_map]
            rfl
          have hp : H (s.heap.objs.size + 1) = none := I.hok.fresh (Nat.le_succ _)
          obtain ⟨c, hc⟩ := sortedAll_at s.heap its out.toArray
          have hr2 := reps_of hmem
          rw [hT] at hr2
          obtain ⟨g, r⟩ := new_lst hx hr2 _ hp
          refine ⟨.ref (s.heap.objs.size + 1), upd H (s.heap.objs.size + 1) (.lst _), I.laid (t' := s.toks) (fun _ _ => sortedAll_old) (Nat.le_succ _) ⟨?_, out, c, vals_of eo, hc⟩, rfl, k _ _ g r⟩
          rw [List.length_map, List.length_mergeSort, hlen]
          exact line6 h4
      · cases e
  · cases e
end
end TL

set_option maxHeartbeats 4000000
namespace TL
open PySem PySem.Spec PyProof.Rows L2 RT

section
variable {X : Cx} {R : RC} {W : WX} {x0 : Addr → Prop} {S S' S1 S2 : List Addr} {ρ ρ' : Env} {μ μ' μ1 μ2 : Mu} {σ σ' : L2.St} {H H' H1 H2 : Hp} {t : T} {v x y : V} {Q : VK} {P np k q n : Nat} {pos p apos tpos cpos pos' : Pos} {e e2 e3 tg elt iter : Expr} {es ifs elts : List Expr} {fs : Env → M (List T)} {fa fo fv fe : Env → M T} {a : Addr} {o o' : MO} {ex : Addr → Prop}
/-! ### enumerate(list), reversed(..) -/
def enumT (ts : List T) : List T := (List.range ts.length).zipWith (fun i t => T.tup [.int (i : Nat), t]) ts
theorem enumT_at {ts : List T} {i : Nat} {u : T} (h : (enumT ts)[i]? = some u) : ∃ t, ts[i]? = some t ∧ u = .tup [.int (i : Nat), t] := by
  unfold enumT at h
  rw [List.getElem?_zipWith] at h
  cases q : ts[i]? with
  | none => rw [q] at h; simp at h
  | some t =>
    rw [q, List.getElem?_range (ltE q)] at h
    simp only [Option.some.injEq] at h
    exact ⟨t, rfl, h.symm⟩
theorem RIt.enum {ex : Addr → Prop} {a : Addr} {xs : List V} {ts : List T} (hx1 : ¬ ex a) (h1 : H a = some (.lst xs)) (h2 : Reps R ex H ts xs) : ItOk R ex H (Ite R.K a) (enumT ts) := by
  intro ex' H' mo hx
  have rs := Reps.mono mo _ _ h2
  have sq : SqL R.K H' a xs := SqL.of (mo.k a _ hx1 h1 (fun ps z => by cases z))
  refine ⟨fun i u hi => ?_, fun i hi => ⟨xs, sq, by
    rw [h2.length]
    unfold enumT at hi
    rw [List.length_zipWith, List.length_range, Nat.min_self] at hi
    exact hi⟩⟩
  obtain ⟨t, ht, rfl⟩ := enumT_at hi
  obtain ⟨x, e1, e2⟩ := rs.at ht
  refine ⟨⟨xs, x, sq, e1⟩, fun y H2 ⟨p, x', e3, hp, e4, e5⟩ => ?_⟩
  subst e3 e4
  have := e5 xs sq
  rw [e1] at this
  cases this
  have gr : Grow H' (upd H' p (.tup [.int (i : Nat), x])) := Grow.new hp
  exact ⟨gr, p, _, rfl, fun z => hx p z hp, upd_same, .int (i : Nat), [x], rfl, rfl, x, [], rfl, Rep.mono (Mono.grow gr hx) _ _ e2, rfl⟩
theorem RIt.rev {ex : Addr → Prop} {a : Addr} {xs : List V} {ts : List T} (hx1 : ¬ ex a) (h1 : H a = some (.lst xs)) (h2 : Reps R ex H ts xs) : ItOk R ex H (Itv R.K a xs.length) ts.reverse := by
  intro ex' H' mo hx
  have rs := Reps.mono mo _ _ h2
  have sq : SqL R.K H' a xs := SqL.of (mo.k a _ hx1 h1 (fun ps z => by cases z))
  refine ⟨fun i u hi => ?_, fun i hi => by rw [List.length_reverse] at hi; show xs.length ≤ i; rw [h2.length]; exact hi⟩
  have hlt := ltE hi
  rw [List.length_reverse] at hlt
  rw [List.getElem?_reverse hlt] at hi
  obtain ⟨x, e1, e2⟩ := rs.at hi
  rw [← h2.length] at e1
  refine ⟨⟨by rw [h2.length]; exact hlt, xs, x, sq, e1⟩, fun y H2 ⟨e3, e4⟩ => ?_⟩
  subst e3
  have := e4 xs sq
  rw [e1] at this
  cases this
  exact ⟨Grow.refl _, e2⟩
theorem RIt.revT {ex : Addr → Prop} {a : Addr} {xs : List V} {ts : List T} (hx1 : ¬ ex a) (h1 : H a = some (.tup xs)) (h2 : Reps R ex H ts xs) : ItOk R ex H (ItvT R.K a xs.length) ts.reverse := by
  intro ex' H' mo hx
  have rs := Reps.mono mo _ _ h2
  have sq : SqT R.K H' a xs := .inl (.inl (mo.k a _ hx1 h1 (fun ps z => by cases z)))
  refine ⟨fun i u hi => ?_, fun i hi => by rw [List.length_reverse] at hi; show xs.length ≤ i; rw [h2.length]; exact hi⟩
  have hlt := ltE hi
  rw [List.length_reverse] at hlt
  rw [List.getElem?_reverse hlt] at hi
  obtain ⟨x, e1, e2⟩ := rs.at hi
  rw [← h2.length] at e1
  refine ⟨⟨by rw [h2.length]; exact hlt, xs, x, sq, e1⟩, fun y H2 ⟨e3, e4⟩ => ?_⟩
  subst e3
  have := e4 xs sq
  rw [e1] at this
  cases this
  exact ⟨Grow.refl _, e2⟩
def walkE : T → M (List T)
  | .lst ts => M.ret (enumT ts)
  | _ => M.stuck
def walkR : T → M (List T)
  | .lst ts => M.ret ts.reverse
  | .tup ts => M.ret ts.reverse
  | _ => M.stuck
def mEnum (P : Nat) (fa : Env → M T) : Env → M (List T) := fun ρ => (fa ρ).bind fun t => (keepT P t).bind walkE
def mRev (P : Nat) (fa : Env → M T) : Env → M (List T) := fun ρ => (fa ρ).bind fun t => (keepT P t).bind walkR
def ta1 (te : TE) : TA := fun σ H Q => te σ H fun v H1 => Q [v] H1
theorem pa_one {te : TE} (he : PE X e te) (hs : starEach [e] X.env = (false, eval e X.env) :: starEach [] X.env) : PA X [e] (ta1 te) :=
  (pa_cons he pa_nil hs).imp fun σ H Q h => h
theorem ji_enum (hK : X.K = R.K) (he : JE X R W e fa) (hg : Gl X "enumerate") (hm : X.mg "enumerate" = none) (hs : starEach [e] X.env = [(false, eval e X.env)] := by rfl) {kk : Nat} :
    JI X R W (.Tuple elts kk tpos) (.Call (.Name "enumerate" p) [e] [] pos) (mEnum P fa) :=
  (pi_enum hg hm (pa_one he hs) hs).imp fun σ H Rk h => by
    obtain ⟨x0, S, ρ, μ, e, k⟩ := iter_ok h
    refine ⟨x0, S, ρ, μ, e, k.imp fun x H1 ⟨x0, S, ρ, μ, t, e, r, k⟩ => ?_⟩
    cases t with
    | lst ts =>
      obtain ⟨a, xs, rfl, hx, h1, h2⟩ := r
      rw [hK]
      exact ⟨a, xs, rfl, SqL.of h1, k _ H1 (Go.refl _ _ _) e.so (RIt.enum hx h1 h2)⟩
    | _ => exact k.elim
theorem ji_rev (hK : X.K = R.K) (he : JE X R W e fa) (hg : Gl X "reversed") (hm : X.mg "reversed" = none) (hs : starEach [e] X.env = (false, eval e X.env) :: starEach [] X.env := by rfl) :
    JI X R W tg (.Call (.Name "reversed" p) [e] [] pos) (mRev P fa) :=
  (pi_revA hg hm he hs).imp fun σ H Rk h => by
    obtain ⟨x0, S, ρ, μ, e, k⟩ := iter_ok h
    refine ⟨x0, S, ρ, μ, e, k.imp fun x H1 ⟨x0, S, ρ, μ, t, e, r, k⟩ => ?_⟩
    cases t with
    | lst ts =>
      obtain ⟨a, xs, rfl, hx, h1, h2⟩ := r
      rw [hK]
      exact ⟨a, xs, rfl, .inl ⟨SqL.of h1, k _ H1 (Go.refl _ _ _) e.so (RIt.rev hx h1 h2)⟩⟩
    | tup ts =>
      obtain ⟨a, xs, rfl, hx, h1, h2⟩ := r
      rw [hK]
      exact ⟨a, xs, rfl, .inr ⟨.inl (.inl h1), k _ H1 (Go.refl _ _ _) e.so (RIt.revT hx h1 h2)⟩⟩
    | _ => exact k.elim
end
end TL

set_option maxHeartbeats 4000000
namespace TL
open PySem PySem.Spec PyProof.Rows L2

section
variable {X : Cx} {R : RC} {H H' : Hp} {x y v : V} {Q : VK} {t : T} {ex : Addr → Prop}
theorem RepTops.nil' {xs : List V} (h : RepTops R ex H [] xs) : xs = [] := h
theorem new_strs {ss : List Str} (hx : ∀ a, ex a → H a ≠ none) (p : Addr) (hp : H p = none) : Grow H (upd H p (.lst (strVs ss))) ∧ Rep R ex (upd H p (.lst (strVs ss))) (.lst (ss.map T.str)) (.ref p) := new_lst hx (Reps.strs ss) p hp
def strsT : List T → Option (List Str)
  | [] => some []
  | .str z :: r => (strsT r).map (z :: ·)
  | _ :: _ => none
theorem strsT_rep : ∀ {ts : List T} {xs : List V} {ss : List Str}, Reps R ex H ts xs → strsT ts = some ss → xs = ss.map V.str
  | [], _, _, r, e => by cases r; cases e; rfl
  | t :: ts, _, _, r, e => by
    obtain ⟨x, rr, rfl, h1, h2⟩ := r
    cases t with
    | str i =>
      unfold strsT at e
      cases q : strsT ts with
      | none => rw [q] at e; cases e
      | some ns => rw [q] at e; cases e; cases h1; rw [strsT_rep h2 q]; rfl
    | _ => cases e
def splitT : T → List T → Option T
  | .str a, [.str b] => if (b.length == 0) = false ∧ a.length + 2 ≤ 1000000 then some (.lst ((Txt.split a b).map T.str)) else none
  | _, _ => none
theorem m_split : MtR X "str.split" (rOpM R splitT) := mt_split.imp fun x xs H Q ⟨ex, tx, ts, t, hx, r1, r2, e, k⟩ => by
  unfold splitT at e
  split at e
  · split at e
    · rename_i hc
      cases e; cases r1
      obtain ⟨y, rfl, ry⟩ := r2.one
      cases ry
      refine ⟨_, _, rfl, rfl, hc.1, line6 hc.2, fun p hp => ?_⟩
      obtain ⟨g, r⟩ := new_strs hx p hp
      exact k _ _ g r
    · cases e
  · cases e
def partT : T → List T → Option T
  | .str a, [.str b] => if (b.length == 0) = false ∧ a.length ≤ 1000000 then some (.tup [.str (Txt.partition a b).1, .str (Txt.partition a b).2.1, .str (Txt.partition a b).2.2]) else none
  | _, _ => none
theorem m_part : MtR X "str.partition" (rOpM R partT) := mt_partition.imp fun x xs H Q ⟨ex, tx, ts, t, hx, r1, r2, e, k⟩ => by
  unfold partT at e
  split at e
  · split at e
    · rename_i hc
      cases e; cases r1
      obtain ⟨y, rfl, ry⟩ := r2.one
      cases ry
      refine ⟨_, _, rfl, rfl, hc.1, line6 hc.2, fun p hp => ?_⟩
      obtain ⟨g, r⟩ := new_tup (ts := [.str _, .str _, .str _]) hx ⟨_, _, rfl, rfl, _, _, rfl, rfl, _, _, rfl, rfl, rfl⟩ p hp
      exact k _ _ g r
    · cases e
  · cases e
def jnT (a : Str) (ts : List T) : Option T := match strsT ts with
  | some ys => if (ys.map (·.length)).sum + ys.length * a.length ≤ 16777216 then some (.str (Txt.join a ys)) else none
  | none => none
def joinT : T → List T → Option T
  | .str a, [.lst ts] => jnT a ts
  | .str a, [.tup ts] => jnT a ts
  | .str a, [.wt ts] => jnT a ts
  | _, _ => none
theorem jnT_ok {a : Str} {ts : List T} {xs : List V} (r : Reps R ex H ts xs) (e : jnT a ts = some t) : ∃ ys : List Str, xs = ys.map V.str ∧ (ys.map (·.length)).sum + ys.length * a.length ≤ 16777216 ∧ t = .str (Txt.join a ys) := by
  unfold jnT at e
  cases q : strsT ts with
  | none => rw [q] at e; cases e
  | some ys =>
    rw [q] at e
    simp only at e
    split at e
    · rename_i h
      cases e
      exact ⟨ys, strsT_rep r q, h, rfl⟩
    · cases e
theorem m_join (hK : X.K = R.K) : MtR X "str.join" (rOpM R joinT) := mt_join.imp fun x xs H Q ⟨ex, tx, ts, t, hx, r1, r2, e, k⟩ => by
  unfold joinT at e
  split at e
  · cases r1
    obtain ⟨y, rfl, p, zs, rfl, h1, h2⟩ := r2.one
    obtain ⟨ys, rfl, hz, rfl⟩ := jnT_ok h2 e
    exact ⟨_, p, ys, rfl, rfl, .inl (SqL.of h1), hz, k _ _ (Grow.refl _) rfl⟩
  · cases r1
    obtain ⟨y, rfl, ry⟩ := r2.one
    obtain ⟨p, zs, rfl, h1, h2⟩ := Rep.sqt ry
    obtain ⟨ys, rfl, hz, rfl⟩ := jnT_ok h2 e
    exact ⟨_, p, ys, rfl, rfl, .inr (by rw [hK]; exact h1), hz, k _ _ (Grow.refl _) rfl⟩
  · cases r1
    obtain ⟨y, rfl, ry⟩ := r2.one
    obtain ⟨p, zs, rfl, h1, h2⟩ := Rep.sqw ry
    obtain ⟨ys, rfl, hz, rfl⟩ := jnT_ok h2 e
    exact ⟨_, p, ys, rfl, rfl, .inr (by rw [hK]; exact h1), hz, k _ _ (Grow.refl _) rfl⟩
  · cases e
def stripT : T → List T → Option T
  | .str a, [] => if a.length ≤ 1000000 then some (.str (Txt.strip a)) else none
  | _, _ => none
theorem m_strip : MtR X "str.strip" (rOpM R stripT) := mt_strip.imp fun x xs H Q ⟨ex, tx, ts, t, hx, r1, r2, e, k⟩ => by
  unfold stripT at e
  split at e
  · split at e
    · rename_i hc
      cases e; cases r1
      exact ⟨_, rfl, RepTops.nil' r2, line6 hc, k _ _ (Grow.refl _) rfl⟩
    · cases e
  · cases e
def ss1 (f : Str → Str → T) : T → List T → Option T
  | .str a, [.str b] => some (f a b)
  | _, _ => none
theorem m_starts : MtR X "str.startswith" (rOpM R (ss1 fun a b => .bl (Txt.startswith a b))) := mt_startswith.imp fun x xs H Q ⟨ex, tx, ts, t, hx, r1, r2, e, k⟩ => by
  unfold ss1 at e
  split at e
  · cases e; cases r1
    obtain ⟨y, rfl, ry⟩ := r2.one
    cases ry
    exact ⟨_, _, rfl, rfl, k _ _ (Grow.refl _) rfl⟩
  · cases e
theorem m_ends : MtR X "str.endswith" (rOpM R (ss1 fun a b => .bl (Txt.endswith a b))) := mt_endswith.imp fun x xs H Q ⟨ex, tx, ts, t, hx, r1, r2, e, k⟩ => by
  unfold ss1 at e
  split at e
  · cases e; cases r1
    obtain ⟨y, rfl, ry⟩ := r2.one
    cases ry
    exact ⟨_, _, rfl, rfl, k _ _ (Grow.refl _) rfl⟩
  · cases e
theorem m_count : MtR X "str.count" (rOpM R (ss1 fun a b => .int (Txt.count a b))) := mt_count.imp fun x xs H Q ⟨ex, tx, ts, t, hx, r1, r2, e, k⟩ => by
  unfold ss1 at e
  split at e
  · cases e; cases r1
    obtain ⟨y, rfl, ry⟩ := r2.one
    cases ry
    exact ⟨_, _, rfl, rfl, k _ _ (Grow.refl _) rfl⟩
  · cases e
/-! ### methods of lists -/
def indexT : T → List T → Option T
  | .lst ts, [u] => match toDs ts, toD u with
    | some ds, some d => if SeqAt.shaped (.list ds) = true ∧ SeqAt.shaped d = true then (ds.findIdx? fun z => PyData.eqv z d).map fun j => .int (j : Nat) else none
    | _, _ => none
  | _, _ => none
theorem m_index (hK : X.K = R.K) (hu : X.A.units + 65 < cLine) : MtR X "list.index" (rOpM R indexT) := (mt_indexD hu).imp fun x xs H Q ⟨ex, tx, ts, t, hx, r1, r2, e, k⟩ => by
  unfold indexT at e
  split at e
  · rename_i us w
    split at e
    · rename_i ds d h1 h2
      split at e
      · rename_i hs
        cases q : ds.findIdx? fun z => PyData.eqv z d with
        | none => rw [q] at e; cases e
        | some j =>
          rw [q] at e
          cases e
          obtain ⟨y, rfl, ry⟩ := r2.one
          have r1' := r1
          obtain ⟨a, zs, rfl, h3, h4⟩ := r1
          obtain ⟨hlt, hj, hno⟩ := List.findIdx?_eq_some_iff_getElem.mp q
          rw [hK]
          refine ⟨a, y, d, ds, j, ds[j], rfl, rfl, toD_rep (.lst us) _ _ r1' (by unfold toD; rw [h1]; rfl), toD_rep w _ _ ry h2, hs.1, hs.2, List.getElem?_eq_getElem hlt, hj, fun m z' hm hz => ?_, k _ _ (Grow.refl _) rfl⟩
          obtain ⟨hm', rfl⟩ := List.getElem?_eq_some_iff.mp hz
          simpa using hno m hm
      · cases e
    · cases e
  · cases e
def wIndexT : T → List T → Option T
  | .wt ts, [.str z] => match strsT ts with
    | some ss => (ss.findIdx? fun y => decide (y = z)).map fun j => .int (j : Nat)
    | none => none
  | _, _ => none
theorem m_windex (hK : X.K = R.K) : MtR X "tuple.index" (rOpM R wIndexT) := mt_tup_index.imp fun x xs H Q ⟨ex, tx, ts, t, hx, r1, r2, e, k⟩ => by
  unfold wIndexT at e
  split at e
  · rename_i us w
    split at e
    · rename_i ss hs
      cases q : ss.findIdx? fun y => decide (y = w) with
      | none => rw [q] at e; cases e
      | some j =>
        rw [q] at e
        cases e
        obtain ⟨y, rfl, ry⟩ := r2.one
        cases ry
        obtain ⟨a, zs, rfl, h3, h4⟩ := Rep.sqw r1
        obtain ⟨hlt, hj, hno⟩ := List.findIdx?_eq_some_iff_getElem.mp q
        rw [strsT_rep h4 hs] at h3
        refine ⟨a, ss, w, j, rfl, rfl, by rw [hK]; exact h3, ?_, fun m hm hz => ?_, k _ _ (Grow.refl _) rfl⟩
        · rw [List.getElem?_eq_getElem hlt]
          exact congrArg some (of_decide_eq_true hj)
        · obtain ⟨hm', e5⟩ := List.getElem?_eq_some_iff.mp hz
          have := hno m hm
          simp [e5] at this
    · cases e
  · cases e
/-- tuple(a list), its object kept in mind -/
theorem call_tuple_fz : CallR X (.type "tuple") (fun xs H Q => ∃ p ys, xs = [.ref p] ∧ SqL X.K H p ys ∧ ∀ l (o : Obj), o.dict = none → H l = none → Q (.ref l) (upd H l (.frz o (.tup ys)))) := by
  intro pins s σ H xs us Q I r h
  obtain ⟨p, ys, rfl, hq, q⟩ := h
  obtain ⟨u, rfl, rx⟩ := vals1 r
  cases rx
  obtain ⟨its, r', pl, hz⟩ := I.list hq
  have hlen := r'.length
  refine call_tuple_list pl.isList (fun h' kp => ?_) (by simp only [List.size_toArray] <;> omega)
  have I1 : Inv X pins σ H { s with heap := h' } := I.kept (t' := s.toks) kp
  have I2 : Inv X pins σ (upd H h'.objs.size (.frz { cls := .type "tuple", data := .seq its.toArray } (.tup ys))) { s with heap := h'.push { cls := .type "tuple", data := .seq its.toArray } } :=
    I1.laid (t' := s.toks) (fun b o e => Heap.get?_push_of_some _ e) (Nat.le_refl _) (show ObjOk X.prog X.w _ _ _ (.frz { cls := .type "tuple", data := .seq its.toArray } (.tup ys)) from ⟨by heap_get, hz, its, r', IsTup.new _ _⟩)
  exact ⟨.ref h'.objs.size, _, I2, rfl, q _ _ rfl (I1.hok.fresh (Nat.le_refl _))⟩
theorem new_frz {xs : List V} {ts : List T} {o : Obj} (hx : ∀ a, ex a → H a ≠ none) (h : Reps R ex H ts xs) (ho : o.dict = none) (p : Addr) (hp : H p = none) : Grow H (upd H p (.frz o (.tup xs))) ∧ Rep R ex (upd H p (.frz o (.tup xs))) (.wt ts) (.ref p) := by
  have g : Grow H (upd H p (.frz o (.tup xs))) := Grow.new hp
  exact ⟨g, p, xs, rfl, .inr ⟨fun z => hx p z hp, o, ho, upd_same⟩, Reps.mono (Mono.grow g hx) _ _ h⟩
def tupleZ : List T → Option T
  | [.lst ts] => some (.wt ts)
  | _ => none
theorem c_tupleZ : CallR X (.type "tuple") (rOpN R tupleZ) := by
  refine call_tuple_fz.imp fun xs H Q ⟨ex, ts, t, hx, r1, e, k⟩ => ?_
  unfold tupleZ at e
  split at e
  · cases e
    obtain ⟨x, rfl, a, ys, rfl, h1, h2⟩ := r1.one
    refine ⟨a, ys, rfl, SqL.of h1, fun p o ho hp => ?_⟩
    obtain ⟨g, r⟩ := new_frz hx h2 ho p hp
    exact k _ _ g r
  · cases e
/-! ### str.zfill -/
def zfillT : T → List T → Option T
  | .str a, [.int i] => if PadOk i = true then some (.str (Txt.zfill a i)) else none
  | _, _ => none
theorem m_zfill : MtR X "str.zfill" (rOpM R zfillT) := mt_zfill.imp fun x xs H Q ⟨ex, tx, ts, t, hx, r1, r2, e, k⟩ => by
  unfold zfillT at e
  split at e
  · split at e
    · rename_i hc
      cases e; cases r1
      obtain ⟨y, rfl, ry⟩ := r2.one
      cases ry
      exact ⟨_, _, rfl, rfl, hc, k _ _ (Grow.refl _) rfl⟩
    · cases e
  · cases e
def lcountT : T → List T → Option T
  | .lst ts, [.int k] => (toInts ts).map fun ns => .int (ns.count k : Nat)
  | _, _ => none
theorem m_lcount : MtR X "list.count" (rOpM R lcountT) := mt_lcount.imp fun x xs H Q ⟨ex, tx, ts, t, hx, r1, r2, e, k⟩ => by
  unfold lcountT at e
  split at e
  · rename_i us i
    cases q : toInts us with
    | none => rw [q] at e; cases e
    | some ns =>
      rw [q] at e
      cases e
      obtain ⟨y, rfl, ry⟩ := r2.one
      cases ry
      obtain ⟨a, zs, rfl, h3, h4⟩ := r1
      rw [toInts_rep h4 q] at h3
      exact ⟨a, ns, i, rfl, rfl, SqL.of h3, k _ _ (Grow.refl _) rfl⟩
  · cases e
end
end TL

set_option maxHeartbeats 4000000
namespace TL
open PySem PySem.Spec PyProof.Rows L2
section
variable {X : Cx} {R : RC}
/-! ### ** -/
instance {i j : Int} : Decidable (CPow i j) := by unfold CPow; infer_instance
def powT : T → T → Option T
  | .int i, .int j => if CPow i j then some (.int (i ^ j.toNat)) else none
  | _, _ => none
theorem o_pow : OpR X (binaryOp .Pow) (rOp2 R powT) := by
  refine op_pow.imp fun x y H Q ⟨ex, tx, ty, t, hx, r1, r2, e, k⟩ => ?_
  unfold powT at e
  split at e
  · split at e
    · rename_i hc
      cases e; cases r1; cases r2
      exact ⟨_, _, rfl, rfl, hc, k _ _ (Grow.refl _) rfl⟩
    · cases e
  · cases e
end
end TL

set_option maxHeartbeats 4000000
namespace TL
open PySem PySem.Spec PyProof.Rows L2
section
variable {X : Cx} {R : RC} {W : WX} {x0 : Addr → Prop} {S S' S1 S2 : List Addr} {ρ ρ' : Env} {μ μ' μ1 μ2 : Mu} {σ σ' : L2.St} {H H' H1 H2 : Hp} {t : T} {v : V} {Q : VK} {P np k q n : Nat} {D : Ends} {pos p tpos : Pos} {x : Str} {e e2 e3 : Expr} {fo fi fv : Env → M T} {a : Addr} {op : Operator} {f : T → T → Option T}
/-! ### l[i] op= v -/
theorem get_list : PGet X (fun o i H Q => ∃ a xs k j v, o = .ref a ∧ i = .int k ∧ H a = some (.lst xs) ∧ ixN xs.length k = some j ∧ xs[j]? = some v ∧ 0 ≤ k ∧ k < 1000000 ∧ Q v H) := by
  intro pins s σ H o i ov iv Q I ro ri h
  obtain ⟨a, xs, k, j, v, rfl, rfl, h1, h2, h3, h4, h5, q⟩ := h
  obtain rfl : ov = Value.ref a := ro
  obtain ⟨tk, rfl⟩ := ri
  obtain ⟨hl, its, n, hv, hg⟩ := (I.hok a _ h1)
  unfold ixN at h2
  rw [if_pos h4] at h2
  split at h2
  · cases h2
    obtain ⟨w, hw, rw⟩ : ∃ w, its[k.toNat]? = some w ∧ RelV v w := hv.get h3
    exact PySem.wpAny_getItem_list (items := its.toArray) ⟨_, hg, rfl, n, rfl⟩ h4 (by omega) (by simpa using hw) ⟨v, H, I, rw, q⟩
  · cases h2
def mAugSL (P : Nat) (f : T → T → Option T) (fo fi fv : Env → M T) : Sm := fun ρ => eM (fo ρ) fun o => eM (fi ρ) fun i μ => match liveL μ o, i with
  | some (_, ts), .int k => if 0 ≤ k ∧ k < 1000000 then (match ts[k.toNat]? with
    | some x => eM ((fv ρ).bind fun y => op2 f x y) (fun z => eM (keepT P z) fun w μ => match liveL μ o with
      | some (n, us) => if k.toNat < us.length then some (.nx ρ, μ.set n (.lst (us.set k.toNat w), true)) else none
      | none => none) μ
    | none => none) else none
  | _, _ => none
theorem Reps.get {ex : Addr → Prop} {t : T} : ∀ {ts : List T} {xs : List V} {j : Nat}, Reps R ex H ts xs → ts[j]? = some t → ∃ v, xs[j]? = some v ∧ Rep R ex H t v
  | [], _, _, _, e => by simp at e
  | u :: us, _, 0, h, e => by
    obtain ⟨y, rr, rfl, h1, _⟩ := h
    cases e
    exact ⟨y, rfl, h1⟩
  | u :: us, _, j + 1, h, e => by
    obtain ⟨y, rr, rfl, _, h2⟩ := h
    exact Reps.get (j := j) h2 (by simpa using e)
theorem js_augL (ho : JE X R W e fo) (hi : JE X R W e2 fi) (hv : JE X R W e3 fv) (hop : OpR X (inplaceOp op) (rOp2 R f))
    (ha : ∀ ov iv new, augStore e2 ov iv new = (do holding [new, ov, iv] (setItem ov iv new); release [new, ov, iv] []; pure .next) := by intro _ _ _; rfl) :
    JS X R W (.AugAssign (.Subscript e e2 tpos) op e3 pos) (mAugSL P f fo fi fv) :=
  (ps_augS ho hi get_list hv hop set_list ha).imp fun D σ H ⟨x0, S, ρ, μ, e, k⟩ => by
    refine ⟨x0, S, ρ, μ, e, (PostS.bind e k).imp fun ov H1 ⟨to, μ1, g1, e1, r1, k1⟩ => ?_⟩
    refine ⟨x0, S, ρ, μ1, e1, (PostS.bind e1 k1).imp fun iv H2 ⟨ti, μ2, g2, e2, r2, k2⟩ => ?_⟩
    have ro := g2.v e1.so.len r1
    cases ql : liveL μ2 to with
    | none => simp only [ql] at k2; exact (k2 : False).elim
    | some nt =>
      obtain ⟨n, ts⟩ := nt
      cases ti with
      | int i =>
        simp only [ql] at k2
        by_cases hk : 0 ≤ i ∧ i < 1000000
        · rw [if_pos hk] at k2
          cases qx : ts[i.toNat]? with
          | none => simp only [qx] at k2; exact (k2 : False).elim
          | some tx =>
            simp only [qx] at k2
            obtain ⟨a, xs, rfl, h1, hm, h3, h4⟩ := liveL_ok e2.so ro ql
            obtain ⟨v, hv1, hv2⟩ := Reps.get h4 qx
            have hlt : i.toNat < xs.length := (List.getElem?_eq_some_iff.mp hv1).1
            have hix : ixN xs.length i = some i.toNat := by
              unfold ixN
              rw [if_pos hk.1, if_pos (by omega)]
            refine ⟨a, xs, i, i.toNat, v, rfl, r2.int, h3, hix, hv1, hk.1, hk.2, ?_⟩
            refine ⟨x0, S, ρ, μ2, e2, (Post.bind (P := fun x0 S μ H r => Post R W x0 S μ σ H (fun z H5 => rSetL (.ref a) iv z H5 fun H6 => D.nx σ H6) r) e2 ((PostS.bind e2 k2).imp fun z H4 ⟨tz, μ4, g4, e4, r4, k4⟩ => ?_)).imp fun y H3 ⟨ty, μ3, g3, e3, r3, k3⟩ => op2_ok e3 (g3.v e2.so.len (.inr hv2)) r3 k3⟩
            obtain ⟨t', μ5, g5, e5, r5, k5⟩ := PostS.keep e4 r4 k4
            have ro5 := g5.v e4.so.len (g4.v e2.so.len ro)
            cases ql5 : liveL μ5 to with
            | none => simp only [ql5] at k5; exact (k5 : False).elim
            | some nt5 =>
              obtain ⟨n5, us⟩ := nt5
              simp only [ql5] at k5
              obtain ⟨a5, xs5, ea, h15, hm5, h35, h45⟩ := liveL_ok e5.so ro5 ql5
              cases ea
              by_cases hu : i.toNat < us.length
              · rw [if_pos hu] at k5
                have hix5 : ixN xs5.length i = some i.toNat := by
                  unfold ixN
                  rw [if_pos hk.1, if_pos (by rw [← h45.length] at hu; omega)]
                refine ⟨a, xs5, i, i.toNat, rfl, r2.int, h35, hix5, ?_⟩
                obtain ⟨G, so⟩ := put_ok (ho := .lst (xs5.set i.toNat z)) (o' := .lst (us.set i.toNat t')) e5.so h15 hm5 h35 (fun ps z => by cases z) (fun φ z => by cases z) fun H' mo hh => ⟨_, hh, Reps.set i.toNat (Reps.mono mo _ _ h45) (Rep.mono mo _ _ r5)⟩
                exact k5 S σ _ G (e5.go G so)
              · rw [if_neg hu] at k5
                exact (k5 : False).elim
        · rw [if_neg hk] at k2
          exact (k2 : False).elim
      | _ => simp only [ql] at k2; exact (k2 : False).elim
/-! ### d[k] op= v -/
def mAugSDc (P : Nat) (f : T → T → Option T) (fo fi fv : Env → M T) : Sm := fun ρ => eM (fo ρ) fun o => eM (fi ρ) fun i μ => match look μ o, look μ i with
  | some (.dct tk kvs), some i' => (match dgetT tk kvs i' with
    | some (some x) => eM ((fv ρ).bind fun y => op2 f x y) (fun z => eM (keepT P z) fun w μ => match liveD μ o, look μ i with
      | some (n, tk, kvs), some i' => (match dputT tk kvs i' w with
        | some kvs' => if kvs.length < 1000000 then some (.nx ρ, μ.set n (.dct tk kvs', true)) else none
        | none => none)
      | _, _ => none) μ
    | _ => none)
  | _, _ => none
theorem js_augD (hu : X.A.units + 1 < cLine) (ho : JE X R W e fo) (hi : JE X R W e2 fi) (hv : JE X R W e3 fv) (hop : OpR X (inplaceOp op) (rOp2 R f))
    (ha : ∀ ov iv new, augStore e2 ov iv new = (do holding [new, ov, iv] (setItem ov iv new); release [new, ov, iv] []; pure .next) := by intro _ _ _; rfl) :
    JS X R W (.AugAssign (.Subscript e e2 tpos) op e3 pos) (mAugSDc P f fo fi fv) :=
  (ps_daug hu ho hi hv hop ha).imp fun D σ H ⟨x0, S, ρ, μ, e, k⟩ => by
    refine ⟨x0, S, ρ, μ, e, (PostS.bind e k).imp fun ov H1 ⟨to, μ1, g1, e1, r1, k1⟩ => ?_⟩
    refine ⟨x0, S, ρ, μ1, e1, (PostS.bind e1 k1).imp fun iv H2 ⟨ti, μ2, g2, e2, r2, k2⟩ => ?_⟩
    have ro := g2.v e1.so.len r1
    cases q1 : look μ2 to with
    | none => simp only [q1] at k2; exact (k2 : False).elim
    | some o' =>
      cases o' with
      | dct tk kvs =>
        cases q2 : look μ2 ti with
        | none => simp only [q1, q2] at k2; exact (k2 : False).elim
        | some i' =>
          simp only [q1, q2] at k2
          cases q3 : dgetT tk kvs i' with
          | none => simp only [q3] at k2; exact (k2 : False).elim
          | some ox =>
            cases ox with
            | none => simp only [q3] at k2; exact (k2 : False).elim
            | some tx =>
              simp only [q3] at k2
              obtain ⟨a, ovv, rfl, hg, hr⟩ := dget_ok (look_rep e2.so ro q1) (look_rep e2.so r2 q2) q3
              obtain ⟨v, rfl, hv2⟩ := hr
              refine ⟨a, v, rfl, hg, ?_⟩
              refine ⟨x0, S, ρ, μ2, e2, (Post.bind (P := fun x0 S μ H r => Post R W x0 S μ σ H (fun z H5 => ∃ H6, DPut H5 a iv z H6 ∧ D.nx σ H6) r) e2 ((PostS.bind e2 k2).imp fun z H4 ⟨tz, μ4, g4, e4, r4, k4⟩ => ?_)).imp fun y H3 ⟨ty, μ3, g3, e3, r3, k3⟩ => op2_ok e3 (g3.v e2.so.len (.inr hv2)) r3 k3⟩
              obtain ⟨t', μ5, g5, e5, r5, k5⟩ := PostS.keep e4 r4 k4
              have ro5 := g5.v e4.so.len (g4.v e2.so.len ro)
              have ri5 := g5.v e4.so.len (g4.v e2.so.len r2)
              cases ql : liveD μ5 to with
              | none => simp only [ql] at k5; exact (k5 : False).elim
              | some nt =>
                obtain ⟨n, tk5, kvs5⟩ := nt
                cases qk : look μ5 ti with
                | none => simp only [ql, qk] at k5; exact (k5 : False).elim
                | some ti' =>
                  simp only [ql, qk] at k5
                  have rk := look_rep e5.so ri5 qk
                  obtain ⟨a5, ea, h1, hm, h3⟩ := liveD_ok e5.so ro5 ql
                  cases ea
                  cases qp : dputT tk5 kvs5 ti' t' with
                  | none => simp only [qp] at k5; exact (k5 : False).elim
                  | some kvs' =>
                    simp only [qp] at k5
                    by_cases hz : kvs5.length < 1000000
                    · rw [if_pos hz] at k5
                      have hline : ∀ {κ : Type} {ks : List (κ × V)}, ks.length = kvs5.length → ks.length < sizeLine := fun h => by
                        have h17 : (1000000 : Nat) < sizeLine := by decide
                        omega
                      unfold dputT at qp
                      cases tk5 with
                      | false =>
                        obtain ⟨ks, h4, h5⟩ := h3
                        have h5 := repK_P.mp h5
                        simp only at qp
                        cases q : keyT ti' with
                        | none => rw [q] at qp; cases qp
                        | some kk =>
                          rw [q] at qp
                          cases qp
                          rw [keyT_rep rk q]
                          refine ⟨_, DPut.k h4 (hline h5.length), ?_⟩
                          obtain ⟨G, so⟩ := put_ok (ho := .dK (putK ks kk z)) (o' := .dct false (putP keyT kvs5 ti' t')) e5.so h1 hm h4 (fun ps z => by cases z) (fun φ z => by cases z)
                            fun H' mo hh => ⟨_, hh, RepK.mono mo _ _ (repK_P.mpr (h5.put q r5))⟩
                          exact k5 S σ _ G (e5.go G so)
                      | true =>
                        obtain ⟨ks, h4, h5⟩ := h3
                        have h5 := repTK_P.mp h5
                        simp only at qp
                        cases q : tkeyT ti' with
                        | none => rw [q] at qp; cases qp
                        | some kk =>
                          rw [q] at qp
                          cases qp
                          obtain ⟨b, rfl, hb⟩ := tkeyT_rep rk q
                          refine ⟨_, DPut.t h4 hb (hline h5.length), ?_⟩
                          obtain ⟨G, so⟩ := put_ok (ho := .dT (putK ks kk z)) (o' := .dct true (putP tkeyT kvs5 ti' t')) e5.so h1 hm h4 (fun ps z => by cases z) (fun φ z => by cases z)
                            fun H' mo hh => ⟨_, hh, RepTK.mono mo _ _ (repTK_P.mpr (h5.put q r5))⟩
                          exact k5 S σ _ G (e5.go G so)
                    · rw [if_neg hz] at k5
                      exact (k5 : False).elim
      | _ => simp only [q1] at k2; exact (k2 : False).elim
/-! ### range with a step -/
def rng3 (i j c : Int) : List T := (List.range (Builtin.Range.rangeSize i j c).toNat).map fun (k : Nat) => T.int (i + (k : Int) * c)
def int3 : List T → Option (Int × Int × Int)
  | [.int i, .int j, .int c] => some (i, j, c)
  | _ => none
theorem int3_eq {ts : List T} {i : Int × Int × Int} (h : int3 ts = some i) : ts = [.int i.1, .int i.2.1, .int i.2.2] := by
  unfold int3 at h
  split at h
  · cases h; rfl
  · cases h
def mRng3 (fs : Env → M (List T)) : Env → M (List T) := fun ρ => (fs ρ).bind fun ts => match int3 ts with
  | some (i, j, c) => if c ≠ 0 ∧ c.natAbs < 1073741824 ∧ Builtin.Range.small i j c = true ∧ 0 ≤ Builtin.Range.rangeSize i j c then M.ret (rng3 i j c) else M.stuck
  | none => M.stuck
theorem RIt.range3 {ex : Addr → Prop} {lo c : Int} {n : Nat} : ItOk R ex H (Itc lo c n) ((List.range n).map fun (i : Nat) => T.int (lo + (i : Int) * c)) := by
  intro ex' H' mo hx
  refine ⟨fun i t hi => ?_, fun i hi => by
    rw [List.length_map, List.length_range] at hi
    exact hi⟩
  have hlt := ltE hi
  simp only [List.length_map, List.length_range] at hlt
  refine ⟨hlt, fun x H2 ⟨e1, e2⟩ => ?_⟩
  subst e1 e2
  simp only [List.getElem?_map, List.getElem?_range hlt, Option.map_some, Option.some.injEq] at hi
  subst hi
  exact ⟨Grow.refl _, rfl⟩
theorem ji_range3 {fs : Env → M (List T)} {tg a b c : Expr} {p pos : Pos} (hg : Gl X "range") (hm : X.mg "range" = none) (ha : JA X R W [a, b, c] fs) (hs : starEach [a, b, c] X.env = (false, eval a X.env) :: starEach [b, c] X.env := by rfl) (hs2 : ((backTo pos (starEach [b, c] X.env)).any fun x => x.fst) = false := by rfl) : JI X R W tg (.Call (.Name "range" p) [a, b, c] [] pos) (mRng3 fs) :=
  (pi_range3 hg hm ha hs hs2).imp fun σ H Rk ⟨x0, S, ρ, μ, e, k⟩ => by
    refine ⟨x0, S, ρ, μ, e, (PostI.bindA e k).imp fun vs H1 ⟨ts, μ1, g1, e1, r1, k1⟩ => ?_⟩
    cases q : int3 ts with
    | none => simp only [q] at k1; exact (k1 : False).elim
    | some ij =>
      obtain ⟨i, j, c⟩ := ij
      simp only [q] at k1
      rw [int3_eq q] at r1
      by_cases hj : c ≠ 0 ∧ c.natAbs < 1073741824 ∧ Builtin.Range.small i j c = true ∧ 0 ≤ Builtin.Range.rangeSize i j c
      · rw [if_pos hj] at k1
        obtain ⟨x, r, rfl, h1, y, r2, rfl, h2, z, r3, rfl, h3, rfl⟩ := r1
        rw [h1.int, h2.int, h3.int]
        exact ⟨i, j, c, (Builtin.Range.rangeSize i j c).toNat, rfl, ⟨hj.1, hj.2.1, hj.2.2.1, (Int.toNat_of_nonneg hj.2.2.2).symm⟩, k1 _ H1 (Go.refl _ _ _) e1.so RIt.range3⟩
      · rw [if_neg hj] at k1
        exact (k1 : False).elim
end
end TL

set_option maxHeartbeats 4000000
namespace TL
open PySem PySem.Spec PyProof.Rows L2

/-! # a dict that is walked: locked while it is so -/
def isD : HO → Prop
  | .dK _ => True
  | .dT _ => True
  | _ => False
/-- some dicts locked or unlocked, all else as it was -/
def Lk (H H' : Hp) : Prop := ∀ a, H' a = H a ∨ ∃ od u, isD u ∧ ((H a = some u ∧ H' a = some (.frz od u)) ∨ (H a = some (.frz od u) ∧ H' a = some u))
section
variable {R : RC} {ex : Addr → Prop} {H H' : Hp} {a : Addr} {o u : HO}
theorem Lk.keep (l : Lk H H') (h : H a = some o) (h1 : ¬ isD o) (h2 : ∀ od u, o ≠ .frz od u) : H' a = some o := by
  rcases l a with e | ⟨od, u, hu, ⟨e, _⟩ | ⟨e, _⟩⟩
  · rw [e]; exact h
  · rw [h] at e; cases e; exact absurd hu h1
  · rw [h] at e; cases e; exact absurd rfl (h2 od u)
theorem Lk.rd (l : Lk H H') (hu : isD u) (h : Rd H a u) : Rd H' a u := by
  rcases h with h | ⟨o, h⟩
  · rcases l a with e | ⟨od, w, hw, ⟨e, e2⟩ | ⟨e, e2⟩⟩
    · exact .inl (e.trans h)
    · rw [h] at e; cases e; exact .inr ⟨od, e2⟩
    · rw [h] at e; cases e; cases hu
  · rcases l a with e | ⟨od, w, hw, ⟨e, e2⟩ | ⟨e, e2⟩⟩
    · exact .inr ⟨o, e.trans h⟩
    · rw [h] at e; cases e; cases hw
    · rw [h] at e; cases e; exact .inl e2
mutual
theorem Rep.lk (l : Lk H H') : ∀ (t : T) (v : V), Rep R ex H t v → Rep R ex H' t v
  | .non, _, h => h
  | .bl _, _, h => h
  | .int _, _, h => h
  | .str _, _, h => h
  | .lst ts, v, h => by
    obtain ⟨a, xs, e, hx, hr, h2⟩ := h
    exact ⟨a, xs, e, hx, l.keep hr (fun z => z) (fun _ _ z => by cases z), Reps.lk l ts xs h2⟩
  | .tup ts, v, h => by
    obtain ⟨a, xs, e, hx, hr, h2⟩ := h
    exact ⟨a, xs, e, hx, l.keep hr (fun z => z) (fun _ _ z => by cases z), Reps.lk l ts xs h2⟩
  | .wt ts, v, h => by
    obtain ⟨a, xs, e, h1, h2⟩ := h
    refine ⟨a, xs, e, ?_, Reps.lk l ts xs h2⟩
    rcases h1 with h1 | ⟨hx, o, hd, h1⟩
    · exact .inl h1
    · refine .inr ⟨hx, o, hd, ?_⟩
      rcases l a with e | ⟨od, w, hw, ⟨e, e2⟩ | ⟨e, e2⟩⟩
      · exact e.trans h1
      · rw [h1] at e; cases e; cases hw
      · rw [h1] at e; cases e; cases hw
  | .dct tk kvs, v, h => by
    obtain ⟨a, e, hx, h1⟩ := h
    rcases h1 with ⟨et, ks, h1, h2⟩ | ⟨et, ks, h1, h2⟩
    · exact ⟨a, e, hx, .inl ⟨et, ks, l.rd trivial h1, RepK.lk l kvs ks h2⟩⟩
    · exact ⟨a, e, hx, .inr ⟨et, ks, l.rd trivial h1, RepTK.lk l kvs ks h2⟩⟩
  | .ins c fs, v, h => by
    obtain ⟨a, C, dx, vs, e, hx, hc, h1, h2⟩ := h
    exact ⟨a, C, dx, vs, e, hx, hc, l.keep h1 (fun z => z) (fun _ _ z => by cases z), RepF.lk l fs vs h2⟩
  | .sh n, v, h => h
theorem Reps.lk (l : Lk H H') : ∀ (ts : List T) (xs : List V), Reps R ex H ts xs → Reps R ex H' ts xs
  | [], _, h => h
  | t :: ts, _, h => by
    obtain ⟨x, r, e, h1, h2⟩ := h
    exact ⟨x, r, e, Rep.lk l t x h1, Reps.lk l ts r h2⟩
theorem RepK.lk (l : Lk H H') : ∀ (ts : List (T × T)) (xs : List (Key × V)), RepK R ex H ts xs → RepK R ex H' ts xs
  | [], _, h => h
  | (k, t) :: ts, _, h => by
    obtain ⟨kk, x, r, e, hk, h1, h2⟩ := h
    exact ⟨kk, x, r, e, hk, Rep.lk l t x h1, RepK.lk l ts r h2⟩
theorem RepTK.lk (l : Lk H H') : ∀ (ts : List (T × T)) (xs : List (List Key × V)), RepTK R ex H ts xs → RepTK R ex H' ts xs
  | [], _, h => h
  | (k, t) :: ts, _, h => by
    obtain ⟨kk, x, r, e, hk, h1, h2⟩ := h
    exact ⟨kk, x, r, e, hk, Rep.lk l t x h1, RepTK.lk l ts r h2⟩
theorem RepF.lk (l : Lk H H') : ∀ (ts : List (Str × T)) (xs : List (Str × V)), RepF R ex H ts xs → RepF R ex H' ts xs
  | [], _, h => h
  | (k, t) :: ts, _, h => by
    obtain ⟨x, r, e, h1, h2⟩ := h
    exact ⟨x, r, e, Rep.lk l t x h1, RepF.lk l ts r h2⟩
end
theorem RepM.lk (l : Lk H H') {o : MO} (ha : H' a = H a) (h : RepM R ex H o a) : RepM R ex H' o a := by
  cases o with
  | lst ts => obtain ⟨xs, h1, h2⟩ := h; exact ⟨xs, ha.trans h1, Reps.lk l ts xs h2⟩
  | dct b kvs =>
    cases b with
    | false => obtain ⟨ks, h1, h2⟩ := h; exact ⟨ks, ha.trans h1, RepK.lk l kvs ks h2⟩
    | true => obtain ⟨ks, h1, h2⟩ := h; exact ⟨ks, ha.trans h1, RepTK.lk l kvs ks h2⟩
  | ins c fs => obtain ⟨C, dx, vs, hc, h1, h2⟩ := h; exact ⟨C, dx, vs, hc, ha.trans h1, RepF.lk l fs vs h2⟩
end
section
variable {X : Cx} {R : RC} {W : WX} {x0 : Addr → Prop} {S : List Addr} {ρ : Env} {μ μ' μ1 : Mu} {σ : L2.St} {H H' H1 : Hp} {t t' : T} {v : V} {Q : VK} {P k n : Nat} {e : Expr} {a : Addr} {ks : List (Key × V)} {kvs : List (T × T)} {ts : List T}
theorem Lk.there (l : Lk H H') (h : H a ≠ none) : H' a ≠ none := by
  rcases l a with e | ⟨od, u, _, ⟨_, e⟩ | ⟨_, e⟩⟩
  · rw [e]; exact h
  · rw [e]; simp
  · rw [e]; simp
theorem SOk.lk (s : SOk R x0 S μ H) (l : Lk H H') (hl : ∀ (n : Nat) b o, S[n]? = some b → μ[n]? = some (o, true) → H' b = H b) : SOk R x0 S μ H' where
  len := s.len
  nd := s.nd
  xd := fun b hb => l.there (s.xd b hb)
  sx := s.sx
  sd := fun b hb => l.there (s.sd b hb)
  sh := fun n o h => by
    obtain ⟨b, h1, h2⟩ := s.sh n o h
    exact ⟨b, h1, RepM.lk l (hl n b o h1 h) h2⟩
  fz := fun n o h => by
    obtain ⟨b, h1, h2⟩ := s.fz n o h
    exact ⟨b, h1, Rep.lk l _ _ h2⟩
  tab := R.tabk H H' s.tab (fun b ps h => l.keep h (fun z => z) (fun _ _ z => by cases z)) fun b φ h => l.keep h (fun z => z) (fun _ _ z => by cases z)
theorem RepV.lk {ex : Addr → Prop} (l : Lk H H') (h : RepV R ex S H t v) : RepV R ex S H' t v := h.imp (fun z => z) fun z => Rep.lk l _ _ z
theorem EnvOk.lk (e : EnvOk R x0 S ρ μ σ H) (l : Lk H H') (hl : ∀ (n : Nat) b o, S[n]? = some b → μ[n]? = some (o, true) → H' b = H b) : EnvOk R x0 S ρ μ σ H' :=
  ⟨e.so.lk l hl, e.len, fun i t h => let ⟨v, h1, h2⟩ := e.vars i t h; ⟨v, h1, h2.lk l⟩⟩
theorem lk_lock {od : Obj} (h : H a = some (.dK ks)) : Lk H (upd H a (.frz od (.dK ks))) := fun b => by
  by_cases e : b = a
  · subst e; exact .inr ⟨od, .dK ks, trivial, .inl ⟨h, upd_same⟩⟩
  · exact .inl (upd_ne e)
theorem lk_free {od : Obj} (h : H a = some (.frz od (.dK ks))) : Lk H (upd H a (.dK ks)) := fun b => by
  by_cases e : b = a
  · subst e; exact .inr ⟨od, .dK ks, trivial, .inr ⟨h, upd_same⟩⟩
  · exact .inl (upd_ne e)
/-- the keys of a dict, in their order -/
def walkD : T → M (List T)
  | .dct false kvs => M.ret (kvs.map (·.1))
  | _ => M.stuck
def mIterD (P k : Nat) : Env → M (List T) := fun ρ => (mVar k ρ).bind fun t => (keepT P t).bind walkD
theorem frz_frz {n : Nat} : frz (frz μ n) n = frz μ n := by
  refine List.ext_getElem? fun i => ?_
  rw [frz_get, frz_get]
  split
  · cases μ[i]? <;> rfl
  · rfl
theorem keep_idem (h : keepT P t μ = some (.ok t', μ1)) : keepT P t μ1 = some (.ok t', μ1) := by
  cases t with
  | sh n =>
    unfold keepT at h ⊢
    simp only at h ⊢
    split at h
    · cases h
    · rename_i hn
      rw [if_neg hn]
      split at h
      · rename_i u hu
        cases h
        have : look (frz μ n) (.sh n) = some t' := by
          obtain ⟨o, b, h1, rfl⟩ := look_sh hu
          have h2 : (frz μ n)[n]? = some (o, false) := by rw [frz_get, if_pos rfl, h1]; rfl
          simp only [look, h2]
        rw [this]
        simp only [frz_frz]
      · cases h
  | _ => cases h; rfl
theorem bind_ok {α β : Type} {m : M α} {kk : α → M β} {x : α} (h : m μ = some (.ok x, μ1)) : M.bind m kk μ = kk x μ1 := by
  unfold M.bind
  rw [h]
theorem keys_red (e : EnvOk R x0 S ρ μ σ H) {r} (q : mIterD P k ρ μ = some r) : ∃ a ks kvs μ1, r = (.ok (kvs.map (·.1)), μ1) ∧ σ[k]? = some (some (.ref a)) ∧ Rd H a (.dK ks) ∧ RepK R (excl x0 S μ1) H kvs ks ∧ ¬ excl x0 S μ1 a ∧ Go S μ H S μ1 H ∧ SOk R x0 S μ1 H ∧ mIterD P k ρ μ1 = some (.ok (kvs.map (·.1)), μ1) := by
  cases hv : ρ[k]? with
  | none =>
    have : mIterD P k ρ μ = none := by
      unfold mIterD M.bind
      simp only [mVar, hv]
      rfl
    rw [this] at q
    cases q
  | some ot =>
    cases ot with
    | none =>
      have : mIterD P k ρ μ = none := by
        unfold mIterD M.bind
        simp only [mVar, hv]
        rfl
      rw [this] at q
      cases q
    | some t =>
      have ev : ∀ μ, mVar k ρ μ = some (.ok t, μ) := fun μ => by simp only [mVar, hv]; rfl
      have red : ∀ μ, mIterD P k ρ μ = M.bind (keepT P t) walkD μ := fun μ => bind_ok (ev μ)
      rw [red] at q
      obtain ⟨v, h1, h2⟩ := e.vars k t hv
      have fin : ∀ t' μ1, keepT P t μ = some (.ok t', μ1) → Go S μ H S μ1 H → SOk R x0 S μ1 H → Rep R (excl x0 S μ1) H t' v → ∃ a ks kvs μ1, r = (.ok (kvs.map (·.1)), μ1) ∧ σ[k]? = some (some (.ref a)) ∧ Rd H a (.dK ks) ∧ RepK R (excl x0 S μ1) H kvs ks ∧ ¬ excl x0 S μ1 a ∧ Go S μ H S μ1 H ∧ SOk R x0 S μ1 H ∧ mIterD P k ρ μ1 = some (.ok (kvs.map (·.1)), μ1) := by
        intro t' μ1 hk g s rr
        have q2 : walkD t' μ1 = some r := by
          have := q
          unfold M.bind at this
          rw [hk] at this
          exact this
        cases t' with
        | dct tk kvs =>
          cases tk with
          | true => cases q2
          | false =>
            cases q2
            obtain ⟨a, rfl, hx, ⟨_, ks, hr, hkk⟩ | ⟨z, _⟩⟩ := rr
            · refine ⟨a, ks, kvs, μ1, rfl, h1, hr, hkk, hx, g, s, ?_⟩
              rw [red]
              unfold M.bind
              rw [keep_idem hk]
              rfl
            · cases z
        | _ => cases q2
      rcases keep_ok (P := P) e.so h2 with q5 | ⟨q5, r5⟩ | ⟨t', n, q5, r5⟩
      · unfold M.bind at q; rw [q5] at q; cases q
      · exact fin _ _ q5 (Go.refl _ _ _) e.so r5
      · exact fin _ _ q5 Go.drop e.so.drop r5
theorem RIt.keys {ex : Addr → Prop} {od : Obj} (h : H a = some (.frz od (.dK ks))) (nx : ¬ ex a) (r : RepK R ex H kvs ks) : ItOk R ex H (Itk a od ks) (kvs.map (·.1)) := by
  intro ex' H' mo hx'
  have h' : H' a = some (.frz od (.dK ks)) := mo.k a _ nx h (fun ps z => by cases z)
  have hlen : ∀ {kvs : List (T × T)} {ks : List (Key × V)}, RepK R ex H kvs ks → ks.length = kvs.length := by
    intro kvs
    induction kvs with
    | nil => intro ks h; cases h; rfl
    | cons p kvs ih => intro ks h; obtain ⟨k, t⟩ := p; obtain ⟨_, _, r, rfl, _, _, h⟩ := h; simp [ih h]
  have hat : ∀ {kvs : List (T × T)} {ks : List (Key × V)} {i : Nat} {t : T} {kk : Key} {x : V}, RepK R ex H kvs ks → (kvs.map (·.1))[i]? = some t → ks[i]? = some (kk, x) → keyT t = some kk := by
    intro kvs
    induction kvs with
    | nil => intro ks i t kk x h e1 e2; simp at e1
    | cons p kvs ih =>
      intro ks i t kk x h e1 e2
      obtain ⟨k, u⟩ := p
      obtain ⟨k2, y, r, rfl, hk, _, h⟩ := h
      cases i with
      | zero => simp at e1 e2; rw [← e1, ← e2.1]; exact hk
      | succ i => simp at e1 e2; exact ih h (by simpa using e1) e2
  have e0 := hlen r
  refine ⟨fun i t ht => ⟨⟨h', ?_⟩, fun x H2 hy => ?_⟩, fun i hi => ⟨h', ?_⟩⟩
  · have := (List.getElem?_eq_some_iff.mp ht).1
    simp at this
    omega
  · obtain ⟨rfl, kk, w, hk, rfl⟩ := hy
    have := hat r ht hk
    refine ⟨Grow.refl _, ?_⟩
    cases t with
    | int i => cases this; rfl
    | str i => cases this; rfl
    | _ => cases this
  · simp at hi
    omega
theorem _root_.L2.PE.or {t1 t2 : TE} (h1 : PE X e t1) (h2 : PE X e t2) : PE X e (fun σ H Q => t1 σ H Q ∨ t2 σ H Q) := ⟨fun pins s σ H Q I h => h.elim (h1.run pins s σ H Q I) (h2.run pins s σ H Q I)⟩
/-- where the dict stands locked, its keys are walked -/
theorem keys_it {od : Obj} (hs : σ[k]? = some (some (.ref a))) (hf : H a = some (.frz od (.dK ks))) (K : It → Hp → Prop) (h : tEvI R W (mIterD P k) σ H K) : iKeys (tVar k) σ H K := by
  obtain ⟨x0, S, ρ, μ, e, km⟩ := h
  cases q : mIterD P k ρ μ with
  | none => rw [q] at km; exact km.elim
  | some r =>
    obtain ⟨a', ks', kvs, μ1, rfl, h1, h2, h3, h4, h5, h6, _⟩ := keys_red e q
    rw [hs] at h1
    cases h1
    have : ks' = ks := by
      rcases h2 with h2 | ⟨o, h2⟩
      · rw [hf] at h2; cases h2
      · rw [hf] at h2; cases h2; rfl
    subst this
    rw [q] at km
    exact ⟨.ref a, hs, a, od, rfl, .inl ⟨ks', hf, km _ H h5 h6 (RIt.keys hf h4 h3)⟩⟩
/-- from the lock back -/
theorem unlock_go {od : Obj} {μ2 : Mu} {H2 : Hp} (hd : H a = some (.dK ks)) (nx : ¬ excl x0 S μ1 a) (g0 : Go S μ H S μ1 H) (hl : S.length = μ.length) (g : Go S μ1 (upd H a (.frz od (.dK ks))) S μ2 H2) :
    H2 a = some (.frz od (.dK ks)) ∧ Go S μ H S μ2 (upd H2 a (.dK ks)) := by
  refine ⟨g.keep a _ upd_same (fun ps z => by cases z) (fun n m hs hm => nx (.inr ⟨n, m, hs, hm⟩)), g.pre.imp fun more ⟨h1, h2⟩ => ⟨h1, fun b hb => ?_⟩, fun n o h => g.dead n o (g0.dead n o h), fun b o hb ht hx => ?_, fun b hb => ?_⟩
  · by_cases e : b = a
    · subst e; rw [hd] at hb; cases hb; exact upd_same
    · rw [upd_ne e]
      refine g.keep b o (by rw [upd_ne e]; exact hb) ht fun n m hs hm => ?_
      rcases g0.back hl hs hm with ⟨m', h1, h2⟩ | h0
      · exact hx n m' h1 h2
      · rw [hb] at h0; cases h0
  · by_cases e : b = a
    · subst e; rw [upd_same]; simp
    · rw [upd_ne e]; exact g.there b (by rw [upd_ne e]; exact hb)
  · have := h2 b hb
    by_cases e : b = a
    · subst e; rw [upd_same] at this; cases this
    · rw [upd_ne e] at this; exact this
theorem je_lock {Kf : Env → List T → M T} (nox : ∀ ρ ts μ x μ', Kf ρ ts μ ≠ some (.ex x, μ')) {f : Env → M T} (hf : f = fun ρ => (mIterD P k ρ).bind (Kf ρ))
    (h : PE X e (fun σ H Q => tEv R W f σ H Q ∧ ∀ K, tEvI R W (mIterD P k) σ H K → iKeys (tVar k) σ H K)) : JE X R W e f := by
  refine ((pe_lock h).or h).imp fun σ H Q ⟨x0, S, ρ, μ, e, km⟩ => ?_
  subst hf
  cases q : mIterD P k ρ μ with
  | none => simp only [M.bind, q] at km; exact km.elim
  | some r =>
    obtain ⟨a, ks, kvs, μ1, rfl, h1, h2, h3, h4, h5, h6, h7⟩ := keys_red e q
    rcases h2 with h2 | ⟨od, h2⟩
    · refine .inl ⟨a, .dK ks, h2, trivial, fun od => ⟨?_, fun K => keys_it h1 upd_same K⟩⟩
      have hlive : ∀ (n : Nat) b o, S[n]? = some b → μ1[n]? = some (o, true) → (upd H a (.frz od (.dK ks))) b = H b := fun n b o hb ho => upd_ne fun z => h4 (.inr ⟨n, o, by rw [← z]; exact hb, ho⟩)
      refine ⟨x0, S, ρ, μ1, (e.go h5 h6).lk (lk_lock h2) hlive, ?_⟩
      simp only [M.bind, q] at km
      simp only [M.bind, h7]
      cases hr : Kf ρ (kvs.map (·.1)) μ1 with
      | none => rw [hr] at km; exact km.elim
      | some rr =>
        obtain ⟨rr, μ2⟩ := rr
        cases rr with
        | ex x => exact absurd hr (nox _ _ _ _ _)
        | ok t =>
          rw [hr] at km
          intro v H2 g s r
          obtain ⟨k1, k2⟩ := unlock_go h2 h4 h5 e.so.len g
          refine ⟨k1, km v _ k2 (s.lk (lk_free k1) fun n b o hb ho => upd_ne fun z => ?_) (r.lk (lk_free k1))⟩
          subst z
          rcases g.back h6.len hb ho with ⟨m, z1, z2⟩ | z0
          · exact h4 (.inr ⟨n, m, z1, z2⟩)
          · rw [upd_same] at z0; cases z0
    · exact .inr ⟨⟨x0, S, ρ, μ, e, km⟩, fun K => keys_it h1 h2 K⟩
theorem jf_lock {Kf : Env → List T → M MO} (nox : ∀ ρ ts μ x μ', Kf ρ ts μ ≠ some (.ex x, μ')) {f : Env → M MO} (hf : f = fun ρ => (mIterD P k ρ).bind (Kf ρ))
    (h : PE X e (fun σ H Q => tEvF R W f σ H Q ∧ ∀ K, tEvI R W (mIterD P k) σ H K → iKeys (tVar k) σ H K)) : JF X R W e f := by
  refine ((pe_lock h).or h).imp fun σ H Q ⟨x0, S, ρ, μ, e, km⟩ => ?_
  subst hf
  cases q : mIterD P k ρ μ with
  | none => simp only [M.bind, q] at km; exact km.elim
  | some r =>
    obtain ⟨a, ks, kvs, μ1, rfl, h1, h2, h3, h4, h5, h6, h7⟩ := keys_red e q
    rcases h2 with h2 | ⟨od, h2⟩
    · refine .inl ⟨a, .dK ks, h2, trivial, fun od => ⟨?_, fun K => keys_it h1 upd_same K⟩⟩
      have hlive : ∀ (n : Nat) b o, S[n]? = some b → μ1[n]? = some (o, true) → (upd H a (.frz od (.dK ks))) b = H b := fun n b o hb ho => upd_ne fun z => h4 (.inr ⟨n, o, by rw [← z]; exact hb, ho⟩)
      refine ⟨x0, S, ρ, μ1, (e.go h5 h6).lk (lk_lock h2) hlive, ?_⟩
      simp only [M.bind, q] at km
      simp only [M.bind, h7]
      cases hr : Kf ρ (kvs.map (·.1)) μ1 with
      | none => rw [hr] at km; exact km.elim
      | some rr =>
        obtain ⟨rr, μ2⟩ := rr
        cases rr with
        | ex x => exact absurd hr (nox _ _ _ _ _)
        | ok o =>
          rw [hr] at km
          intro c H2 g hn s r
          have hca : ¬ c = a := fun z => by rw [z, upd_same] at hn; cases hn
          obtain ⟨k1, k2⟩ := unlock_go h2 h4 h5 e.so.len g
          refine ⟨k1, km c _ k2 (by rw [upd_ne hca] at hn; exact hn) (s.lk (lk_free k1) fun n b o hb ho => upd_ne fun z => ?_) (r.lk (lk_free k1) (upd_ne hca))⟩
          subst z
          rcases g.back h6.len hb ho with ⟨m, z1, z2⟩ | z0
          · exact h4 (.inr ⟨n, m, z1, z2⟩)
          · rw [upd_same] at z0; cases z0
    · exact .inr ⟨⟨x0, S, ρ, μ, e, km⟩, fun K => keys_it h1 h2 K⟩
/-- [.. for k in d if ..], d a name -/
theorem jf_lcD {own : List (Str × Nat)} {scope : Scope} {x : Str} {p pos : Pos} {us vs : List Nat} {b : TB} {tg elt : Expr} {ifs : List Expr} {fc : Env → M Bool} {fe : Env → M T} (hc : X.calm = true) (hN : X.N.Nodup) (ok : BlkOk X.N X.env.scope scope own) (hv : own.map (·.2) = vs) (hu : ∀ i ∈ us, i ∈ vs)
    (hi : PE X (.Name x p) (tVar k))
    (hg : ∀ (s : Shared) (H : Hp) (C : Addr) (cl : List (Str × Addr)) (fp : List Addr), JB (X.blk s H scope (compEnvC scope cl C X.env) fp) R tg us b) (ht : ∀ (s : Shared) (H : Hp) (C : Addr) (cl : List (Str × Addr)) (fp : List Addr), JTs (X.blk s H scope (compEnvC scope cl C X.env) fp) R ifs fc)
    (he : ∀ (s : Shared) (H : Hp) (C : Addr) (cl : List (Str × Addr)) (fp : List Addr), JE (X.blk s H scope (compEnvC scope cl C X.env) fp) R Wf elt fe) :
    JF X R W (.ListComp elt [⟨tg, .Name x p, ifs, 0⟩] scope pos) (mLc P vs (mIterD P k) b fc fe) := by
  subst hv
  refine jf_lock (P := P) (k := k) (Kf := fun ρ ts μ => if ts.length ≤ 1000000 then match lcE P (own.map (·.2)) b fc fe ρ ts μ with
    | some (ys, μ') => some (.ok (.lst ys), μ')
    | none => none
  else none) (fun ρ ts μ y μ' z => ?_) rfl ((pe_lc hc hN (pi_keys hi) ok hg ht he (by intro _; rfl)).imp fun σ H Q ⟨h, hw⟩ => hw _ (lc_red hu σ H Q h))
  split at z
  · split at z <;> cases z
  · cases z
theorem j_anyD {own : List (Str × Nat)} {scope : Scope} {x : Str} {p px pos gpos : Pos} {us vs : List Nat} {b : TB} {tg elt : Expr} {ifs : List Expr} {fc : Env → M Bool} {fe : Env → M T} {c Pa : Addr} {l : Nat} (hr : Room (l + 3) X.A) (hg : Gl X "any") (hm : X.mg "any" = none) (hc : X.calm = true) (hN : X.N.Nodup) (TB : GxR.TabB X.base X.mg c Pa) (TO : TabsOk R Pa) (hcode : X.env.code = .ref c) (ok : GenOk X.N X.env.scope scope own) (hv : own.map (·.2) = vs) (hu : ∀ i ∈ us, i ∈ vs)
    (hi : PE X (.Name x px) (tVar k))
    (pg : ∀ (A : Around) (s : Shared) (H : Hp) (C : Addr) (code : Value) (fp : List Addr) (pn : List (Addr × Obj)), Room l A → JB (gCx X A s H (genEnv scope (cloFrom X.env.cells scope.names []) C code builtinsNs X.env) fp pn) R tg us b)
    (pt : ∀ (A : Around) (s : Shared) (H : Hp) (C : Addr) (code : Value) (fp : List Addr) (pn : List (Addr × Obj)), Room l A → JTs (gCx X A s H (genEnv scope (cloFrom X.env.cells scope.names []) C code builtinsNs X.env) fp pn) R ifs fc)
    (pe : ∀ (A : Around) (s : Shared) (H : Hp) (C : Addr) (code : Value) (fp : List Addr) (pn : List (Addr × Obj)), Room l A → JE (gCx X A s H (genEnv scope (cloFrom X.env.cells scope.names []) C code builtinsNs X.env) fp pn) R Wf elt fe) :
    JE X R W (.Call (.Name "any" p) [.GeneratorExp elt [⟨tg, .Name x px, ifs, 0⟩] scope gpos] [] pos) (mAny true vs (mIterD P k) b fc fe) := by
  refine je_lock (P := P) (k := k) (Kf := fun ρ ts μ => match anyL true vs b fc fe ρ ts μ with
    | some (r, μ') => some (.ok (.bl r), μ')
    | none => none) (fun ρ ts μ y μ' z => ?_) rfl (j_any' hr hg hm hc hN TB TO hcode ok hv hu (pi_keys hi) pg pt pe (by intro _; rfl) (by rfl))
  split at z <;> cases z
theorem j_allD {own : List (Str × Nat)} {scope : Scope} {x : Str} {p px pos gpos : Pos} {us vs : List Nat} {b : TB} {tg elt : Expr} {ifs : List Expr} {fc : Env → M Bool} {fe : Env → M T} {c Pa : Addr} {l : Nat} (hr : Room (l + 3) X.A) (hg : Gl X "all") (hm : X.mg "all" = none) (hc : X.calm = true) (hN : X.N.Nodup) (TB : GxR.TabB X.base X.mg c Pa) (TO : TabsOk R Pa) (hcode : X.env.code = .ref c) (ok : GenOk X.N X.env.scope scope own) (hv : own.map (·.2) = vs) (hu : ∀ i ∈ us, i ∈ vs)
    (hi : PE X (.Name x px) (tVar k))
    (pg : ∀ (A : Around) (s : Shared) (H : Hp) (C : Addr) (code : Value) (fp : List Addr) (pn : List (Addr × Obj)), Room l A → JB (gCx X A s H (genEnv scope (cloFrom X.env.cells scope.names []) C code builtinsNs X.env) fp pn) R tg us b)
    (pt : ∀ (A : Around) (s : Shared) (H : Hp) (C : Addr) (code : Value) (fp : List Addr) (pn : List (Addr × Obj)), Room l A → JTs (gCx X A s H (genEnv scope (cloFrom X.env.cells scope.names []) C code builtinsNs X.env) fp pn) R ifs fc)
    (pe : ∀ (A : Around) (s : Shared) (H : Hp) (C : Addr) (code : Value) (fp : List Addr) (pn : List (Addr × Obj)), Room l A → JE (gCx X A s H (genEnv scope (cloFrom X.env.cells scope.names []) C code builtinsNs X.env) fp pn) R Wf elt fe) :
    JE X R W (.Call (.Name "all" p) [.GeneratorExp elt [⟨tg, .Name x px, ifs, 0⟩] scope gpos] [] pos) (mAny false vs (mIterD P k) b fc fe) := by
  refine je_lock (P := P) (k := k) (Kf := fun ρ ts μ => match anyL false vs b fc fe ρ ts μ with
    | some (r, μ') => some (.ok (.bl r), μ')
    | none => none) (fun ρ ts μ y μ' z => ?_) rfl (j_all' hr hg hm hc hN TB TO hcode ok hv hu (pi_keys hi) pg pt pe (by intro _; rfl) (by rfl))
  split at z <;> cases z
theorem j_sumGD {own : List (Str × Nat)} {scope : Scope} {x : Str} {p px pos gpos : Pos} {us vs : List Nat} {b : TB} {tg elt : Expr} {ifs : List Expr} {fc : Env → M Bool} {fe : Env → M T} {c Pa : Addr} {l : Nat} (hr : Room (l + 3) X.A) (hg : Gl X "sum") (hm : X.mg "sum" = none) (hc : X.calm = true) (hN : X.N.Nodup) (TB : GxR.TabB X.base X.mg c Pa) (TO : TabsOk R Pa) (hcode : X.env.code = .ref c) (ok : GenOk X.N X.env.scope scope own) (hv : own.map (·.2) = vs) (hu : ∀ i ∈ us, i ∈ vs)
    (hi : PE X (.Name x px) (tVar k))
    (pg : ∀ (A : Around) (s : Shared) (H : Hp) (C : Addr) (code : Value) (fp : List Addr) (pn : List (Addr × Obj)), Room l A → JB (gCx X A s H (genEnv scope (cloFrom X.env.cells scope.names []) C code builtinsNs X.env) fp pn) R tg us b)
    (pt : ∀ (A : Around) (s : Shared) (H : Hp) (C : Addr) (code : Value) (fp : List Addr) (pn : List (Addr × Obj)), Room l A → JTs (gCx X A s H (genEnv scope (cloFrom X.env.cells scope.names []) C code builtinsNs X.env) fp pn) R ifs fc)
    (pe : ∀ (A : Around) (s : Shared) (H : Hp) (C : Addr) (code : Value) (fp : List Addr) (pn : List (Addr × Obj)), Room l A → JE (gCx X A s H (genEnv scope (cloFrom X.env.cells scope.names []) C code builtinsNs X.env) fp pn) R Wf elt fe) :
    JE X R W (.Call (.Name "sum" p) [.GeneratorExp elt [⟨tg, .Name x px, ifs, 0⟩] scope gpos] [] pos) (mSum vs (mIterD P k) b fc fe) := by
  refine je_lock (P := P) (k := k) (Kf := fun ρ ts μ => match intsL vs b fc fe ρ ts μ with
    | some (ks, μ') => if longs 0 ks = true then some (.ok (.int ks.sum), μ') else none
    | none => none) (fun ρ ts μ y μ' z => ?_) rfl (j_sumG' hr hg hm hc hN TB TO hcode ok hv hu (pi_keys hi) pg pt pe (by intro _; rfl) (by rfl))
  split at z
  · split at z <;> cases z
  · cases z
end
end TL

set_option maxHeartbeats 4000000
namespace TL
open PySem PySem.Spec PyProof.Rows L2
section
variable {X : Cx} {R : RC} {W : WX} {x0 : Addr → Prop} {S : List Addr} {ρ : Env} {μ μ1 : Mu} {σ : L2.St} {H : Hp} {Q : VK}
/-! # [..] * n as a new list -/
def mMulF (fa fb : Env → M T) : Env → M MO := fun ρ => (fa ρ).bind fun x => (fb ρ).bind fun y μ => match look μ x, look μ y with
  | some (.lst ts), some (.int j) => if -(2 ^ 63) ≤ j ∧ j < 2 ^ 63 ∧ ts.length * j.toNat ≤ 1000000 then some (.ok (.lst (List.replicate j.toNat ts).flatten), μ) else none
  | _, _ => none
theorem j_mulF {a b : Expr} {pos : Pos} {fa fb : Env → M T} (ha : JE X R W a fa) (hb : JE X R W b fb) : JF X R W (.BinOp a .Mult b pos) (mMulF fa fb) :=
  (pe_op op_rep ha hb).imp fun σ H Q ⟨x0, S, ρ, μ, e, k⟩ => by
    refine ⟨x0, S, ρ, μ, e, (Post.bind (P := fun x0 S μ H r => PostF R W x0 S μ σ H Q r) e k).imp fun x H1 ⟨tx, μ1, g1, e1, r1, k1⟩ => ?_⟩
    refine ⟨x0, S, ρ, μ1, e1, (Post.bind (P := fun x0 S μ H r => PostF R W x0 S μ σ H Q r) e1 k1).imp fun y H2 ⟨ty, μ2, g2, e2, r2, k2⟩ => ?_⟩
    have r1' := g2.v e1.so.len r1
    cases q1 : look μ2 tx with
    | none => simp only [q1] at k2; exact (k2 : False).elim
    | some u =>
      cases q2 : look μ2 ty with
      | none => cases u <;> (simp only [q1, q2] at k2; exact (k2 : False).elim)
      | some v =>
        have h1 := look_rep e2.so r1' q1
        have h2 := look_rep e2.so r2 q2
        cases u with
        | lst ts =>
          cases v with
          | int j =>
            simp only [q1, q2] at k2
            by_cases hz : -(2 ^ 63) ≤ j ∧ j < 2 ^ 63 ∧ ts.length * j.toNat ≤ 1000000
            · rw [if_pos hz] at k2
              obtain ⟨a, xs, rfl, ha, hr⟩ := h1
              cases h2
              refine ⟨a, j, xs, rfl, rfl, ha, hz.1, hz.2.1, by rw [hr.length]; exact line6 hz.2.2, fun p hp => newF e2 k2 hp (Grow.new hp) (by rw [upd_same]; simp) fun ex' mo => ⟨_, upd_same, Reps.mono mo _ _ (hr.repl _)⟩⟩
            · rw [if_neg hz] at k2
              exact (k2 : False).elim
          | _ => simp only [q1, q2] at k2; exact (k2 : False).elim
        | _ => simp only [q1, q2] at k2; exact (k2 : False).elim
/-! # tuple(range(i, j, c)) -/
theorem eval_rng3 {a b c : Expr} {ta : TA} {p pos : Pos} (hg : Gl X "range") (hm : X.mg "range" = none) (ha : PA X [a, b, c] ta)
    (hs : starEach [a, b, c] X.env = (false, eval a X.env) :: starEach [b, c] X.env) (hpl : (backTo pos (starEach [b, c] X.env)).any (·.1) = false) {pins : List (Addr × Obj)} {s : Shared} {P : Int → Int → Int → Nat → Hp → Prop} (I : Inv X pins σ H s)
    (h : ta σ H fun vs H1 => ∃ i j c n, vs = [.int i, .int j, .int c] ∧ RgC i j c n ∧ P i j c n H1) :
    wpAny (model X.prog X.w) X.A (eval (.Call (.Name "range" p) [a, b, c] [] pos) X.env) (fun r s' => ∃ l i j c n t u v H', r = .ref l ∧ IsRange s'.heap l i j c t u v ∧ RgC i j c n ∧ Inv X pins σ H' s' ∧ P i j c n H') X.xe s := by
  refine Call_ (ld_blt I hg hm boot_range (PyProof.Rows.callWith_type1 (thn (ha.run pos pins s σ H _ I h) fun us s1 ⟨vs, H1, I1, r1, q1⟩ => ?_) hs hpl))
  obtain ⟨i, j, k, n, rfl, ok, q⟩ := q1
  cases r1 with
  | cons r rr =>
    cases rr with
    | cons r' rr =>
      cases rr with
      | cons r'' rr =>
        cases rr
        obtain ⟨t, rfl⟩ := r
        obtain ⟨t', rfl⟩ := r'
        obtain ⟨t'', rfl⟩ := r''
        refine call_range_3 ok.1 ?_ (.inl (PyProof.noPylong_small ok.2.1))
        exact ⟨_, i, j, k, n, _, _, _, H1, rfl, IsRange.new .., ok, I1.kept (t' := s1.toks) fun b o e => Heap.get?_push_of_some _ e, q⟩
def mTupR3 (fs : Env → M (List T)) : Env → M T := fun ρ => (fs ρ).bind fun ts => match int3 ts with
  | some (i, j, c) => if c ≠ 0 ∧ c.natAbs < 1073741824 ∧ Builtin.Range.small i j c = true ∧ 0 ≤ Builtin.Range.rangeSize i j c ∧ Builtin.Range.rangeSize i j c ≤ 1000000 then M.ret (.tup (rng3 i j c)) else M.stuck
  | none => M.stuck
theorem reps_rng {ex : Addr → Prop} {G : Hp} {i c : Int} : ∀ n m : Nat, Reps R ex G ((List.range' m n).map fun (k : Nat) => T.int (i + (k : Int) * c)) ((List.range' m n).map fun (k : Nat) => V.int (i + (k : Nat) * c))
  | 0, _ => rfl
  | n + 1, m => by
    rw [List.range'_succ, List.map_cons, List.map_cons]
    exact ⟨_, _, rfl, rfl, reps_rng n (m + 1)⟩
theorem j_tupR3 {a b c : Expr} {fs : Env → M (List T)} {p pos p2 pos2 : Pos} (hc : X.calm = true) (gt : Gl X "tuple") (mt : X.mg "tuple" = none) (hg : Gl X "range") (hm : X.mg "range" = none) (ha : JA X R W [a, b, c] fs)
    (hs : starEach [a, b, c] X.env = (false, eval a X.env) :: starEach [b, c] X.env) (hpl : (backTo pos2 (starEach [b, c] X.env)).any (·.1) = false)
    (na : starEach [.Call (.Name "range" p2) [a, b, c] [] pos2] X.env = (false, eval (.Call (.Name "range" p2) [a, b, c] [] pos2) X.env) :: starEach [] X.env) :
    JE X R W (.Call (.Name "tuple" p) [.Call (.Name "range" p2) [a, b, c] [] pos2] [] pos) (mTupR3 fs) := by
  refine ⟨fun pins s σ H Q I ⟨x0, S, ρ, μ, e, k⟩ => ?_⟩
  refine Call_ (ld_blt I gt mt boot_tuple (PyProof.Rows.callWith_type1 (args_cons (thn (eval_rng3 (P := fun i j c n H1 => n ≤ 1000000 ∧ ∀ q, H1 q = none → Q (.ref q) (upd H1 q (.tup ((List.range n).map fun (k : Nat) => V.int (i + (k : Nat) * c))))) hg hm ha hs hpl I ?_)
    fun x s1 ⟨r, i, j, c, n, t, u, v, H1, ex, hr, ok, I1, q⟩ => args_nil ?_) na) na))
  · refine ⟨x0, S, ρ, μ, e, (PostA.bind (P := fun x0 S μ H r => Post R W x0 S μ σ H Q r) e k).imp fun vs H1 ⟨ts, μ1, g1, e1, r1, k1⟩ => ?_⟩
    cases q : int3 ts with
    | none => simp only [q] at k1; exact (k1 : False).elim
    | some ij =>
      obtain ⟨i, j, c⟩ := ij
      simp only [q] at k1
      rw [int3_eq q] at r1
      by_cases hj : c ≠ 0 ∧ c.natAbs < 1073741824 ∧ Builtin.Range.small i j c = true ∧ 0 ≤ Builtin.Range.rangeSize i j c ∧ Builtin.Range.rangeSize i j c ≤ 1000000
      · rw [if_pos hj] at k1
        obtain ⟨x, r, rfl, h1, y, r2, rfl, h2, z, r3, rfl, h3, rfl⟩ := r1
        rw [h1.int, h2.int, h3.int]
        refine ⟨i, j, c, (Builtin.Range.rangeSize i j c).toNat, rfl, ⟨hj.1, hj.2.1, hj.2.2.1, (Int.toNat_of_nonneg hj.2.2.2.1).symm⟩, by omega, fun p hp => ?_⟩
        have gr : Grow H1 (upd H1 p (.tup ((List.range (Builtin.Range.rangeSize i j c).toNat).map fun (k : Nat) => V.int (i + (k : Nat) * c)))) := Grow.new hp
        refine k1 _ _ (Go.grow gr) (e1.so.grow gr) (.inr ⟨p, _, rfl, fun z => e1.so.live p z hp, upd_same, ?_⟩)
        have := reps_rng (R := R) (ex := excl x0 S μ1) (G := upd H1 p (.tup ((List.range (Builtin.Range.rangeSize i j c).toNat).map fun (k : Nat) => V.int (i + (k : Nat) * c)))) (i := i) (c := c) (Builtin.Range.rangeSize i j c).toNat 0
        rw [← List.range_eq_range'] at this
        exact this
      · rw [if_neg hj] at k1
        exact (k1 : False).elim
  · subst ex
    obtain ⟨c0, c1, c2, c3⟩ := ok
    refine call_tuple_range (n := n) (I1.ok.hd hc) hr c2 c3 (by have := q.1; omega) fun h' tk acc hk hi => ?_
    have I2 : Inv X pins σ H1 { s1 with heap := h', toks := tk } := I1.kept hk
    have hn : acc.toList.length = n := by rw [Array.length_toList]; exact hi.1
    have hv : Vals ((List.range n).map fun (k : Nat) => V.int (i + (k : Nat) * c)) acc.toList := by
      rw [← hn]
      refine vals_of_get acc.toList _ fun j w hj => ?_
      obtain ⟨tt, rfl⟩ := hi.2 j w (by rw [← hj, Array.getElem?_toList])
      exact ⟨tt, rfl⟩
    refine ⟨.ref h'.objs.size, upd H1 h'.objs.size (.tup _), I2.laid (t' := tk) (fun b o z => Heap.get?_push_of_some _ z) (Nat.le_refl _) (show ObjOk X.prog X.w _ _ _ (.tup ((List.range n).map fun (k : Nat) => V.int (i + (k : Nat) * c))) from ⟨?_, acc.toList, hv, ?_⟩), rfl, q.2 _ (I2.hok.fresh (Nat.le_refl _))⟩
    · rw [List.length_map, List.length_range, sizeLine_eq]; have := q.1; omega
    · rw [Array.toArray_toList]; exact IsTup.new _ _
end
end TL

set_option maxHeartbeats 4000000
namespace TL
open PySem PySem.Spec PyProof.Rows L2

/-! ### list comprehensions of two clauses -/
def delH (H : Hp) (a : Addr) : Hp := fun b => if b = a then none else H b
theorem delH_ne {H : Hp} {a b : Addr} (h : b ≠ a) : delH H a b = H b := if_neg h
theorem delH_same {H : Hp} {a : Addr} : delH H a a = none := if_pos rfl
def lc2E (P : Nat) (vs vs1 : List Nat) (b : TB) (c : Env → M Bool) (fi1 : Env → M (List T)) (b1 : TB) (c1 : Env → M Bool) (fe : Env → M T) (ρ : Env) : List T → Mu → Option (List T × Mu)
  | [], μ => some ([], μ)
  | t :: ts, μ => match b t (wipeE ρ vs) with
    | none => none
    | some ρ1 => match c ρ1 μ with
      | some (.ok true, μ1) => (match fi1 ρ1 μ1 with
        | some (.ok us, μ2) => (match lcE P vs1 b1 c1 fe ρ1 us μ2 with
          | some (ys, μ3) => (match lc2E P vs vs1 b c fi1 b1 c1 fe ρ ts μ3 with
            | some (zs, μ4) => some (ys ++ zs, μ4)
            | none => none)
          | none => none)
        | _ => none)
      | some (.ok false, μ1) => lc2E P vs vs1 b c fi1 b1 c1 fe ρ ts μ1
      | _ => none
def mLc2 (P : Nat) (vs vs1 : List Nat) (fi : Env → M (List T)) (b : TB) (c : Env → M Bool) (fi1 : Env → M (List T)) (b1 : TB) (c1 : Env → M Bool) (fe : Env → M T) : Env → M MO := fun ρ => (fi ρ).bind fun ts μ => match lc2E P vs vs1 b c fi1 b1 c1 fe ρ ts μ with
    | some (ys, μ') => if ys.length ≤ 1000000 then some (.ok (.lst ys), μ') else none
    | none => none
section
variable {X : Cx} {R : RC} {W : WX} {x0 : Addr → Prop} {S S' S1 S2 : List Addr} {ρ ρ' : Env} {μ μ' μ1 μ2 μ3 μ4 : Mu} {σ σ' : L2.St} {H H' H1 H2 H3 H4 : Hp} {t y : T} {v w : V} {Q : VK} {P np k q : Nat} {g : FM} {D : Ends} {f f' : Sm} {st : Stmt} {sts : List Stmt} {pos p : Pos} {x : Str} {e tg tg1 elt iter iter1 : Expr} {es ifs ifs1 : List Expr} {fs : Env → M (List T)} {fa fe : Env → M T} {a : Addr} {o : MO} {b b1 : TB} {bs : TBs} {vs vs1 us us1 : List Nat}
/-- where a comprehension stands: the things since H1, the list at L as made so far -/
structure LcAt (R : RC) (x0 : Addr → Prop) (S : List Addr) (μ1 : Mu) (H1 : Hp) (L : Addr) (acc : List T) (μ : Mu) (H : Hp) : Prop where
  go : Go S μ1 H1 S μ H
  so : SOk R (xa x0 L) S μ H
  hs : ∃ accV, H L = some (.lst accV) ∧ Reps R (excl (xa x0 L) S μ) H acc accV
theorem LcAt.step {L : Addr} {acc : List T} (l : LcAt R x0 S μ1 H1 L acc μ H) (sl : S.length = μ1.length) (nS : L ∉ S) (g : Go S μ H S μ' H') (s : SOk R (xa x0 L) S μ' H') : LcAt R x0 S μ1 H1 L acc μ' H' := by
  obtain ⟨accV, h1, h2⟩ := l.hs
  exact ⟨l.go.trans sl g, s, accV, g.keep L _ h1 (fun ps z => by cases z) fun n m h => absurd (List.mem_of_getElem? h) nS, Reps.mono (g.mono l.so.len) _ _ h2⟩
theorem reps_app {ex : Addr → Prop} (r : Rep R ex H y w) : ∀ {l : List T} {lv : List V}, Reps R ex H l lv → Reps R ex H (l ++ [y]) (lv ++ [w])
  | [], _, h => by cases h; exact ⟨w, [], rfl, r, rfl⟩
  | u :: us, _, h => by obtain ⟨x, r1, rfl, h1, h2⟩ := h; exact ⟨x, _, rfl, h1, reps_app r h2⟩
theorem LcAt.app {L : Addr} {acc : List T} (l : LcAt R x0 S μ1 H1 L acc μ H) (nS : L ∉ S) (hD : H1 L = none) (r : Rep R (excl (xa x0 L) S μ) H y w) (hl : acc.length < 1000000) : ∃ accV, H L = some (.lst accV) ∧ accV.length < sizeLine ∧ LcAt R x0 S μ1 H1 L (acc ++ [y]) μ (upd H L (.lst (accV ++ [w]))) := by
  obtain ⟨accV, h1, h2⟩ := l.hs
  have mo : Mono (excl (xa x0 L) S μ) (excl (xa x0 L) S μ) H (upd H L (.lst (accV ++ [w]))) := ⟨fun b u hx h _ => by rw [upd_ne (fun z => hx (.inl (.inr z)))]; exact h, fun b u hx _ z => hx z⟩
  refine ⟨accV, h1, ?_, l.go.write hD (by rw [h1]; simp) _, l.so.write nS h1 _, accV ++ [w], upd_same, Reps.mono mo _ _ (reps_app r h2)⟩
  have := h2.length
  rw [this]
  have h17 : (1000000 : Nat) < sizeLine := by decide
  omega
/-- the item that is put: kept, then stored -/
theorem LcAt.put {L : Addr} {acc : List T} {N : Hp → Prop} {μ0 : Mu} {H0 : Hp} (l : LcAt R x0 S μ1 H1 L acc μ H) (sl : S.length = μ1.length) (nS : L ∉ S) (hD : H1 L = none) {y' : T} (r : RepV R (excl (xa x0 L) S μ) S H y w) (hk : keepT P y μ = some (.ok y', μ')) (hl : acc.length < 1000000)
    (g0 : Go S μ0 H0 S μ H) (n0 : H0 L = none) (sl0 : S.length = μ0.length) (k : ∀ accV, LcAt R x0 S μ1 H1 L (acc ++ [y']) μ' (upd H L (.lst (accV ++ [w]))) → Go S μ0 H0 S μ' (upd H L (.lst (accV ++ [w]))) → N (upd H L (.lst (accV ++ [w])))) : ∃ accV, H L = some (.lst accV) ∧ accV.length < sizeLine ∧ N (upd H L (.lst (accV ++ [w]))) := by
  rcases keep_ok (P := P) l.so r with q5 | ⟨q5, r5⟩ | ⟨t', n, q5, r5⟩
  · rw [q5] at hk; cases hk
  · rw [q5] at hk
    cases hk
    obtain ⟨accV, h1, h2, h3⟩ := l.app nS hD r5 hl
    exact ⟨accV, h1, h2, k accV h3 (g0.write n0 (by rw [h1]; simp) _)⟩
  · rw [q5] at hk
    cases hk
    obtain ⟨accV, h1, h2, h3⟩ := (l.step sl nS Go.drop l.so.drop).app nS hD r5 hl
    exact ⟨accV, h1, h2, k accV h3 ((g0.trans sl0 Go.drop).write n0 (by rw [h1]; simp) _)⟩
theorem go_del (L : Addr) : Go S μ (delH H L) S μ H := ⟨⟨[], by simp, by simp⟩, fun _ _ h => h, fun a o h _ _ => by
    unfold delH at h
    split at h
    · cases h
    · exact h, fun a h z => h (by unfold delH; split <;> first | rfl | exact z)⟩
theorem mono_del {L : Addr} (g : Go S μ (delH H L) S μ' H') (hl : S.length = μ.length) : Mono (excl (xa x0 L) S μ) (excl (xa x0 L) S μ') H H' := by
  have m := Mono.xa (x0 := x0) g hl delH_same
  have hn : ∀ {a : Addr}, ¬ excl (xa x0 L) S μ a → a ≠ L ∧ ¬ excl x0 S μ a := fun {a} h => ⟨fun z => h (.inl (.inr z)), fun z => h (by
    rcases z with z | z
    · exact .inl (.inl z)
    · exact .inr z)⟩
  exact ⟨fun a o hx h ht => m.k a o (hn hx).2 (by rw [delH_ne (hn hx).1]; exact h) ht, fun a o hx h => m.x a o (hn hx).2 (by rw [delH_ne (hn hx).1]; exact h)⟩
theorem lc2_red {fi fi1 : Env → M (List T)} {fc fc1 : Env → M Bool} (hu : ∀ i ∈ us, i ∈ vs) (hu1 : ∀ i ∈ us1, i ∈ vs1) (hv1 : ∀ i ∈ vs1, i ∈ vs) (σ : L2.St) (H : Hp) (Q : VK) : tEvF R W (mLc2 P vs vs1 fi b fc fi1 b1 fc1 fe) σ H Q → tLc2 (tEvI R W fi) (gT R us b) (tEvT R Wf fc) (tEvI R Wf fi1) (gT R us1 b1) (tEvT R Wf fc1) (tEv R Wf fe) vs vs1 σ H Q := by
  intro ⟨x0, S, ρ, μ, e, k⟩
  refine ⟨x0, S, ρ, μ, e, ?_⟩
  unfold mLc2 M.bind at k
  match q : fi ρ μ with
  | none => rw [q] at k; exact k
  | some (.ex x, μ') => rw [q] at k; exact k
  | some (.ok ts, μ1) =>
    rw [q] at k
    intro J H1 g1 s1 io
    try dsimp only at k
    cases ql : lc2E P vs vs1 b fc fi1 b1 fc1 fe ρ ts μ1 with
    | none => simp only [ql] at k; exact (k : False).elim
    | some r =>
      obtain ⟨ys, μe⟩ := r
      simp only [ql] at k
      by_cases hz : ys.length ≤ 1000000
      · simp only [if_pos hz] at k
        intro D hD
        have hD0 : H D = none := by
          cases z : H D with
          | none => rfl
          | some o => exact absurd hD (g1.there D (by rw [z]; simp))
        have nS : D ∉ S := fun h => e.so.sd D h hD0
        have e1 := e.go g1 s1
        have gr1 : Grow H1 (upd H1 D (.lst [])) := Grow.new hD
        have G1 : Go S μ1 H1 S μ1 (upd H1 D (.lst [])) := Go.grow gr1
        have m1 := Mono.xa (x0 := x0) G1 s1.len hD
        have s2 : SOk R (xa x0 D) S μ1 (upd H1 D (.lst [])) := by
          refine ⟨s1.len, s1.nd, fun b hb => ?_, fun n b o h1 h2 z => ?_, fun b hb => gr1.keeps.there b (s1.sd b hb), fun n o h => ?_, fun n o h => ?_, R.tabk _ _ s1.tab (fun a ps z => gr1 _ _ z) fun a φ z => gr1 _ _ z⟩
          · rcases hb with hb | hb
            · exact gr1.keeps.there b (s1.xd b hb)
            · subst hb
              rw [upd_same]
              simp
          · rcases z with z | z
            · exact s1.sx n b o h1 h2 z
            · subst z
              exact nS (List.mem_of_getElem? h1)
          · obtain ⟨b, h1, h2⟩ := s1.sh n o h
            exact ⟨b, h1, h2.mono m1 fun u hu => gr1 _ _ hu⟩
          · obtain ⟨b, h1, h2⟩ := s1.fz n o h
            exact ⟨b, h1, Rep.mono m1 _ _ h2⟩
        refine ⟨fun i m H2 => m = ts.length - i ∧ ∃ μ2 acc ys', LcAt R x0 S μ1 H1 D acc μ2 H2 ∧ lc2E P vs vs1 b fc fi1 b1 fc1 fe ρ (ts.drop i) μ2 = some (ys', μe) ∧ ys = acc ++ ys',
          ⟨_, rfl, μ1, [], ys, ⟨G1, s2, [], upd_same, rfl⟩, by rw [List.drop_zero]; exact ql, rfl⟩, ?_⟩
        rintro i m H2 ⟨rfl, μ2, acc, ys', la, hl, hys⟩
        obtain ⟨hgo, hstop⟩ := io (excl (xa x0 D) S μ2) H2 (Mono.xa (x0 := x0) la.go s1.len hD) la.so.live
        by_cases hlt : i < ts.length
        · obtain ⟨t, htt⟩ := getE hlt
          have hdrop : ts.drop i = t :: ts.drop (i + 1) := by
            rw [List.drop_eq_getElem_cons hlt]
            rw [List.getElem?_eq_getElem hlt, Option.some.injEq] at htt
            rw [htt]
          rw [hdrop] at hl
          unfold lc2E at hl
          obtain ⟨h1, h2⟩ := hgo i t htt
          refine .inr ⟨h1, fun H' => ∃ μ2 acc ys', LcAt R x0 S μ1 H1 D acc μ2 H' ∧ lc2E P vs vs1 b fc fi1 b1 fc1 fe ρ (ts.drop (i + 1)) μ2 = some (ys', μe) ∧ ys = acc ++ ys',
            fun H' h => ⟨ts.length - (i + 1), by omega, rfl, h⟩, fun x H' hy => ?_⟩
          obtain ⟨gr, rx⟩ := h2 x H' hy
          have la' := la.step s1.len nS (Go.grow gr) (la.so.grow gr)
          have e2 : EnvOk R (xa x0 D) S ρ μ2 σ H' := e1.mv la'.so (Mono.xa la'.go s1.len hD)
          have e2w := e2.wipe vs
          cases qb : b t (wipeE ρ vs) with
          | none => simp only [qb] at hl; cases hl
          | some ρ1 =>
            simp only [qb] at hl
            refine ⟨xa x0 D, S, _, μ2, t, ρ1, e2w, .inr rx, qb, fun σ3 e3 ag => ⟨?_, xa x0 D, S, ρ1, μ2, e3, ?_⟩⟩
            · have := wipe_agree ag hu
              rw [wipe_wipe] at this
              exact this
            · match qc : fc ρ1 μ2 with
              | none => rw [qc] at hl; cases hl
              | some (.ex x, μ3) => rw [qc] at hl; cases hl
              | some (.ok false, μ3) =>
                rw [qc] at hl
                intro H3 g3 s3
                exact ⟨μ3, acc, ys', la'.step s1.len nS g3 s3, hl, hys⟩
              | some (.ok true, μ3) =>
                rw [qc] at hl
                simp only at hl
                intro H3 g3 s3
                have l3 := la'.step s1.len nS g3 s3
                have e4 := e3.go g3 s3
                refine ⟨xa x0 D, S, ρ1, μ3, e4, ?_⟩
                match qi : fi1 ρ1 μ3 with
                | none => rw [qi] at hl; cases hl
                | some (.ex x, μ4) => rw [qi] at hl; cases hl
                | some (.ok zs, μ4) =>
                  rw [qi] at hl
                  simp only at hl
                  intro J1 H4 g4 s4 io1
                  have l4 := l3.step s1.len nS g4 s4
                  have e5 := e4.go g4 s4
                  cases qj : lcE P vs1 b1 fc1 fe ρ1 zs μ4 with
                  | none => simp only [qj] at hl; cases hl
                  | some rj =>
                    obtain ⟨yj, μj⟩ := rj
                    simp only [qj] at hl
                    cases qk : lc2E P vs vs1 b fc fi1 b1 fc1 fe ρ (ts.drop (i + 1)) μj with
                    | none => rw [qk] at hl; cases hl
                    | some rk =>
                      obtain ⟨yk, μk⟩ := rk
                      rw [qk] at hl
                      cases hl
                      refine ⟨fun j m1 H5 => m1 = zs.length - j ∧ ∃ μ5 acc1 y1, LcAt R x0 S μ1 H1 D acc1 μ5 H5 ∧ Go S μ4 (delH H4 D) S μ5 H5 ∧ lcE P vs1 b1 fc1 fe ρ1 (zs.drop j) μ5 = some (y1, μj) ∧ ys = acc1 ++ (y1 ++ yk),
                        ⟨_, rfl, μ4, acc, yj, l4, go_del _, by rw [List.drop_zero]; exact qj, hys⟩, ?_⟩
                      rintro j m1 H5 ⟨rfl, μ5, acc1, y1, l5, g5, hl5, hys5⟩
                      obtain ⟨hgo1, hstop1⟩ := io1 (excl (xa x0 D) S μ5) H5 (mono_del g5 s4.len) l5.so.live
                      by_cases hlt1 : j < zs.length
                      · obtain ⟨u, huu⟩ := getE hlt1
                        have hdrop1 : zs.drop j = u :: zs.drop (j + 1) := by
                          rw [List.drop_eq_getElem_cons hlt1]
                          rw [List.getElem?_eq_getElem hlt1, Option.some.injEq] at huu
                          rw [huu]
                        rw [hdrop1] at hl5
                        unfold lcE at hl5
                        obtain ⟨h11, h12⟩ := hgo1 j u huu
                        refine .inr ⟨h11, fun H' => ∃ μ5 acc1 y1, LcAt R x0 S μ1 H1 D acc1 μ5 H' ∧ Go S μ4 (delH H4 D) S μ5 H' ∧ lcE P vs1 b1 fc1 fe ρ1 (zs.drop (j + 1)) μ5 = some (y1, μj) ∧ ys = acc1 ++ (y1 ++ yk),
                          fun H' h => ⟨zs.length - (j + 1), by omega, rfl, h⟩, fun x1 H6 hy1 => ?_⟩
                        obtain ⟨gr1', rx1⟩ := h12 x1 H6 hy1
                        have l6 := l5.step s1.len nS (Go.grow gr1') (l5.so.grow gr1')
                        have g6 : Go S μ4 (delH H4 D) S μ5 H6 := g5.trans s4.len (Go.grow gr1')
                        have e6 : EnvOk R (xa x0 D) S ρ1 μ5 σ3 H6 := e5.mv l6.so (mono_del g6 s4.len)
                        have e6w := e6.wipe vs1
                        cases qb1 : b1 u (wipeE ρ1 vs1) with
                        | none => simp only [qb1] at hl5; cases hl5
                        | some ρ2 =>
                          simp only [qb1] at hl5
                          refine ⟨xa x0 D, S, _, μ5, u, ρ2, e6w, .inr rx1, qb1, fun σ4 e7 ag1 => ⟨?_, xa x0 D, S, ρ2, μ5, e7, ?_⟩⟩
                          · have := wipe_agree ag1 hu1
                            rw [wipe_wipe] at this
                            exact this
                          · match qc1 : fc1 ρ2 μ5 with
                            | none => rw [qc1] at hl5; cases hl5
                            | some (.ex x, μ6) => rw [qc1] at hl5; cases hl5
                            | some (.ok false, μ6) =>
                              rw [qc1] at hl5
                              intro H7 g7 s7
                              exact ⟨μ6, acc1, y1, l6.step s1.len nS g7 s7, g6.trans s4.len g7, hl5, hys5⟩
                            | some (.ok true, μ6) =>
                              rw [qc1] at hl5
                              simp only at hl5
                              intro H7 g7 s7
                              have l7 := l6.step s1.len nS g7 s7
                              have e8 := e7.go g7 s7
                              refine ⟨xa x0 D, S, ρ2, μ6, e8, ?_⟩
                              unfold M.bind at hl5
                              match qe : fe ρ2 μ6 with
                              | none => rw [qe] at hl5; cases hl5
                              | some (.ex x, μ7) => rw [qe] at hl5; cases hl5
                              | some (.ok y, μ7) =>
                                rw [qe] at hl5
                                simp only at hl5
                                intro w H8 g8 s8 r8
                                have l8 := l7.step s1.len nS g8 s8
                                match qk2 : keepT P y μ7 with
                                | none => rw [qk2] at hl5; cases hl5
                                | some (.ex x, μ8) => rw [qk2] at hl5; cases hl5
                                | some (.ok y', μ8) =>
                                  rw [qk2] at hl5
                                  simp only at hl5
                                  cases qr : lcE P vs1 b1 fc1 fe ρ1 (zs.drop (j + 1)) μ8 with
                                  | none => rw [qr] at hl5; cases hl5
                                  | some rr =>
                                    obtain ⟨y2, μ9⟩ := rr
                                    rw [qr] at hl5
                                    cases hl5
                                    have hacc : acc1.length < 1000000 := by
                                      rw [hys5] at hz
                                      simp at hz
                                      omega
                                    exact l8.put (P := P) (N := fun H' => ∃ μ5 acc1 y1, LcAt R x0 S μ1 H1 D acc1 μ5 H' ∧ Go S μ4 (delH H4 D) S μ5 H' ∧ lcE P vs1 b1 fc1 fe ρ1 (zs.drop (j + 1)) μ5 = some (y1, μj) ∧ ys = acc1 ++ (y1 ++ yk)) s1.len nS hD r8 qk2 hacc ((g6.trans s4.len g7).trans s4.len g8) delH_same s4.len fun accV l9 g9 => ⟨μ8, acc1 ++ [y'], y2, l9, g9, qr, by rw [hys5]; simp⟩
                      · refine .inl ⟨hstop1 j (by omega), ?_⟩
                        rw [List.drop_eq_nil_of_le (by omega)] at hl5
                        unfold lcE at hl5
                        cases hl5
                        exact ⟨μj, acc1, yk, l5, qk, by rw [hys5]; simp⟩
        · refine .inl ⟨hstop i (by omega), ?_⟩
          rw [List.drop_eq_nil_of_le (by omega)] at hl
          unfold lc2E at hl
          cases hl
          obtain ⟨accV, h1, h2⟩ := la.hs
          refine k D H2 (g1.trans e.so.len la.go) hD0 la.so ⟨accV, h1, ?_⟩
          rw [hys, List.append_nil]
          exact h2
      · simp only [if_neg hz] at k
        exact (k : False).elim
theorem jf_lc2 {own : List (Str × Nat)} {scope : Scope} {fi fi1 : Env → M (List T)} {fc fc1 : Env → M Bool} (hc : X.calm = true) (hN : X.N.Nodup) (ok : BlkOk X.N X.env.scope scope own) (hv : own.map (·.2) = vs) (hu : ∀ i ∈ us, i ∈ vs) (hu1 : ∀ i ∈ us1, i ∈ vs)
    (hi : JI X R W tg iter fi)
    (hg : ∀ (s : Shared) (H : Hp) (C : Addr) (cl : List (Str × Addr)) (fp : List Addr), JB (X.blk s H scope (compEnvC scope cl C X.env) fp) R tg us b) (ht : ∀ (s : Shared) (H : Hp) (C : Addr) (cl : List (Str × Addr)) (fp : List Addr), JTs (X.blk s H scope (compEnvC scope cl C X.env) fp) R ifs fc)
    (hi1 : ∀ (s : Shared) (H : Hp) (C : Addr) (cl : List (Str × Addr)) (fp : List Addr), JI (X.blk s H scope (compEnvC scope cl C X.env) fp) R Wf tg1 iter1 fi1)
    (hg1 : ∀ (s : Shared) (H : Hp) (C : Addr) (cl : List (Str × Addr)) (fp : List Addr), JB (X.blk s H scope (compEnvC scope cl C X.env) fp) R tg1 us1 b1) (ht1 : ∀ (s : Shared) (H : Hp) (C : Addr) (cl : List (Str × Addr)) (fp : List Addr), JTs (X.blk s H scope (compEnvC scope cl C X.env) fp) R ifs1 fc1)
    (he : ∀ (s : Shared) (H : Hp) (C : Addr) (cl : List (Str × Addr)) (fp : List Addr), JE (X.blk s H scope (compEnvC scope cl C X.env) fp) R Wf elt fe) (hs : ∀ x, foldedSetIterable iter X.env x = pure x := by intro _; rfl) (hs1 : ∀ env x, foldedSetIterable iter1 env x = pure x := by intro _ _; rfl) :
    JF X R W (.ListComp elt [⟨tg, iter, ifs, 0⟩, ⟨tg1, iter1, ifs1, 0⟩] scope pos) (mLc2 P vs us1 fi b fc fi1 b1 fc1 fe) := by
  subst hv
  exact (pe_lc2 hc hN hi ok hu1 hg ht hi1 hg1 ht1 he hs hs1).imp (lc2_red hu (fun _ h => h) hu1)
variable {own : List (Str × Nat)} {scope : Scope} {fi fi1 : Env → M (List T)} {fc fc1 : Env → M Bool} {yn : Str} {py spos : Pos} {i : Nat}
theorem js_setLc2 (hc : X.calm = true) (hN : X.N.Nodup) (hy : X.N[i]? = some yn) (hyl : X.env.scope.names.lookup yn = some .local)
    (hsw : swapsWith (.ListComp elt [⟨tg, iter, ifs, 0⟩, ⟨tg1, iter1, ifs1, 0⟩] scope pos) (some (.Name yn py)) spos.line X.env = pure true) (ok : BlkOk X.N X.env.scope scope own) (hv : own.map (·.2) = vs) (hu : ∀ i ∈ us, i ∈ vs) (hu1 : ∀ i ∈ us1, i ∈ vs) (hi : JI X R W tg iter fi)
    (hg : ∀ (s : Shared) (H : Hp) (C : Addr) (cl : List (Str × Addr)) (fp : List Addr), JB (X.blk s H scope (compEnvC scope cl C X.env) fp) R tg us b) (ht : ∀ (s : Shared) (H : Hp) (C : Addr) (cl : List (Str × Addr)) (fp : List Addr), JTs (X.blk s H scope (compEnvC scope cl C X.env) fp) R ifs fc)
    (hi1 : ∀ (s : Shared) (H : Hp) (C : Addr) (cl : List (Str × Addr)) (fp : List Addr), JI (X.blk s H scope (compEnvC scope cl C X.env) fp) R Wf tg1 iter1 fi1)
    (hg1 : ∀ (s : Shared) (H : Hp) (C : Addr) (cl : List (Str × Addr)) (fp : List Addr), JB (X.blk s H scope (compEnvC scope cl C X.env) fp) R tg1 us1 b1) (ht1 : ∀ (s : Shared) (H : Hp) (C : Addr) (cl : List (Str × Addr)) (fp : List Addr), JTs (X.blk s H scope (compEnvC scope cl C X.env) fp) R ifs1 fc1)
    (he : ∀ (s : Shared) (H : Hp) (C : Addr) (cl : List (Str × Addr)) (fp : List Addr), JE (X.blk s H scope (compEnvC scope cl C X.env) fp) R Wf elt fe) (hs : ∀ x, foldedSetIterable iter X.env x = pure x := by intro _; rfl) (hs1 : ∀ env x, foldedSetIterable iter1 env x = pure x := by intro _ _; rfl) :
    JS X R W (.Assign [.Name yn py] (.ListComp elt [⟨tg, iter, ifs, 0⟩, ⟨tg1, iter1, ifs1, 0⟩] scope pos) spos) (mSet i (mOf (mLc2 P vs us1 fi b fc fi1 b1 fc1 fe))) := by
  subst hv
  exact (ps_setLc2 hc hN hy hyl hsw hi ok hu1 hg ht hi1 hg1 ht1 he hs hs1).imp (tSet_of fun σ H Q h => lc2_red hu (fun _ h => h) hu1 σ H Q (mOf_red h))
theorem js_newLc2 (hc : X.calm = true) (hN : X.N.Nodup) (hy : X.N[i]? = some yn) (hyl : X.env.scope.names.lookup yn = some .local)
    (hsw : swapsWith (.ListComp elt [⟨tg, iter, ifs, 0⟩, ⟨tg1, iter1, ifs1, 0⟩] scope pos) (some (.Name yn py)) spos.line X.env = pure true) (ok : BlkOk X.N X.env.scope scope own) (hv : own.map (·.2) = vs) (hu : ∀ i ∈ us, i ∈ vs) (hu1 : ∀ i ∈ us1, i ∈ vs) (hi : JI X R W tg iter fi)
    (hg : ∀ (s : Shared) (H : Hp) (C : Addr) (cl : List (Str × Addr)) (fp : List Addr), JB (X.blk s H scope (compEnvC scope cl C X.env) fp) R tg us b) (ht : ∀ (s : Shared) (H : Hp) (C : Addr) (cl : List (Str × Addr)) (fp : List Addr), JTs (X.blk s H scope (compEnvC scope cl C X.env) fp) R ifs fc)
    (hi1 : ∀ (s : Shared) (H : Hp) (C : Addr) (cl : List (Str × Addr)) (fp : List Addr), JI (X.blk s H scope (compEnvC scope cl C X.env) fp) R Wf tg1 iter1 fi1)
    (hg1 : ∀ (s : Shared) (H : Hp) (C : Addr) (cl : List (Str × Addr)) (fp : List Addr), JB (X.blk s H scope (compEnvC scope cl C X.env) fp) R tg1 us1 b1) (ht1 : ∀ (s : Shared) (H : Hp) (C : Addr) (cl : List (Str × Addr)) (fp : List Addr), JTs (X.blk s H scope (compEnvC scope cl C X.env) fp) R ifs1 fc1)
    (he : ∀ (s : Shared) (H : Hp) (C : Addr) (cl : List (Str × Addr)) (fp : List Addr), JE (X.blk s H scope (compEnvC scope cl C X.env) fp) R Wf elt fe) (hs : ∀ x, foldedSetIterable iter X.env x = pure x := by intro _; rfl) (hs1 : ∀ env x, foldedSetIterable iter1 env x = pure x := by intro _ _; rfl) :
    JS X R W (.Assign [.Name yn py] (.ListComp elt [⟨tg, iter, ifs, 0⟩, ⟨tg1, iter1, ifs1, 0⟩] scope pos) spos) (mNew i (mLc2 P vs us1 fi b fc fi1 b1 fc1 fe)) := by
  subst hv
  exact (ps_setLc2 hc hN hy hyl hsw hi ok hu1 hg ht hi1 hg1 ht1 he hs hs1).imp (tNew_of fun σ H Q h => lc2_red hu (fun _ h => h) hu1 σ H Q h)
end
end TL

set_option maxHeartbeats 4000000
namespace TL
open PySem PySem.Spec PyProof.Rows L2 RT RZ
section
variable {X : Cx} {R : RC} {W : WX} {x0 : Addr → Prop} {S S' S1 S2 : List Addr} {ρ ρ' : Env} {μ μ' μ1 μ2 : Mu} {σ σ' : L2.St} {H H' H1 H2 : Hp} {t : T} {v x y : V} {Q : VK} {P np k q n : Nat} {pos p apos tpos cpos pos' : Pos} {e e2 e3 tg elt iter : Expr} {es ifs elts : List Expr} {fs : Env → M (List T)} {fa fo fv fe : Env → M T} {a b : Addr} {o o' : MO} {ex : Addr → Prop}
/-! ### zip of two lists, two tuples -/
def zipT (as bs : List T) : List T := as.zipWith (fun x y => T.tup [x, y]) bs
theorem zipT_at {as bs : List T} {i : Nat} {u : T} (h : (zipT as bs)[i]? = some u) : ∃ x y, as[i]? = some x ∧ bs[i]? = some y ∧ u = .tup [x, y] := by
  unfold zipT at h
  rw [List.getElem?_zipWith] at h
  cases q : as[i]? with
  | none => rw [q] at h; simp at h
  | some x =>
    cases q2 : bs[i]? with
    | none => rw [q, q2] at h; simp at h
    | some y =>
      rw [q, q2] at h
      simp only [Option.some.injEq] at h
      exact ⟨x, y, rfl, rfl, h.symm⟩
theorem RIt.zip {ex : Addr → Prop} {a b : Addr} {xs ys : List V} {ts us : List T} (hx1 : ¬ ex a) (hx2 : ¬ ex b) (h1 : H a = some (.lst xs)) (h2 : H b = some (.lst ys)) (r1 : Reps R ex H ts xs) (r2 : Reps R ex H us ys) : ItOk R ex H (Itz R.K a b) (zipT ts us) := by
  intro ex' H' mo hx
  have rs1 := Reps.mono mo _ _ r1
  have rs2 := Reps.mono mo _ _ r2
  have sq1 : SqL R.K H' a xs := SqL.of (mo.k a _ hx1 h1 (fun ps z => by cases z))
  have sq2 : SqL R.K H' b ys := SqL.of (mo.k b _ hx2 h2 (fun ps z => by cases z))
  refine ⟨fun i u hi => ?_, fun i hi => ⟨xs, ys, sq1, sq2, by
    rw [r1.length, r2.length]
    unfold zipT at hi
    rw [List.length_zipWith] at hi
    omega⟩⟩
  obtain ⟨t, u', ht, hu, rfl⟩ := zipT_at hi
  obtain ⟨x, e1, e2⟩ := rs1.at ht
  obtain ⟨y, e3, e4⟩ := rs2.at hu
  refine ⟨⟨xs, ys, x, y, sq1, sq2, e1, e3⟩, fun v H2 ⟨p, x', y', e5, hp, e6, e7, e8⟩ => ?_⟩
  subst e5 e6
  have q1 := e7 xs sq1
  rw [e1] at q1
  cases q1
  have q2 := e8 ys sq2
  rw [e3] at q2
  cases q2
  have gr : Grow H' (upd H' p (.tup [x, y])) := Grow.new hp
  exact ⟨gr, p, _, rfl, fun z => hx p z hp, upd_same, x, [y], rfl, Rep.mono (Mono.grow gr hx) _ _ e2, y, [], rfl, Rep.mono (Mono.grow gr hx) _ _ e4, rfl⟩
theorem RIt.zipT {ex : Addr → Prop} {a b : Addr} {xs ys : List V} {ts us : List T} (hx1 : ¬ ex a) (hx2 : ¬ ex b) (h1 : H a = some (.tup xs)) (h2 : H b = some (.tup ys)) (r1 : Reps R ex H ts xs) (r2 : Reps R ex H us ys) : ItOk R ex H (ItzT R.K a b) (TL.zipT ts us) := by
  intro ex' H' mo hx
  have rs1 := Reps.mono mo _ _ r1
  have rs2 := Reps.mono mo _ _ r2
  have sq1 : SqT R.K H' a xs := .inl (.inl (mo.k a _ hx1 h1 (fun ps z => by cases z)))
  have sq2 : SqT R.K H' b ys := .inl (.inl (mo.k b _ hx2 h2 (fun ps z => by cases z)))
  refine ⟨fun i u hi => ?_, fun i hi => ⟨xs, ys, sq1, sq2, by
    rw [r1.length, r2.length]
    unfold TL.zipT at hi
    rw [List.length_zipWith] at hi
    omega⟩⟩
  obtain ⟨t, u', ht, hu, rfl⟩ := zipT_at hi
  obtain ⟨x, e1, e2⟩ := rs1.at ht
  obtain ⟨y, e3, e4⟩ := rs2.at hu
  refine ⟨⟨xs, ys, x, y, sq1, sq2, e1, e3⟩, fun v H2 ⟨p, x', y', e5, hp, e6, e7, e8⟩ => ?_⟩
  subst e5 e6
  have q1 := e7 xs sq1
  rw [e1] at q1
  cases q1
  have q2 := e8 ys sq2
  rw [e3] at q2
  cases q2
  have gr : Grow H' (upd H' p (.tup [x, y])) := Grow.new hp
  exact ⟨gr, p, _, rfl, fun z => hx p z hp, upd_same, x, [y], rfl, Rep.mono (Mono.grow gr hx) _ _ e2, y, [], rfl, Rep.mono (Mono.grow gr hx) _ _ e4, rfl⟩
def walkZ : List T → M (List T)
  | [.lst as, .lst bs] => M.ret (zipT as bs)
  | [.tup as, .tup bs] => M.ret (zipT as bs)
  | _ => M.stuck
def mZip (P : Nat) (fs : Env → M (List T)) : Env → M (List T) := fun ρ => (fs ρ).bind fun ts => (keepTs P ts).bind walkZ
theorem ji_zip (hK : X.K = R.K) (ha : JA X R W [e, e2] fs) (hg : Gl X "zip") (hm : X.mg "zip" = none) (hs : starEach [e, e2] X.env = (false, eval e X.env) :: starEach [e2] X.env := by rfl) (hpl : (backTo pos (starEach [e2] X.env)).any (·.1) = false := by rfl) {kk : Nat} :
    JI X R W (.Tuple elts kk tpos) (.Call (.Name "zip" p) [e, e2] [] pos) (mZip P fs) :=
  (pi_zipA hg hm ha hs hpl).imp fun σ H Rk ⟨x0, S, ρ, μ, e, k⟩ => by
    refine ⟨x0, S, ρ, μ, e, (PostA.bind (P := fun x0 S μ H r => PostI R W x0 S μ σ H Rk r) e k).imp fun xs H1 ⟨txs, μ1, g1, e1, r1, k1⟩ => ?_⟩
    obtain ⟨ys, μ2, g2, e2, r2, k2⟩ := keeps_bind (P := fun x0 S μ H r => PostI R W x0 S μ σ H Rk r) e1 r1 k1
    unfold walkZ at k2
    split at k2
    · obtain ⟨x, r, rfl, h1, y, r', rfl, h2, h3⟩ := r2
      cases h3
      obtain ⟨a, xs, rfl, hx1, a1, a2⟩ := h1
      obtain ⟨b, ys, rfl, hx2, b1, b2⟩ := h2
      refine ⟨a, b, xs, ys, rfl, .inl ⟨SqL.of a1, SqL.of b1, ?_⟩⟩
      rw [hK]
      exact k2 _ H1 (Go.refl _ _ _) e2.so (RIt.zip hx1 hx2 a1 b1 a2 b2)
    · obtain ⟨x, r, rfl, h1, y, r', rfl, h2, h3⟩ := r2
      cases h3
      obtain ⟨a, xs, rfl, hx1, a1, a2⟩ := h1
      obtain ⟨b, ys, rfl, hx2, b1, b2⟩ := h2
      refine ⟨a, b, xs, ys, rfl, .inr ⟨.inl (.inl a1), .inl (.inl b1), ?_⟩⟩
      rw [hK]
      exact k2 _ H1 (Go.refl _ _ _) e2.so (RIt.zipT hx1 hx2 a1 b1 a2 b2)
    · exact (k2 : False).elim
end
end TL

set_option maxHeartbeats 4000000
namespace TL
open PySem PySem.Spec PySem.Calls PyProof.Rows

/-! # an own exception's __init__: super().__init__('..'); self.f = p -/
structure ExI (prog : Program) (K : PySem.W.Frag) (C f : Addr) (fd : FuncData) (sn pn fl : Str) : Prop where
  fo : ∃ od osl, K.lookup f = some ⟨.type "function", od, .func fd, osl⟩
  body : ∃ p0 p1 p2 p3 p4 p5 p6 p7 p8 p9 j msg, fd.body = .stmts [.Expr (.Call (.Attribute (.Call (.Name "super" p0) [] [] p1) "__init__" p2) [.Constant (.str msg) j p3] [] p4) p5, .Assign [.Attribute (.Name sn p6) fl p7] (.Name pn p8) p9] ∧
    ∀ env, ∃ pl : Sem Bool, eval (.Call (.Attribute (.Call (.Name "super" p0) [] [] p1) "__init__" p2) [.Constant (.str msg) j p3] [] p4) env = (do
      let ov ← attributeBase (.Call (.Name "super" p0) [] [] p1) "__init__" env (eval (.Call (.Name "super" p0) [] [] p1) env)
      standAt p2.atName
      let (f, first) ← holding [ov] (getMethod ov "__init__" pl)
      callWith p4 f first (backTo p4 (starEach [.Constant (.str msg) j p3] env)) [])
  prm : ∃ ar, (fd.params.posonlyargs ++ fd.params.args).head? = some ar ∧ ar.arg = sn
  kind : fd.scope.kind = .function
  co : fd.scope.isCoroutine = false
  gen : fd.scope.isGenerator = false
  nocell : ∀ x ∈ fd.scope.names, x.2 ≠ .cell
  ks : fd.scope.names.lookup sn = some .local
  kp : fd.scope.names.lookup pn = some .local
  ksup : fd.scope.names.lookup ("super" : Str) = some .globalImplicit
  kcls : fd.scope.names.lookup ("__class__" : Str) = some .free
  ne : sn ≠ pn
  sdb : (sn == ("__debug__" : Str)) = false
  pdb : (pn == ("__debug__" : Str)) = false
  clo : ∃ cc oc, fd.closure.lookup ("__class__" : Str) = some cc ∧ K.lookup cc = some oc ∧ oc.data = .cell (some (.ref C))
  gl : fd.globals = mainGlobals
  bl : fd.builtins = builtinsNs
  code : ∃ cd oc vs file t1 t2, fd.code = .ref cd ∧ K.lookup cd = some oc ∧ oc.data = .fields vs ∧ vs[1]? = some (.str fd.qualname t1) ∧ vs[2]? = some (.str file t2) ∧ (prog.main.file == file) = true
  top : (prog.main.scope.names.lookup ("super" : Str)).isSome = false
  cls : ∃ nm q N bs bm sl sub ab col dd k0 k1 k2 k3 k5, K.lookup C = some (excClassObj nm q C N bs bm true sl sub ab col dd k0 k1 k2 k3 k5 "ValueError.__new__") ∧ PySem.HandSPX.refsVE bm = true
  nt : PySem.W.nsIn K cStatics "thirdparty.any" = some none
  ini : PySem.W.ks_superIn K C C "__init__" = some (some (.builtin "ValueError.__init__"))
  sa : PySem.W.findIn K (.ref C) "__setattr__" = some (some (.builtin "object.__setattr__"))
  nf : PySem.W.findIn K (.ref C) fl = some none
  subC : PySem.W.subIn K (.ref C) (.ref C) = some true
  subV : PySem.W.subIn K (.ref C) (.type "ValueError") = some true
section
variable {prog : Program} {w : World} {K : PySem.W.Frag} {C f : Addr} {fd : FuncData} {sn pn fl : Str}
theorem name_glob {M : Model} {A : Around} {E : Value → Shared → Prop} {s : Shared} {env : PySem.Env} {x : Str} {Q : Value → Shared → Prop} (hk : env.scope.kind = .function) (hx : env.kindOf x = some .globalImplicit) (h : wpAny M A (loadGlobal env x) Q E s) : wpAny M A (loadName env x) Q E s := by
  unfold loadName
  simp only [PySem.Env.blockKind, hk, hx, ScopeKind.isAnnotationScope, Bool.false_and, Bool.false_eq_true, if_false]
  exact h
open PySem.W in
theorem mw_call {A : Around} {s : Shared} {E : Value → Shared → Prop} {Q : Value → Shared → Prop} {C u e t : Addr} {dv : Option Addr} {rest : List Value} {nm q : Str} {N : Addr} {bs bm : List Value} {sl : List Str} {sub : List Value} {ab : Bool} {col : Option Bool} {dd : Option Addr} {k0 k1 k2 k3 k5 : Option Value}
    (hC : s.heap.get? C = some (excClassObj nm q C N bs bm true sl sub ab col dd k0 k1 k2 k3 k5 "ValueError.__new__")) (hu : s.heap.get? u = some (kxs_mw "ValueError.__init__" e)) (he : s.heap.get? e = some (excObj C t dv .none)) (hz : rest.length ≤ sizeLine)
    (fin : ∀ h', (∀ b o, b ≠ e → s.heap.get? b = some o → h'.get? b = some o) → h'.get? e = some (excObj C s.heap.objs.size dv .none) → Q .none { s with heap := h' }) : wpAny (model prog w) A (call (.ref u) rest) Q E s := by
  obtain ⟨hh, g, d, tk, os⟩ := s
  have FB := F.excBase_ValueError
  refine wpAny_call (codeAny_of_tree ?_)
  show wpAny _ A.in1 (callAny (.ref u) ⟨rest, []⟩) _ _ _
  simp only [callAny]
  refine wpAny_bind (wpAny_load hu ?_)
  simp only [kxs_mw, show (Value.type "method-wrapper" == Value.type "method" || Value.type "method-wrapper" == Value.type "builtin_function_or_method" || Value.type "method-wrapper" == Value.type "method-wrapper") = true by decide, if_true]
  refine KFB.if_so (by decide) ?_
  refine wpAny_bind (check_bound_init FB.toExcCallFacts hC he rfl ?_)
  refine wpAny_bind (wpAny_pure (wpAny_pure ?_))
  refine ⟨plainId_quiet FB.init.plain _, codeAny_builtin FB.initEntry ?_⟩
  exact exc_init_tree (cls := .ref C) (t0 := t) (dv := dv) (c2 := .none) (c3 := .none) (b4 := .bool false) he hz fun h' k e' _ => fin h' k e'
open PySem.W in
theorem exI_run (x : ExI prog K C f fd sn pn fl) {A : Around} {s : Shared} {R : Result → Shared → Prop} {e t1 : Addr} {u : Value} {args : Args} {mg mb : Str → Option Value} (X : K.In s.heap) (lim : s.heap.NoLimit) (hroom : A.depth < recursionLimit)
    (hg : s.heap.Ns mainGlobals mg) (hmg : mg "super" = none) (hbn : s.heap.Ns builtinsNs mb) (hmb : mb "super" = some (.type "super")) (he : s.heap.get? e = some (excObj C t1 none .none)) (heK : K.lookup e = none) (hb : BindsTo s fd args [(sn, .ref e), (pn, u)])
    (h : ∀ h' tk' t2 dx, (∀ b o, b ≠ e → s.heap.get? b = some o → h'.get? b = some o) → s.heap.objs.size ≤ dx → dx ≠ e → h'.get? e = some (excObj C t2 (some dx) .none) → h'.Ns1 dx (fun y => if y = fl then some u else none) → R (.ok (.ret .none)) { s with heap := h', toks := tk' }) :
    codeAny (model prog w) A (.call (.ref f) args) R s := by
  obtain ⟨od, osl, lkf⟩ := x.fo
  obtain ⟨p0, p1, p2, p3, p4, p5, p6, p7, p8, p9, j, msg, hbody, hev⟩ := x.body
  obtain ⟨ar, har, harn⟩ := x.prm
  obtain ⟨cc, oc, hclo, lkc, hocd⟩ := x.clo
  obtain ⟨cd, ocd, vs, file, tt1, tt2, hcode, lkcd, hvs, hv1, hv2, hfile⟩ := x.code
  obtain ⟨nm, q, N, bs, bm, sl, sub, ab, col, dd, k0, k1, k2, k3, k5, hC, hbm⟩ := x.cls
  have hcl : clsIn K C = some { name := nm, bases := bs, mro := .ref C :: bm, ns := N, qualname := q, hasDict := true, slotNames := sl, subclasses := sub, abstract := ab, collection := col, hasDel := false } := by unfold clsIn; rw [hC] <;> rfl
  refine ks_codeAny_call_defAt hroom (X _ _ lkf) rfl lim ⟨cd, ocd, vs, tt1, hcode, X _ _ lkcd, hvs, hv1⟩ hbody hb x.nocell (fun y hy => ?_) (fun h0 hns hk => ?_) x.co x.gen x.kind
  · simp only [List.mem_cons, List.not_mem_nil, or_false] at hy
    rcases hy with rfl | rfl
    · exact x.ks
    · exact x.kp
  have hkd : ∀ y k, fd.scope.names.lookup y = some k → (callEnv fd s.heap.objs.size f).kindOf y = some k := fun y k hy => by
    first
    | exact hy
    | (simp only [PySem.Env.kindOf]; exact hy)
    | (unfold PySem.Env.kindOf; rw [if_pos x.kind]; exact hy)
  have hloc : ∀ y v, (match [(sn, Value.ref e), (pn, u)].reverse.lookup y with | some v' => v' = v | none => False) → ([(sn, Value.ref e), (pn, u)].reverse.lookup y) = some v := fun y v hy => by
    split at hy
    · rename_i e; rw [e, hy]
    · exact hy.elim
  have ls : ([(sn, Value.ref e), (pn, u)].reverse.lookup sn) = some (.ref e) := by
    have : (sn == pn) = false := by simpa using x.ne
    simp [List.lookup, this]
  have lp : ([(sn, Value.ref e), (pn, u)].reverse.lookup pn) = some u := by
    simp [List.lookup]
  obtain ⟨pl, hev⟩ := hev (callEnv fd s.heap.objs.size f)
  refine ks_wpAt_execs_cons (ks_wpAt_Expr_any (ks_wpAt_MethodCall ?_ hev) (by show (fd.scope.kind == .module && _) = false; rw [x.kind]; rfl))
  have X0 : K.In h0 := X.keeps hk
  refine ks_wpAt_super_base (ar := ar) (fd := fd) (hkd _ _ x.ksup) (hkd _ _ x.kcls) (by decide) rfl (hk _ _ (X _ _ lkf)) rfl har hcode (hk _ _ (X _ _ lkcd)) hvs hv2 hfile x.top ?_
  have hcc : h0.IsCell cc (some (.ref C)) := ⟨oc, hk _ _ (X _ _ lkc), hocd⟩
  have hns' : h0.Ns (callEnv fd s.heap.objs.size f).locals (fun y => [(sn, Value.ref e), (pn, u)].reverse.lookup y) := hns
  have gg : h0.Ns (callEnv fd s.heap.objs.size f).globals mg := by
    show h0.Ns fd.globals mg
    rw [x.gl]
    exact hg.keeps hk
  have gb : h0.Ns (callEnv fd s.heap.objs.size f).builtins mb := by
    show h0.Ns fd.builtins mb
    rw [x.bl]
    exact hbn.keeps hk
  refine name_glob x.kind (hkd _ _ x.ksup) (Calls.loadGlobal_builtin gg hmg gb hmb ⟨rfl, ?_⟩)
  refine wpAny_loadName_free x.kind (hkd _ _ x.kcls) hclo hcc ?_
  rw [harn]
  refine wpAny_loadName_local x.kind (hkd _ _ x.ks) hns' ls ?_
  have hC0 := X0 _ _ hC
  refine ks_wpAny_isType_cls hC0 rfl ⟨rfl, ?_⟩
  have he0 := hk _ _ he
  refine ks_wpAny_call_super hC0 rfl he0 rfl (fun c hc => by cases hc) (looks_subIn X0 x.subC) fun h1 hso hk1 => ?_
  have X1 : K.In h1 := X0.keeps hk1
  have he1 := hk1 _ _ he0
  have I1 : InstAt h1 e (excObj C t1 none .none) C none := ⟨he1, rfl, rfl, trivial⟩
  have hm := x.ini
  unfold ks_superIn at hm
  rw [hcl] at hm
  refine kxs_getMethod kxs_ValueError hso (looks_opaque X1 x.nt) (l₀ := .ref C :: bm) (fun A Q E s k q => wpAny_bind ((looks_clsIn X1 hcl) A _ E s k (wpAny_pure q))) rfl X1 hm (I1.type.andThen (looks_subIn X1 x.subV)) (ks_ne X1 I1 hcl) (by decide) ?_
  dsimp only
  refine kxs_callWith (i := "ValueError.__init__") (x := e) rfl (evalArgs_plain ?_)
  show wpAny _ _ (spliced ((false, eval (.Constant (.str msg) j p3) (callEnv fd s.heap.objs.size f)) :: backTo p4 (starEach [] (callEnv fd s.heap.objs.size f)))) _ _ _
  refine Calls.spliced_cons (Calls.Constant_str ?_)
  refine Calls.spliced_nil ?_
  have hk3 : ∀ b o, h1.get? b = some o → (h1.push (kxs_mw "ValueError.__init__" e)).get? b = some o := fun b o z => Heap.get?_push_of_some _ z
  have hu3 : (h1.push (kxs_mw "ValueError.__init__" e)).get? h1.objs.size = some (kxs_mw "ValueError.__init__" e) := Heap.get?_push_at rfl rfl
  refine ⟨hu3, ?_⟩
  dsimp only
  refine mw_call (hk3 _ _ (X1 _ _ hC)) hu3 (hk3 _ _ he1) (by show 1 ≤ sizeLine; decide) fun h4 hk4 he4 => ?_
  have hup0 : ∀ b o, b ≠ e → h0.get? b = some o → h4.get? b = some o := fun b o hbe z => hk4 b o hbe (hk3 _ _ (hk1 _ _ z))
  have hup : ∀ b o, b ≠ e → s.heap.get? b = some o → h4.get? b = some o := fun b o hbe z => hup0 b o hbe (hk _ _ z)
  have hes : e < s.heap.objs.size := Heap.lt_size he
  have X4 : K.In h4 := fun b o z => hup b o (fun y => by
    rw [y, heK] at z
    cases z) (X _ _ z)
  have hns4 : h4.Ns (callEnv fd s.heap.objs.size f).locals (fun y => [(sn, Value.ref e), (pn, u)].reverse.lookup y) := by
    refine Heap.Ns.at hns' fun o z => hup0 _ o (fun y => ?_) z
    exact Nat.ne_of_gt hes y
  show PySem.wpAt _ _ _ (execs [Stmt.Assign [(Expr.Name sn p6).Attribute fl p7] (Expr.Name pn p8) p9] (callEnv fd s.heap.objs.size f)) _ _ _
  refine ks_wpAt_execs_cons (ks_wpAt_Assign_Attr (wpAt_of_wpAny (wpAny_Name (wpAny_loadName_local x.kind (hkd _ _ x.kp) hns4 lp (wpAny_Name (wpAny_loadName_local x.kind (hkd _ _ x.ks) hns4 ls ?_) x.sdb)) x.pdb)))
  refine set_plain X4 (ox := excObj C _ none .none) (od := none) ⟨he4, rfl, rfl, trivial⟩ x.sa ?_
  refine PySem.HandSPX.exc_osa X4 he4 hcl (show PySem.HandSPX.refsVE (.ref C :: bm) = true from hbm) rfl x.nf (fun h5 tk' dx hk5 hdx hde hx5 hn5 => ?_)
  have hsz : s.heap.objs.size ≤ h4.objs.size := by
    have h6 : s.heap.objs.size < h4.objs.size := by
      obtain ⟨o, _, _, z, _⟩ := hns4
      exact Heap.lt_size z
    exact Nat.le_of_lt h6
  show PySem.wpAt _ _ _ (execs [] (callEnv fd s.heap.objs.size f)) _ _ _
  refine wpAt_of_wpAny ?_
  rw [execs_nil]
  refine wpAny_pure ?_
  exact h h5 _ _ dx (fun b o hbe z => hk5 b o hbe (hup b o hbe z)) (Nat.le_trans hsz hdx) hde hx5 hn5
end
end TL

set_option maxHeartbeats 4000000
namespace TL
open PySem PySem.Spec PyProof.Rows L2
/-- an own exception made with one value -/
def spI (C : Addr) (fl : Str) : Sp := fun vs H Q _ => ∃ a y, vs = [V.ref a, y] ∧ H a = some (exo a C none) ∧ ∀ d, H d = none → d ≠ a → Q .non (upd (upd H d (exd d [(fl, y)])) a (exo a C (some d)))
def cx0 : CXT := fun _ _ _ _ _ _ => False
theorem exi_fn {prog : Program} {w : World} {K : PySem.W.Frag} {mg : Str → Option Value} {base : Heap} {C f : Addr} {fd : FuncData} {sn pn fl : Str} {k : Nat} (x : ExI prog K C f fd sn pn fl) (hm : mg "super" = none) : FnOk prog w K mg base cx0 (k + 1) f fd [sn, pn] (spI C fl) where
  len := fun vs H Q E ⟨a, y, e, _⟩ => by rw [e]; rfl
  run := fun A outer s H args us vs Q E hr e0 hb r hs => by
    obtain ⟨a, y, rfl, ha, hq⟩ := hs
    obtain ⟨u1, r1, rfl, ru1, rr⟩ : ∃ u1 r1, us = u1 :: r1 ∧ RelV (V.ref a) u1 ∧ Vals [y] r1 := by
      cases r with
      | cons x y => exact ⟨_, _, rfl, x, y⟩
    obtain ⟨u, r2, rfl, ru, rr2⟩ : ∃ u r2, r1 = u :: r2 ∧ RelV y u ∧ Vals [] r2 := by
      cases rr with
      | cons x y => exact ⟨_, _, rfl, x, y⟩
    cases rr2
    have eu1 : u1 = .ref a := by cases ru1; rfl
    subst eu1
    have KX : K.In s.heap := e0.mod.kin.keeps fun b o e => (e0.bs b o e).1
    have lim : s.heap.NoLimit := e0.mod.nolimit.keeps fun b o e => (e0.bs b o e).1
    have keepB : ∀ b o, base.get? b = some o → s.heap.get? b = some o := fun b o e => (e0.bs b o e).1
    obtain ⟨mb, hbn, hbv⟩ := e0.mod.blt
    obtain ⟨t1, hoa⟩ := exo_at e0.hok ha
    have heK : K.lookup a = none := by
      cases q : K.lookup a with
      | none => rfl
      | some o =>
        have := (e0.bs _ _ (e0.mod.kin _ _ q)).2
        rw [ha] at this
        cases this
    have hsup : mb "super" = some (.type "super") := (hbv "super" (by decide)).trans (by first | rfl | kernel_rfl)
    refine exI_run x KX lim hr.depth (e0.mod.glob.keeps keepB) hm (hbn.keeps keepB) hsup hoa heK hb fun h' tk' t2 dx k dn dne hx hn => ?_
    have hnd : H dx = none := e0.hok.fresh dn
    have nd : ∀ {b : Addr} {o : Obj}, s.heap.get? b = some o → b ≠ dx := fun {b o} q => Nat.ne_of_lt (Nat.lt_of_lt_of_le (Heap.lt_size q) dn)
    have na : ∀ {b : Addr}, H b = none → b ≠ a := fun {b} n z => by
      rw [z, ha] at n
      cases n
    have un : Un (frs outer) [] H (upd (upd H dx (exd dx [(fl, y)])) a (exo a C (some dx))) s.heap h' := {
      keep := fun b o q n _ _ => k b o (na n) q
      slot := fun b o q n _ _ => ⟨o.slots, k b o (na n) q⟩
      free := fun b o q n _ => by rw [upd_ne (na n), upd_ne (nd q)]; exact n
      there := fun b o q _ => by
        by_cases hb : b = a
        · exact ⟨_, by rw [hb]; exact hx⟩
        · exact ⟨o, k b o hb q⟩
      tups := fun b xs q => by rw [upd_ne (at_ne ha q exo_tup), upd_ne (ne_of_none q hnd)]; exact q
      frzs := fun b o v q => by rw [upd_ne (at_ne ha q exo_frz), upd_ne (ne_of_none q hnd)]; exact q
      tbls := fun b ps q => ⟨#[], by rw [upd_ne (at_ne ha q exo_tbl), upd_ne (ne_of_none q hnd), q]; simp⟩ }
    refine ⟨.non, _, rfl, e0.bare, un, fun b o q => ?_, rfl, hq dx hnd dne⟩
    by_cases hb : b = a
    · subst hb
      rw [upd_same] at q
      cases q
      exact exo_ok hx
    · rw [upd_ne hb] at q
      by_cases hd : b = dx
      · subst hd
        rw [upd_same] at q
        cases q
        exact exd_ok hn (relO_put (fs := []) ru fun g => True.intro)
      · rw [upd_ne hd] at q
        exact (e0.hok b o q).stay (fun c v hc z => k c v (by
            rcases hc with hc | hc
            · rw [hc]
              exact hb
            · exact at_ne ha hc exo_own) z)
          (fun c hc => by rw [upd_ne (at_ne ha hc exo_own), upd_ne (ne_of_none hc hnd)]; exact hc) (fun c xs hc => by rw [upd_ne (at_ne ha hc exo_tup), upd_ne (ne_of_none hc hnd)]; exact hc)
/-- what is asked of the name -/
structure CalI (X : Cx) (R : RC) (x fl : Str) : Prop where
  ok : ∃ C f fd sn pn, R.cls x = some C ∧ ExI X.prog X.K C f fd sn pn fl ∧ OexC X.K C ∧ PySem.W.findIn X.K (.ref C) "__init__" = some (some (.ref f)) ∧ PySem.W.typeIn X.K (.ref f) = some (.type "function") ∧ Binds X.K fd [sn, pn] [] ∧ X.mg x = some (.ref C) ∧ X.mg "super" = none
/-- raise c(value) -/
def mRaiseI (c fl : Str) (fa : Env → M T) : Sm := fun ρ => eM (fa ρ) fun t => eM (keepT 0 t) fun y μ => some (.ex ⟨c, [(fl, y)]⟩, μ)
section
variable {X : Cx} {R : RC} {W : WX} {x fl : Str} {e : Expr} {fa : Env → M T} {p p3 pos : Pos}
theorem js_raiseI (c : CalI X R x fl) (hc : X.calm = true) (tk : Takes X W) (hr : Room 2 X.A) (he : JE X R W e fa) (hg : Gl X x) (hst : starEach [e] X.env = (false, eval e X.env) :: starEach [] X.env) (hdb : (x == ("__debug__" : Str)) = false := by decide) :
    JS X R W (.Raise (some (.Call (.Name x p) [e] [] p3)) none pos) (mRaiseI x fl fa) := by
  obtain ⟨C, f, fd, sn, pn, hC, xi, T, iC, tI, hb, hm, hs⟩ := c.ok
  have F1 := exi_fn (w := X.w) (base := X.base) (k := 0) xi hs
  refine (ps_raise hc tk (pmk_oex (CX := cx0) (k := 1) (dvs := []) (ds := []) T iC tI F1 hr hb .nil (fun _ _ _ _ _ _ _ h => h.elim) hg hm (pa_cons he pa_nil hst) hdb hst (by rfl))).imp fun D σ H ⟨x0, S, ρ, μ, e, k⟩ => ?_
  refine ⟨x0, S, ρ, μ, e, (PostS.bind e k).imp fun v H1 ⟨t, μ1, g1, e1, r1, k1⟩ => ?_⟩
  obtain ⟨t', μ2, g2, e2, r2, k2⟩ := PostS.keep e1 r1 k1
  refine ⟨by show 1 ≤ 1000; decide, fun a hn => ⟨a, v, rfl, upd_same, fun d hd da => ⟨rfl, d, [(fl, v)], upd_same, by rw [upd_ne da, upd_same], by rw [upd_ne da] at hd; exact hd, ?_⟩⟩⟩
  have hd1 : H1 d = none := by rw [upd_ne da] at hd; exact hd
  have eH : upd (L2.del (upd (upd (upd H1 a (exo a C none)) d (exd d [(fl, v)])) a (exo a C (some d))) a) d (.xd [(fl, v)]) = upd H1 d (.xd [(fl, v)]) := by
    funext b
    by_cases hb : b = d
    · subst hb
      rw [upd_same, upd_same]
    · rw [upd_ne hb, upd_ne hb]
      by_cases ha : b = a
      · subst ha
        rw [L2.del_same, hn]
      · rw [L2.del_ne ha, upd_ne ha, upd_ne hb, upd_ne ha]
  show W (.ref C) (some d) σ (upd (L2.del _ a) d (.xd [(fl, v)]))
  rw [eH]
  have gr : Grow H1 (upd H1 d (.xd [(fl, v)])) := Grow.new hd1
  exact k2 S (.ref C) (some d) σ _ (Go.grow gr) (e2.so.grow gr) ⟨C, rfl, hC, .inr ⟨d, [(fl, v)], rfl, upd_same, ⟨v, [], rfl, Rep.mono (Mono.grow gr e2.so.live) _ _ r2, rfl⟩⟩⟩
end
end TL

set_option maxHeartbeats 4000000
namespace TL
open PySem PySem.Spec PyProof.Rows L2

/-! # try: what() / except C as e: return e.f / return '..' -/
def mPartC (c fl dflt : Str) (fb : Env → M T) : Env → M T := fun ρ μ => match fb ρ μ with
  | none => none
  | some (.ok _, μ') => some (.ok (.str dflt), μ')
  | some (.ex x, μ') => if x.cls = c then (match x.fs.lookup fl with
    | some t => some (.ok t, μ')
    | none => none) else none
theorem repF_lookup {R : RC} {ex : Addr → Prop} {H : Hp} {f : Str} {t : T} : ∀ {fs : List (Str × T)} {vs : List (Str × V)}, RepF R ex H fs vs → fs.lookup f = some t → ∃ v, vs.lookup f = some v ∧ Rep R ex H t v
  | [], _, _, h => by cases h
  | (g, u) :: fs, _, h, hl => by
    obtain ⟨x, r, rfl, h1, h2⟩ := h
    simp only [List.lookup] at hl ⊢
    split at hl
    · cases hl
      rename_i e
      exact ⟨x, rfl, h1⟩
    · exact repF_lookup h2 hl
structure PartOk (X : Cx) (R : RC) (x a : Str) (sT : Stmt) (c fl dflt : Str) : Prop where
  fn : ∃ g fd, X.mg x = some (.ref g) ∧ Fun X.K x x sT g fd ∧ L2.Binds X.K fd [a] []
  sc : ∃ (Ng : List Str) (i : Nat) (n : Str), FnScope Ng [a] (defScope sT) ∧ Ng[0]? = some a ∧ Ng[i]? = some n ∧ (defScope sT).names.lookup n = some .local ∧ (n == ("__debug__" : Str)) = false ∧ (n == ("__classdict__" : Str)) = false ∧
    ∃ p1 p2 p3 p4 p5 p6 p7 p8 p9 p10 p11 j, defBody sT = [.Try [.Expr (.Call (.Name a p1) [] [] p2) p3] [.ExceptHandler (some (.Name c p4)) (some n) [.Return (some (.Attribute (.Name n p5) fl p6)) p7] p9] [] [] p8, .Return (some (.Constant (.str dflt) j p10)) p11]
  vis : Vis (defScope sT) a
  ad : (a == ("__debug__" : Str)) = false
  ac : (a == ("__classdict__" : Str)) = false
  cls : ∃ C, R.cls c = some C ∧ X.mg c = some (.ref C) ∧ (defScope sT).names.lookup c = some .globalImplicit ∧ (c == ("__debug__" : Str)) = false ∧ PySem.W.exmOne X.K (.ref C) (.ref C) = some true ∧ XfC X.K C ∧ PySem.W.findIn X.K (.ref C) fl = some none
theorem takes_len {X : Cx} {W : WX} (tk : Takes X W) : Takes X (fun c d σ H => σ.length = X.N.length → W c d σ H) := fun u s' ⟨a, B, sI, pins, σ, H, cls, d, e, I, nb, up, sky, na, os, ag, w⟩ =>
  tk u s' ⟨a, B, sI, pins, σ, H, cls, d, e, I, nb, up, sky, na, os, ag, w I.len⟩
section
variable {X : Cx} {R : RC} {W : WX}
theorem j_part {x a c0 fl dflt : Str} {sT : Stmt} {ls : List (Addr × Str)} {c P : Addr} {k : Nat} {params : Arguments} {body : Expr} {scope : Scope} {fb : Env → M T} {p lpos pos : Pos} (O : PartOk X R x a sT c0 fl dflt) (hg : Gl X x)
    (hTab : ∀ H, R.Tab H → LamX.Tabs ls H) (hTab' : ∀ H H1, R.Tab H → LamK ls P H H1 → R.Tab H1) (TB : LamX.TabB X.base X.mg c P) (hcode : X.env.code = .ref c) (hm : (P, X.env.qual ++ "<lambda>") ∈ ls) (hu : ∀ p ∈ ls, p.1 = P → p.2 = X.env.qual ++ "<lambda>") (hr : Room (k + 2) X.A) (L : LamX.LamS X.env.scope scope)
    (hfb : ∀ (A : Around) (outer : List PySem.Env) (s : Shared) (H : Hp) (E : XK) (f c' : Addr), Room k (A.deeper (LamX.lamEnv X scope s.heap.objs.size f c')) → JE (LamX.lamCx X A outer s H E scope f c') R (fun cls d _ H' => E cls d H') body fb)
    (hdef : defaultsOf params X.env = ([], []) := by rfl) (hbind : ∀ (q : Str) (cl : List (Str × Addr)) (pm cv ctv : Value), bindArgs (PySem.W.kla_fn "<lambda>" q params body scope cl pm cv ctv) ⟨[], []⟩ = pure [] := by intros; rfl) (hdb : (x == ("__debug__" : Str)) = false := by decide) :
    JE X R W (.Call (.Name x p) [.Lambda params body scope lpos] [] pos) (mPartC c0 fl dflt fb) := by
  obtain ⟨g, fd, hmx, F, hb⟩ := O.fn
  obtain ⟨oc, od, kV, doc, pm0, an, cdv, ct, osl, rfl, lk, hcg⟩ := F.ex
  obtain ⟨Ng, i, n, Sg, hNg, hNi, hnl, hnd, hnc, p1, p2, p3, p4, p5, p6, p7, p8, p9, p10, p11, j, eb⟩ := O.sc
  obtain ⟨C, hC, hCm, hCg, hCd, hex, xf, hno⟩ := O.cls
  refine ⟨fun pins s σ H Q I h => ?_⟩
  obtain ⟨x0, S, ρ, μ, e, km⟩ := h
  refine wpAny_Call_Name_kw (ld_glob I hg hmx ?_ hdb)
  refine PySem.W.callWith_K (h₀ := X.base) I.ok.mod.kin F.kp ?_ (by rfl) (by rfl)
  show wpAny _ _ (spliced ((false, eval (.Lambda params body scope lpos) X.env) :: backTo pos (starEach [] X.env))) _ _ s
  refine Calls.spliced_cons (lam_mk I TB hcode rfl hm hu (hTab H e.so.tab) hdef (L.has I.ok) fun f c' pm ctv H1 s' I1 lk1 hf hfn hfr hco => ?_)
  refine Calls.spliced_nil ⟨I1.kIn, ?_⟩
  have kp : Keeps H H1 := ⟨fun b o hb ht => lk1.keep b o hb (fun z => by
      obtain ⟨ps, eP, _⟩ := hTab H e.so.tab _ hm
      rw [z, eP] at hb
      cases hb
      exact ht ps rfl), fun b hb => by
      by_cases z : b = P
      · subst z; exact lk1.at_
      · cases q : H b with
        | none => exact absurd q hb
        | some o => rw [lk1.keep b o q z]; simp⟩
  have G : Go S μ H S μ H1 := kp.go
  have e1 : EnvOk R x0 S ρ μ σ H1 := e.go G (e.so.keeps kp (hTab' _ _ e.so.tab lk1))
  have km1 := Post.shift G e.so.len km
  have rc : codeAny (model X.prog X.w) X.A (.call (.ref g) ⟨[.ref f], []⟩) (CR C8.CX0 X.stack X.prog X.w H1 s' Q C8.E0) s' := by
    refine LamX.run_ofS (N := Ng) (ps := [a]) (us := [.ref f]) (vs := [.ref f]) lk hcg Sg hr I1.env0 (hb s' [.ref f] I1.kIn rfl) (.cons rfl .nil) rfl fun hr' => ?_
    rw [eb]
    refine ⟨_, PSs.nox (pss_cons (ps_try_as (X := (cxOf C8.CX0 X.prog X.w X.K X.mg X.base Ng x (defScope sT) g cdv X.A X.stack s' H1 C8.E0).nox) (i := i) (c := .ref C) (Wout := fun _ _ _ _ => False)
      (ts := fun a' cls d => tRet (tXf a' cls d C fl (tVar i)))
      (tb := fun W' D σZ HZ => ∃ Ech : XK, (∀ cls d σ' H', Ech cls d H' → σ'.length = Ng.length → W' cls d σ' H') ∧ σZ[0]? = some (some (.ref f)) ∧ HZ c' = some (LamX.CodeO c' (X.env.qual ++ "<lambda>")) ∧ tEv R (fun cls d _ H' => Ech cls d H') fb σ HZ (fun _ H' => D.nx σZ H'))
      rfl rfl Sg.nd hNi hnl ⟨hCg, hCd, .inl hCm⟩ takes_none5 (fun W' pn xe tk _ => ?_) (fun a' oe cls d pn hz hf' => ?_)) (pss_one (ps_ret pe_str))), ?_⟩
    · refine ⟨fun pins' s2 σ' H' D I' h' => ?_⟩
      obtain ⟨Ech, hW, h1, h2, h3⟩ := h'
      have hp := LamX.pe_act (i := 0) (CXg := C8.CX0) (Eg := C8.E0) (p1 := p1) (p2 := p2) (tb := tEv R (fun cls d _ H' => Ech cls d H') fb) I1 L hf hfn hfr (hbind _ _ _ _ _) (takes_len tk) hW hr' (fun A outer s H hr2 => hfb A outer s H Ech f c' hr2) hNg O.vis O.ad O.ac
      exact (pss_one (ps_expr (pos := p3) hp)).run pins' s2 σ' H' D I' ⟨h1, h2, h3⟩
    · exact pss_one (ps_ret (pe_xf xf hno hz hf' (pe_var hNi (.inl hnl) hnd hnc)))
    · refine ⟨fun cls d H' => ∃ v dd fs, cls = .ref C ∧ d = some dd ∧ H' dd = some (.xd fs) ∧ fs.lookup fl = some v ∧ Q v H', fun cls d σ' H' hh hlen => ?_, ?_, hco, x0, S, ρ, μ, e1, ?_⟩
      · obtain ⟨v, dd, fs, rfl, rfl, h1, h2, h3⟩ := hh
        refine ⟨true, hex, fun _ a' ha' => ⟨.ref a', ?_, rfl, rfl, dd, fs, v, rfl, h1, h2, h3⟩, fun z => by cases z⟩
        have hi : i < σ'.length := by
          rw [hlen]
          exact (List.getElem?_eq_some_iff.mp hNi).1
        rw [List.getElem?_set_self hi]
      · show (L2.start Ng [V.ref f])[0]? = _
        rfl
      · unfold mPartC at km1
        match q : fb ρ μ with
        | none => rw [q] at km1; exact km1
        | some (.ok t, μ') =>
          rw [q] at km1
          intro v H' g' s'' r
          exact km1 (.str dflt) H' g' s'' (.inr rfl)
        | some (.ex xx, μ') =>
          rw [q] at km1
          intro cls d H' g' s'' r
          dsimp only at km1
          by_cases hc : xx.cls = c0
          · rw [if_pos hc] at km1
            cases ql : xx.fs.lookup fl with
            | none => rw [ql] at km1; exact (km1 : False).elim
            | some t =>
              rw [ql] at km1
              obtain ⟨C1, rfl, hC1, hfs⟩ := r
              rw [hc, hC] at hC1
              cases hC1
              rcases hfs with ⟨h1, _⟩ | ⟨dx, vs, rfl, h1, h2⟩
              · rw [h1] at ql; cases ql
              · obtain ⟨v, h3, h4⟩ := repF_lookup h2 ql
                exact ⟨v, dx, vs, rfl, rfl, h1, h3, km1 v H' g' s'' (.inr h4)⟩
          · rw [if_neg hc] at km1
            exact (km1 : False).elim
  refine wpAny_call (codeAny_mono rc fun r s2 hq => ?_)
  cases r with
  | error e => exact (show False from hq).elim
  | ok fl =>
    cases fl with
    | ret u => exact I1.after hq
    | next => exact False.elim hq
    | brk => exact False.elim hq
    | cont => exact False.elim hq
end
end TL

set_option maxHeartbeats 4000000
namespace TL
open PySem PySem.Spec PyProof.Rows L2

/-! # the facts, by looking -/
theorem sup_eq {o : Expr} {m msg : Str} {j : Nat} {p3 apos pos : Pos} {env : PySem.Env} (h4 : (apos.endLine == pos.line) = true) :
    ∃ pl : Sem Bool, eval (.Call (.Attribute o m apos) [.Constant (.str msg) j p3] [] pos) env = (do
      let ov ← attributeBase o m env (eval o env)
      standAt apos.atName
      let (f, first) ← holding [ov] (getMethod ov m pl)
      callWith pos f first (backTo pos (starEach [.Constant (.str msg) j p3] env)) []) := by
  refine ⟨do return (← importBound o env).getD true, ?_⟩
  have e0 : eval (.Call (.Attribute o m apos) [.Constant (.str msg) j p3] [] pos) env = (do
    let ov ← attributeBase o m env (eval o env)
    standAt apos.atName
    methodCall o m apos pos env ov 1 (backTo pos (starEach [.Constant (.str msg) j p3] env)) (backToKw pos (keywordEach [] env))) := by rfl
  rw [e0]
  have hform : methodCallForm 1 (backTo pos (starEach [.Constant (.str msg) j p3] env)) (backToKw pos (keywordEach [] env)) = true := by rfl
  unfold methodCall
  rw [hform]
  unfold calleeOf methodCallPos
  rw [h4]
  rfl
/-- its text -/
def supB (fl : Str) : FuncBody → Bool
  | .stmts [.Expr (.Call (.Attribute (.Call (.Name s _) [] [] _) i p2) [.Constant (.str _) _ _] [] p4) _, .Assign [.Attribute (.Name a _) f _] (.Name b _) _] => decide (s = "super") && decide (i = "__init__") && decide (a = "self") && decide (f = fl) && decide (b = fl) && (p2.endLine == p4.line)
  | _ => false
theorem supB_ok {fl : Str} {b : FuncBody} (h : supB fl b = true) : ∃ p0 p1 p2 p3 p4 p5 p6 p7 p8 p9 j msg, b = .stmts [.Expr (.Call (.Attribute (.Call (.Name "super" p0) [] [] p1) "__init__" p2) [.Constant (.str msg) j p3] [] p4) p5, .Assign [.Attribute (.Name "self" p6) fl p7] (.Name fl p8) p9] ∧ (p2.endLine == p4.line) = true := by
  unfold supB at h
  split at h
  · simp only [Bool.and_eq_true, decide_eq_true_eq] at h
    obtain ⟨⟨⟨⟨⟨rfl, rfl⟩, rfl⟩, rfl⟩, rfl⟩, h⟩ := h
    exact ⟨_, _, _, _, _, _, _, _, _, _, _, _, rfl, h⟩
  · cases h
def lookB (sc : Scope) (x : Str) (k : NameKind) : Bool := match sc.names.lookup x with
  | some k' => k' == k
  | none => false
/-- its function object -/
def sfdB (file : Str) (K : PySem.W.Frag) (C : Addr) (fl : Str) (fd : FuncData) : Bool :=
  supB fl fd.body && (match fd.params, fd.defaults with
    | ⟨[], [a, b], none, [], [], none, []⟩, .none => decide (a.arg = "self") && decide (b.arg = fl)
    | _, _ => false) && decide (fd.scope.kind = .function) && !fd.scope.isCoroutine && !fd.scope.isGenerator && (fd.scope.names.all fun y => !(y.2 == .cell)) &&
  lookB fd.scope "self" .local && lookB fd.scope fl .local && lookB fd.scope "super" .globalImplicit && lookB fd.scope "__class__" .free && !(("self" : Str) == fl) && !(fl == ("__debug__" : Str)) &&
  (match fd.closure.lookup ("__class__" : Str) with
    | some cc => (match K.lookup cc with
      | some ⟨_, _, .cell (some (.ref C')), _⟩ => C' == C
      | _ => false)
    | none => false) && (fd.globals == mainGlobals) && (fd.builtins == builtinsNs) &&
  (match fd.code with
    | .ref cd => (match K.lookup cd with
      | some ⟨_, _, .fields vs, _⟩ => (match (vs[1]? : Option Value), (vs[2]? : Option Value) with
        | some (Value.str q _), some (Value.str f _) => decide (q = fd.qualname) && (file == f)
        | _, _ => false)
      | _ => false)
    | _ => false)
/-- its class -/
def sclB (cd : ClassData) (sl : Array (Option Value)) (C : Addr) : Bool := match cd.mro, sl.toList with
  | .ref C' :: bm, [_, _, _, _, some (.builtin n), _] => C' == C && n == "ValueError.__new__" && !cd.hasDel && cd.hasDict && PySem.HandSPX.refsVE bm
  | _, _ => false
def eqO2 (a b : Option (Option Value)) : Bool := decide (a = b)
def exiB (file : Str) (K : PySem.W.Frag) (C : Addr) (fl : Str) : Bool := match PySem.W.findIn K (.ref C) "__init__" with
  | some (some (.ref f)) => (match K.lookup C, K.lookup f with
    | some ⟨.type tc, _, .cls cd, sl⟩, some ⟨.type tf, _, .func fd, _⟩ => decide (tc = "type") && decide (tf = "function") && sclB cd sl C && sfdB file K C fl fd &&
      (eqO2 (PySem.W.nsIn K cStatics "thirdparty.any") (some none) && (eqO2 (PySem.W.ks_superIn K C C "__init__") (some (some (.builtin "ValueError.__init__"))) && (eqO2 (PySem.W.findIn K (.ref C) "__setattr__") (some (some (.builtin "object.__setattr__"))) && (eqO2 (PySem.W.findIn K (.ref C) fl) (some none) &&
      (decide (PySem.W.subIn K (.ref C) (.ref C) = some true) && (decide (PySem.W.subIn K (.ref C) (.type "ValueError") = some true) && (decide (PySem.W.subIn K (.ref C) (.type "BaseException") = some true) && (decide (PySem.W.typeIn K (.ref C) = some (.type "type")) && (PySem.W.keepIn K (.ref C) &&
      (decide (PySem.W.typeIn K (.ref f) = some (.type "function")) && (decide (PySem.W.exmOne K (.ref C) (.ref C) = some true) && xfB K C)))))))))))
    | _, _ => false)
  | _ => false
structure ExOk (prog : Program) (K : PySem.W.Frag) (C : Addr) (fl : Str) : Prop where
  all : ∃ f fd, ExI prog K C f fd "self" fl fl ∧ PySem.W.findIn K (.ref C) "__init__" = some (some (.ref f)) ∧ PySem.W.typeIn K (.ref f) = some (.type "function") ∧ Binds K fd ["self", fl] []
  oex : OexC K C
  exm : PySem.W.exmOne K (.ref C) (.ref C) = some true
  xf : XfC K C
  nf : PySem.W.findIn K (.ref C) fl = some none
theorem bind_two {fd : FuncData} {a b : Arg} {x y : Str} (hp : fd.params = ⟨[], [a, b], none, [], [], none, []⟩) (hd : fd.defaults = .none) (ha : a.arg = x) (hb : b.arg = y) (hn : x ≠ y) {us : List Value} (hl : us.length = 2) : bindArgs fd ⟨us, []⟩ = pure ([x, y].zip us) := by
  obtain ⟨u, v, rfl⟩ : ∃ u v, us = [u, v] := by
    match us, hl with
    | [u, v], _ => exact ⟨u, v, rfl⟩
  unfold bindArgs
  have h0 : (seqItems? Value.none : Sem (Option (Array Value))) = pure none := rfl
  have e1 : (y == x) = false := by simpa using fun z : y = x => hn z.symm
  have e2 : (x == y) = false := by simpa using hn
  simp [hp, hd, h0, ha, hb, List.lookup, e1, e2]
theorem exiB_ok {prog : Program} {K : PySem.W.Frag} {C : Addr} {fl file : Str} (hf : prog.main.file = file) (ht : (prog.main.scope.names.lookup ("super" : Str)).isSome = false) (h : exiB file K C fl = true) : ExOk prog K C fl := by
  unfold exiB at h
  split at h
  · rename_i f hfi
    split at h
    · rename_i tc dd cd sl tf od fd osl hC hF
      simp only [Bool.and_eq_true, decide_eq_true_eq] at h
      obtain ⟨⟨⟨⟨rfl, rfl⟩, hs⟩, hfd⟩, k1, k2, k3, k4, k5, k6, k7, k8, k9, k10, k11, k12⟩ := h
      unfold sclB at hs
      split at hs
      · rename_i C' bm k0 k1' k2' k3' n k5' hm hsl0
        simp only [Bool.and_eq_true, beq_iff_eq, Bool.not_eq_true'] at hs
        obtain ⟨⟨⟨⟨rfl, rfl⟩, hdel⟩, hdic⟩, hve⟩ := hs
        obtain ⟨nm, bs, mro, ns, qn, hd, sn, sub, ab, col, del⟩ := cd
        dsimp only at hm hdel hdic
        subst hm hdel hdic
        have hsl : sl = #[k0, k1', k2', k3', some (.builtin "ValueError.__new__"), k5'] := by
          obtain ⟨l⟩ := sl
          simp only at hsl0
          rw [hsl0]
        subst hsl
        unfold sfdB at hfd
        simp only [Bool.and_eq_true, Bool.not_eq_true', List.all_eq_true, decide_eq_true_eq] at hfd
        obtain ⟨⟨⟨⟨⟨⟨⟨⟨⟨⟨⟨⟨⟨⟨⟨q1, q2⟩, q3⟩, q4⟩, q5⟩, q6⟩, q7⟩, q8⟩, q9⟩, q10⟩, q11⟩, q12⟩, q13⟩, q14⟩, q15⟩, q16⟩ := hfd
        have lk : ∀ {x : Str} {k : NameKind}, lookB fd.scope x k = true → fd.scope.names.lookup x = some k := fun {x k} hh => by
          unfold lookB at hh
          split at hh
          · rename_i k' e
            rw [e]
            cases k' <;> cases k <;> first | rfl | cases hh
          · cases hh
        obtain ⟨a, b, hpr, hdf, ha, hb⟩ : ∃ a b, fd.params = ⟨[], [a, b], none, [], [], none, []⟩ ∧ fd.defaults = .none ∧ a.arg = "self" ∧ b.arg = fl := by
          split at q2
          · rename_i a b e1 e2
            simp only [Bool.and_eq_true, decide_eq_true_eq] at q2
            exact ⟨a, b, e1, e2, q2.1, q2.2⟩
          · cases q2
        obtain ⟨p0, p1, p2, p3, p4, p5, p6, p7, p8, p9, j, msg, hbd, hln⟩ := supB_ok q1
        have hne : ("self" : Str) ≠ fl := by simpa using q11
        refine ⟨⟨f, fd, {
          fo := ⟨od, osl, hF⟩
          body := ⟨p0, p1, p2, p3, p4, p5, p6, p7, p8, p9, j, msg, hbd, fun env => sup_eq hln⟩
          prm := ⟨a, by rw [hpr]; rfl, ha⟩
          kind := q3
          co := q4
          gen := q5
          nocell := fun y hy z => by
            have := q6 y hy
            rw [z] at this
            cases this
          ks := lk q7
          kp := lk q8
          ksup := lk q9
          kcls := lk q10
          ne := hne
          sdb := by decide
          pdb := q12
          clo := by
            split at q13
            · rename_i cc e1
              split at q13
              · rename_i oc od' C'' osl' e2
                rw [beq_iff_eq] at q13
                subst q13
                exact ⟨cc, _, e1, e2, rfl⟩
              · cases q13
            · cases q13
          gl := by simpa using q14
          bl := by simpa using q15
          code := by
            split at q16
            · rename_i cd e1
              split at q16
              · rename_i oc od' vs osl' e2
                split at q16
                · rename_i q t1 f' t2 e3 e4
                  simp only [Bool.and_eq_true, decide_eq_true_eq] at q16
                  exact ⟨cd, _, vs, f', t1, t2, e1, e2, rfl, by rw [e3, q16.1], e4, by rw [hf]; exact q16.2⟩
                · cases q16
              · cases q16
            · cases q16
          top := ht
          cls := ⟨nm, qn, ns, bs, bm, sn, sub, ab, col, dd, k0, k1', k2', k3', k5', hC, hve⟩
          nt := of_decide_eq_true k1
          ini := of_decide_eq_true k2
          sa := of_decide_eq_true k3
          nf := of_decide_eq_true k4
          subC := k5
          subV := k6 }, hfi, k10, .all fun us hl => bind_two hpr hdf ha hb hne hl⟩, ⟨⟨nm, qn, ns, bs, bm, sn, sub, ab, col, dd, k0, k1', k2', k3', k5', hC, hve⟩, of_decide_eq_true k3, k7, k8, k9⟩, k11, xfB_ok k12, of_decide_eq_true k4⟩
      · cases hs
    · cases h
  · cases h
end TL

set_option maxHeartbeats 4000000
namespace TL
open PySem PySem.Spec PyProof.Rows L2

/-! # a reader of program text: what an expression means, by its own recursion -/
/-- a def's value -/
structure Dv where
  np : Nat
  P : Nat
  lev : Nat
  g : FM
inductive GK where
  | fn (d : Dv) | mk (d : Dv) | cst (t : T) | exc | told (l : List (Str × Str)) | exi (fl : Str) | part (c fl dflt : Str)
/-- what the module's names stand for; new, tk: choices by lines (any choice is sound) -/
structure GE where
  g : Str → Option GK
  free : Str → Bool
  meth : Str → List (Str × Dv)
  fld : Str → List Str
  new : Nat → Bool
  tk : Nat → Bool
  dk : Nat → Bool
  fz : Nat → Bool
/-- a block: its slots, its scope, the names whose cells are its own, the shared things, the room -/
structure SC where
  N : List Str
  sc : Scope
  fn : Str → Bool
  q : Nat
  k : Nat
  gen : Bool
  cls : Str
  lam : Bool

def stuckE : Env → M T := fun _ _ => none
def stuckT : Env → M Bool := fun _ _ => none
def stuckA : Env → M (List T) := fun _ _ => none
def stuckF : Env → M MO := fun _ _ => none

/-- what does not change within a program -/
structure Stat where
  prog : Program
  w : World
  K : PySem.W.Frag
  mg : Str → Option Value
  base : Heap
def Stat.of (X : Cx) : Stat := ⟨X.prog, X.w, X.K, X.mg, X.base⟩
def CalR (s : Stat) (R : RC) (k : Nat) (x : Str) (np P : Nat) (g : FM) : Prop := ∃ f fd ps, FnOk s.prog s.w s.K s.mg s.base (L2.CX s.prog s.w) k f fd ps (spT R np P g) ∧ s.mg x = some (.ref f) ∧ PySem.W.keepIn s.K (.ref f) = true ∧ Binds s.K fd ps []
def CalCR (s : Stat) (R : RC) (k : Nat) (x : Str) (np : Nat) (g : FM) : Prop := ∃ C f fd ps, R.cls x = some C ∧ Mk s.K C f ∧ FnOk s.prog s.w s.K s.mg s.base (L2.CX s.prog s.w) k f fd ps (spT R np 1 g) ∧ s.mg x = some (.ref C) ∧ Binds s.K fd ps []
def CalMR (s : Stat) (R : RC) (k : Nat) (c m : Str) (np P : Nat) (g : FM) : Prop := ∀ C, R.cls c = some C → Cls s.K C ∧ ∃ f fd ps, Meth s.K C m f ∧ FnOk s.prog s.w s.K s.mg s.base (L2.CX s.prog s.w) k f fd ps (spT R np P g) ∧ Binds s.K fd ps []
def CalXR (s : Stat) (R : RC) (x : Str) : Prop := ∃ C, R.cls x = some C ∧ PySem.W.excIn s.K C [.type "ValueError", .type "Exception", .type "BaseException", .type "object"] "ValueError.__new__" = true ∧ s.mg x = some (.ref C) ∧ PySem.W.keepIn s.K (.ref C) = true ∧
  ∀ (M : Model) (h : Heap), s.K.In h → PySem.W.Looks M h (isSubtype (.ref C) (.type "BaseException")) true ∧ PySem.W.Looks M h (typeOf (.ref C)) (.type "type")
def CalIR (s : Stat) (R : RC) (x fl : Str) : Prop := ∃ C f fd sn pn, R.cls x = some C ∧ ExI s.prog s.K C f fd sn pn fl ∧ OexC s.K C ∧ PySem.W.findIn s.K (.ref C) "__init__" = some (some (.ref f)) ∧ PySem.W.typeIn s.K (.ref f) = some (.type "function") ∧ Binds s.K fd [sn, pn] [] ∧ s.mg x = some (.ref C) ∧ s.mg "super" = none
structure GOk (G : GE) (R : RC) (s : Stat) : Prop where
  K : s.K = R.K
  fn : ∀ x d, G.g x = some (.fn d) → CalR s R d.lev x d.np d.P d.g
  mkC : ∀ x d, G.g x = some (.mk d) → CalCR s R d.lev x d.np d.g
  cst : ∀ x t, G.g x = some (.cst t) → GTree R (s.mg x) t
  exc : ∀ x, G.g x = some .exc → CalXR s R x
  free : ∀ x, G.free x = true → s.mg x = none
  meth : ∀ m p, p ∈ G.meth m → CalMR s R p.2.lev p.1 m p.2.np p.2.P p.2.g
  fld : ∀ f, FldOk R f (G.fld f)
  exi : ∀ x fl, G.g x = some (.exi fl) → CalIR s R x fl
  part : ∀ x c fl dflt, G.g x = some (.part c fl dflt) → ∃ a sT, ∀ X : Cx, Stat.of X = s → PartOk X R x a sT c fl dflt
  told : ∀ x l, G.g x = some (.told l) → ∃ a sT, ∀ X : Cx, Stat.of X = s → ToldOk X R x a sT l
/-- a block that makes lambdas: its code object's table -/
structure LamOk (R : RC) (X : Cx) (cc P : Addr) (ls : List (Addr × Str)) : Prop where
  code : X.env.code = .ref cc
  tb : LamX.TabB X.base X.mg cc P
  mem : (P, X.env.qual ++ "<lambda>") ∈ ls
  uq : ∀ p ∈ ls, p.1 = P → p.2 = X.env.qual ++ "<lambda>"
  tab : ∀ H, R.Tab H → LamX.Tabs ls H
  tab2 : ∀ H H1, R.Tab H → LamK ls P H H1 → R.Tab H1
structure XOk (G : GE) (R : RC) (c : SC) (W : WX) (X : Cx) : Prop where
  g : GOk G R (Stat.of X)
  N : X.N = c.N
  nd : c.N.Nodup
  sc : X.env.scope = c.sc
  kind : c.sc.kind = .function
  calm : X.calm = true
  room : Room c.k X.A
  po : PassesOwn (model X.prog X.w) X.A X.env X.xe
  tk : Takes X W
  fn : ∀ x, c.fn x = true → X.fn x = true
  code : c.gen = true → ∃ cc P, X.env.code = .ref cc ∧ GxR.TabB X.base X.mg cc P ∧ TabsOk R P
  lam : c.lam = true → ∃ cc P ls, LamOk R X cc P ls
section
variable {G : GE} {c : SC} {X : Cx} {R : RC} {W : WX}
theorem XOk.K (h : XOk G R c W X) : X.K = R.K := h.g.K
theorem XOk.gfn (h : XOk G R c W X) {x : Str} {d : Dv} (q : G.g x = some (.fn d)) : Cal X R d.lev x d.np d.P d.g := h.g.fn x d q
theorem XOk.gmk (h : XOk G R c W X) {x : Str} {d : Dv} (q : G.g x = some (.mk d)) : CalC X R d.lev x d.np d.g := h.g.mkC x d q
theorem XOk.gcst (h : XOk G R c W X) {x : Str} {t : T} (q : G.g x = some (.cst t)) : GTree R (X.mg x) t := h.g.cst x t q
theorem XOk.gexc (h : XOk G R c W X) {x : Str} (q : G.g x = some .exc) : CalX X R x := ⟨h.g.exc x q⟩
theorem XOk.gexi (h : XOk G R c W X) {x fl : Str} (q : G.g x = some (.exi fl)) : CalI X R x fl := ⟨h.g.exi x fl q⟩
theorem XOk.gfree (h : XOk G R c W X) {x : Str} (q : G.free x = true) : X.mg x = none := h.g.free x q
theorem XOk.gmeth (h : XOk G R c W X) {m : Str} {p : Str × Dv} (q : p ∈ G.meth m) : CalM X R p.2.lev p.1 m p.2.np p.2.P p.2.g := ⟨h.g.meth m p q⟩
end

section
variable {G : GE} {c : SC} {X : Cx} {R : RC} {W : WX} {e a b : Expr} {es : List Expr} {pos : Pos}
theorem je_stuck : JE X R W e stuckE := ⟨fun _ _ _ _ _ _ ⟨_, _, _, _, _, k⟩ => k.elim⟩
theorem jt_stuck : JT X R W e stuckT := ⟨fun _ _ _ _ _ _ ⟨_, _, _, _, _, k⟩ => k.elim⟩
theorem jw_stuck : JW X R W e stuckT := ⟨fun _ _ _ _ _ _ _ ⟨_, _, _, _, _, k⟩ => k.elim⟩
theorem ja_stuck : JA X R W es stuckA := ⟨fun _ _ _ _ _ _ _ ⟨_, _, _, _, _, k⟩ => k.elim⟩
theorem ji_stuck : JI X R W a e stuckA := ⟨fun _ _ _ _ _ _ ⟨_, _, _, _, _, k⟩ => k.elim⟩
theorem jf_stuck : JF X R W e stuckF := ⟨fun _ _ _ _ _ _ ⟨_, _, _, _, _, k⟩ => k.elim⟩
/-- by cases on what is met -/
def mCase {α : Type} (cond : Env → Mu → Bool) (f g : Env → M α) : Env → M α := fun ρ μ => if cond ρ μ = true then f ρ μ else g ρ μ
theorem je_case {cond : Env → Mu → Bool} {f g : Env → M T} (h1 : JE X R W e f) (h2 : JE X R W e g) : JE X R W e (mCase cond f g) := ⟨fun pins s σ H Q I ⟨x0, S, ρ, μ, o, k⟩ => by
  unfold mCase at k
  by_cases h : cond ρ μ = true
  · rw [if_pos h] at k
    exact h1.run pins s σ H Q I ⟨x0, S, ρ, μ, o, k⟩
  · rw [if_neg h] at k
    exact h2.run pins s σ H Q I ⟨x0, S, ρ, μ, o, k⟩⟩
theorem js_case {st : Stmt} {cond : Env → Mu → Bool} {f g : Sm} (h1 : JS X R W st f) (h2 : JS X R W st g) : JS X R W st (fun ρ μ => if cond ρ μ = true then f ρ μ else g ρ μ) := ⟨fun pins s σ H Q I ⟨x0, S, ρ, μ, o, k⟩ => by
  by_cases h : cond ρ μ = true
  · simp only [if_pos h] at k
    exact h1.run pins s σ H Q I ⟨x0, S, ρ, μ, o, k⟩
  · simp only [if_neg h] at k
    exact h2.run pins s σ H Q I ⟨x0, S, ρ, μ, o, k⟩⟩
/-- two meanings alike -/
theorem je_eq {f g : Env → M T} (h : JE X R W e f) (q : ∀ ρ μ, f ρ μ = g ρ μ) : JE X R W e g := by
  have : f = g := by funext ρ μ; exact q ρ μ
  rw [← this]
  exact h
theorem js_eq {st : Stmt} {f g : Sm} (h : JS X R W st f) (q : ∀ ρ μ, f ρ μ = g ρ μ) : JS X R W st g := by
  have : f = g := by funext ρ μ; exact q ρ μ
  rw [← this]
  exact h
end

/-! ### names -/
def slotAt (x : Str) : List Str → Option Nat
  | [] => none
  | y :: r => if y = x then some 0 else (slotAt x r).map (· + 1)
theorem slotAt_ok {x : Str} : ∀ {N : List Str} {i : Nat}, slotAt x N = some i → N[i]? = some x
  | [], _, h => by cases h
  | y :: r, i, h => by
    unfold slotAt at h
    by_cases e : y = x
    · rw [if_pos e] at h
      cases h
      subst e
      rfl
    · rw [if_neg e] at h
      cases q : slotAt x r with
      | none => rw [q] at h; cases h
      | some j =>
        rw [q] at h
        cases h
        show (y :: r)[j + 1]? = some x
        rw [List.getElem?_cons_succ]
        exact slotAt_ok q
def visB (sc : Scope) (x : Str) : Bool := match sc.names.lookup x with
  | some .local => true
  | some .cell => true
  | some .free => true
  | _ => false
theorem visB_ok {sc : Scope} {x : Str} (h : visB sc x = true) : Vis sc x := by
  unfold visB at h
  split at h
  · exact .inl (by assumption)
  · exact .inr (.inl (by assumption))
  · exact .inr (.inr (by assumption))
  · cases h
def locB (sc : Scope) (x : Str) : Bool := match sc.names.lookup x with
  | some .local => true
  | some .cell => true
  | _ => false
theorem locB_ok {sc : Scope} {x : Str} (h : locB sc x = true) : Loc sc x := by
  unfold locB at h
  split at h
  · exact .inl (by assumption)
  · exact .inr (by assumption)
  · cases h
def isLocal (sc : Scope) (x : Str) : Bool := match sc.names.lookup x with
  | some .local => true
  | _ => false
theorem isLocal_ok {sc : Scope} {x : Str} (h : isLocal sc x = true) : sc.names.lookup x = some .local := by
  unfold isLocal at h
  split at h
  · assumption
  · cases h
def plainName (x : Str) : Bool := !(x == ("__debug__" : Str)) && !(x == ("__classdict__" : Str))
def glB (c : SC) (x : Str) : Bool := match c.sc.names.lookup x with
  | some .globalImplicit => !(x == ("__debug__" : Str))
  | _ => false
section
variable {G : GE} {c : SC} {X : Cx} {R : RC} {W : WX} {e a b : Expr} {es : List Expr} {pos : Pos} {x : Str}
theorem gl_of (h : XOk G R c W X) (g : glB c x = true) : Gl X x ∧ (x == ("__debug__" : Str)) = false := by
  unfold glB at g
  split at g
  · rename_i q
    refine ⟨?_, by simpa using g⟩
    show X.env.scope.names.lookup x = _
    rw [h.sc]
    exact q
  · cases g
def nameE (G : GE) (c : SC) (x : Str) : Env → M T := match slotAt x c.N with
  | some i => if visB c.sc x = true ∧ plainName x = true then mVar i else stuckE
  | none => if glB c x = true then match G.g x with
    | some (.cst t) => mCst t
    | _ => stuckE
    else stuckE
theorem nameE_ok (h : XOk G R c W X) : JE X R W (.Name x pos) (nameE G c x) := by
  unfold nameE
  split
  · rename_i i hi
    split
    · rename_i hv
      have hp := hv.2
      simp only [plainName, Bool.and_eq_true, Bool.not_eq_true'] at hp
      exact j_var (pe_var (by rw [h.N]; exact slotAt_ok hi) (by rw [h.sc]; exact visB_ok hv.1) hp.1 hp.2)
    · exact je_stuck
  · split
    · rename_i hg
      split
      · rename_i t ht
        obtain ⟨g1, g2⟩ := gl_of h hg
        exact j_glob g1 (h.gcst ht) g2
      · exact je_stuck
    · exact je_stuck
def cstE : Const → Env → M T
  | .int i => mCst (.int i)
  | .str s => mCst (.str s)
  | .bool b => mCst (.bl b)
  | .none => mCst .non
  | _ => stuckE
theorem cstE_ok {v : Const} {j : Nat} : JE X R W (.Constant v j pos) (cstE v) := by
  cases v with
  | int i => exact j_int
  | str i => exact j_str
  | bool i => exact j_bl
  | none => exact j_non
  | _ => exact je_stuck
end
/-! ### operators -/
def opF : Operator → Option (T → T → Option T)
  | .Add => some addT
  | .Sub => some subT
  | .Mult => some mulT
  | .FloorDiv => some fdivT
  | .Mod => some modT
  | .Pow => some powT
  | _ => none
def isT (a b : T) : Option T := match b with
  | .non => (match a with
    | .sh _ => none
    | .non => some (.bl true)
    | _ => some (.bl false))
  | _ => none
def isntT (a b : T) : Option T := (isT a b).bind fun t => match t with
  | .bl z => some (.bl (!z))
  | _ => none
section
variable {X : Cx} {R : RC}
def isNon : T → Bool
  | .non => true
  | _ => false
theorem rep_non {ex : Addr → Prop} {H : Hp} {t : T} {x : V} (r : RepTop R ex H t x) (h : ∀ n, t ≠ .sh n) : decide (x = .non) = isNon t := by
  cases t with
  | non => cases r; rfl
  | bl b => cases r; rfl
  | int i => cases r; rfl
  | str i => cases r; rfl
  | lst ts => obtain ⟨a, xs, rfl, _⟩ := r; rfl
  | tup ts => obtain ⟨a, xs, rfl, _⟩ := Rep.sqt r; rfl
  | wt ts => obtain ⟨a, xs, rfl, _⟩ := Rep.sqw r; rfl
  | dct tk kvs => obtain ⟨a, rfl, _⟩ := r; rfl
  | ins c fs => obtain ⟨a, C, dx, vs, rfl, _⟩ := r; rfl
  | sh n => exact absurd rfl (h n)
theorem isT_eq {a b t : T} (e : isT a b = some t) : b = .non ∧ (∀ n, a ≠ .sh n) ∧ t = .bl (isNon a) := by
  unfold isT at e
  split at e
  · refine ⟨rfl, ?_⟩
    cases a <;> cases e <;> exact ⟨fun n z => T.noConfusion z, rfl⟩
  · cases e
theorem o_is : OpR X (compareOp .Is) (rOp2 R isT) := by
  refine op_isN.imp fun x y H Q ⟨ex, tx, ty, t, hx, r1, r2, e, k⟩ => ?_
  obtain ⟨rfl, h1, rfl⟩ := isT_eq e
  cases r2
  refine ⟨rfl, ?_⟩
  rw [rep_non r1 h1]
  exact k _ _ (Grow.refl _) rfl
theorem o_isnt : OpR X (compareOp .IsNot) (rOp2 R isntT) := by
  refine op_notN.imp fun x y H Q ⟨ex, tx, ty, t, hx, r1, r2, e, k⟩ => ?_
  unfold isntT at e
  cases q : isT tx ty with
  | none => rw [q] at e; cases e
  | some u =>
    rw [q] at e
    obtain ⟨rfl, h1, rfl⟩ := isT_eq q
    cases e
    cases r2
    refine ⟨rfl, ?_⟩
    rw [rep_non r1 h1]
    exact k _ _ (Grow.refl _) rfl
end
def cmpF : CmpOp → Option (T → T → Option T)
  | .Eq => some eqT
  | .NotEq => some neT
  | .Lt => some ltT
  | .LtE => some leT
  | .Gt => some gtT
  | .GtE => some geT
  | .In => some (inA false)
  | .NotIn => some (inA true)
  | .Is => some isT
  | .IsNot => some isntT
section
variable {G : GE} {c : SC} {X : Cx} {R : RC} {W : WX} {e a b : Expr} {es : List Expr} {pos : Pos} {x : Str}
theorem XOk.u64 (h : XOk G R c W X) : X.A.units + 64 < cLine := h.room.units
theorem XOk.u65 (h : XOk G R c W X) : X.A.units + 65 < cLine := by have := h.room.un; omega
theorem XOk.u1 (h : XOk G R c W X) : X.A.units + 1 < cLine := by have := h.room.un; omega
theorem opF_ok (h : XOk G R c W X) {op : Operator} {f : T → T → Option T} (q : opF op = some f) : OpR X (binaryOp op) (rOp2 R f) := by
  cases op <;> cases q
  · exact o_add h.K
  · exact o_sub
  · exact o_mul h.K
  · exact o_mod
  · exact o_pow
  · exact o_fdiv
theorem cmpF_ok (h : XOk G R c W X) {op : CmpOp} {f : T → T → Option T} (q : cmpF op = some f) : OpR X (compareOp op) (rOp2 R f) := by
  cases op <;> cases q
  · exact o_eq h.K h.u64
  · exact o_ne h.K h.u64
  · exact o_lt
  · exact o_le
  · exact o_gt
  · exact o_ge
  · exact o_is
  · exact o_isnt
  · exact o_inA h.K h.u65
  · exact o_ninA h.K h.u65
end
def isStar : Expr → Bool
  | .Starred _ _ => true
  | _ => false
def noStar (es : List Expr) : Bool := es.all fun e => !isStar e
theorem star_cons {e : Expr} {es : List Expr} {env : PySem.Env} (h : isStar e = false) : starEach (e :: es) env = (false, eval e env) :: starEach es env := by
  cases e <;> first | rfl | cases h
theorem assign_cons {e : Expr} {es : List Expr} {env : PySem.Env} (h : isStar e = false) : assignEach (e :: es) env = (false, assign e env) :: assignEach es env := by
  cases e <;> first | rfl | cases h
theorem back_plain {es : List Expr} {pos : Pos} {env : PySem.Env} (h : noStar es = true) : (backTo pos (starEach es env)).any (·.1) = false := by
  induction es with
  | nil => rfl
  | cons e es ih =>
    simp only [noStar, List.all_cons, Bool.and_eq_true, Bool.not_eq_true'] at h
    rw [star_cons h.1]
    simp only [backTo, List.map_cons, List.any_cons, Bool.false_or]
    exact ih (by simpa [noStar] using h.2)
/-! ### what reads parts -/
structure Ev where
  E : SC → Expr → Env → M T
  T : SC → Expr → Env → M Bool
  S : SC → Stmt → Sm
structure EvOk (G : GE) (R : RC) (r : Ev) : Prop where
  E : ∀ c W X e, XOk G R c W X → JE X R W e (r.E c e)
  T : ∀ c W X e, XOk G R c W X → JT X R W e (r.T c e)
  S : ∀ c W X st, XOk G R c W X → JS X R W st (r.S c st)
def evA (r : Ev) (c : SC) : List Expr → Env → M (List T)
  | [] => mNil
  | e :: es => if isStar e = true then stuckA else mCons (r.E c e) (evA r c es)
/-- and, or as values -/
def boolE (r : Ev) (c : SC) (op : BoolOp) : List Expr → Env → M T
  | [] => stuckE
  | [a] => r.E c a
  | a :: b :: rest => match op with
    | .And => mAnd (r.E c a) (boolE r c op (b :: rest))
    | .Or => mOr (r.E c a) (boolE r c op (b :: rest))
def boolT (r : Ev) (c : SC) (op : BoolOp) : List Expr → Env → M Bool
  | [] => stuckT
  | [a] => r.T c a
  | a :: b :: rest => match op with
    | .And => mAndT (r.T c a) (boolT r c op (b :: rest))
    | .Or => mOrT (r.T c a) (boolT r c op (b :: rest))
def plainIxB : Expr → Bool
  | .Slice _ _ _ _ => false
  | _ => true
theorem plainIx_ok {b : Expr} (h : plainIxB b = true) : PlainIx b := by
  cases b <;> first | exact fun _ _ => rfl | cases h
/-- no call without arguments: there super() may hide -/
def attrB : Expr → Bool
  | .Call (.Name _ _) [] [] _ => false
  | _ => true
theorem attrB_ok {e : Expr} {f : Str} {env : PySem.Env} {whole : Sem Value} (h : attrB e = true) : attributeBase e f env whole = whole := by
  unfold attributeBase
  split
  · cases h
  · rfl
section
variable {G : GE} {c : SC} {X : Cx} {R : RC} {W : WX} {e a b : Expr} {es : List Expr} {pos : Pos} {x : Str} {r : Ev}
theorem evA_ok (o : EvOk G R r) (h : XOk G R c W X) : ∀ es, JA X R W es (evA r c es)
  | [] => ja_nil
  | e :: es => by
    unfold evA
    split
    · exact ja_stuck
    · rename_i hs
      exact ja_cons (o.E _ _ _ _ h) (evA_ok o h es) (star_cons (by simpa using hs))
theorem boolE_ok (o : EvOk G R r) (h : XOk G R c W X) {op : BoolOp} : ∀ es, JE X R W (.BoolOp op es pos) (boolE r c op es)
  | [] => je_stuck
  | [a] => j_one (o.E _ _ _ _ h)
  | a :: b :: rest => by
    unfold boolE
    cases op with
    | And => exact j_and (o.E _ _ _ _ h) (boolE_ok o h (b :: rest))
    | Or => exact j_or (o.E _ _ _ _ h) (boolE_ok o h (b :: rest))
theorem boolT_ok (o : EvOk G R r) (h : XOk G R c W X) {op : BoolOp} : ∀ es, JW X R W (.BoolOp op es pos) (boolT r c op es)
  | [] => jw_stuck
  | [a] => by
    unfold boolT
    cases op with
    | And => exact jw_and1 (o.T _ _ _ _ h)
    | Or => exact jw_or1 (o.T _ _ _ _ h)
  | a :: b :: rest => by
    unfold boolT
    cases op with
    | And => exact jw_and (o.T _ _ _ _ h) (boolT_ok o h (b :: rest))
    | Or => exact jw_or (o.T _ _ _ _ h) (boolT_ok o h (b :: rest))
end
end TL

set_option maxHeartbeats 4000000
namespace TL
open PySem PySem.Spec PyProof.Rows L2

/-! ### targets -/
def fnB (c : SC) (x : Str) : Bool := c.fn x || isLocal c.sc x
def tgBs (f : Expr → Option (List Nat × TB)) : List Expr → Option (List Nat × TBs)
  | [] => some ([], bNil)
  | e :: es => if isStar e = true then none else match f e, tgBs f es with
    | some (us, b), some (vs, bs) => some (us ++ vs, bCons b bs)
    | _, _ => none
def tgB (c : SC) : Nat → Expr → Option (List Nat × TB)
  | 0, _ => none
  | n + 1, e => match e with
    | .Name x _ => match slotAt x c.N with
      | some i => if locB c.sc x = true ∧ fnB c x = true then some ([i], bNm i) else none
      | none => none
    | .Tuple es _ _ => match tgBs (tgB c n) es with
      | some (us, bs) => some (us, bTp es.length bs)
      | none => none
    | _ => none
section
variable {G : GE} {c : SC} {X : Cx} {R : RC} {W : WX} {e a b : Expr} {es : List Expr} {pos : Pos} {x : Str} {r : Ev}
theorem fnB_ok (h : XOk G R c W X) (q : fnB c x = true) : X.fn x = true ∨ X.env.scope.names.lookup x = some .local := by
  unfold fnB at q
  rcases Bool.or_eq_true _ _ ▸ q with q | q
  · exact .inl (h.fn _ q)
  · exact .inr (by rw [h.sc]; exact isLocal_ok q)
theorem assign_len {env : PySem.Env} : ∀ es : List Expr, (assignEach es env).length = es.length
  | [] => rfl
  | e :: es => by
    have ih := @assign_len env es
    cases e <;> (show _ + 1 = _ + 1; rw [ih])
theorem assign_star {env : PySem.Env} : ∀ es : List Expr, noStar es = true → (assignEach es env).findIdx? (·.1) = none
  | [], _ => rfl
  | e :: es, h => by
    simp only [noStar, List.all_cons, Bool.and_eq_true, Bool.not_eq_true'] at h
    rw [assign_cons h.1]
    have ih := @assign_star env es (by simpa [noStar] using h.2)
    rw [List.findIdx?_eq_none_iff] at ih ⊢
    intro x hx
    rcases List.mem_cons.mp hx with e | hx
    · subst e; rfl
    · exact ih x hx
theorem tgBs_star {f : Expr → Option (List Nat × TB)} : ∀ {es : List Expr} {p : List Nat × TBs}, tgBs f es = some p → noStar es = true
  | [], _, _ => rfl
  | e :: es, p, h => by
    unfold tgBs at h
    split at h
    · cases h
    · rename_i hs
      split at h
      · rename_i h1 h2
        have := tgBs_star h2
        simp only [noStar, List.all_cons, Bool.and_eq_true, Bool.not_eq_true']
        exact ⟨by simpa using hs, this⟩
      · cases h
theorem tgBs_ok {f : Expr → Option (List Nat × TB)} (hf : ∀ e us b, f e = some (us, b) → JB X R e us b) : ∀ {es : List Expr} {us : List Nat} {bs : TBs}, tgBs f es = some (us, bs) → JBs X R es us bs
  | [], _, _, h => by cases h; exact jbs_nil
  | e :: es, us, bs, h => by
    unfold tgBs at h
    split at h
    · cases h
    · rename_i hs
      split at h
      · rename_i u1 b1 u2 b2 h1 h2
        cases h
        exact jbs_cons (hf _ _ _ h1) (tgBs_ok hf h2) (by rw [assign_cons (by simpa using hs)]; rfl)
      · cases h
theorem tgB_ok (h : XOk G R c W X) : ∀ (n : Nat) (e : Expr) (us : List Nat) (b : TB), tgB c n e = some (us, b) → JB X R e us b
  | 0, _, _, _, q => by cases q
  | n + 1, e, us, b, q => by
    unfold tgB at q
    split at q
    · split at q
      · rename_i i hi
        split at q
        · rename_i hc
          cases q
          exact jb_name (by rw [h.N]; exact h.nd) (by rw [h.N]; exact slotAt_ok hi) (by rw [h.sc]; exact locB_ok hc.1) (fnB_ok h hc.2)
        · cases q
      · cases q
    · split at q
      · rename_i es _ _ us' bs' hb
        cases q
        exact jb_tup h.K h.calm (tgBs_ok (fun e us b => tgB_ok h n e us b) hb) (assign_len _) (assign_star _ (tgBs_star hb))
      · cases q
    · cases q
end

/-! ### what is walked -/
def isSet : Expr → Bool
  | .Set _ _ _ => true
  | _ => false
theorem fold_set {it : Expr} {env : PySem.Env} (h : isSet it = false) : ∀ x, foldedSetIterable it env x = pure x := by
  intro x
  cases it <;> first | rfl | cases h
def isLst : Expr → Bool
  | .List _ _ => true
  | _ => false
theorem fold_gen {it : Expr} {env : PySem.Env} (h : isSet it = false) (h2 : isLst it = false) : ∀ x, genFold it env x = pure x := by
  intro x
  cases it <;> first | rfl | (simp [isLst] at h2; done) | (simp [isSet] at h; done)
def isTup : Expr → Bool
  | .Tuple _ _ _ => true
  | _ => false
def itE (G : GE) (r : Ev) (c : SC) (tg : Expr) (it : Expr) : Env → M (List T) := match it with
  | .Call (.Name x _) [a] [] _ => if glB c x = true ∧ G.free x = true ∧ isStar a = false then (if x = "range" then mRng1 (evA r c [a])
      else if x = "enumerate" then (if isTup tg = true then mEnum c.q (r.E c a) else stuckA)
      else if x = "reversed" then mRev c.q (r.E c a)
      else mIter c.q (r.E c it)) else mIter c.q (r.E c it)
  | .Call (.Name x _) [a, b] [] _ => if glB c x = true ∧ G.free x = true ∧ isStar a = false ∧ isStar b = false ∧ x = "range" then mRng2 (evA r c [a, b])
      else if glB c x = true ∧ G.free x = true ∧ isStar a = false ∧ isStar b = false ∧ x = "zip" ∧ isTup tg = true then mZip c.q (evA r c [a, b]) else mIter c.q (r.E c it)
  | .Call (.Name x _) [a, b, d] [] _ => if glB c x = true ∧ G.free x = true ∧ isStar a = false ∧ isStar b = false ∧ isStar d = false ∧ x = "range" then mRng3 (evA r c [a, b, d])
      else mIter c.q (r.E c it)
  | _ => mIter c.q (r.E c it)
section
variable {G : GE} {c : SC} {X : Cx} {R : RC} {W : WX} {e a b tg : Expr} {es : List Expr} {pos : Pos} {x : Str} {r : Ev}
theorem itE_ok (o : EvOk G R r) (h : XOk G R c W X) (it : Expr) : JI X R W tg it (itE G r c tg it) := by
  unfold itE
  split
  · split
    · rename_i hh
      obtain ⟨hg, hf, hs⟩ := hh
      obtain ⟨g1, g2⟩ := gl_of h hg
      have st : ∀ {es : List Expr} {env : PySem.Env} {e : Expr}, isStar e = false → starEach (e :: es) env = (false, eval e env) :: starEach es env := star_cons
      split
      · rename_i e; subst e
        exact ji_range1 g1 (h.gfree hf) (evA_ok o h _) (st hs)
      · split
        · rename_i e; subst e
          split
          · rename_i ht
            cases tg <;> first | exact ji_enum h.K (o.E _ _ _ _ h) g1 (h.gfree hf) (st hs) | (simp [isTup] at ht; done)
          · exact ji_stuck
        · split
          · rename_i e; subst e
            exact ji_rev h.K (o.E _ _ _ _ h) g1 (h.gfree hf) (st hs)
          · exact ji_any h.K (o.E _ _ _ _ h)
    · exact ji_any h.K (o.E _ _ _ _ h)
  · split
    · rename_i hh
      obtain ⟨hg, hf, hs, hs2, e⟩ := hh
      subst e
      obtain ⟨g1, g2⟩ := gl_of h hg
      exact ji_range2 g1 (h.gfree hf) (evA_ok o h _) (by rw [star_cons hs, star_cons hs2]; rfl) (by rw [star_cons hs2]; rfl)
    · split
      · rename_i hh
        obtain ⟨hg, hf, hs, hs2, e, ht⟩ := hh
        subst e
        obtain ⟨g1, g2⟩ := gl_of h hg
        cases tg <;> first | exact ji_zip h.K (evA_ok o h _) g1 (h.gfree hf) (star_cons hs) (by rw [star_cons hs2]; rfl) | (simp [isTup] at ht; done)
      · exact ji_any h.K (o.E _ _ _ _ h)
  · split
    · rename_i hh
      obtain ⟨hg, hf, hs, hs2, hs3, e⟩ := hh
      subst e
      obtain ⟨g1, g2⟩ := gl_of h hg
      exact ji_range3 g1 (h.gfree hf) (evA_ok o h _) (star_cons hs) (back_plain (by simp [noStar, hs2, hs3]))
    · exact ji_any h.K (o.E _ _ _ _ h)
  · exact ji_any h.K (o.E _ _ _ _ h)
end

/-! ### comprehensions -/
def ownOf (N : List Str) (sc : Scope) : List (Str × Nat) := sc.names.filterMap fun p => match p.2 with
  | .local => (slotAt p.1 N).map (p.1, ·)
  | .cell => (slotAt p.1 N).map (p.1, ·)
  | _ => none
def blkSC (c : SC) (scope : Scope) : SC := { c with sc := relS scope c.sc, fn := fun x => scope.names.lookup x == some .cell }
def genSC (c : SC) (scope : Scope) : SC := { c with sc := scope, fn := fun _ => false, k := c.k - 3, gen := false, lam := false }
def ifsE (r : Ev) (c : SC) : List Expr → Env → M Bool
  | [] => mYes
  | [t] => r.T c t
  | _ => stuckT
/-- a name that stands for a dict that is walked -/
def dkE (G : GE) (c : SC) : Expr → Option Nat
  | .Name x p => if G.dk p.line = true ∧ visB c.sc x = true ∧ plainName x = true then slotAt x c.N else none
  | _ => none
theorem dkE_ok {G : GE} {c : SC} {X : Cx} {R : RC} {W : WX} {it : Expr} {k : Nat} (h : XOk G R c W X) (q : dkE G c it = some k) : ∃ x p, it = .Name x p ∧ PE X (.Name x p) (tVar k) := by
  unfold dkE at q
  split at q
  · rename_i x p
    split at q
    · rename_i hv
      have hp := hv.2.2
      simp only [plainName, Bool.and_eq_true, Bool.not_eq_true'] at hp
      exact ⟨x, p, rfl, pe_var (by rw [h.N]; exact slotAt_ok q) (by rw [h.sc]; exact visB_ok hv.2.1) hp.1 hp.2⟩
    · cases q
  · cases q
def lcF (G : GE) (r : Ev) (c : SC) (elt tg it : Expr) (ifs : List Expr) (scope : Scope) : Env → M MO :=
  match tgB (blkSC c scope) 4 tg with
  | some (us, b) => if blkC c.N c.sc scope (ownOf c.N scope) = true ∧ (∀ i ∈ us, i ∈ (ownOf c.N scope).map (·.2)) ∧ isSet it = false then
      match dkE G c it with
      | some k => mLc c.q ((ownOf c.N scope).map (·.2)) (mIterD c.q k) b (ifsE r (blkSC c scope) ifs) (r.E (blkSC c scope) elt)
      | none => mLc c.q ((ownOf c.N scope).map (·.2)) (itE G r c tg it) b (ifsE r (blkSC c scope) ifs) (r.E (blkSC c scope) elt) else stuckF
  | none => stuckF
section
variable {G : GE} {c : SC} {X : Cx} {R : RC} {W : WX} {e a b tg : Expr} {es : List Expr} {pos : Pos} {x : Str} {r : Ev}
theorem XOk.blk (h : XOk G R c W X) {scope : Scope} (hk : scope.kind = .function) (s : Shared) (H : Hp) (C : Addr) (cl : List (Str × Addr)) (fp : List Addr) : XOk G R (blkSC c scope) Wf (X.blk s H scope (compEnvC scope cl C X.env) fp) where
  g := h.g
  N := h.N
  nd := h.nd
  sc := by
    show relS scope X.env.scope = relS scope c.sc
    rw [h.sc]
  kind := hk
  calm := h.calm
  room := h.room
  po := PassesOwn.never
  tk := takes0
  fn := fun x hx => hx
  code := h.code
  lam := fun hl => by
    obtain ⟨cc, P, ls, o⟩ := h.lam hl
    exact ⟨cc, P, ls, ⟨o.code, o.tb, o.mem, o.uq, o.tab, o.tab2⟩⟩
theorem jts_stuck {ifs : List Expr} (ht : JTs X R ifs stuckT → False) : True := trivial
theorem ifsE_ok (o : EvOk G R r) (h : XOk G R c Wf X) : ∀ ifs, JTs X R ifs (ifsE r c ifs)
  | [] => jts_nil
  | [t] => jts_one (o.T _ _ _ _ h)
  | _ :: _ :: _ => ⟨fun _ _ _ _ _ _ ⟨_, _, _, _, _, k⟩ => k.elim⟩
theorem lcF_ok (o : EvOk G R r) (h : XOk G R c W X) {elt it : Expr} {ifs : List Expr} {scope : Scope} : JF X R W (.ListComp elt [⟨tg, it, ifs, 0⟩] scope pos) (lcF G r c elt tg it ifs scope) := by
  unfold lcF
  split
  · rename_i us b hb
    split
    · rename_i hh
      obtain ⟨h1, h2, h3⟩ := hh
      have bk := blkOk_by h1
      split
      · rename_i k hk
        obtain ⟨y, py, rfl, hi⟩ := dkE_ok h hk
        exact jf_lcD h.calm (by rw [h.N]; exact h.nd) (by rw [h.N, h.sc]; exact bk) rfl h2 hi (fun s H C cl fp => tgB_ok (h.blk bk.kind s H C cl fp) _ _ _ _ hb) (fun s H C cl fp => ifsE_ok o (h.blk bk.kind s H C cl fp) ifs) (fun s H C cl fp => o.E _ _ _ _ (h.blk bk.kind s H C cl fp))
      refine jf_lc h.calm (by rw [h.N]; exact h.nd) (by rw [h.N, h.sc]; exact bk) rfl h2 (itE_ok o h it) (fun s H C cl fp => tgB_ok (h.blk bk.kind s H C cl fp) _ _ _ _ hb) (fun s H C cl fp => ifsE_ok o (h.blk bk.kind s H C cl fp) ifs) (fun s H C cl fp => o.E _ _ _ _ (h.blk bk.kind s H C cl fp)) (fold_set h3)
    · exact jf_stuck
  · exact jf_stuck
theorem XOk.gx (h : XOk G R c W X) {scope : Scope} (hk : scope.kind = .function) (hc : 3 ≤ c.k) {A : Around} {s : Shared} {H : Hp} {C : Addr} {code : Value} {fp : List Addr} {pn : List (Addr × Obj)} (hA : Room (c.k - 3) A) :
    XOk G R (genSC c scope) Wf (gCx X A s H (genEnv scope (cloFrom X.env.cells scope.names []) C code builtinsNs X.env) fp pn) where
  g := h.g
  N := h.N
  nd := h.nd
  sc := rfl
  kind := hk
  calm := h.calm
  room := hA
  po := PassesOwn.never
  tk := takes0
  fn := fun x hx => by cases hx
  code := fun hx => by cases hx
  lam := fun hx => by cases hx
end
def lcF2 (G : GE) (r : Ev) (c : SC) (elt tg it : Expr) (ifs : List Expr) (tg1 it1 : Expr) (ifs1 : List Expr) (scope : Scope) : Env → M MO :=
  match tgB (blkSC c scope) 4 tg, tgB (blkSC c scope) 4 tg1 with
  | some (us, b), some (us1, b1) => if blkC c.N c.sc scope (ownOf c.N scope) = true ∧ (∀ i ∈ us, i ∈ (ownOf c.N scope).map (·.2)) ∧ (∀ i ∈ us1, i ∈ (ownOf c.N scope).map (·.2)) ∧ isSet it = false ∧ isSet it1 = false ∧ dkE G c it = none then
      mLc2 c.q ((ownOf c.N scope).map (·.2)) us1 (itE G r c tg it) b (ifsE r (blkSC c scope) ifs) (itE G r (blkSC c scope) tg1 it1) b1 (ifsE r (blkSC c scope) ifs1) (r.E (blkSC c scope) elt) else stuckF
  | _, _ => stuckF
section
variable {G : GE} {c : SC} {X : Cx} {R : RC} {W : WX} {e a b tg tg1 : Expr} {es : List Expr} {pos : Pos} {x : Str} {r : Ev}
theorem lcF2_ok (o : EvOk G R r) (h : XOk G R c W X) {elt it it1 : Expr} {ifs ifs1 : List Expr} {scope : Scope} : JF X R W (.ListComp elt [⟨tg, it, ifs, 0⟩, ⟨tg1, it1, ifs1, 0⟩] scope pos) (lcF2 G r c elt tg it ifs tg1 it1 ifs1 scope) := by
  unfold lcF2
  split
  · rename_i us b us1 b1 hb hb1
    split
    · rename_i hh
      obtain ⟨h1, h2, h21, h3, h31, hd⟩ := hh
      have bk := blkOk_by h1
      exact jf_lc2 h.calm (by rw [h.N]; exact h.nd) (by rw [h.N, h.sc]; exact bk) rfl h2 h21 (itE_ok o h it) (fun s H C cl fp => tgB_ok (h.blk bk.kind s H C cl fp) _ _ _ _ hb) (fun s H C cl fp => ifsE_ok o (h.blk bk.kind s H C cl fp) ifs)
        (fun s H C cl fp => itE_ok o (h.blk bk.kind s H C cl fp) it1) (fun s H C cl fp => tgB_ok (h.blk bk.kind s H C cl fp) _ _ _ _ hb1) (fun s H C cl fp => ifsE_ok o (h.blk bk.kind s H C cl fp) ifs1) (fun s H C cl fp => o.E _ _ _ _ (h.blk bk.kind s H C cl fp)) (fold_set h3) (fun env => fold_set h31)
    · exact jf_stuck
  · exact jf_stuck
end
def gxE (G : GE) (r : Ev) (c : SC) (kind : Nat) (elt tg it : Expr) (ifs : List Expr) (scope : Scope) : Env → M T :=
  match tgB (genSC c scope) 4 tg with
  | some (us, b) => if genC c.N c.sc scope (ownOf c.N scope) = true ∧ (∀ i ∈ us, i ∈ (ownOf c.N scope).map (·.2)) ∧ isSet it = false ∧ isLst it = false ∧ 3 ≤ c.k ∧ c.gen = true then
      (if kind = 0 then mAny true else if kind = 1 then mAny false else mSum) ((ownOf c.N scope).map (·.2)) (match dkE G c it with
        | some k => mIterD c.q k
        | none => itE G r c tg it) b (ifsE r (genSC c scope) ifs) (r.E (genSC c scope) elt) else stuckE
  | none => stuckE
def gxN (kind : Nat) : Str := if kind = 0 then "any" else if kind = 1 then "all" else "sum"
section
variable {G : GE} {c : SC} {X : Cx} {R : RC} {W : WX} {e a b tg : Expr} {es : List Expr} {pos gpos p : Pos} {x : Str} {r : Ev}
theorem gxE_ok (o : EvOk G R r) (h : XOk G R c W X) {elt it : Expr} {ifs : List Expr} {scope : Scope} (kind : Nat) (g1 : glB c (gxN kind) = true) (g2 : G.free (gxN kind) = true) :
    JE X R W (.Call (.Name (gxN kind) p) [.GeneratorExp elt [⟨tg, it, ifs, 0⟩] scope gpos] [] pos) (gxE G r c kind elt tg it ifs scope) := by
  unfold gxE
  split
  · rename_i us b hb
    split
    · rename_i hh
      obtain ⟨h1, h2, h3, h4, h5, h6⟩ := hh
      have ok := genOk_by h1
      obtain ⟨cc, P, hcode, TB, TO⟩ := h.code h6
      have hr : Room (c.k - 3 + 3) X.A := by rw [Nat.sub_add_cancel h5]; exact h.room
      have gl := (gl_of h g1).1
      have fr := h.gfree g2
      have nd : X.N.Nodup := by rw [h.N]; exact h.nd
      have ok' : GenOk X.N X.env.scope scope (ownOf c.N scope) := by rw [h.N, h.sc]; exact ok
      unfold gxN at gl fr ⊢
      by_cases k0 : kind = 0
      · rw [if_pos k0] at gl fr ⊢
        rw [if_pos k0]
        split
        · rename_i k hk
          obtain ⟨y, py, rfl, hi⟩ := dkE_ok h hk
          exact j_anyD hr gl fr h.calm nd TB TO hcode ok' rfl h2 hi (fun A s H C code fp pn hA => tgB_ok (h.gx ok.kind h5 hA) _ _ _ _ hb) (fun A s H C code fp pn hA => ifsE_ok o (h.gx ok.kind h5 hA) ifs) (fun A s H C code fp pn hA => o.E _ _ _ _ (h.gx ok.kind h5 hA))
        · exact j_any hr gl fr h.calm nd TB TO hcode ok' rfl h2 (itE_ok o h it) (fun A s H C code fp pn hA => tgB_ok (h.gx ok.kind h5 hA) _ _ _ _ hb) (fun A s H C code fp pn hA => ifsE_ok o (h.gx ok.kind h5 hA) ifs) (fun A s H C code fp pn hA => o.E _ _ _ _ (h.gx ok.kind h5 hA)) (fold_gen h3 h4)
      · rw [if_neg k0] at gl fr ⊢
        rw [if_neg k0]
        by_cases k1 : kind = 1
        · rw [if_pos k1] at gl fr ⊢
          rw [if_pos k1]
          split
          · rename_i k hk
            obtain ⟨y, py, rfl, hi⟩ := dkE_ok h hk
            exact j_allD hr gl fr h.calm nd TB TO hcode ok' rfl h2 hi (fun A s H C code fp pn hA => tgB_ok (h.gx ok.kind h5 hA) _ _ _ _ hb) (fun A s H C code fp pn hA => ifsE_ok o (h.gx ok.kind h5 hA) ifs) (fun A s H C code fp pn hA => o.E _ _ _ _ (h.gx ok.kind h5 hA))
          · exact j_all hr gl fr h.calm nd TB TO hcode ok' rfl h2 (itE_ok o h it) (fun A s H C code fp pn hA => tgB_ok (h.gx ok.kind h5 hA) _ _ _ _ hb) (fun A s H C code fp pn hA => ifsE_ok o (h.gx ok.kind h5 hA) ifs) (fun A s H C code fp pn hA => o.E _ _ _ _ (h.gx ok.kind h5 hA)) (fold_gen h3 h4)
        · rw [if_neg k1] at gl fr ⊢
          rw [if_neg k1]
          split
          · rename_i k hk
            obtain ⟨y, py, rfl, hi⟩ := dkE_ok h hk
            exact j_sumGD hr gl fr h.calm nd TB TO hcode ok' rfl h2 hi (fun A s H C code fp pn hA => tgB_ok (h.gx ok.kind h5 hA) _ _ _ _ hb) (fun A s H C code fp pn hA => ifsE_ok o (h.gx ok.kind h5 hA) ifs) (fun A s H C code fp pn hA => o.E _ _ _ _ (h.gx ok.kind h5 hA))
          · exact j_sumG hr gl fr h.calm nd TB TO hcode ok' rfl h2 (itE_ok o h it) (fun A s H C code fp pn hA => tgB_ok (h.gx ok.kind h5 hA) _ _ _ _ hb) (fun A s H C code fp pn hA => ifsE_ok o (h.gx ok.kind h5 hA) ifs) (fun A s H C code fp pn hA => o.E _ _ _ _ (h.gx ok.kind h5 hA)) (fold_gen h3 h4)
    · exact je_stuck
  · exact je_stuck
end
end TL

set_option maxHeartbeats 4000000
namespace TL
open PySem PySem.Spec PyProof.Rows L2

section
variable {G : GE} {c : SC} {X : Cx} {R : RC} {W : WX} {e a b tg : Expr} {es : List Expr} {pos gpos p : Pos} {x : Str} {r : Ev}
/-- one of several meanings, by what is met -/
theorem je_any {f : Env → M T} (h : ∀ ρ μ, f ρ μ = none ∨ ∃ g, JE X R W e g ∧ f ρ μ = g ρ μ) : JE X R W e f := ⟨fun pins s σ H Q I ⟨x0, S, ρ, μ, o, k⟩ => by
  rcases h ρ μ with q | ⟨g, hg, q⟩
  · rw [q] at k
    exact k.elim
  · rw [q] at k
    exact hg.run pins s σ H Q I ⟨x0, S, ρ, μ, o, k⟩⟩
theorem js_any {st : Stmt} {f : Sm} (h : ∀ ρ μ, f ρ μ = none ∨ ∃ g, JS X R W st g ∧ f ρ μ = g ρ μ) : JS X R W st f := ⟨fun pins s σ H Q I ⟨x0, S, ρ, μ, o, k⟩ => by
  rcases h ρ μ with q | ⟨g, hg, q⟩
  · rw [q] at k
    exact k.elim
  · rw [q] at k
    exact hg.run pins s σ H Q I ⟨x0, S, ρ, μ, o, k⟩⟩
end
/-! ### what is built in -/
def bltF (x : Str) : Option (List T → Option T) :=
  if x = "len" then some lenT else if x = "abs" then some absT else if x = "min" then some minT else if x = "max" then some maxT
  else if x = "sum" then some sumT else if x = "sorted" then some sortT else if x = "tuple" then some tupleT else if x = "list" then some listT
  else if x = "int" then some intT else if x = "str" then some strT else if x = "dict" then some dictT else none
section
variable {G : GE} {c : SC} {X : Cx} {R : RC} {W : WX} {e a b tg : Expr} {es : List Expr} {pos gpos p : Pos} {x : Str} {r : Ev}
theorem bltF_ok (o : EvOk G R r) (h : XOk G R c W X) {f : List T → Option T} (hf : bltF x = some f) (g1 : glB c x = true) (g2 : G.free x = true) (hs : noStar (e :: es) = true) :
    JE X R W (.Call (.Name x p) (e :: es) [] pos) (mCB f (evA r c (e :: es))) := by
  have gl := (gl_of h g1).1
  have fr := h.gfree g2
  simp only [noStar, List.all_cons, Bool.and_eq_true, Bool.not_eq_true'] at hs
  have st : starEach (e :: es) X.env = (false, eval e X.env) :: starEach es X.env := star_cons hs.1
  have pl : (backTo pos (starEach es X.env)).any (·.1) = false := back_plain (by simpa [noStar] using hs.2)
  have A := evA_ok o h (e :: es)
  unfold bltF at hf
  split at hf
  · subst x; cases hf; exact j_callB (c_len h.K) gl fr PyProof.Rows.Boot.«len» A (by decide) (by decide) st pl
  split at hf
  · subst x; cases hf; exact j_callB c_abs gl fr PyProof.Rows.Boot.«abs» A (by decide) (by decide) st pl
  split at hf
  · subst x; cases hf; exact j_callB (c_min h.K h.calm h.u64) gl fr PyProof.Rows.Boot.«min» A (by decide) (by decide) st pl
  split at hf
  · subst x; cases hf; exact j_callB (c_max h.K h.calm h.u64) gl fr PyProof.Rows.Boot.«max» A (by decide) (by decide) st pl
  split at hf
  · subst x; cases hf; exact j_callB (c_sum h.K h.calm) gl fr PyProof.Rows.Boot.«sum» A (by decide) (by decide) st pl
  split at hf
  · subst x; cases hf; exact j_callB (c_sorted h.calm h.K h.u64) gl fr PyProof.Rows.Boot.«sorted» A (by decide) (by decide) st pl
  split at hf
  · subst x; cases hf; exact j_callTy (c_tuple h.K) gl fr PyProof.Rows.Boot.«tuple» A (by decide) (by decide) st pl
  split at hf
  · subst x; cases hf; exact j_callTy (c_list h.K) gl fr PyProof.Rows.Boot.«list» A (by decide) (by decide) st pl
  split at hf
  · subst x; cases hf; exact j_callTy c_int gl fr PyProof.Rows.Boot.«int» A (by decide) (by decide) st pl
  split at hf
  · subst x; cases hf; exact j_callTy c_str gl fr PyProof.Rows.Boot.«str» A (by decide) (by decide) st pl
  split at hf
  · subst x; cases hf; exact j_callTy (c_dict h.calm h.K) gl fr PyProof.Rows.Boot.«dict» A (by decide) (by decide) st pl
  · cases hf
end
/-- f(args), f a name -/
def bltE (G : GE) (r : Ev) (c : SC) (x : Str) (args : List Expr) : Env → M T := match args with
  | [.GeneratorExp elt [⟨tg, it, ifs, 0⟩] scope _] => if x = "any" then gxE G r c 0 elt tg it ifs scope else if x = "all" then gxE G r c 1 elt tg it ifs scope else if x = "sum" then gxE G r c 2 elt tg it ifs scope else stuckE
  | [.Call (.Name y q1) [a, b, d] [] p2] => if x = "tuple" ∧ y = "range" ∧ glB c y = true ∧ G.free y = true ∧ noStar [a, b, d] = true then mTupR3 (evA r c [a, b, d])
    else (match bltF x with
    | some f => mCB f (evA r c [.Call (.Name y q1) [a, b, d] [] p2])
    | none => stuckE)
  | [.Name y p1] => if x = "tuple" ∧ G.fz p1.line = true then mCB tupleZ (evA r c [.Name y p1]) else (match bltF x with
    | some f => mCB f (evA r c [.Name y p1])
    | none => stuckE)
  | e :: es => if noStar (e :: es) = true then (match bltF x with
    | some f => mCB f (evA r c (e :: es))
    | none => stuckE) else stuckE
  | [] => stuckE
section
variable {G : GE} {c : SC} {X : Cx} {R : RC} {W : WX} {e a b tg : Expr} {es : List Expr} {pos gpos p : Pos} {x : Str} {r : Ev}
theorem bltE_ok (o : EvOk G R r) (h : XOk G R c W X) (g1 : glB c x = true) (g2 : G.free x = true) (args : List Expr) : JE X R W (.Call (.Name x p) args [] pos) (bltE G r c x args) := by
  unfold bltE
  split
  · split
    · rename_i e; subst e; exact gxE_ok o h 0 g1 g2
    split
    · rename_i e; subst e; exact gxE_ok o h 1 g1 g2
    split
    · rename_i e; subst e; exact gxE_ok o h 2 g1 g2
    · exact je_stuck
  · split
    · rename_i hh
      obtain ⟨e1, e2, h1, h2, h3⟩ := hh
      subst e1 e2
      simp only [noStar, List.all_cons, List.all_nil, Bool.and_eq_true, Bool.not_eq_true', and_true] at h3
      exact j_tupR3 h.calm (gl_of h g1).1 (h.gfree g2) (gl_of h h1).1 (h.gfree h2) (evA_ok o h _) (star_cons h3.1) (back_plain (by simp [noStar, h3.2.1, h3.2.2])) (star_cons rfl)
    · split
      · rename_i f hf
        exact bltF_ok o h hf g1 g2 rfl
      · exact je_stuck
  · split
    · rename_i hh
      obtain ⟨e1, e2⟩ := hh
      subst e1
      exact j_callTy c_tupleZ (gl_of h g1).1 (h.gfree g2) PyProof.Rows.Boot.«tuple» (evA_ok o h _) (by decide) (by decide) (star_cons rfl) rfl
    · split
      · rename_i f hf
        exact bltF_ok o h hf g1 g2 rfl
      · exact je_stuck
  · split
    · rename_i hs
      split
      · rename_i f hf
        exact bltF_ok o h hf g1 g2 hs
      · exact je_stuck
    · exact je_stuck
  · exact je_stuck
end
/-! ### methods -/
theorem meth_eq {o : Expr} {m : Str} {args : List Expr} {apos pos : Pos} {env : PySem.Env} (h1 : attrB o = true) (h2 : noStar args = true) (h3 : args.length < 30) (h4 : (apos.endLine == pos.line) = true) :
    eval (.Call (.Attribute o m apos) args [] pos) env = (do
      let ov ← eval o env
      standAt apos.atName
      let (f, first) ← holding [ov] (getMethod ov m (do return (← importBound o env).getD true))
      callWith pos f first (backTo pos (starEach args env)) (backToKw pos (keywordEach [] env))) := by
  have e0 : eval (.Call (.Attribute o m apos) args [] pos) env = (do
    let ov ← attributeBase o m env (eval o env)
    standAt apos.atName
    methodCall o m apos pos env ov (args.length + ([] : List Keyword).length) (backTo pos (starEach args env)) (backToKw pos (keywordEach [] env))) := by rfl
  rw [e0, attrB_ok h1]
  have hform : methodCallForm (args.length + ([] : List Keyword).length) (backTo pos (starEach args env)) (backToKw pos (keywordEach [] env)) = true := by
    unfold methodCallForm
    have p := back_plain (pos := pos) (env := env) h2
    have q : (backToKw pos (keywordEach [] env)) = [] := by rfl
    rw [q]
    simp only [List.all_nil, Bool.and_true, List.isEmpty_nil, if_true, List.length_nil, Nat.add_zero, Bool.and_eq_true, decide_eq_true_eq]
    refine ⟨?_, h3⟩
    rw [List.all_eq_true]
    intro z hz
    rw [List.any_eq_false] at p
    simpa using p z hz
  unfold methodCall
  rw [hform]
  unfold calleeOf methodCallPos
  rw [h4]
  simp only [if_true, Bool.not_true, Bool.false_or]
  rfl
def keepL (c : SC) (l : List (Str × Dv)) : List (Str × Dv) := l.filter fun p => decide (p.2.lev ≤ c.k)
def mMethD (q : Nat) (m : Str) (l : List (Str × Dv)) (fo : Env → M T) (fs : Env → M (List T)) : Env → M T := fun ρ => (fo ρ).bind fun x => fun μ => match l.find? (fun p => isI p.1 m (look μ x)) with
  | some p => ((fs ρ).bind fun xs => (keepAs q p.2.P (x :: xs)).bind fun ys => callM p.2.np p.2.P p.2.g ys) μ
  | none => none
def mMtD (l : List (String × (T → List T → Option T))) (fo : Env → M T) (fs : Env → M (List T)) : Env → M T := fun ρ => (fo ρ).bind fun x => fun μ => match l.find? (fun p => isTy p.1 (look μ x)) with
  | some p => ((fs ρ).bind fun xs => fun μ => match look μ x, looks μ xs with
    | some a, some as => M.opt (p.2 a as) μ
    | _, _ => none) μ
  | none => none
theorem mMethD_eq {q : Nat} {m : Str} {l : List (Str × Dv)} {fo : Env → M T} {fs : Env → M (List T)} (hl : l ≠ []) (ρ : Env) (μ : Mu) : mMethD q m l fo fs ρ μ = none ∨ ∃ p ∈ l, mMethD q m l fo fs ρ μ = mMeth q p.2.P p.2.np p.1 m p.2.g fo fs ρ μ := by
  unfold mMethD mMeth M.bind
  cases h : fo ρ μ with
  | none => exact .inl rfl
  | some v =>
    obtain ⟨v, μ1⟩ := v
    cases v with
    | ex x =>
      cases l with
      | nil => exact absurd rfl hl
      | cons p r => exact .inr ⟨p, List.mem_cons_self, rfl⟩
    | ok x =>
      simp only
      cases hf : l.find? (fun p => isI p.1 m (look μ1 x)) with
      | none => exact .inl rfl
      | some p =>
        have h1 := List.find?_some hf
        exact .inr ⟨p, List.mem_of_find?_eq_some hf, by simp only [h1, if_true]⟩
theorem mMtD_eq {l : List (String × (T → List T → Option T))} {fo : Env → M T} {fs : Env → M (List T)} (hl : l ≠ []) (ρ : Env) (μ : Mu) : mMtD l fo fs ρ μ = none ∨ ∃ p ∈ l, mMtD l fo fs ρ μ = mMt p.1 p.2 fo fs ρ μ := by
  unfold mMtD mMt M.bind
  cases h : fo ρ μ with
  | none => exact .inl rfl
  | some v =>
    obtain ⟨v, μ1⟩ := v
    cases v with
    | ex x =>
      cases l with
      | nil => exact absurd rfl hl
      | cons p r => exact .inr ⟨p, List.mem_cons_self, rfl⟩
    | ok x =>
      simp only
      cases hf : l.find? (fun p => isTy p.1 (look μ1 x)) with
      | none => exact .inl rfl
      | some p =>
        have h1 := List.find?_some hf
        exact .inr ⟨p, List.mem_of_find?_eq_some hf, by (simp only [h1, if_true]); try rfl⟩
/-- methods of what is built in -/
def mtF (m : Str) : List (String × (T → List T → Option T)) :=
  if m = "split" then [("str", splitT)] else if m = "partition" then [("str", partT)] else if m = "join" then [("str", joinT)] else if m = "strip" then [("str", stripT)]
  else if m = "startswith" then [("str", ss1 fun a b => .bl (Txt.startswith a b))] else if m = "endswith" then [("str", ss1 fun a b => .bl (Txt.endswith a b))]
  else if m = "count" then [("str", ss1 fun a b => .int (Txt.count a b)), ("list", lcountT)] else if m = "index" then [("list", indexT), ("tuple", wIndexT)] else if m = "zfill" then [("str", zfillT)] else if m = "get" then [("dict", getA)] else []
structure MtOk (X : Cx) (R : RC) (ty : String) (m : Str) (f : T → List T → Option T) : Prop where
  ok : ∃ (name : Str) (id : String), m = name ∧ PlainAttrs ty ∧ Slot ty name id ∧ typeOf (.builtin id) = pure (.type "method_descriptor") ∧ MtR X id (rOpM R f)
section
variable {G : GE} {c : SC} {X : Cx} {R : RC} {W : WX} {e a b tg o' : Expr} {es : List Expr} {pos gpos p apos : Pos} {x m : Str} {r : Ev}
theorem mtF_ok (h : XOk G R c W X) {ty : String} {f : T → List T → Option T} (q : (ty, f) ∈ mtF m) : MtOk X R ty m f := by
  unfold mtF at q
  split at q
  · subst m; simp only [List.mem_singleton, Prod.mk.injEq] at q; obtain ⟨rfl, rfl⟩ := q
    exact ⟨_, _, rfl, PySem.F.plainAttrs_str, PySem.F.slot_str_split, PySem.F.type_str_split, m_split⟩
  split at q
  · subst m; simp only [List.mem_singleton, Prod.mk.injEq] at q; obtain ⟨rfl, rfl⟩ := q
    exact ⟨_, _, rfl, PySem.F.plainAttrs_str, PySem.F.slot_str_partition, PySem.F.type_str_partition, m_part⟩
  split at q
  · subst m; simp only [List.mem_singleton, Prod.mk.injEq] at q; obtain ⟨rfl, rfl⟩ := q
    exact ⟨_, _, rfl, PySem.F.plainAttrs_str, PySem.F.slot_str_join, PySem.F.type_str_join, m_join h.K⟩
  split at q
  · subst m; simp only [List.mem_singleton, Prod.mk.injEq] at q; obtain ⟨rfl, rfl⟩ := q
    exact ⟨_, _, rfl, PySem.F.plainAttrs_str, PySem.F.slot_str_strip, PySem.F.type_str_strip, m_strip⟩
  split at q
  · subst m; simp only [List.mem_singleton, Prod.mk.injEq] at q; obtain ⟨rfl, rfl⟩ := q
    exact ⟨_, _, rfl, PySem.F.plainAttrs_str, PySem.F.slot_str_startswith, PySem.F.type_str_startswith, m_starts⟩
  split at q
  · subst m; simp only [List.mem_singleton, Prod.mk.injEq] at q; obtain ⟨rfl, rfl⟩ := q
    exact ⟨_, _, rfl, PySem.F.plainAttrs_str, PySem.F.slot_str_endswith, PySem.F.type_str_endswith, m_ends⟩
  split at q
  · subst m; simp only [List.mem_cons, Prod.mk.injEq, List.not_mem_nil, or_false] at q
    rcases q with ⟨rfl, rfl⟩ | ⟨rfl, rfl⟩
    · exact ⟨_, _, rfl, PySem.F.plainAttrs_str, PySem.F.slot_str_count, PySem.F.type_str_count, m_count⟩
    · exact ⟨_, _, rfl, PySem.F.plainAttrs_list, PySem.F.slot_list_count, PySem.F.type_list_count, m_lcount⟩
  split at q
  · subst m; simp only [List.mem_cons, Prod.mk.injEq, List.not_mem_nil, or_false] at q
    rcases q with ⟨rfl, rfl⟩ | ⟨rfl, rfl⟩
    · exact ⟨_, _, rfl, PySem.F.plainAttrs_list, PySem.F.slot_list_index, PySem.F.type_list_index, m_index h.K h.u65⟩
    · exact ⟨_, _, rfl, PySem.F.plainAttrs_tuple, PySem.F.slot_tuple_index, PySem.F.type_tuple_index, m_windex h.K⟩
  split at q
  · subst m; simp only [List.mem_singleton, Prod.mk.injEq] at q; obtain ⟨rfl, rfl⟩ := q
    exact ⟨_, _, rfl, PySem.F.plainAttrs_str, PySem.F.slot_str_zfill, PySem.F.type_str_zfill, m_zfill⟩
  split at q
  · subst m; simp only [List.mem_singleton, Prod.mk.injEq] at q; obtain ⟨rfl, rfl⟩ := q
    exact ⟨_, _, rfl, PySem.F.plainAttrs_dict, PySem.F.slot_dict_get, PySem.F.type_dict_get, mt_get h.u1⟩
  · cases q
def methE (G : GE) (r : Ev) (c : SC) (o : Expr) (m : Str) (apos : Pos) (args : List Expr) (pos : Pos) : Env → M T :=
  if attrB o = true ∧ noStar args = true ∧ args.length < 20 ∧ (apos.endLine == pos.line) = true then
    match G.meth m with
    | [] => if m = "pop" ∧ args = [] then mPop (r.E c o) else match mtF m with
      | [] => stuckE
      | l => mMtD l (r.E c o) (evA r c args)
    | l => if keepL c l = [] then stuckE else mMethD c.q m (keepL c l) (r.E c o) (evA r c args)
  else stuckE
theorem hfew_ok {es : List Expr} {env : PySem.Env} {cpos : Pos} (h : noStar es = true) (h3 : es.length < 20) : ((backTo cpos (starEach es env)).all (fun x => !x.1) && (backToKw cpos (keywordEach [] env)).all (fun x => x.1.isSome)
      && decide (es.length + ([] : List Keyword).length + (if ([] : List Keyword).isEmpty then 0 else 1) < 30)) = true := by
  have p := back_plain (pos := cpos) (env := env) h
  have q : (backToKw cpos (keywordEach [] env)) = [] := by rfl
  rw [q]
  simp only [List.all_nil, Bool.and_true, List.isEmpty_nil, if_true, List.length_nil, Nat.add_zero, Bool.and_eq_true, decide_eq_true_eq]
  refine ⟨?_, by omega⟩
  rw [List.all_eq_true]
  intro z hz
  rw [List.any_eq_false] at p
  simpa using p z hz
theorem methE_ok (o : EvOk G R r) (h : XOk G R c W X) (args : List Expr) : JE X R W (.Call (.Attribute o' m apos) args [] pos) (methE G r c o' m apos args pos) := by
  unfold methE
  split
  · rename_i hh
    obtain ⟨h1, h2, h3, h4⟩ := hh
    split
    · split
      · rename_i hp
        obtain ⟨rfl, rfl⟩ := hp
        exact j_pop h.K (o.E _ _ _ _ h) (attrB_ok h1) h4
      · split
        · exact je_stuck
        · rename_i l hl
          refine je_any fun ρ μ => ?_
          rcases mMtD_eq (l := mtF m) (fo := r.E c o') (fs := evA r c args) hl ρ μ with q | ⟨p, hp, q⟩
          · exact .inl q
          · refine .inr ⟨_, ?_, q⟩
            obtain ⟨ty, f⟩ := p
            obtain ⟨name, id, rfl, pa, sl, ty', mr⟩ := (mtF_ok h hp).ok
            cases args with
            | nil => exact j_mt0 h.K pa sl ty' mr (o.E _ _ _ _ h) (attrB_ok h1) h4
            | cons e es =>
              have hs : isStar e = false := by simp only [noStar, List.all_cons, Bool.and_eq_true, Bool.not_eq_true'] at h2; exact h2.1
              exact j_mt h.K pa sl ty' mr (o.E _ _ _ _ h) (evA_ok o h (e :: es)) (attrB_ok h1) (hfew_ok h2 h3) h4 (star_cons hs) (back_plain (by simp only [noStar, List.all_cons, Bool.and_eq_true] at h2 ⊢; exact h2.2))
    · split
      · exact je_stuck
      · rename_i hl
        refine je_any fun ρ μ => ?_
        rcases mMethD_eq (q := c.q) (m := m) (fo := r.E c o') (fs := evA r c args) hl ρ μ with q | ⟨p, hp, q⟩
        · exact .inl q
        · refine .inr ⟨_, ?_, q⟩
          simp only [keepL, List.mem_filter, decide_eq_true_eq] at hp
          have cm := h.gmeth hp.1
          cases args with
          | nil => exact j_meth0 cm (h.room.mono hp.2) h.tk (o.E _ _ _ _ h) (meth_eq h1 h2 (by omega) h4)
          | cons e es =>
            have hs : isStar e = false := by simp only [noStar, List.all_cons, Bool.and_eq_true, Bool.not_eq_true'] at h2; exact h2.1
            exact j_meth cm (h.room.mono hp.2) h.tk (o.E _ _ _ _ h) (evA_ok o h (e :: es)) (star_cons hs) (back_plain (by simp only [noStar, List.all_cons, Bool.and_eq_true] at h2 ⊢; exact h2.2)) (meth_eq h1 h2 (by omega) h4)
  · exact je_stuck
end
end TL

set_option maxHeartbeats 4000000
namespace TL
open PySem PySem.Spec PyProof.Rows L2

/-! ### told -/
def lamSC (c : SC) (scope : Scope) : SC := { c with sc := scope, fn := fun _ => false, k := c.k - 2, gen := false, lam := false }
def noPar : Arguments → Bool
  | ⟨[], [], none, [], [], none, []⟩ => true
  | _ => false
def toldE (r : Ev) (c : SC) (l : List (Str × Str)) : List Expr → Env → M T
  | [.Lambda params body scope _] => if noPar params = true ∧ LamX.lamSB c.sc scope = true ∧ 2 ≤ c.k ∧ c.lam = true then mTold l (r.E (lamSC c scope) body) else stuckE
  | _ => stuckE
def partE (r : Ev) (c : SC) (cx fl df : Str) : List Expr → Env → M T
  | [.Lambda params body scope _] => if noPar params = true ∧ LamX.lamSB c.sc scope = true ∧ 2 ≤ c.k ∧ c.lam = true then mPartC cx fl df (r.E (lamSC c scope) body) else stuckE
  | _ => stuckE
section
variable {G : GE} {c : SC} {X : Cx} {R : RC} {W : WX} {e a b tg : Expr} {es : List Expr} {pos gpos p : Pos} {x : Str} {r : Ev}
theorem XOk.lm (h : XOk G R c W X) {scope : Scope} (hk : scope.kind = .function) {A : Around} {outer : List PySem.Env} {s : Shared} {H : Hp} {E : XK} {f c' : Addr} (hA : Room (c.k - 2) (A.deeper (LamX.lamEnv X scope s.heap.objs.size f c'))) :
    XOk G R (lamSC c scope) (fun cls d _ H' => E cls d H') (LamX.lamCx X A outer s H E scope f c') where
  g := h.g
  N := h.N
  nd := h.nd
  sc := rfl
  kind := hk
  calm := rfl
  room := hA
  po := passes_of rfl
  tk := takes_of rfl rfl rfl rfl
  fn := fun x hx => by cases hx
  code := fun hx => by cases hx
  lam := fun hx => by cases hx
theorem toldE_ok (o : EvOk G R r) (h : XOk G R c W X) {l : List (Str × Str)} (hx : G.g x = some (.told l)) (hg : glB c x = true) (args : List Expr) : JE X R W (.Call (.Name x p) args [] pos) (toldE r c l args) := by
  unfold toldE
  split
  · split
    · rename_i params body scope lpos hh
      obtain ⟨h1, h2, h3, h4⟩ := hh
      obtain ⟨gl, db⟩ := gl_of h hg
      obtain ⟨a, sT, O⟩ := h.g.told _ _ hx
      obtain ⟨cc, P, ls, L⟩ := h.lam h4
      have ls' : LamX.LamS X.env.scope scope := by rw [h.sc]; exact LamX.lamS_by h2
      have hp : params = ⟨[], [], none, [], [], none, []⟩ := by
        unfold noPar at h1
        split at h1
        · rfl
        · cases h1
      subst hp
      exact j_told (O X rfl) gl L.tab L.tab2 L.tb L.code L.mem L.uq (by rw [Nat.sub_add_cancel h3]; exact h.room) ls' (fun A outer s H E f c' hA => o.E _ _ _ _ (h.lm ls'.kind hA)) rfl (by intros; rfl) db
    · exact je_stuck
  · exact je_stuck
theorem partE_ok (o : EvOk G R r) (h : XOk G R c W X) {cx fl df : Str} (hx : G.g x = some (.part cx fl df)) (hg : glB c x = true) (args : List Expr) : JE X R W (.Call (.Name x p) args [] pos) (partE r c cx fl df args) := by
  unfold partE
  split
  · split
    · rename_i params body scope lpos hh
      obtain ⟨h1, h2, h3, h4⟩ := hh
      obtain ⟨gl, db⟩ := gl_of h hg
      obtain ⟨a, sT, O⟩ := h.g.part _ _ _ _ hx
      obtain ⟨cc, P, ls, L⟩ := h.lam h4
      have ls' : LamX.LamS X.env.scope scope := by rw [h.sc]; exact LamX.lamS_by h2
      have hp : params = ⟨[], [], none, [], [], none, []⟩ := by
        unfold noPar at h1
        split at h1
        · rfl
        · cases h1
      subst hp
      exact j_part (O X rfl) gl L.tab L.tab2 L.tb L.code L.mem L.uq (by rw [Nat.sub_add_cancel h3]; exact h.room) ls' (fun A outer s H E f c' hA => o.E _ _ _ _ (h.lm ls'.kind hA)) rfl (by intros; rfl) db
    · exact je_stuck
  · exact je_stuck
end
/-! ### calls by names -/
def callE (G : GE) (r : Ev) (c : SC) (x : Str) (args : List Expr) : Env → M T :=
  if glB c x = true then match G.g x with
    | some (.fn d) => if d.lev ≤ c.k ∧ noStar args = true then mCall c.q d.P d.np d.g (evA r c args) else stuckE
    | some (.mk d) => if d.lev + 1 ≤ c.k ∧ noStar args = true then mMake c.q d.np x d.g (evA r c args) else stuckE
    | some (.told l) => toldE r c l args
    | some (.part cx fl df) => partE r c cx fl df args
    | none => if G.free x = true then bltE G r c x args else stuckE
    | _ => stuckE
  else stuckE
section
variable {G : GE} {c : SC} {X : Cx} {R : RC} {W : WX} {e a b tg : Expr} {es : List Expr} {pos gpos p : Pos} {x : Str} {r : Ev}
theorem callE_ok (o : EvOk G R r) (h : XOk G R c W X) (args : List Expr) : JE X R W (.Call (.Name x p) args [] pos) (callE G r c x args) := by
  unfold callE
  split
  · rename_i hg
    obtain ⟨gl, db⟩ := gl_of h hg
    split
    · rename_i d hd
      split
      · rename_i hh
        cases args with
        | nil => exact j_call0 (h.gfn hd) (h.room.mono hh.1) h.tk gl db
        | cons e es =>
          have h2 := hh.2
          have hs : isStar e = false := by simp only [noStar, List.all_cons, Bool.and_eq_true, Bool.not_eq_true'] at h2; exact h2.1
          exact j_call (h.gfn hd) (h.room.mono hh.1) h.tk gl (evA_ok o h (e :: es)) db (star_cons hs) (back_plain (by simp only [noStar, List.all_cons, Bool.and_eq_true] at h2 ⊢; exact h2.2))
      · exact je_stuck
    · rename_i d hd
      split
      · rename_i hh
        cases args with
        | nil => exact j_make0 (h.gmk hd) (h.room.mono hh.1) h.tk gl db
        | cons e es =>
          have h2 := hh.2
          have hs : isStar e = false := by simp only [noStar, List.all_cons, Bool.and_eq_true, Bool.not_eq_true'] at h2; exact h2.1
          exact j_make (h.gmk hd) (h.room.mono hh.1) h.tk gl (evA_ok o h (e :: es)) db (star_cons hs) (back_plain (by simp only [noStar, List.all_cons, Bool.and_eq_true] at h2 ⊢; exact h2.2))
      · exact je_stuck
    · rename_i l hl
      exact toldE_ok o h hl hg args
    · rename_i cx fl df hl
      exact partE_ok o h hl hg args
    · split
      · rename_i hf
        exact bltE_ok o h hg hf args
      · exact je_stuck
    · exact je_stuck
  · exact je_stuck
end
/-! ### comparisons -/
def cmpE (r : Ev) (c : SC) (a : Expr) (ops : List CmpOp) (cs : List Expr) : Env → M T := match ops, cs with
  | [op], [b] => if behindInMarks op b = false then (match cmpF op with
    | some f => mBin f (r.E c a) (r.E c b)
    | none => stuckE) else stuckE
  | [op, op'], [b, d] => if behindInMarks op' d = false then (match cmpF op, cmpF op' with
    | some f, some g => mChain f g (r.E c a) (r.E c b) (r.E c d)
    | _, _ => stuckE) else stuckE
  | _, _ => stuckE
def cmpT (r : Ev) (c : SC) (a : Expr) (ops : List CmpOp) (cs : List Expr) : Env → M Bool := match ops, cs with
  | [op], [b] => if behindInMarks op b = false then (match cmpF op with
    | some f => asB (mBin f (r.E c a) (r.E c b))
    | none => stuckT) else stuckT
  | [op, op'], [b, d] => if behindInMarks op' d = false then (match cmpF op, cmpF op' with
    | some f, some g => asB (mChain f g (r.E c a) (r.E c b) (r.E c d))
    | _, _ => stuckT) else stuckT
  | _, _ => stuckT
section
variable {G : GE} {c : SC} {X : Cx} {R : RC} {W : WX} {e a b tg : Expr} {es : List Expr} {pos gpos p : Pos} {x : Str} {r : Ev}
theorem cmpE_ok (o : EvOk G R r) (h : XOk G R c W X) {ops : List CmpOp} {cs : List Expr} : JE X R W (.Compare a ops cs pos) (cmpE r c a ops cs) := by
  unfold cmpE
  split
  · split
    · rename_i hm
      split
      · rename_i f hf
        exact j_cmp (cmpF_ok h hf) (o.E _ _ _ _ h) (o.E _ _ _ _ h) hm
      · exact je_stuck
    · exact je_stuck
  · split
    · rename_i hm
      split
      · rename_i f g hf hg
        exact j_chain (cmpF_ok h hf) (cmpF_ok h hg) (o.E _ _ _ _ h) (o.E _ _ _ _ h) (o.E _ _ _ _ h) hm
      · exact je_stuck
    · exact je_stuck
  · exact je_stuck
theorem cmpT_ok (o : EvOk G R r) (h : XOk G R c W X) {ops : List CmpOp} {cs : List Expr} : JT X R W (.Compare a ops cs pos) (cmpT r c a ops cs) := by
  unfold cmpT
  split
  · split
    · rename_i hm
      split
      · rename_i f hf
        exact jt_cmp (cmpF_ok h hf) (o.E _ _ _ _ h) (o.E _ _ _ _ h) hm
      · exact jt_stuck
    · exact jt_stuck
  · split
    · rename_i hm
      split
      · rename_i f g hf hg
        exact jt_chain (cmpF_ok h hf) (cmpF_ok h hg) (o.E _ _ _ _ h) (o.E _ _ _ _ h) (o.E _ _ _ _ h) hm
      · exact jt_stuck
    · exact jt_stuck
  · exact jt_stuck
end
/-! ### expressions -/
def stepE (G : GE) (r : Ev) (c : SC) : Expr → Env → M T
  | .Constant v _ _ => cstE v
  | .Name x _ => nameE G c x
  | .BinOp a op b _ => match opF op with
    | some f => mBin f (r.E c a) (r.E c b)
    | none => stuckE
  | .UnaryOp op a _ => match op with
    | .USub => mUn negT (r.E c a)
    | .Not => mNot (r.E c a)
    | _ => stuckE
  | .IfExp t a b _ => mIte (r.T c t) (r.E c a) (r.E c b)
  | .BoolOp op vs _ => boolE r c op vs
  | .Compare a ops cs _ => cmpE r c a ops cs
  | .Subscript a b _ => match b with
    | .Slice lo hi none _ => mSl sliceT (r.E c a) (mPart (lo.map (r.E c))) (mPart (hi.map (r.E c)))
    | _ => if plainIxB b = true then mBin ixA (r.E c a) (r.E c b) else stuckE
  | .List es _ => mLst c.q (evA r c es)
  | .Tuple es _ _ => mTup c.q (evA r c es)
  | .Dict [] [] p => mOf (mDctF (G.tk p.line))
  | .Attribute a f _ => if attrB a = true then mUn (fldC (G.fld f) f) (r.E c a) else stuckE
  | .ListComp elt [⟨tg, it, ifs, 0⟩] scope _ => mOf (lcF G r c elt tg it ifs scope)
  | .ListComp elt [⟨tg, it, ifs, 0⟩, ⟨tg1, it1, ifs1, 0⟩] scope _ => mOf (lcF2 G r c elt tg it ifs tg1 it1 ifs1 scope)
  | .Call f args [] pos => match f with
    | .Name x _ => callE G r c x args
    | .Attribute o m apos => methE G r c o m apos args pos
    | _ => stuckE
  | _ => stuckE
/-- tests -/
def stepT (G : GE) (r : Ev) (c : SC) : Expr → Env → M Bool
  | .UnaryOp .Not a _ => mNotT (r.T c a)
  | .BoolOp op vs _ => boolT r c op vs
  | .Compare a ops cs _ => cmpT r c a ops cs
  | .Constant v j p => mTru (r.E c (.Constant v j p))
  | .Name x p => mTru (r.E c (.Name x p))
  | .Call f args kws p => mTru (r.E c (.Call f args kws p))
  | .Attribute a f p => mTru (r.E c (.Attribute a f p))
  | .Subscript a b p => mTru (r.E c (.Subscript a b p))
  | _ => stuckT
section
variable {G : GE} {c : SC} {X : Cx} {R : RC} {W : WX} {e a b tg : Expr} {es : List Expr} {pos gpos p : Pos} {x : Str} {r : Ev}
theorem jo_part (o : EvOk G R r) (h : XOk G R c W X) : ∀ lo : Option Expr, JO X R W lo (mPart (lo.map (r.E c)))
  | none => jo_none
  | some e => jo_some (o.E _ _ _ _ h)
theorem stepE_ok (o : EvOk G R r) (h : XOk G R c W X) (e : Expr) : JE X R W e (stepE G r c e) := by
  unfold stepE
  split
  · exact cstE_ok
  · exact nameE_ok h
  · split
    · rename_i f hf
      exact j_bin (opF_ok h hf) (o.E _ _ _ _ h) (o.E _ _ _ _ h)
    · exact je_stuck
  · split
    · exact j_un o_neg (o.E _ _ _ _ h)
    · exact j_not (o.E _ _ _ _ h)
    · exact je_stuck
  · exact j_ite (o.T _ _ _ _ h) (o.E _ _ _ _ h) (o.E _ _ _ _ h)
  · exact boolE_ok o h _
  · exact cmpE_ok o h
  · split
    · exact j_slice (o_slice h.K) (o.E _ _ _ _ h) (jo_part o h _) (jo_part o h _)
    · split
      · rename_i hp
        exact j_ix (o_ixA h.K h.u1) (o.E _ _ _ _ h) (o.E _ _ _ _ h) (plainIx_ok hp)
      · exact je_stuck
  · exact j_lst (evA_ok o h _)
  · exact j_tup (evA_ok o h _)
  · rename_i p
    cases G.tk p.line with
    | true => exact j_of j_dctT
    | false => exact j_of j_dctK
  · split
    · rename_i hb
      exact j_fld h.K (h.g.fld _) (o.E _ _ _ _ h) (attrB_ok hb)
    · exact je_stuck
  · exact j_of (lcF_ok o h)
  · exact j_of (lcF2_ok o h)
  · split
    · exact callE_ok o h _
    · exact methE_ok o h _
    · exact je_stuck
  · exact je_stuck
theorem stepT_ok (o : EvOk G R r) (h : XOk G R c W X) (e : Expr) : JT X R W e (stepT G r c e) := by
  unfold stepT
  split
  · exact jt_not (o.T _ _ _ _ h)
  · exact jt_w (boolT_ok o h _)
  · exact cmpT_ok o h
  · exact jt_tru h.K (o.E _ _ _ _ h)
  · exact jt_tru h.K (o.E _ _ _ _ h)
  · exact jt_tru h.K (o.E _ _ _ _ h)
  · exact jt_tru h.K (o.E _ _ _ _ h)
  · exact jt_tru h.K (o.E _ _ _ _ h)
  · exact jt_stuck
end
end TL

set_option maxHeartbeats 4000000
namespace TL
open PySem PySem.Spec PyProof.Rows L2

/-! ### assigns -/
def isComp : Expr → Bool
  | .ListComp _ _ _ _ => true
  | .SetComp _ _ _ _ => true
  | .DictComp _ _ _ _ _ => true
  | _ => false
theorem sw_no {v : Expr} {tg : Option Expr} {line : Nat} {env : PySem.Env} (h : isComp v = false) : swapsWith v tg line env = pure false := by
  cases v <;> first | rfl | cases h
def freshF (G : GE) (r : Ev) (c : SC) (line : Nat) : Expr → Option (Env → M MO)
  | .List es _ => if G.new line = true then some (mLstF c.q (evA r c es)) else none
  | .Dict [] [] p => if G.new line = true then some (mDctF (G.tk p.line)) else none
  | .ListComp elt [⟨tg, it, ifs, 0⟩] scope _ => if G.new line = true then some (lcF G r c elt tg it ifs scope) else none
  | .ListComp elt [⟨tg, it, ifs, 0⟩, ⟨tg1, it1, ifs1, 0⟩] scope _ => if G.new line = true then some (lcF2 G r c elt tg it ifs tg1 it1 ifs1 scope) else none
  | .BinOp (.List es lp) .Mult b _ => if G.new line = true then some (mMulF (r.E c (.List es lp)) (r.E c b)) else none
  | _ => none
def evG (G : GE) (r : Ev) (c : SC) (line : Nat) : List Expr → Env → M (List T)
  | [] => mNil
  | e :: es => if isStar e = true then stuckA else match freshF G r c line e with
    | some ff => mConsN ff (evG G r c line es)
    | none => mCons (r.E c e) (evG G r c line es)
def swC (c : SC) (x : Str) (p2 p : Pos) (scope : Scope) : Bool := isLocal c.sc x && p2.line == p.line && !(scope.names.any fun (n, k) => n == x && (k == .local || k == .cell))
def asgN (G : GE) (r : Ev) (c : SC) (x : Str) (p2 : Pos) (v : Expr) (pos : Pos) : Sm := match slotAt x c.N with
  | none => mNever
  | some i => if locB c.sc x = true ∧ fnB c x = true then
      (match v with
      | .ListComp elt [⟨tg, it, ifs, 0⟩] scope p => if dkE G c it ≠ none then mNever else if G.new pos.line = true then mNew i (lcF G r c elt tg it ifs scope) else mSet i (mOf (lcF G r c elt tg it ifs scope))
      | .ListComp elt [⟨tg, it, ifs, 0⟩, ⟨tg1, it1, ifs1, 0⟩] scope p => if G.new pos.line = true then mNew i (lcF2 G r c elt tg it ifs tg1 it1 ifs1 scope) else mSet i (mOf (lcF2 G r c elt tg it ifs tg1 it1 ifs1 scope))
      | v => if isComp v = true then mNever else match freshF G r c pos.line v with
        | some ff => mNew i ff
        | none => mSet i (r.E c v)) else mNever
section
variable {G : GE} {c : SC} {X : Cx} {R : RC} {W : WX} {e a b tg : Expr} {es : List Expr} {pos gpos p p2 : Pos} {x : Str} {r : Ev}
theorem XOk.bk (h : XOk G R c W X) : X.env.blockKind = .function := by
  unfold PySem.Env.blockKind
  rw [h.sc, h.kind]
  rfl
theorem freshF_ok (o : EvOk G R r) (h : XOk G R c W X) {line : Nat} {ff : Env → M MO} (q : freshF G r c line e = some ff) : JF X R W e ff := by
  unfold freshF at q
  split at q
  · split at q
    · cases q; exact j_lstF (evA_ok o h _)
    · cases q
  · split at q
    · cases q
      rename_i p _
      cases G.tk p.line with
      | true => exact j_dctT
      | false => exact j_dctK
    · cases q
  · split at q
    · cases q; exact lcF_ok o h
    · cases q
  · split at q
    · cases q; exact lcF2_ok o h
    · cases q
  · split at q
    · cases q; exact j_mulF (o.E _ _ _ _ h) (o.E _ _ _ _ h)
    · cases q
  · cases q
theorem jg_stuck : JG X R W es stuckA := ⟨fun _ _ _ _ _ _ _ ⟨_, _, _, _, _, k⟩ => k.elim⟩
theorem evG_ok (o : EvOk G R r) (h : XOk G R c W X) {line : Nat} : ∀ es, JG X R W es (evG G r c line es)
  | [] => jg_nil
  | e :: es => by
    unfold evG
    split
    · exact jg_stuck
    · rename_i hs
      split
      · rename_i ff hf
        exact jg_consN (freshF_ok o h hf) (evG_ok o h es) (star_cons (by simpa using hs))
      · exact jg_cons (o.E _ _ _ _ h) (evG_ok o h es) (star_cons (by simpa using hs))
theorem sw_lc (h : XOk G R c W X) {elt : Expr} {gs : List Comprehension} {scope : Scope} {line : Nat} : swapsWith (.ListComp elt gs scope p) (some (.Name x p2)) line X.env = pure (swC c x p2 p scope) := by
  unfold swapsWith swC isLocal
  simp only [h.bk]
  show pure (_ && (X.env.scope.names.lookup x == some .local) && _ && _) = _
  rw [h.sc]
  congr 1
  cases q : c.sc.names.lookup x with
  | none => rfl
  | some k => cases k <;> rfl
theorem js_newLc' (o : EvOk G R r) (h : XOk G R c W X) {i : Nat} {elt tg it : Expr} {ifs : List Expr} {scope : Scope} (hd : dkE G c it = none) (sw : swC c x p2 p scope = true) (hi : slotAt x c.N = some i) :
    JS X R W (.Assign [.Name x p2] (.ListComp elt [⟨tg, it, ifs, 0⟩] scope p) pos) (mNew i (lcF G r c elt tg it ifs scope)) := by
  have nd : X.N.Nodup := by rw [h.N]; exact h.nd
  have hi' : X.N[i]? = some x := by rw [h.N]; exact slotAt_ok hi
  have hloc : X.env.scope.names.lookup x = some .local := by
    unfold swC at sw
    simp only [Bool.and_eq_true] at sw
    rw [h.sc]
    exact isLocal_ok sw.1.1
  unfold lcF
  split
  · rename_i us b hb
    split
    · rename_i hq
      obtain ⟨h1, h2, h3⟩ := hq
      have bk := blkOk_by h1
      simp only [hd]
      exact js_newLc h.calm nd hi' hloc (by rw [sw_lc h, sw]) (by rw [h.N, h.sc]; exact bk) rfl h2 (itE_ok o h it) (fun s H C cl fp => tgB_ok (h.blk bk.kind s H C cl fp) _ _ _ _ hb) (fun s H C cl fp => ifsE_ok o (h.blk bk.kind s H C cl fp) ifs) (fun s H C cl fp => o.E _ _ _ _ (h.blk bk.kind s H C cl fp)) (fold_set h3)
    · exact js_eq js_never fun _ _ => rfl
  · exact js_eq js_never fun _ _ => rfl
theorem js_setLc' (o : EvOk G R r) (h : XOk G R c W X) {i : Nat} {elt tg it : Expr} {ifs : List Expr} {scope : Scope} (hd : dkE G c it = none) (sw : swC c x p2 p scope = true) (hi : slotAt x c.N = some i) :
    JS X R W (.Assign [.Name x p2] (.ListComp elt [⟨tg, it, ifs, 0⟩] scope p) pos) (mSet i (mOf (lcF G r c elt tg it ifs scope))) := by
  have nd : X.N.Nodup := by rw [h.N]; exact h.nd
  have hi' : X.N[i]? = some x := by rw [h.N]; exact slotAt_ok hi
  have hloc : X.env.scope.names.lookup x = some .local := by
    unfold swC at sw
    simp only [Bool.and_eq_true] at sw
    rw [h.sc]
    exact isLocal_ok sw.1.1
  unfold lcF
  split
  · rename_i us b hb
    split
    · rename_i hq
      obtain ⟨h1, h2, h3⟩ := hq
      have bk := blkOk_by h1
      simp only [hd]
      exact js_setLc h.calm nd hi' hloc (by rw [sw_lc h, sw]) (by rw [h.N, h.sc]; exact bk) rfl h2 (itE_ok o h it) (fun s H C cl fp => tgB_ok (h.blk bk.kind s H C cl fp) _ _ _ _ hb) (fun s H C cl fp => ifsE_ok o (h.blk bk.kind s H C cl fp) ifs) (fun s H C cl fp => o.E _ _ _ _ (h.blk bk.kind s H C cl fp)) (fold_set h3)
    · exact js_eq js_never fun _ _ => rfl
  · exact js_eq js_never fun _ _ => rfl
theorem js_newLc2' (o : EvOk G R r) (h : XOk G R c W X) {i : Nat} {elt tg it tg1 it1 : Expr} {ifs ifs1 : List Expr} {scope : Scope} (sw : swC c x p2 p scope = true) (hi : slotAt x c.N = some i) :
    JS X R W (.Assign [.Name x p2] (.ListComp elt [⟨tg, it, ifs, 0⟩, ⟨tg1, it1, ifs1, 0⟩] scope p) pos) (mNew i (lcF2 G r c elt tg it ifs tg1 it1 ifs1 scope)) := by
  have nd : X.N.Nodup := by rw [h.N]; exact h.nd
  have hi' : X.N[i]? = some x := by rw [h.N]; exact slotAt_ok hi
  have hloc : X.env.scope.names.lookup x = some .local := by
    unfold swC at sw
    simp only [Bool.and_eq_true] at sw
    rw [h.sc]
    exact isLocal_ok sw.1.1
  unfold lcF2
  split
  · rename_i us b us1 b1 hb hb1
    split
    · rename_i hq
      obtain ⟨h1, h2, h21, h3, h31, hd⟩ := hq
      have bk := blkOk_by h1
      exact js_newLc2 h.calm nd hi' hloc (by rw [sw_lc h, sw]) (by rw [h.N, h.sc]; exact bk) rfl h2 h21 (itE_ok o h it) (fun s H C cl fp => tgB_ok (h.blk bk.kind s H C cl fp) _ _ _ _ hb) (fun s H C cl fp => ifsE_ok o (h.blk bk.kind s H C cl fp) ifs)
        (fun s H C cl fp => itE_ok o (h.blk bk.kind s H C cl fp) it1) (fun s H C cl fp => tgB_ok (h.blk bk.kind s H C cl fp) _ _ _ _ hb1) (fun s H C cl fp => ifsE_ok o (h.blk bk.kind s H C cl fp) ifs1) (fun s H C cl fp => o.E _ _ _ _ (h.blk bk.kind s H C cl fp)) (fold_set h3) (fun env => fold_set h31)
    · exact js_eq js_never fun _ _ => rfl
  · exact js_eq js_never fun _ _ => rfl
theorem js_setLc2' (o : EvOk G R r) (h : XOk G R c W X) {i : Nat} {elt tg it tg1 it1 : Expr} {ifs ifs1 : List Expr} {scope : Scope} (sw : swC c x p2 p scope = true) (hi : slotAt x c.N = some i) :
    JS X R W (.Assign [.Name x p2] (.ListComp elt [⟨tg, it, ifs, 0⟩, ⟨tg1, it1, ifs1, 0⟩] scope p) pos) (mSet i (mOf (lcF2 G r c elt tg it ifs tg1 it1 ifs1 scope))) := by
  have nd : X.N.Nodup := by rw [h.N]; exact h.nd
  have hi' : X.N[i]? = some x := by rw [h.N]; exact slotAt_ok hi
  have hloc : X.env.scope.names.lookup x = some .local := by
    unfold swC at sw
    simp only [Bool.and_eq_true] at sw
    rw [h.sc]
    exact isLocal_ok sw.1.1
  unfold lcF2
  split
  · rename_i us b us1 b1 hb hb1
    split
    · rename_i hq
      obtain ⟨h1, h2, h21, h3, h31, hd⟩ := hq
      have bk := blkOk_by h1
      exact js_setLc2 h.calm nd hi' hloc (by rw [sw_lc h, sw]) (by rw [h.N, h.sc]; exact bk) rfl h2 h21 (itE_ok o h it) (fun s H C cl fp => tgB_ok (h.blk bk.kind s H C cl fp) _ _ _ _ hb) (fun s H C cl fp => ifsE_ok o (h.blk bk.kind s H C cl fp) ifs)
        (fun s H C cl fp => itE_ok o (h.blk bk.kind s H C cl fp) it1) (fun s H C cl fp => tgB_ok (h.blk bk.kind s H C cl fp) _ _ _ _ hb1) (fun s H C cl fp => ifsE_ok o (h.blk bk.kind s H C cl fp) ifs1) (fun s H C cl fp => o.E _ _ _ _ (h.blk bk.kind s H C cl fp)) (fold_set h3) (fun env => fold_set h31)
    · exact js_eq js_never fun _ _ => rfl
  · exact js_eq js_never fun _ _ => rfl
theorem asgN_ok (o : EvOk G R r) (h : XOk G R c W X) (v : Expr) : JS X R W (.Assign [.Name x p2] v pos) (asgN G r c x p2 v pos) := by
  unfold asgN
  split
  · exact js_never
  · rename_i i hi
    have nd : X.N.Nodup := by rw [h.N]; exact h.nd
    have hi' : X.N[i]? = some x := by rw [h.N]; exact slotAt_ok hi
    split
    · rename_i hh
      have hl : Loc X.env.scope x := by rw [h.sc]; exact locB_ok hh.1
      have hf := fnB_ok h hh.2
      split
      · rename_i elt tg it ifs scope p
        by_cases hd0 : dkE G c it ≠ none
        · rw [if_pos hd0]
          exact js_never
        rw [if_neg hd0]
        have hd : dkE G c it = none := Classical.not_not.mp hd0
        by_cases sw : swC c x p2 p scope = true
        · split
          · exact js_newLc' o h hd sw hi
          · exact js_setLc' o h hd sw hi
        · have sw' : swapsWith (.ListComp elt [⟨tg, it, ifs, 0⟩] scope p) (some (.Name x p2)) pos.line X.env = pure false := by
            rw [sw_lc h]
            simp only [Bool.not_eq_true] at sw
            rw [sw]
          split
          · exact js_new nd hi' hl (lcF_ok o h) sw' hf
          · exact js_set nd hi' hl (j_of (lcF_ok o h)) sw' hf
      · rename_i elt tg it ifs tg1 it1 ifs1 scope p
        by_cases sw : swC c x p2 p scope = true
        · split
          · exact js_newLc2' o h sw hi
          · exact js_setLc2' o h sw hi
        · have sw' : swapsWith (.ListComp elt [⟨tg, it, ifs, 0⟩, ⟨tg1, it1, ifs1, 0⟩] scope p) (some (.Name x p2)) pos.line X.env = pure false := by
            rw [sw_lc h]
            simp only [Bool.not_eq_true] at sw
            rw [sw]
          split
          · exact js_new nd hi' hl (lcF2_ok o h) sw' hf
          · exact js_set nd hi' hl (j_of (lcF2_ok o h)) sw' hf
      · split
        · exact js_never
        · rename_i hc
          have sw' := sw_no (tg := some (.Name x p2)) (line := pos.line) (env := X.env) (show isComp v = false by simpa using hc)
          split
          · rename_i ff hff
            exact js_new nd hi' hl (freshF_ok o h hff) sw' hf
          · exact js_set nd hi' hl (o.E _ _ _ _ h) sw' hf
    · exact js_never
end
/-! several names at once -/
def swB (c : SC) (ts vs : List Expr) : Option (Option (List Str)) :=
  if (!(ts.length == 2 || ts.length == 3) || vs.length != ts.length) = true then some none
  else if (vs.any fun | .Starred .. => true | _ => false) = true then some none
  else if ((ts.filterMap fun
    | .Name id pos => if c.sc.names.lookup id == some .local && pos.line == (ts.head?.map (·.pos.line)).getD 0 then some id else none
    | _ => none).length != ts.length || (ts.filterMap fun
    | .Name id pos => if c.sc.names.lookup id == some .local && pos.line == (ts.head?.map (·.pos.line)).getD 0 then some id else none
    | _ => none).eraseDups.length != (ts.filterMap fun
    | .Name id pos => if c.sc.names.lookup id == some .local && pos.line == (ts.head?.map (·.pos.line)).getD 0 then some id else none
    | _ => none).length) = true then some none
  else if vs.all (foldedForSure 8) = true then some none
  else if vs.all (constantsAlone 8) = true then none else some (some (ts.filterMap fun
    | .Name id pos => if c.sc.names.lookup id == some .local && pos.line == (ts.head?.map (·.pos.line)).getD 0 then some id else none
    | _ => none))
def nmL (c : SC) : List Expr → Option (List Nat)
  | [] => some []
  | .Name x _ :: es => if locB c.sc x = true ∧ fnB c x = true then (match slotAt x c.N, nmL c es with
    | some i, some is => some (i :: is)
    | _, _ => none) else none
  | _ :: _ => none
def parS (G : GE) (r : Ev) (c : SC) (tgs es : List Expr) (pos : Pos) : Sm := match swB c tgs es with
  | some none => (match nmL c tgs with
    | some is => if is.length ≤ 1000 then mPar is (evG G r c pos.line es) else mNever
    | none => mNever)
  | some (some _) => (match tgs, es with
    | [.Name x px, .Name y py], [a, b] => (match slotAt x c.N, slotAt y c.N with
      | some i, some j => if i ≠ j ∧ isLocal c.sc x = true ∧ isLocal c.sc y = true ∧ swB c [.Name x px, .Name y py] [a, b] = some (some [x, y]) then mPar [i, j] (evG G r c pos.line [a, b]) else mNever
      | _, _ => mNever)
    | [.Name x px, .Name y py, .Name z pz], [a, b, d] => (match slotAt x c.N, slotAt y c.N, slotAt z c.N with
      | some i, some j, some l => if i ≠ j ∧ i ≠ l ∧ j ≠ l ∧ isLocal c.sc x = true ∧ isLocal c.sc y = true ∧ isLocal c.sc z = true ∧ swB c [.Name x px, .Name y py, .Name z pz] [a, b, d] = some (some [x, y, z]) then mPar [i, j, l] (evG G r c pos.line [a, b, d]) else mNever
      | _, _, _ => mNever)
    | _, _ => mNever)
  | none => mNever
section
variable {G : GE} {c : SC} {X : Cx} {R : RC} {W : WX} {e a b tg : Expr} {es ts vs : List Expr} {pos gpos p p2 pt pt2 : Pos} {x : Str} {r : Ev} {k1 k2 : Nat}
theorem swB_ok (h : XOk G R c W X) {o : Option (List Str)} (q : swB c ts vs = some o) : swappedStores [.Tuple ts k1 pt] (.Tuple vs k2 pt2) X.env = pure o := by
  unfold swB at q
  have hk : ∀ id, X.env.kindOf id = c.sc.names.lookup id := fun id => by
    show X.env.scope.names.lookup id = _
    rw [h.sc]
  unfold swappedStores
  simp only [h.bk, hk]
  split at q
  · rename_i h1
    cases q
    exact if_pos (by simpa using h1)
  · rename_i h1
    refine Eq.trans (if_neg (by simpa using h1)) ?_
    split at q
    · rename_i h2
      cases q
      exact if_pos h2
    · rename_i h2
      refine Eq.trans (if_neg h2) ?_
      split at q
      · rename_i h3
        cases q
        exact if_pos h3
      · rename_i h3
        refine Eq.trans (if_neg h3) ?_
        split at q
        · rename_i h4
          cases q
          exact if_pos h4
        · rename_i h4
          refine Eq.trans (if_neg h4) ?_
          split at q
          · cases q
          · rename_i h5
            cases q
            exact if_neg h5
theorem nmL_ok (h : XOk G R c W X) : ∀ {es : List Expr} {is : List Nat}, nmL c es = some is → NmOk X es is ∧ noStar es = true ∧ is.length = es.length
  | [], _, q => by cases q; exact ⟨.nil, rfl, rfl⟩
  | e :: es, is, q => by
    unfold nmL at q
    split at q
    · cases ‹_ :: _ = []›
    · rename_i x px es' heq
      cases heq
      split at q
      · rename_i hh
        split at q
        · rename_i i is' hi his
          cases q
          obtain ⟨a, b, d⟩ := nmL_ok h his
          exact ⟨.cons (by rw [h.N]; exact slotAt_ok hi) (by rw [h.sc]; exact locB_ok hh.1) (fnB_ok h hh.2) a rfl, by simpa [noStar, isStar] using b, by simp [d]⟩
        · cases q
      · cases q
    · cases q
theorem parS_ok (o : EvOk G R r) (h : XOk G R c W X) : JS X R W (.Assign [.Tuple ts k1 pt] (.Tuple vs k2 pt2) pos) (parS G r c ts vs pos) := by
  unfold parS
  have nd : X.N.Nodup := by rw [h.N]; exact h.nd
  split
  · rename_i hsw
    split
    · rename_i is his
      obtain ⟨n1, n2, n3⟩ := nmL_ok h his
      split
      · rename_i hl
        exact js_parT h.calm nd n1 (evG_ok o h _) (assign_len _) n3 (by rw [← n3]; exact hl) (assign_star _ n2) rfl (swB_ok h hsw) rfl
      · exact js_never
    · exact js_never
  · split
    · split
      · rename_i i j hi hj
        split
        · rename_i hh
          obtain ⟨h1, h2, h3, h4⟩ := hh
          exact js_par h.calm nd (by rw [h.N]; exact slotAt_ok hi) (by rw [h.N]; exact slotAt_ok hj) h1 (by rw [h.sc]; exact isLocal_ok h2) (by rw [h.sc]; exact isLocal_ok h3) (evG_ok o h _) (swB_ok h h4) rfl
        · exact js_never
      · exact js_never
    · split
      · rename_i i j l hi hj hl
        split
        · rename_i hh
          obtain ⟨h1, h2, h3, h4, h5, h6, h7⟩ := hh
          exact js_par3 h.calm nd (by rw [h.N]; exact slotAt_ok hi) (by rw [h.N]; exact slotAt_ok hj) (by rw [h.N]; exact slotAt_ok hl) h1 h2 h3 (by rw [h.sc]; exact isLocal_ok h4) (by rw [h.sc]; exact isLocal_ok h5) (by rw [h.sc]; exact isLocal_ok h6) (evG_ok o h _) (swB_ok h h7) rfl
        · exact js_never
      · exact js_never
    · exact js_never
  · exact js_never
end
end TL

set_option maxHeartbeats 4000000
namespace TL
open PySem PySem.Spec PyProof.Rows L2

/-! ### stores -/
theorem sw_attr {v tg : Expr} {line : Nat} {env : PySem.Env} (h : ∀ x p, tg ≠ .Name x p) : swapsWith v (some tg) line env = pure false := by
  unfold swapsWith
  split
  · split
    · rename_i e; cases e
    · rename_i x p e; cases e; exact absurd rfl (h x p)
    · rfl
  · rfl
theorem asg_sub {e i : Expr} {tpos : Pos} {env : PySem.Env} (h : plainIxB i = true) : ∀ v, assign (.Subscript e i tpos) env v = (do
      let ov ← holding [v] (eval e env)
      let iv ← holding [v, ov] (eval i env)
      standAt tpos
      holding [v, ov, iv] (setItem ov iv v)
      release [v, ov, iv] []) := by
  intro v
  cases i <;> first | rfl | (simp [plainIxB] at h; done)
theorem sw_sole {v tg : Expr} {line : Nat} {env : PySem.Env} (h : ∀ x p, tg ≠ .Name x p) : swapsWithSole [tg] v line env = pure false := by
  have e : swapsWithSole [tg] v line env = swapsWith v (some tg) line env := rfl
  rw [e]
  exact sw_attr h
theorem swp_none {ts : List Expr} {k : Nat} {p : Pos} {v : Expr} {env : PySem.Env} (hv : ∀ vs k pos, v = Expr.Tuple vs k pos → False) : swappedStores [.Tuple ts k p] v env = pure none := by
  cases v <;> first | rfl | exact (hv _ _ _ rfl).elim
theorem swp_sub {a b : Expr} {p : Pos} {v : Expr} {env : PySem.Env} : swappedStores [.Subscript a b p] v env = pure none := by
  cases v <;> rfl
def mSubD (P : Nat) (fo fi fv : Env → M T) : Sm := fun ρ => eM (fv ρ) fun v => eM (fo ρ) fun o => eM (fi ρ) fun i => eM (keepT P v) fun y μ => match liveL μ o with
  | some (n, ts) => (match i with
    | .int k => (match ixN ts.length k with
      | some j => some (.nx ρ, μ.set n (.lst (ts.set j y), true))
      | none => none)
    | _ => none)
  | none => (match liveD μ o, look μ i with
    | some (n, tk, kvs), some i' => (match dputT tk kvs i' y with
      | some kvs' => if kvs.length < 1000000 then some (.nx ρ, μ.set n (.dct tk kvs', true)) else none
      | none => none)
    | _, _ => none)
theorem mSubD_eq {P : Nat} {fo fi fv : Env → M T} (ρ : Env) (μ : Mu) : mSubD P fo fi fv ρ μ = none ∨ mSubD P fo fi fv ρ μ = mSubL P fo fi fv ρ μ ∨ mSubD P fo fi fv ρ μ = mPutD P fo fi fv ρ μ := by
  unfold mSubD mSubL mPutD eM
  cases fv ρ μ with
  | none => exact .inl rfl
  | some v =>
    obtain ⟨v, μ1⟩ := v
    cases v with
    | ex x => exact .inr (.inl rfl)
    | ok v =>
      simp only
      cases fo ρ μ1 with
      | none => exact .inl rfl
      | some o =>
        obtain ⟨o, μ2⟩ := o
        cases o with
        | ex x => exact .inr (.inl rfl)
        | ok o =>
          simp only
          cases fi ρ μ2 with
          | none => exact .inl rfl
          | some i =>
            obtain ⟨i, μ3⟩ := i
            cases i with
            | ex x => exact .inr (.inl rfl)
            | ok i =>
              simp only
              cases keepT P v μ3 with
              | none => exact .inl rfl
              | some y =>
                obtain ⟨y, μ4⟩ := y
                cases y with
                | ex x => exact .inr (.inl rfl)
                | ok y =>
                  simp only
                  cases liveL μ4 o with
                  | none => exact .inr (.inr rfl)
                  | some nt =>
                    refine .inr (.inl ?_)
                    cases i <;> rfl
def iaddT : T → T → Option T
  | .int i, .int j => some (.int (i + j))
  | .str a, .str b => if a.length + b.length ≤ 1000000 then some (.str (a ++ b)) else none
  | _, _ => none
def imulT : T → T → Option T
  | .int i, .int j => if CMul i j then some (.int (i * j)) else none
  | _, _ => none
def ifdivT : T → T → Option T
  | .int i, .int j => if CDiv i j then some (.int (i / j)) else none
  | _, _ => none
def imodT : T → T → Option T
  | .int i, .int j => if 0 < j then some (.int (i % j)) else none
  | _, _ => none
def iopF : Operator → Option (T → T → Option T)
  | .Add => some iaddT
  | .Sub => some subT
  | .Mult => some imulT
  | .FloorDiv => some ifdivT
  | .Mod => some imodT
  | _ => none
def liveAt (i : Nat) (ρ : Env) (μ : Mu) : Bool := match ρ[i]? with
  | some (some t) => (liveL μ t).isSome
  | _ => false
def evSs (r : Ev) (c : SC) : List Stmt → Sm
  | [] => mSkip
  | [s] => r.S c s
  | s :: ss => mSeq (r.S c s) (evSs r c ss)
section
variable {G : GE} {c : SC} {X : Cx} {R : RC} {W : WX} {e a b tg e2 e3 : Expr} {es ts vs : List Expr} {pos gpos p p2 pt pt2 tpos : Pos} {x : Str} {r : Ev} {k1 k2 : Nat}
theorem iopF_ok (h : XOk G R c W X) {op : Operator} {f : T → T → Option T} (q : iopF op = some f) : OpR X (inplaceOp op) (rOp2 R f) := by
  cases op <;> cases q
  · refine (iop_add.or iop_add_str).imp fun x y H Q ⟨ex, tx, ty, t, hx, r1, r2, e, k⟩ => ?_
    unfold iaddT at e
    split at e
    · cases e; cases r1; cases r2
      exact .inl ⟨_, _, rfl, rfl, k _ _ (Grow.refl _) rfl⟩
    · split at e
      · rename_i hl
        cases e; cases r1; cases r2
        exact .inr ⟨_, _, rfl, rfl, line6 hl, k _ _ (Grow.refl _) rfl⟩
      · cases e
    · cases e
  · refine iop_sub.imp fun x y H Q ⟨ex, tx, ty, t, hx, r1, r2, e, k⟩ => ?_
    unfold subT at e
    split at e
    · cases e; cases r1; cases r2
      exact ⟨_, _, rfl, rfl, k _ _ (Grow.refl _) rfl⟩
    · cases e
  · refine iop_mul.imp fun x y H Q ⟨ex, tx, ty, t, hx, r1, r2, e, k⟩ => ?_
    unfold imulT at e
    split at e
    · split at e
      · rename_i hc
        cases e; cases r1; cases r2
        exact ⟨_, _, rfl, rfl, hc, k _ _ (Grow.refl _) rfl⟩
      · cases e
    · cases e
  · refine iop_mod.imp fun x y H Q ⟨ex, tx, ty, t, hx, r1, r2, e, k⟩ => ?_
    unfold imodT at e
    split at e
    · split at e
      · rename_i hc
        cases e; cases r1; cases r2
        exact ⟨_, _, rfl, rfl, hc, k _ _ (Grow.refl _) rfl⟩
      · cases e
    · cases e
  · refine iop_fdiv.imp fun x y H Q ⟨ex, tx, ty, t, hx, r1, r2, e, k⟩ => ?_
    unfold ifdivT at e
    split at e
    · split at e
      · rename_i hc
        cases e; cases r1; cases r2
        exact ⟨_, _, rfl, rfl, hc, k _ _ (Grow.refl _) rfl⟩
      · cases e
    · cases e
def asgS (G : GE) (r : Ev) (c : SC) (tg v : Expr) (pos : Pos) : Sm := match tg with
  | .Name x p2 => asgN G r c x p2 v pos
  | .Tuple ts _ _ => (match v with
    | .Tuple vs _ _ => (match swB c ts vs, nmL c ts with
      | some none, none => (match tgB c 4 tg with
        | some (_, b) => mAsg b (r.E c v)
        | none => mNever)
      | _, _ => parS G r c ts vs pos)
    | v => match tgB c 4 tg with
      | some (_, b) => mAsg b (r.E c v)
      | none => mNever)
  | .Attribute o f _ => if c.cls ∈ G.fld f then mFldS c.q c.cls f (r.E c o) (r.E c v) else mNever
  | .Subscript o i _ => if plainIxB i = true then mSubD c.q (r.E c o) (r.E c i) (r.E c v) else mNever
  | _ => mNever
theorem asgS_ok (o : EvOk G R r) (h : XOk G R c W X) (tg v : Expr) : JS X R W (.Assign [tg] v pos) (asgS G r c tg v pos) := by
  unfold asgS
  split
  · exact asgN_ok o h v
  · split
    · split
      · rename_i hsw _
        split
        · rename_i us b hb
          exact js_asg (o.E _ _ _ _ h) (tgB_ok h _ _ _ _ hb) (sw_sole (fun x p z => Expr.noConfusion z)) (swB_ok h hsw) (by rfl)
        · exact js_never
      · exact parS_ok o h
    · rename_i hv
      split
      · rename_i us b hb
        exact js_asg (o.E _ _ _ _ h) (tgB_ok h _ _ _ _ hb) (sw_sole (fun x p z => Expr.noConfusion z)) (swp_none hv) (by rfl)
      · exact js_never
  · split
    · rename_i hc
      exact js_fld h.K (fun c' hc' => by rw [List.mem_singleton] at hc'; subst hc'; exact h.g.fld _ _ hc) (o.E _ _ _ _ h) (o.E _ _ _ _ h) (sw_attr (fun x p z => Expr.noConfusion z))
    · exact js_never
  · split
    · rename_i hp
      refine js_any fun ρ μ => ?_
      rcases mSubD_eq (P := c.q) (fo := r.E c _) (fi := r.E c _) (fv := r.E c v) ρ μ with q | q | q
      · exact .inl q
      · refine .inr ⟨_, js_subL (o.E _ _ _ _ h) (o.E _ _ _ _ h) (o.E _ _ _ _ h) (asg_sub hp) (sw_sole (fun x p z => Expr.noConfusion z)) swp_sub (by rfl), q⟩
      · exact .inr ⟨_, js_put h.u1 (o.E _ _ _ _ h) (o.E _ _ _ _ h) (o.E _ _ _ _ h) (sw_attr (fun x p z => Expr.noConfusion z)), q⟩
    · exact js_never
  · exact js_never
/-- name op= e -/
def augS (r : Ev) (c : SC) (x : Str) (op : Operator) (v : Expr) : Sm := match slotAt x c.N with
  | none => mNever
  | some i => if locB c.sc x = true ∧ fnB c x = true then (match iopF op with
    | some f => (match op with
      | .Add => fun ρ μ => if liveAt i ρ μ = true then mExt i c.q (r.E c v) ρ μ else mAug i f (r.E c v) ρ μ
      | _ => mAug i f (r.E c v))
    | none => mNever) else mNever
theorem augS_ok (o : EvOk G R r) (h : XOk G R c W X) {op : Operator} (v : Expr) : JS X R W (.AugAssign (.Name x p2) op v pos) (augS r c x op v) := by
  unfold augS
  have nd : X.N.Nodup := by rw [h.N]; exact h.nd
  split
  · exact js_never
  · rename_i i hi
    have hi' : X.N[i]? = some x := by rw [h.N]; exact slotAt_ok hi
    split
    · rename_i hh
      have hl : Loc X.env.scope x := by rw [h.sc]; exact locB_ok hh.1
      have hf := fnB_ok h hh.2
      split
      · rename_i f hiop
        split
        · exact js_case (js_ext nd hi' hl (o.E _ _ _ _ h) hf) (js_aug nd hi' hl (o.E _ _ _ _ h) (iopF_ok h hiop) hf)
        · exact js_aug nd hi' hl (o.E _ _ _ _ h) (iopF_ok h hiop) hf
      · exact js_never
    · exact js_never
theorem evSs_ok (o : EvOk G R r) (h : XOk G R c W X) : ∀ ss, JSs X R W ss (evSs r c ss)
  | [] => js_nil
  | [s] => js_one (o.S _ _ _ _ h)
  | s :: s2 :: ss => js_cons (o.S _ _ _ _ h) (evSs_ok o h (s2 :: ss))
/-- a value dropped -/
def exprS (G : GE) (r : Ev) (c : SC) (e : Expr) : Sm := match e with
  | .Constant (.str _) _ _ => mSkip
  | .Call (.Attribute o m apos) [a] [] cp => if m = "append" ∧ G.meth m = [] ∧ attrB o = true ∧ isStar a = false ∧ (apos.endLine == cp.line) = true then mApp c.q (r.E c o) (r.E c a)
      else mDrop (r.E c e)
  | e => if isComp e = true then mNever else mDrop (r.E c e)
theorem exprS_ok (o : EvOk G R r) (h : XOk G R c W X) (e : Expr) : JS X R W (.Expr e pos) (exprS G r c e) := by
  unfold exprS
  split
  · exact js_doc
  · split
    · rename_i hh
      obtain ⟨rfl, h1, h2, h3, h4⟩ := hh
      exact js_append (o.E _ _ _ _ h) (o.E _ _ _ _ h) h.K (attrB_ok h2) (hfew_ok (by simp [noStar, h3]) (by simp)) h4 (star_cons h3) (by rfl) (by rfl)
    · exact js_expr (o.E _ _ _ _ h) (by rfl)
  · split
    · exact js_never
    · rename_i hc
      exact js_expr (o.E _ _ _ _ h) (sw_no (by simpa using hc))
end
/-! l[i] op= v, d[k] op= v -/
def kAugL (P : Nat) (f : T → T → Option T) (fv : Env → M T) (ρ : Env) (o i : T) (μ : Mu) : Option (SR × Mu) := match liveL μ o, i with
  | some (_, ts), .int k => if 0 ≤ k ∧ k < 1000000 then (match ts[k.toNat]? with
    | some x => eM ((fv ρ).bind fun y => op2 f x y) (fun z => eM (keepT P z) fun w μ => match liveL μ o with
      | some (n, us) => if k.toNat < us.length then some (.nx ρ, μ.set n (.lst (us.set k.toNat w), true)) else none
      | none => none) μ
    | none => none) else none
  | _, _ => none
def kAugD (P : Nat) (f : T → T → Option T) (fv : Env → M T) (ρ : Env) (o i : T) (μ : Mu) : Option (SR × Mu) := match look μ o, look μ i with
  | some (.dct tk kvs), some i' => (match dgetT tk kvs i' with
    | some (some x) => eM ((fv ρ).bind fun y => op2 f x y) (fun z => eM (keepT P z) fun w μ => match liveD μ o, look μ i with
      | some (n, tk, kvs), some i' => (match dputT tk kvs i' w with
        | some kvs' => if kvs.length < 1000000 then some (.nx ρ, μ.set n (.dct tk kvs', true)) else none
        | none => none)
      | _, _ => none) μ
    | _ => none)
  | _, _ => none
def mAugSD (P : Nat) (f : T → T → Option T) (fo fi fv : Env → M T) : Sm := fun ρ => eM (fo ρ) fun o => eM (fi ρ) fun i μ => if (liveL μ o).isSome = true then kAugL P f fv ρ o i μ else kAugD P f fv ρ o i μ
theorem augL_k {P : Nat} {f : T → T → Option T} {fo fi fv : Env → M T} : mAugSL P f fo fi fv = fun ρ => eM (fo ρ) fun o => eM (fi ρ) fun i => kAugL P f fv ρ o i := by
  unfold mAugSL kAugL
  rfl
theorem augD_k {P : Nat} {f : T → T → Option T} {fo fi fv : Env → M T} : mAugSDc P f fo fi fv = fun ρ => eM (fo ρ) fun o => eM (fi ρ) fun i => kAugD P f fv ρ o i := by
  unfold mAugSDc kAugD
  rfl
theorem mAugSD_eq {P : Nat} {f : T → T → Option T} {fo fi fv : Env → M T} (ρ : Env) (μ : Mu) : mAugSD P f fo fi fv ρ μ = none ∨ mAugSD P f fo fi fv ρ μ = mAugSL P f fo fi fv ρ μ ∨ mAugSD P f fo fi fv ρ μ = mAugSDc P f fo fi fv ρ μ := by
  rw [augL_k, augD_k]
  unfold mAugSD eM
  dsimp only
  cases fo ρ μ with
  | none => exact .inl rfl
  | some o =>
    obtain ⟨o, μ1⟩ := o
    cases o with
    | ex x => exact .inr (.inl rfl)
    | ok o =>
      dsimp only
      cases fi ρ μ1 with
      | none => exact .inl rfl
      | some i =>
        obtain ⟨i, μ2⟩ := i
        cases i with
        | ex x => exact .inr (.inl rfl)
        | ok i =>
          dsimp only
          cases h : (liveL μ2 o).isSome with
          | true => exact .inr (.inl (if_pos rfl))
          | false => exact .inr (.inr (if_neg (by simp)))
theorem aug_store {i : Expr} (h : plainIxB i = true) (ov iv new : Value) : augStore i ov iv new = (do holding [new, ov, iv] (setItem ov iv new); release [new, ov, iv] []; pure .next) := by
  cases i <;> first | rfl | cases h
/-- how often a while turns at most -/
def turns : Nat := 100000
def raiseS (G : GE) (r : Ev) (c : SC) (e : Expr) : Sm := match e with
  | .Call (.Name x _) [.Constant (.str _) _ _] [] _ => if glB c x = true then (match G.g x with
    | some .exc => mRaise x
    | _ => mNever) else mNever
  | .Call (.Name x _) [a] [] _ => if glB c x = true ∧ isStar a = false ∧ 2 ≤ c.k then (match G.g x with
    | some (.exi fl) => mRaiseI x fl (r.E c a)
    | _ => mNever) else mNever
  | _ => mNever
def stepS (G : GE) (r : Ev) (c : SC) : Stmt → Sm
  | .Expr e _ => exprS G r c e
  | .Assign [tg] v pos => asgS G r c tg v pos
  | .AugAssign (.Name x _) op v _ => augS r c x op v
  | .AugAssign (.Subscript o i _) op v _ => if plainIxB i = true then (match iopF op with
    | some f => mAugSD c.q f (r.E c o) (r.E c i) (r.E c v)
    | none => mNever) else mNever
  | .Return none _ => mRetN
  | .Return (some e) _ => mRet c.q (r.E c e)
  | .If t a b _ => mIf (r.T c t) (evSs r c a) (evSs r c b)
  | .For tg it body [] _ => (match tgB c 4 tg with
    | some (_, b) => if isSet it = true then mNever else mFor (itE G r c tg it) b (evSs r c body)
    | none => mNever)
  | .While t body [] _ => whileF (r.T c t) (evSs r c body) turns
  | .Raise (some e) none _ => raiseS G r c e
  | .Pass _ => mSkip
  | .Break _ => mBreak
  | .Continue _ => mCont
  | _ => mNever
section
variable {G : GE} {c : SC} {X : Cx} {R : RC} {W : WX} {pos : Pos} {r : Ev}
theorem raiseS_ok (o : EvOk G R r) (h : XOk G R c W X) (e : Expr) : JS X R W (.Raise (some e) none pos) (raiseS G r c e) := by
  unfold raiseS
  split
  · split
    · rename_i hg
      obtain ⟨gl, db⟩ := gl_of h hg
      split
      · rename_i hx
        exact js_raise (h.gexc hx) h.calm h.tk gl db
      · exact js_never
    · exact js_never
  · split
    · rename_i hh
      obtain ⟨hg, hs, hk⟩ := hh
      obtain ⟨gl, db⟩ := gl_of h hg
      split
      · rename_i fl hx
        exact js_raiseI (h.gexi hx) h.calm h.tk (h.room.mono hk) (o.E _ _ _ _ h) gl (star_cons hs) db
      · exact js_never
    · exact js_never
  · exact js_never
theorem stepS_ok (o : EvOk G R r) (h : XOk G R c W X) (st : Stmt) : JS X R W st (stepS G r c st) := by
  unfold stepS
  split
  · exact exprS_ok o h _
  · exact asgS_ok o h _ _
  · exact augS_ok o h _
  · split
    · rename_i hp
      split
      · rename_i f hf
        refine js_any fun ρ μ => ?_
        rcases mAugSD_eq (P := c.q) (f := f) (fo := r.E c _) (fi := r.E c _) (fv := r.E c _) ρ μ with q | q | q
        · exact .inl q
        · exact .inr ⟨_, js_augL (o.E _ _ _ _ h) (o.E _ _ _ _ h) (o.E _ _ _ _ h) (iopF_ok h hf) (aug_store hp), q⟩
        · exact .inr ⟨_, js_augD h.u1 (o.E _ _ _ _ h) (o.E _ _ _ _ h) (o.E _ _ _ _ h) (iopF_ok h hf) (aug_store hp), q⟩
      · exact js_never
    · exact js_never
  · exact js_retN
  · exact js_ret (o.E _ _ _ _ h)
  · exact js_if (o.T _ _ _ _ h) (evSs_ok o h _) (evSs_ok o h _)
  · split
    · rename_i us b hb
      split
      · exact js_never
      · rename_i hs
        exact js_for h.po h.calm (itE_ok o h _) (tgB_ok h _ _ _ _ hb) (evSs_ok o h _) (fold_set (by simpa using hs))
    · exact js_never
  · exact js_while turns h.po (o.T _ _ _ _ h) (evSs_ok o h _)
  · exact raiseS_ok o h _
  · exact js_pass
  · exact js_break
  · exact js_cont
  · exact js_never
end
/-! ### all of it -/
def ev (G : GE) : Nat → Ev
  | 0 => ⟨fun _ _ => stuckE, fun _ _ => stuckT, fun _ _ => mNever⟩
  | n + 1 => ⟨fun c e => stepE G (ev G n) c e, fun c e => stepT G (ev G n) c e, fun c s => stepS G (ev G n) c s⟩
theorem ev_ok {G : GE} {R : RC} : ∀ n, EvOk G R (ev G n)
  | 0 => ⟨fun _ _ _ _ _ => je_stuck, fun _ _ _ _ _ => jt_stuck, fun _ _ _ _ _ => js_never⟩
  | n + 1 => ⟨fun _ _ _ _ h => stepE_ok (ev_ok n) h _, fun _ _ _ _ h => stepT_ok (ev_ok n) h _, fun _ _ _ _ h => stepS_ok (ev_ok n) h _⟩
end TL

set_option maxHeartbeats 4000000
namespace TL
open PySem PySem.Spec PyProof.Rows L2

/-! # a program's table -/
def initN : Str := "__init__"
structure DefT where
  at_ : Str × Option Str
  name : Str
  qual : Str
  st : Stmt
  N : List Str
  np : Nat
  P : Nat
  gen : Bool
  lam : Bool
  h : Nat
inductive CT where
  | int (i : Int) | str (s : Str) | tup (ss : List Str) | tupI (is : List Int)
def CT.t : CT → T
  | .int i => .int i
  | .str s => .str s
  | .tup ss => .wt (ss.map T.str)
  | .tupI is => .wt (is.map T.int)
structure ProgT where
  defs : List DefT
  cls : List Str
  exc : List Str
  excI : List Str
  told : List Str
  csts : List (Str × CT)
  free : List Str
  fld : List (Str × Str)
  new : Nat → Bool
  tk : Nat → Bool
  dk : Nat → Bool := fun _ => false
  fz : Nat → Bool := fun _ => false
  exf : Str → Str := fun _ => ""
  file : Str := ""
def DefT.ps (t : DefT) : List Str := t.N.take t.np
def nofreeB (sc : Scope) : Bool := sc.names.all fun y => match y.2 with
  | .free => false
  | _ => true
def DefT.ok (t : DefT) : Bool := decide ((defScope t.st).kind = .function) && !(defScope t.st).isCoroutine && !(defScope t.st).isGenerator && decide t.N.Nodup && decide (t.np ≤ t.N.length) && (t.ps.all fun x => locB (defScope t.st) x) && nofreeB (defScope t.st)
def DefT.cls (t : DefT) : Str := match t.at_.2 with
  | some _ => t.at_.1
  | none => ""
def DefT.SC (t : DefT) (k : Nat) : SC := ⟨t.N, defScope t.st, fun _ => true, t.P, k, t.gen, t.cls, t.lam⟩
def fuel : Nat := 60
def DefT.g (G : GE) (k : Nat) (t : DefT) : FM := if t.ok = true then runB t.P t.N.length (evSs (ev G fuel) (t.SC k) (defBody t.st)) else fun _ _ => none
theorem DefT.scope {t : DefT} (h : t.ok = true) : FnScope t.N t.ps (defScope t.st) ∧ t.ps.length = t.np := by
  unfold DefT.ok at h
  simp only [Bool.and_eq_true, decide_eq_true_eq, Bool.not_eq_true', List.all_eq_true] at h
  obtain ⟨⟨⟨⟨⟨⟨h1, h2⟩, h3⟩, h4⟩, h5⟩, h6⟩, h7⟩ := h
  have hl : t.ps.length = t.np := by unfold DefT.ps; rw [List.length_take]; omega
  refine ⟨⟨h1, h2, h3, h4, ?_, fun x hx => ?_, fun y hy e => ?_⟩, hl⟩
  · rw [hl]; rfl
  · exact locB_ok (h6 x hx)
  · unfold nofreeB at h7
    have := List.all_eq_true.mp h7 y hy
    rw [e] at this
    cases this
/-- a def stands: its function object, its code object -/
structure FnAt (s : Stat) (R : RC) (t : DefT) (f : Addr) (fd : FuncData) : Prop where
  d : FunD s.K t.name t.qual (defArgs t.st) (defBody t.st) (defScope t.st) [] [] f fd
  b : Binds s.K fd t.ps []
  gen : t.gen = true → ∃ cc P, fd.code = .ref cc ∧ GxR.TabB s.base s.mg cc P ∧ TabsOk R P
  lam : t.lam = true → ∃ cc P ls, fd.code = .ref cc ∧ LamX.TabB s.base s.mg cc P ∧ (P, (t.qual ++ ".<locals>.") ++ "<lambda>") ∈ ls ∧ (∀ p ∈ ls, p.1 = P → p.2 = (t.qual ++ ".<locals>.") ++ "<lambda>") ∧ (∀ H, R.Tab H → LamX.Tabs ls H) ∧ (∀ H H1, R.Tab H → LamK ls P H H1 → R.Tab H1)
theorem DefT.fn {s : Stat} {R : RC} {G : GE} {t : DefT} {f : Addr} {fd : FuncData} {k : Nat} (a : FnAt s R t f fd) (g : GOk G R s) : FnOk s.prog s.w s.K s.mg s.base (L2.CX s.prog s.w) (k + 1) f fd t.ps (spT R t.np t.P (t.g G k)) := by
  by_cases h : t.ok = true
  · obtain ⟨Sc, hl⟩ := DefT.scope h
    have eg : t.g G k = runB t.P t.N.length (evSs (ev G fuel) (t.SC k) (defBody t.st)) := if_pos h
    rw [eg]
    obtain ⟨oc, od, dV, kV, doc, pm, an, cdv, ct, osl, rfl, lk, hcd, _, _⟩ := a.d.ex
    refine fn_of lk hcd Sc (fun vs H Q E hh => ?_) (fun A outer s' H vs Q E hr hh => ?_)
    · obtain ⟨x0, S, ts, μ, _, hn, _, aa, _⟩ := hh
      rw [aa.length, hn, hl]
    · obtain ⟨x0, S, ts, μ, hS, hn, so, aa, hh⟩ := hh
      refine ⟨_, evSs_ok (ev_ok (G := G) (R := R) fuel) (c := t.SC k) (W := fun cls d _ H' => E cls d H') ?_ _, x0, S, _, μ, start_ok so aa rfl, runB_ok hS so hh⟩
      exact {
        g := g
        N := rfl
        nd := Sc.nd
        sc := rfl
        kind := Sc.kind
        calm := rfl
        room := hr
        po := passes_of rfl
        tk := takes_cx
        fn := fun x hx => rfl
        code := fun hx => by
          obtain ⟨cc, P, e1, e2, e3⟩ := a.gen hx
          exact ⟨cc, P, e1, e2, e3⟩
        lam := fun hx => by
          obtain ⟨cc, P, ls, e1, e2, e3, e4, e5, e6⟩ := a.lam hx
          exact ⟨cc, P, ls, ⟨e1, e2, e3, e4, e5, e6⟩⟩ }
  · have eg : t.g G k = fun _ _ => none := if_neg h
    rw [eg]
    exact ⟨fun vs H Q E ⟨_, _, _, _, _, _, _, _, hh⟩ => hh.elim, fun A outer s' H args us vs Q E hr e0 hb r ⟨_, _, _, _, _, _, _, _, hh⟩ => hh.elim⟩
/-! ### told -/
def toldHds : List ExceptHandler → Option (List (Str × Str))
  | [] => some []
  | .ExceptHandler (some (.Name e _)) none [.Return (some (.Constant (.str s) _ _)) _] _ :: r => (toldHds r).map ((e, s) :: ·)
  | _ :: _ => none
def toldOf (st : Stmt) : Option (Str × List (Str × Str)) := match defBody st, (defArgs st).args with
  | [.Try [.Return (some (.Call (.Name a _) [] [] _)) _] (h0 :: hds) [] [] _], [⟨a', _, _⟩] => if a = a' then (toldHds (h0 :: hds)).map (a, ·) else none
  | _, _ => none
structure PartT where
  a : Str
  n : Str
  c : Str
  fl : Str
  df : Str
/-- try: a() / except c as n: return n.fl / return 'df' -/
def partOf (st : Stmt) : Option PartT := match defBody st, (defArgs st).args with
  | [.Try [.Expr (.Call (.Name a _) [] [] _) _] [.ExceptHandler (some (.Name c _)) (some n) [.Return (some (.Attribute (.Name n' _) fl _)) _] _] [] [] _, .Return (some (.Constant (.str df) _ _)) _], [⟨a', _, _⟩] => if a = a' ∧ n = n' then some ⟨a, n, c, fl, df⟩ else none
  | _, _ => none
def toldK (st : Stmt) : Option GK := match toldOf st with
  | some p => some (.told p.2)
  | none => (partOf st).map fun p => .part p.c p.fl p.df
theorem toldK_cases {st : Stmt} {g : GK} (h : toldK st = some g) : (∃ p, toldOf st = some p ∧ g = .told p.2) ∨ ∃ p, partOf st = some p ∧ g = .part p.c p.fl p.df := by
  unfold toldK at h
  cases q : toldOf st with
  | some p => rw [q] at h; cases h; exact .inl ⟨p, rfl, rfl⟩
  | none =>
    rw [q] at h
    cases q2 : partOf st with
    | none => rw [q2] at h; cases h
    | some p => rw [q2] at h; cases h; exact .inr ⟨p, rfl, rfl⟩
/-- the own exceptions -/
def ProgT.eK (Pr : ProgT) (x : Str) : Option GK := if x ∈ Pr.exc then some .exc else if x ∈ Pr.excI then some (.exi (Pr.exf x)) else none
theorem eK_cases {Pr : ProgT} {x : Str} {g : GK} (h : Pr.eK x = some g) : (x ∈ Pr.exc ∧ g = .exc) ∨ (x ∈ Pr.excI ∧ g = .exi (Pr.exf x)) := by
  unfold ProgT.eK at h
  split at h
  · rename_i hx; cases h; exact .inl ⟨hx, rfl⟩
  · split at h
    · rename_i hx; cases h; exact .inr ⟨hx, rfl⟩
    · cases h
/-! ### the names -/
def ProgT.ge (Pr : ProgT) (f : DefT → Option Dv) : GE where
  g := fun x => match Pr.csts.lookup x with
    | some c => some (.cst c.t)
    | none => match Pr.eK x with
    | some g => some g
    | none => match Pr.defs.find? fun t => decide (t.at_ = (x, none)) with
      | some t => if x ∈ Pr.told then toldK t.st else (f t).map .fn
      | none => if x ∈ Pr.cls then (match Pr.defs.find? fun t => decide (t.at_ = (x, some initN)) with
        | some t => (f t).map .mk
        | none => none) else none
  free := fun x => decide (x ∈ Pr.free)
  meth := fun m => Pr.defs.filterMap fun t => if t.at_.2 = some m ∧ t.at_.1 ∈ Pr.cls ∧ m ≠ initN then (f t).map (t.at_.1, ·) else none
  fld := fun f => Pr.fld.filterMap fun p => if p.2 = f then some p.1 else none
  new := Pr.new
  tk := Pr.tk
  dk := Pr.dk
  fz := Pr.fz
def lev (d : Nat) : Nat := 8 * d + 8
/-- the defs of a height below h -/
def fH (Pr : ProgT) : Nat → DefT → Option Dv
  | 0, _ => none
  | h + 1, t => if t.h = h then some ⟨t.np, t.P, lev h + 1, t.g (Pr.ge (fH Pr h)) (lev h)⟩ else fH Pr h t
def gH (Pr : ProgT) (h : Nat) : GE := Pr.ge (fH Pr h)
/-- a def's meaning -/
def DefT.G (Pr : ProgT) (t : DefT) : FM := t.g (gH Pr t.h) (lev t.h)
/-- the program's facts -/
structure POk (Pr : ProgT) (R : RC) (s : Stat) : Prop where
  K : s.K = R.K
  fn : ∀ t ∈ Pr.defs, ∃ f fd, FnAt s R t f fd ∧ (∀ x, t.at_ = (x, none) → s.mg x = some (.ref f)) ∧ (∀ x m, t.at_ = (x, some m) → x ∈ Pr.cls → ∃ C, R.cls x = some C ∧ Cls s.K C ∧ s.mg x = some (.ref C) ∧ (m = initN → Mk s.K C f) ∧ (m ≠ initN → Meth s.K C m f))
  exc : ∀ x ∈ Pr.exc, CalXR s R x
  exi : ∀ x ∈ Pr.excI, CalIR s R x (Pr.exf x)
  part : ∀ t ∈ Pr.defs, ∀ x, t.at_ = (x, none) → x ∈ Pr.told → ∀ p, partOf t.st = some p → ∀ X : Cx, Stat.of X = s → PartOk X R x p.a t.st p.c p.fl p.df
  cst : ∀ p ∈ Pr.csts, GTree R (s.mg p.1) p.2.t
  free : ∀ x ∈ Pr.free, s.mg x = none
  fld : ∀ p ∈ Pr.fld, FldOk R p.2 [p.1]
  told : ∀ t ∈ Pr.defs, ∀ x, t.at_ = (x, none) → x ∈ Pr.told → ∀ a l, toldOf t.st = some (a, l) → ∀ X : Cx, Stat.of X = s → ToldOk X R x a t.st l
theorem ge_cases {Pr : ProgT} {f : DefT → Option Dv} {x : Str} {k : GK} (h : (Pr.ge f).g x = some k) :
    (∃ c, Pr.csts.lookup x = some c ∧ k = .cst c.t) ∨ Pr.eK x = some k ∨ (∃ t ∈ Pr.defs, t.at_ = (x, none) ∧ x ∈ Pr.told ∧ toldK t.st = some k) ∨ (∃ t ∈ Pr.defs, t.at_ = (x, none) ∧ ∃ d, f t = some d ∧ k = .fn d) ∨ ∃ t ∈ Pr.defs, t.at_ = (x, some initN) ∧ x ∈ Pr.cls ∧ ∃ d, f t = some d ∧ k = .mk d := by
  simp only [ProgT.ge] at h
  split at h
  · rename_i c hc
    cases h
    exact .inl ⟨c, hc, rfl⟩
  · split at h
    · rename_i g hg
      cases h
      exact .inr (.inl hg)
    · split at h
      · rename_i t ht
        have hm := List.mem_of_find?_eq_some ht
        have hx := List.find?_some ht
        replace hx := of_decide_eq_true hx
        split at h
        · rename_i hT
          exact .inr (.inr (.inl ⟨t, hm, hx, hT, h⟩))
        · cases q : f t with
          | none => rw [q] at h; cases h
          | some d => rw [q] at h; cases h; exact .inr (.inr (.inr (.inl ⟨t, hm, hx, d, q, rfl⟩)))
      · split at h
        · rename_i hc
          split at h
          · rename_i t ht
            have hm := List.mem_of_find?_eq_some ht
            have hx := List.find?_some ht
            replace hx := of_decide_eq_true hx
            cases q : f t with
            | none => rw [q] at h; cases h
            | some d => rw [q] at h; cases h; exact .inr (.inr (.inr (.inr ⟨t, hm, hx, hc, d, q, rfl⟩)))
          · cases h
        · cases h
theorem gok {Pr : ProgT} {R : RC} {s : Stat} (o : POk Pr R s) (f : DefT → Option Dv) (hf : ∀ t d, t ∈ Pr.defs → f t = some d → d.np = t.np ∧ d.P = t.P ∧ ∀ a fd, FnAt s R t a fd → FnOk s.prog s.w s.K s.mg s.base (L2.CX s.prog s.w) d.lev a fd t.ps (spT R t.np t.P d.g)) (hP : ∀ t ∈ Pr.defs, ∀ x, t.at_ = (x, some initN) → t.P = 1) : GOk (Pr.ge f) R s where
  K := o.K
  fn := fun x d h => by
    rcases ge_cases h with ⟨c, hc, e⟩ | he | ⟨t, hm, hx, hT, hk⟩ | ⟨t, hm, hx, d', q, e⟩ | ⟨t, hm, hx, hc, d', q, e⟩
    · cases e
    · rcases eK_cases he with ⟨_, e⟩ | ⟨_, e⟩ <;> cases e
    · rcases toldK_cases hk with ⟨p, _, e⟩ | ⟨p, _, e⟩ <;> cases e
    · cases e
      obtain ⟨e1, e2, e3⟩ := hf t d hm q
      obtain ⟨a, fd, A, h1, _⟩ := o.fn t hm
      rw [e1, e2]
      exact ⟨a, fd, t.ps, e3 a fd A, h1 x hx, A.d.kp, A.b⟩
    · cases e
  mkC := fun x d h => by
    rcases ge_cases h with ⟨c, hc, e⟩ | he | ⟨t, hm, hx, hT, hk⟩ | ⟨t, hm, hx, d', q, e⟩ | ⟨t, hm, hx, hc, d', q, e⟩
    · cases e
    · rcases eK_cases he with ⟨_, e⟩ | ⟨_, e⟩ <;> cases e
    · rcases toldK_cases hk with ⟨p, _, e⟩ | ⟨p, _, e⟩ <;> cases e
    · cases e
    · cases e
      obtain ⟨e1, e2, e3⟩ := hf t d hm q
      obtain ⟨a, fd, A, _, h2⟩ := o.fn t hm
      obtain ⟨C, c1, c2, c3, c4, _⟩ := h2 x _ hx hc
      have e4 := e3 a fd A
      rw [hP t hm x hx] at e4
      rw [e1]
      exact ⟨C, a, fd, t.ps, c1, c4 rfl, e4, c3, A.b⟩
  cst := fun x t0 h => by
    rcases ge_cases h with ⟨c, hc, e⟩ | he | ⟨t, hm, hx, hT, hk⟩ | ⟨t, hm, hx, d', q, e⟩ | ⟨t, hm, hx, hc, d', q, e⟩
    · cases e
      exact o.cst _ (PySem.mem_of_lookup hc)
    · rcases eK_cases he with ⟨_, e⟩ | ⟨_, e⟩ <;> cases e
    · rcases toldK_cases hk with ⟨p, _, e⟩ | ⟨p, _, e⟩ <;> cases e
    · cases e
    · cases e
  exc := fun x h => by
    rcases ge_cases h with ⟨c, hc, e⟩ | he | ⟨t, hm, hx, hT, hk⟩ | ⟨t, hm, hx, d', q, e⟩ | ⟨t, hm, hx, hc, d', q, e⟩
    · cases e
    · rcases eK_cases he with ⟨hx, e⟩ | ⟨_, e⟩
      · exact o.exc x hx
      · cases e
    · rcases toldK_cases hk with ⟨p, _, e⟩ | ⟨p, _, e⟩ <;> cases e
    · cases e
    · cases e
  exi := fun x fl h => by
    rcases ge_cases h with ⟨c, hc, e⟩ | he | ⟨t, hm, hx, hT, hk⟩ | ⟨t, hm, hx, d', q, e⟩ | ⟨t, hm, hx, hc, d', q, e⟩
    · cases e
    · rcases eK_cases he with ⟨_, e⟩ | ⟨hx, e⟩
      · cases e
      · cases e
        exact o.exi x hx
    · rcases toldK_cases hk with ⟨p, _, e⟩ | ⟨p, _, e⟩ <;> cases e
    · cases e
    · cases e
  part := fun x c0 fl dflt h => by
    rcases ge_cases h with ⟨c, hc, e⟩ | he | ⟨t, hm, hx, hT, hk⟩ | ⟨t, hm, hx, d', q, e⟩ | ⟨t, hm, hx, hc, d', q, e⟩
    · cases e
    · rcases eK_cases he with ⟨_, e⟩ | ⟨_, e⟩ <;> cases e
    · rcases toldK_cases hk with ⟨p, _, e⟩ | ⟨p, hp, e⟩
      · cases e
      · cases e
        exact ⟨p.a, t.st, o.part t hm x hx hT p hp⟩
    · cases e
    · cases e
  free := fun x h => o.free x (of_decide_eq_true h)
  meth := fun m p h => by
    simp only [ProgT.ge, List.mem_filterMap] at h
    obtain ⟨t, hm, h⟩ := h
    split at h
    · rename_i hh
      obtain ⟨h1, h2, h3⟩ := hh
      cases q : f t with
      | none => rw [q] at h; cases h
      | some d =>
        rw [q] at h
        cases h
        obtain ⟨e1, e2, e3⟩ := hf t d hm q
        obtain ⟨a, fd, A, _, k2⟩ := o.fn t hm
        intro C hC
        obtain ⟨C', c1, c2, c3, _, c5⟩ := k2 t.at_.1 m (by rw [← h1]) h2
        rw [hC] at c1
        cases c1
        refine ⟨c2, a, fd, t.ps, c5 h3, ?_, A.b⟩
        show FnOk _ _ _ _ _ _ _ _ _ _ (spT R d.np d.P d.g)
        rw [e1, e2]
        exact e3 a fd A
    · cases h
  fld := fun f c hc => by
    simp only [ProgT.ge, List.mem_filterMap] at hc
    obtain ⟨p, hp, h⟩ := hc
    split at h
    · rename_i e
      cases h
      subst e
      exact o.fld p hp _ (List.mem_singleton_self _)
    · cases h
  told := fun x l h => by
    rcases ge_cases h with ⟨c, hc, e⟩ | he | ⟨t, hm, hx, hT, hk⟩ | ⟨t, hm, hx, d', q, e⟩ | ⟨t, hm, hx, hc, d', q, e⟩
    · cases e
    · rcases eK_cases he with ⟨_, e⟩ | ⟨_, e⟩ <;> cases e
    · rcases toldK_cases hk with ⟨p, hp, e⟩ | ⟨p, _, e⟩
      · cases e
        exact ⟨p.1, t.st, o.told t hm x hx hT p.1 p.2 hp⟩
      · cases e
    · cases e
    · cases e
theorem gH_ok {Pr : ProgT} {R : RC} {s : Stat} (o : POk Pr R s) (hP : ∀ t ∈ Pr.defs, ∀ x, t.at_ = (x, some initN) → t.P = 1) : ∀ h, GOk (gH Pr h) R s := by
  have key : ∀ h t d, t ∈ Pr.defs → fH Pr h t = some d → d.np = t.np ∧ d.P = t.P ∧ ∀ a fd, FnAt s R t a fd → FnOk s.prog s.w s.K s.mg s.base (L2.CX s.prog s.w) d.lev a fd t.ps (spT R t.np t.P d.g) := by
    intro h
    induction h with
    | zero => intro t d _ e; cases e
    | succ h ih =>
      intro t d hm e
      unfold fH at e
      split at e
      · cases e
        exact ⟨rfl, rfl, fun a fd A => DefT.fn A (gok o _ ih hP)⟩
      · exact ih t d hm e
  exact fun h => gok o _ (key h) hP
end TL

set_option maxHeartbeats 4000000
namespace TL
open PySem PySem.Spec PyProof.Rows L2
/-! # a Hook that looks at closures' cells and at the interpreter's statics too -/
def closR (o : Obj) : List Addr := match o.data with
  | .func fd => fd.closure.map (·.2)
  | _ => []
def asY (g : Addr → Option Obj) (n : Nat) : List Addr :=
  let as := He.asD g n
  (as ++ (cStatics :: as.flatMap fun a => ((g a).map closR).getD [])).eraseDups
section
variable {n : Nat} {fa : List He.Fa} {fn : List He.DefD} {ts : List He.Tab} {tf : List He.Defn} {ex : PySem.W.Frag → Bool} {w : World} {h : Heap}
/-- of any list of addresses -/
theorem saysL_of {as : List Addr} (e1 : He.obsT fa fn ts (He.frT h.get? as) = He.valT fn ts w) (e2 : (ex (He.frT h.get? as) && He.tabsB h.get? tf (He.frT h.get? as)) = true) : He.SaysX fa fn ts tf ex w h (He.frT h.get? as) := by
  generalize hK : He.frT h.get? as = Kf at *
  simp only [Bool.and_eq_true] at e2
  have tabs : ∀ p ∈ tf, PySem.W.codeHdIn Kf (He.cT Kf p).1 (He.cT Kf p).2 = true ∧ ∃ o, h.get? (He.cT Kf p).2 = some o ∧ He.emptyTab o = true := by
    intro p hp
    have q := e2.2
    unfold He.tabsB at q
    have q := List.all_eq_true.mp q p hp
    simp only [Bool.and_eq_true] at q
    refine ⟨q.1, ?_⟩
    have q2 := q.2
    split at q2
    · rename_i o ho
      exact ⟨o, ho, q2⟩
    · cases q2
  constructor
  · exact e1
  · exact e2.1
  · exact fun p hp => (tabs p hp).1
  · intro p hp
    obtain ⟨_, o, h1, h2⟩ := tabs p hp
    have := He.frT_none (as := as) h1 h2
    rwa [hK] at this
  · intro p hp
    obtain ⟨_, o, h1, h2⟩ := tabs p hp
    rw [h1, He.emptyTab_eq h2]
end
def obsY (n : Nat) (fa : List He.Fa) (fn : List He.DefD) (ts : List He.Tab) (tf : List He.Defn) (ex : PySem.W.Frag → Bool) (g : Addr → Option Obj) : He.AlX :=
  let K := He.frT g (asY g n)
  (He.obsT fa fn ts K, ex K && He.tabsB g tf K)
def hookY (n : Nat) (fa : List He.Fa) (fn : List He.DefD) (ts : List He.Tab) (tf : List He.Defn) (ex : PySem.W.Frag → Bool) : PySem.W.Hook where
  α := He.AlX
  obs := fun s => obsY n fa fn ts tf ex s.heap.get?
  val := fun w => He.valX fn ts w
  says := fun w h => ∃ K : PySem.W.Frag, K.In h ∧ He.SaysX fa fn ts tf ex w h K
  of := fun w h e => ⟨_, He.frT_in, saysL_of (congrArg Prod.fst e) (congrArg Prod.snd e)⟩
  keeps := fun w h h' hh k => by
    obtain ⟨K, hK, c⟩ := hh
    refine ⟨K, PySem.W.Frag.In.keeps hK k, c.t, c.more, c.hd, c.out, ?_⟩
    exact fun p hp => k _ _ (c.empty p hp)
theorem obsY_eq {n : Nat} {fa : List He.Fa} {fn : List He.DefD} {ts : List He.Tab} {tf : List He.Defn} {ex : PySem.W.Frag → Bool} {g : Addr → Option Obj} {s : Shared} (hg : ∀ a, g a = s.heap.get? a) : obsY n fa fn ts tf ex g = (hookY n fa fn ts tf ex).obs s := by
  obtain rfl : g = s.heap.get? := funext hg
  rfl
end TL

set_option maxHeartbeats 4000000
namespace TL
open PySem PySem.Spec PyProof.Rows L2

/-! ### binding: plain parameters, all given -/
theorem zip_lookup {α : Type} : ∀ {ns : List Str} {us : List α}, us.length = ns.length → ∀ n ∈ ns, ((ns.zip us).lookup n).isSome = true
  | [], _, _, n, h => by cases h
  | m :: ns, [], hl, _, _ => by cases hl
  | m :: ns, u :: us, hl, n, h => by
    simp only [List.zip_cons_cons, List.lookup_cons]
    split
    · rfl
    · rename_i hne
      rcases List.mem_cons.mp h with e | h
      · subst e; simp at hne
      · exact zip_lookup (by simpa using hl) n h
theorem fm_congr {α β : Type} {f g : α → Option β} : ∀ {l : List α}, (∀ x ∈ l, f x = g x) → l.filterMap f = l.filterMap g
  | [], _ => rfl
  | x :: l, h => by
    rw [List.filterMap_cons, List.filterMap_cons, h x List.mem_cons_self, fm_congr fun y hy => h y (List.mem_cons_of_mem _ hy)]
theorem zip_map {α : Type} : ∀ {ns : List Str} {us : List α}, us.length = ns.length → ns.Nodup → ns.filterMap (fun n => ((ns.zip us).lookup n).map (n, ·)) = ns.zip us
  | [], _, _, _ => rfl
  | m :: ns, [], hl, _ => by cases hl
  | m :: ns, u :: us, hl, nd => by
    have h1 : (List.lookup m ((m :: ns).zip (u :: us))) = some u := by simp [List.lookup_cons]
    rw [List.filterMap_cons, h1]
    simp only [Option.map_some, List.zip_cons_cons]
    have nd2 := List.nodup_cons.mp nd
    have ih := zip_map (ns := ns) (us := us) (by simpa using hl) nd2.2
    congr 1
    refine Eq.trans ?_ ih
    refine fm_congr fun n hn => ?_
    have : (n == m) = false := by
      simp only [beq_eq_false_iff_ne, ne_eq]
      rintro rfl
      exact nd2.1 hn
    rw [List.lookup_cons, this]
theorem bind_plain {x q : Str} {args : List Arg} {body : List Stmt} {scope : Scope} {kV doc pm cdv ct : Value} {an : Option Addr} {us : List Value} (hl : us.length = (args.map (·.arg)).length) (nd : (args.map (·.arg)).Nodup) :
    bindArgs (PySem.W.fnOf x q ⟨[], args, none, [], [], none, []⟩ body scope .none kV doc pm an cdv ct) ⟨us, []⟩ = pure ((args.map (·.arg)).zip us) := by
  unfold bindArgs
  have h0 : (seqItems? Value.none : Sem (Option (Array Value))) = pure none := rfl
  have hm : List.filter (fun n => (((args.map (·.arg)).zip us).lookup n).isNone) (args.map (·.arg)) = [] := by
    rw [List.filter_eq_nil_iff]
    intro n hn
    have := zip_lookup hl n hn
    simp only [Option.isNone_iff_eq_none]
    intro e
    rw [e] at this
    cases this
  simp only [PySem.W.fnOf, List.map_nil, List.nil_append, h0, pure_bind, Option.getD_none, List.forIn_nil, List.drop_nil, List.length_nil, Nat.sub_zero, List.zip_nil_right, List.append_nil]
  rw [if_neg (by simp [hl])]
  rw [if_neg (by rw [List.take_length, hm]; simp)]
  rw [if_neg (by simp)]
  rw [zip_map hl nd]
/-! ### the facts -/
def plainArgs (st : Stmt) (ps : List Str) : Bool := match defArgs st with
  | ⟨[], args, none, [], [], none, []⟩ => decide (args.map (·.arg) = ps)
  | _ => false
theorem plain_binds {K : PySem.W.Frag} {t : DefT} {f : Addr} {fd : FuncData} (h : plainArgs t.st t.ps = true) (nd : t.N.Nodup) (F : FunD K t.name t.qual (defArgs t.st) (defBody t.st) (defScope t.st) [] [] f fd) : Binds K fd t.ps [] := by
  have nd2 : t.ps.Nodup := nd.sublist (List.take_sublist ..)
  unfold plainArgs at h
  split at h
  · rename_i args he
    have e := of_decide_eq_true h
    refine FunD.bindsN F fun kV doc pm an cdv ct us hl => ?_
    rw [he, ← e]
    rw [← e] at hl nd2
    exact bind_plain hl nd2
  · cases h
def DefT.dd (t : DefT) : He.DefD := ⟨t.at_, t.name, t.qual, defArgs t.st, defBody t.st, defScope t.st, [], []⟩
/-- what is asked of a def's text -/
def DefT.good (t : DefT) : Bool := plainArgs t.st t.ps && decide t.N.Nodup
def lamQ (t : DefT) : Str := (t.qual ++ ".<locals>.") ++ "<lambda>"
def ProgT.tf (Pr : ProgT) : List He.Defn := (Pr.defs.filter fun t => t.gen || t.lam).map (·.at_)
def ProgT.gs (Pr : ProgT) (K : PySem.W.Frag) : List Addr := (Pr.defs.filter (·.gen)).map fun t => (He.cT K t.at_).2
def ProgT.ls (Pr : ProgT) (K : PySem.W.Frag) : List (Addr × Str) := (Pr.defs.filter (·.lam)).map fun t => ((He.cT K t.at_).2, lamQ t)
/-- == and != of the class are object's -/
def eqOkB (K : PySem.W.Frag) (C : Addr) : Bool := decide (PySem.W.mroIn K C (.type "object") = some true) && (He.eqO (PySem.W.findIn K (.ref C) "__eq__") (some (some (.builtin "object.__eq__"))) && He.eqO (PySem.W.findIn K (.ref C) "__ne__") (some (some (.builtin "object.__ne__"))))
theorem eqOkB_ok {K : PySem.W.Frag} {C : Addr} (h : eqOkB K C = true) : EqI K C := by
  obtain ⟨h1, h2⟩ := He.ba h
  obtain ⟨h2, h3⟩ := He.ba h2
  exact ⟨of_decide_eq_true h1, He.eqO_ok h2, He.eqO_ok h3⟩
def ProgT.rc (Pr : ProgT) (K : PySem.W.Frag) : RC := ⟨K, fun c => if (c ∈ Pr.cls ∨ c ∈ Pr.exc ∨ c ∈ Pr.excI) ∧ eqOkB K (He.ga K c) = true then some (He.ga K c) else none, TabR (Pr.gs K) (Pr.ls K), TabR.keep, fun c C h => by
  split at h
  · rename_i q
    cases h
    exact eqOkB_ok q.2
  · cases h⟩
def toldN (Pr : ProgT) : List Str := Pr.defs.flatMap fun t => if t.at_.1 ∈ Pr.told ∧ t.at_.2 = none then (match toldOf t.st with
  | some p => p.2.map (·.1)
  | none => []) else []
def ProgT.fa (Pr : ProgT) : List He.Fa :=
  (Pr.defs.flatMap fun t => match t.at_.2 with
    | none => [.glo t.at_.1]
    | some m => if m = initN then [.mkr t.at_.1] else [.meth t.at_.1 m]) ++
  (Pr.cls.flatMap fun c => [.glo c, .cls c]) ++ (Pr.exc.flatMap fun c => [.glo c, .exc c]) ++ (Pr.free.map .free) ++ (Pr.fld.map fun p => .noat p.1 p.2) ++
  ((toldN Pr).flatMap fun x => .glo x :: (toldN Pr).map fun y => .exm x y (decide (x = y))) ++
  (Pr.csts.map fun p => match p.2 with
    | .int i => .int p.1 i
    | .str s => .str p.1 s
    | .tup _ => .glo p.1
    | .tupI _ => .glo p.1) ++ (Pr.excI.map .glo)
/-- what is written has no dict of its own -/
def nodictB (K : PySem.W.Frag) (x : Str) : Bool := match K.lookup (He.ga K x) with
  | some o => o.dict.isNone
  | none => false
def ProgT.ex (Pr : ProgT) (K : PySem.W.Frag) : Bool := decide ((Pr.tf.map fun p => (He.cT K p).2).Nodup) && (Pr.csts.all fun p => match p.2 with
  | .tup ss => He.tupB K p.1 (ss.map .str) && nodictB K p.1
  | .tupI is => He.tupB K p.1 (is.map .int) && nodictB K p.1
  | _ => true) && ((Pr.cls ++ (Pr.exc ++ Pr.excI)).all fun c => eqOkB K (He.ga K c)) && (Pr.excI.all fun c => exiB Pr.file K (He.ga K c) (Pr.exf c))
/-- the text's own conditions -/
def ProgT.good (Pr : ProgT) : Bool := (Pr.defs.all fun t => t.good) && (Pr.defs.all fun t => match t.at_.2 with
    | some m => decide (t.at_.1 ∈ Pr.cls) && (decide (m ≠ initN) || decide (t.P = 1))
    | none => true) && (Pr.fld.all fun p => decide (p.1 ∈ Pr.cls)) && (Pr.defs.all fun t => !(t.gen && t.lam)) &&
  (Pr.defs.all fun t => match t.at_.2 with
    | none => if t.at_.1 ∈ Pr.told then decide (t.name = t.at_.1 ∧ t.qual = t.at_.1) && (match toldOf t.st with
      | some p => t.ok && decide (t.N[0]? = some p.1) && visB (defScope t.st) p.1 && plainName p.1 && decide (t.ps = [p.1]) && (p.2.all fun z => decide (z.1 ∈ Pr.exc ∨ z.1 ∈ Pr.excI) && (match (defScope t.st).names.lookup z.1 with
        | some .globalImplicit => true
        | _ => false) && !(z.1 == ("__debug__" : Str)))
      | none => (match partOf t.st with
        | some p => t.ok && decide (t.N[0]? = some p.a) && visB (defScope t.st) p.a && plainName p.a && decide (t.ps = [p.a]) && decide (p.c ∈ Pr.excI) && decide (p.fl = Pr.exf p.c) && (match (defScope t.st).names.lookup p.c with
          | some .globalImplicit => true
          | _ => false) && !(p.c == ("__debug__" : Str)) && (slotAt p.n t.N).isSome && isLocal (defScope t.st) p.n && plainName p.n
        | none => true)) else true
    | some _ => true) && (Pr.excI.isEmpty || decide (("super" : Str) ∈ Pr.free))
/-- what is asked of the program's head -/
def progB (Pr : ProgT) (p : Program) : Bool := Pr.excI.isEmpty || (decide (p.main.file = Pr.file) && !(p.main.scope.names.lookup ("super" : Str)).isSome)
theorem wrT_of {K : PySem.W.Frag} {x : Str} {ds : List He.Dv} (h : He.tupB K x ds = true) (hn : nodictB K x = true) : WrT K (He.ga K x) (ds.map (He.Dv.v K)) := by
  unfold He.tupB at h
  unfold nodictB at hn
  cases q : K.lookup (He.ga K x) with
  | none => rw [q] at h; cases h
  | some o =>
    obtain ⟨oc, od, dt, osl⟩ := o
    rw [q] at h hn
    cases od with
    | some d => cases hn
    | none =>
    cases oc with
    | type c =>
      cases dt with
      | seq its n =>
        obtain ⟨h1, h2⟩ := He.ba (show (decide (c = "tuple") && (decide (its.size ≤ sizeLine) && He.relAll (ds.map (He.Dv.v K)) its.toList)) = true from h)
        obtain ⟨h3, h4⟩ := He.ba h2
        exact ⟨_, its, n, q, rfl, congrArg Value.type (of_decide_eq_true h1), rfl, of_decide_eq_true h3, He.relAll_ok h4⟩
      | _ => cases h
    | _ => cases dt <;> cases h
theorem nd_at {α β : Type} {f : α → β} : ∀ {l : List α}, (l.map f).Nodup → ∀ {x y : α}, x ∈ l → y ∈ l → f x = f y → x = y
  | [], _, x, y, hx, _, _ => by cases hx
  | z :: l, nd, x, y, hx, hy, e => by
    have n2 := List.nodup_cons.mp nd
    rcases List.mem_cons.mp hx with e1 | hx' <;> rcases List.mem_cons.mp hy with e2 | hy'
    · rw [e1, e2]
    · exact (n2.1 (List.mem_map.mpr ⟨y, hy', by rw [← e, e1]⟩)).elim
    · exact (n2.1 (List.mem_map.mpr ⟨x, hx', by rw [e, e2]⟩)).elim
    · exact nd_at n2.2 hx' hy' e
/-- what a lambda's making does to the tables -/
theorem TabR.lam {gs : List Addr} {ls : List (Addr × Str)} {P : Addr} (hP : P ∉ gs) (H H1 : Hp) (t : TabR gs ls H) (k : LamK ls P H H1) : TabR gs ls H1 := by
  refine ⟨fun P' hP' => ?_, k.tabs⟩
  obtain ⟨ps, e, ok⟩ := t.1 P' hP'
  exact ⟨ps, k.keep _ _ e (fun z => hP (z ▸ hP')), ok⟩
end TL

set_option maxHeartbeats 4000000
namespace TL
open PySem PySem.Spec PyProof.Rows L2

theorem toldHds_ok {mg : Str → Option Value} {sc : Scope} {R : RC} {ga : Str → Addr} : ∀ {hds : List ExceptHandler} {l : List (Str × Str)}, toldHds hds = some l →
    (∀ z ∈ l, sc.names.lookup z.1 = some .globalImplicit ∧ (z.1 == ("__debug__" : Str)) = false ∧ mg z.1 = some (.ref (ga z.1)) ∧ R.cls z.1 = some (ga z.1)) →
    HdStr mg sc hds (l.map fun z => (ga z.1, z.2)) ∧ ClsOk R l (l.map fun z => (ga z.1, z.2))
  | [], l, h, _ => by cases h; exact ⟨.nil, .nil⟩
  | hd :: r, l, h, k => by
    unfold toldHds at h
    split at h
    · rename_i e; cases e
    · rename_i e p1 s j p2 p3 p4 r' heq
      cases heq
      cases q : toldHds r with
      | none => rw [q] at h; cases h
      | some l' =>
        rw [q] at h
        cases h
        obtain ⟨a1, a2, a3, a4⟩ := k (e, s) List.mem_cons_self
        obtain ⟨b1, b2⟩ := toldHds_ok (ga := ga) q fun z hz => k z (List.mem_cons_of_mem _ hz)
        exact ⟨.cons a1 a3 a2 b1, .cons a4 b2⟩
    · cases h
theorem toldOf_ok {st : Stmt} {a : Str} {l : List (Str × Str)} (h : toldOf st = some (a, l)) : ∃ h0 hds p1 p2 p3 p8, defBody st = [.Try [.Return (some (.Call (.Name a p1) [] [] p2)) p3] (h0 :: hds) [] [] p8] ∧ toldHds (h0 :: hds) = some l := by
  unfold toldOf at h
  split at h
  · rename_i a1 p1 p2 p3 h0 hds p8 a2 an p4 hb ha
    split at h
    · cases q : toldHds (h0 :: hds) with
      | none => rw [q] at h; cases h
      | some l' =>
        rw [q] at h
        cases h
        exact ⟨h0, hds, p1, p2, p3, p8, hb, q⟩
    · cases h
  · cases h
theorem mem_fa {Pr : ProgT} {f : He.Fa} {L : List He.Fa} (h : f ∈ L) : f ∈ L := h
section
variable {Pr : ProgT} {K : PySem.W.Frag} {base : Heap} {mg : Str → Option Value} {prog : Program} {w : World} {h : Heap}
theorem partOf_ok {st : Stmt} {p : PartT} (h : partOf st = some p) : ∃ p1 p2 p3 p4 p5 p6 p7 p8 p9 p10 p11 j, defBody st = [.Try [.Expr (.Call (.Name p.a p1) [] [] p2) p3] [.ExceptHandler (some (.Name p.c p4)) (some p.n) [.Return (some (.Attribute (.Name p.n p5) p.fl p6)) p7] p9] [] [] p8, .Return (some (.Constant (.str p.df) j p10)) p11] := by
  unfold partOf at h
  split at h
  · rename_i hb ha
    split at h
    · rename_i hh
      obtain ⟨rfl, rfl⟩ := hh
      cases h
      exact ⟨_, _, _, _, _, _, _, _, _, _, _, _, hb⟩
    · cases h
  · cases h
theorem pok (hpg : progB Pr prog = true) (good : Pr.good = true) (KX : K.In base) (G : base.Ns mainGlobals mg) (c : He.SaysX Pr.fa (Pr.defs.map DefT.dd) [] Pr.tf Pr.ex w h K) (TB : ∀ p ∈ Pr.tf.map (He.cT K), LamX.TabB base mg p.1 p.2) : POk Pr (Pr.rc K) ⟨prog, w, K, mg, base⟩ := by
  have cd := c.t.d
  unfold ProgT.good at good
  simp only [Bool.and_eq_true, List.all_eq_true] at good
  obtain ⟨⟨⟨⟨⟨g1, g2⟩, g3⟩, g4⟩, g5⟩, g6⟩ := good
  have ex := c.more
  unfold ProgT.ex at ex
  simp only [Bool.and_eq_true, List.all_eq_true, decide_eq_true_eq] at ex
  obtain ⟨⟨⟨nd, ec⟩, eqs⟩, exs⟩ := ex
  have xok : ∀ x ∈ Pr.excI, ExOk prog K (He.ga K x) (Pr.exf x) := fun x hx => by
    have h1 : Pr.excI.isEmpty = false := by
      cases q : Pr.excI with
      | nil => rw [q] at hx; cases hx
      | cons a l => rfl
    unfold progB at hpg
    rw [h1] at hpg
    simp only [Bool.false_or, Bool.and_eq_true, decide_eq_true_eq, Bool.not_eq_true'] at hpg
    exact exiB_ok hpg.1 hpg.2 (exs x hx)
  have nd' : ((Pr.defs.filter fun t => t.gen || t.lam).map fun t => (He.cT K t.at_).2).Nodup := by
    have e : Pr.tf.map (fun p => (He.cT K p).2) = (Pr.defs.filter fun t => t.gen || t.lam).map fun t => (He.cT K t.at_).2 := by
      unfold ProgT.tf
      rw [List.map_map]
      rfl
    rw [← e]
    exact nd
  -- facts by kinds
  have f1 : ∀ f, f ∈ (Pr.defs.flatMap fun t => match t.at_.2 with
    | none => [He.Fa.glo t.at_.1]
    | some m => if m = initN then [.mkr t.at_.1] else [.meth t.at_.1 m]) → f.ok K = true := fun f hf => cd.facts (by unfold ProgT.fa; simp only [List.mem_append]; exact .inl (.inl (.inl (.inl (.inl (.inl (.inl hf)))))))
  have f2 : ∀ f, f ∈ (Pr.cls.flatMap fun c => [He.Fa.glo c, .cls c]) → f.ok K = true := fun f hf => cd.facts (by unfold ProgT.fa; simp only [List.mem_append]; exact .inl (.inl (.inl (.inl (.inl (.inl (.inr hf)))))))
  have f3 : ∀ f, f ∈ (Pr.exc.flatMap fun c => [He.Fa.glo c, .exc c]) → f.ok K = true := fun f hf => cd.facts (by unfold ProgT.fa; simp only [List.mem_append]; exact .inl (.inl (.inl (.inl (.inl (.inr hf))))))
  have f4 : ∀ f, f ∈ (Pr.free.map He.Fa.free) → f.ok K = true := fun f hf => cd.facts (by unfold ProgT.fa; simp only [List.mem_append]; exact .inl (.inl (.inl (.inl (.inr hf)))))
  have f5 : ∀ f, f ∈ (Pr.fld.map fun p => He.Fa.noat p.1 p.2) → f.ok K = true := fun f hf => cd.facts (by unfold ProgT.fa; simp only [List.mem_append]; exact .inl (.inl (.inl (.inr hf))))
  have f6 : ∀ f, f ∈ ((toldN Pr).flatMap fun x => He.Fa.glo x :: (toldN Pr).map fun y => He.Fa.exm x y (decide (x = y))) → f.ok K = true := fun f hf => cd.facts (by unfold ProgT.fa; simp only [List.mem_append]; exact .inl (.inl (.inr hf)))
  have f7 : ∀ f, f ∈ (Pr.csts.map fun p => match p.2 with
    | .int i => He.Fa.int p.1 i
    | .str s => .str p.1 s
    | .tup _ => .glo p.1
    | .tupI _ => .glo p.1) → f.ok K = true := fun f hf => cd.facts (by unfold ProgT.fa; simp only [List.mem_append]; exact .inl (.inr hf))
  have f8 : ∀ f, f ∈ (Pr.excI.map He.Fa.glo) → f.ok K = true := fun f hf => cd.facts (by unfold ProgT.fa; simp only [List.mem_append]; exact .inr hf)
  have clsOf : ∀ x, x ∈ Pr.cls ∨ x ∈ Pr.exc ∨ x ∈ Pr.excI → (Pr.rc K).cls x = some (He.ga K x) := fun x hx => if_pos ⟨hx, eqs x (by simp only [List.mem_append]; exact hx)⟩
  have clsInv : ∀ x C, (Pr.rc K).cls x = some C → C = He.ga K x := fun x C hC => by
    by_cases hx : x ∈ Pr.cls ∨ x ∈ Pr.exc ∨ x ∈ Pr.excI
    · rw [clsOf x hx] at hC
      cases hC
      rfl
    · have : (Pr.rc K).cls x = none := if_neg fun z => hx z.1
      rw [this] at hC
      cases hC
  refine ⟨rfl, fun t ht => ?_, fun x hx => ?_, fun x hx => ?_, fun t ht x hx hT p hp X hX => ?_, fun p hp => ?_, fun x hx => ?_, fun p hp => ?_, fun t ht x hx hT a l hl X hX => ?_⟩
  · -- a def
    obtain ⟨fd, F⟩ := cd.defs (d := t.dd) (List.mem_map.mpr ⟨t, ht, rfl⟩)
    have F : FunD K t.name t.qual (defArgs t.st) (defBody t.st) (defScope t.st) [] [] (He.fAd K t.at_) fd := F
    have gt := g1 t ht
    unfold DefT.good at gt
    simp only [Bool.and_eq_true, decide_eq_true_eq] at gt
    have code : ∃ cc, fd.code = .ref cc ∧ He.codeOf K t.at_ = cc := by
      obtain ⟨oc, od, dV, kV, doc, pm, an, cdv, ct, osl, e, lk, hcd, _, _⟩ := F.ex
      obtain ⟨cc, ec⟩ := He.codeIn_ref hcd
      subst e
      exact ⟨cc, ec, He.codeOf_eq lk ec⟩
    obtain ⟨cc, ecc, eco⟩ := code
    have tb : (t.gen || t.lam) = true → LamX.TabB base mg cc (He.cT K t.at_).2 := fun hg => by
      have := TB (He.cT K t.at_) (List.mem_map.mpr ⟨t.at_, List.mem_map.mpr ⟨t, List.mem_filter.mpr ⟨ht, hg⟩, rfl⟩, rfl⟩)
      have e : (He.cT K t.at_).1 = cc := eco
      rw [e] at this
      exact this
    have notB : ∀ t2 ∈ Pr.defs, t2.gen = true → ¬ t2.lam = true := fun t2 h2 a b => by
      have := g4 t2 h2
      rw [a, b] at this
      cases this
    refine ⟨He.fAd K t.at_, fd, ⟨F, plain_binds gt.1 gt.2 F, fun hg => ?_, fun hg => ?_⟩, fun x hx => ?_, fun x m hx hc => ?_⟩
    · have T := tb (by rw [hg]; rfl)
      refine ⟨cc, (He.cT K t.at_).2, ecc, ⟨T.code, T.bm, T.gP⟩, TabR.okG (List.mem_map.mpr ⟨t, List.mem_filter.mpr ⟨ht, hg⟩, rfl⟩) fun p hp z => ?_⟩
      obtain ⟨t2, h2, e2⟩ := List.mem_map.mp hp
      obtain ⟨m2, l2⟩ := List.mem_filter.mp h2
      subst e2
      have := nd_at nd' (List.mem_filter.mpr ⟨m2, by rw [l2]; exact Bool.or_true _⟩) (List.mem_filter.mpr ⟨ht, by rw [hg]; rfl⟩) z
      subst this
      exact notB _ ht hg l2
    · have T := tb (by rw [hg]; exact Bool.or_true _)
      have inj : ∀ t2 ∈ Pr.defs, (t2.gen || t2.lam) = true → (He.cT K t2.at_).2 = (He.cT K t.at_).2 → t2 = t := fun t2 m2 hh z => nd_at nd' (List.mem_filter.mpr ⟨m2, hh⟩) (List.mem_filter.mpr ⟨ht, by rw [hg]; exact Bool.or_true _⟩) z
      refine ⟨cc, (He.cT K t.at_).2, Pr.ls K, ecc, T, List.mem_map.mpr ⟨t, List.mem_filter.mpr ⟨ht, hg⟩, rfl⟩, fun p hp z => ?_, fun H q => q.2, fun H H1 q k => TabR.lam (fun z => ?_) H H1 q k⟩
      · obtain ⟨t2, h2, e2⟩ := List.mem_map.mp hp
        obtain ⟨m2, l2⟩ := List.mem_filter.mp h2
        subst e2
        have := inj t2 m2 (by rw [l2]; exact Bool.or_true _) z
        subst this
        rfl
      · obtain ⟨t2, h2, e2⟩ := List.mem_map.mp z
        obtain ⟨m2, l2⟩ := List.mem_filter.mp h2
        have := inj t2 m2 (by rw [l2]; rfl) e2
        subst this
        exact notB _ ht l2 hg
    · have q := f1 (.glo x) (List.mem_flatMap.mpr ⟨t, ht, by rw [hx]; exact List.mem_singleton_self _⟩)
      rw [hx]
      exact He.glo_ok KX G q
    · have q1 := f2 (.glo x) (List.mem_flatMap.mpr ⟨x, hc, by simp⟩)
      have q2 := f2 (.cls x) (List.mem_flatMap.mpr ⟨x, hc, by simp⟩)
      refine ⟨He.ga K x, clsOf x (.inl hc), He.cls_ok q2, He.glo_ok KX G q1, fun hm => ?_, fun hm => ?_⟩
      · have q := f1 (.mkr x) (List.mem_flatMap.mpr ⟨t, ht, by rw [hx]; simp [hm]⟩)
        rw [hx, hm]
        exact He.mkr_ok q
      · have q := f1 (.meth x m) (List.mem_flatMap.mpr ⟨t, ht, by rw [hx]; simp [hm]⟩)
        rw [hx]
        exact He.meth_ok q
  · -- an exception
    have q1 := f3 (.glo x) (List.mem_flatMap.mpr ⟨x, hx, by simp⟩)
    have q2 := f3 (.exc x) (List.mem_flatMap.mpr ⟨x, hx, by simp⟩)
    obtain ⟨e1, e2, e3, e4⟩ := He.exc_ok q2
    refine ⟨He.ga K x, clsOf x (.inr (.inl hx)), e1, He.glo_ok KX G q1, e2, fun M hh k => ⟨PySem.W.looks_subIn k e3, PySem.W.looks_typeIn k e4⟩⟩
  · -- an exception with its own __init__
    obtain ⟨⟨f, fd, xi, x1, x2, x3⟩, xo, _, _, _⟩ := xok x hx
    refine ⟨He.ga K x, f, fd, "self", Pr.exf x, clsOf x (.inr (.inr hx)), xi, xo, x1, x2, x3, He.glo_ok KX G (f8 (.glo x) (List.mem_map.mpr ⟨x, hx, rfl⟩)), ?_⟩
    have hs : ("super" : Str) ∈ Pr.free := by
      have h1 : Pr.excI.isEmpty = false := by
        cases q : Pr.excI with
        | nil => rw [q] at hx; cases hx
        | cons a l => rfl
      rw [h1] at g6
      simpa using g6
    exact He.free_ok KX G (f4 (.free "super") (List.mem_map.mpr ⟨"super", hs, rfl⟩))
  · -- try, except, a field
    have e1 : X.mg = mg := congrArg Stat.mg hX
    have e2 : X.K = K := congrArg Stat.K hX
    have g := g5 t ht
    rw [hx] at g
    have hno : toldOf t.st = none := by
      obtain ⟨q1, q2, q3, q4, q5, q6, q7, q8, q9, q10, q11, j, hb⟩ := partOf_ok hp
      unfold toldOf
      rw [hb]
    simp only [if_pos hT, hno, hp] at g
    simp only [Bool.and_eq_true, decide_eq_true_eq, Bool.not_eq_true'] at g
    obtain ⟨⟨n1, n2⟩, ⟨⟨⟨⟨⟨⟨⟨⟨⟨⟨⟨k1, k2⟩, k3⟩, k4⟩, k5⟩, k6⟩, k7⟩, k8⟩, k9⟩, k10⟩, k11⟩, k12⟩⟩ := g
    simp only [plainName, Bool.and_eq_true, Bool.not_eq_true'] at k4 k12
    obtain ⟨fd, F⟩ := cd.defs (d := t.dd) (List.mem_map.mpr ⟨t, ht, rfl⟩)
    have F : FunD K t.name t.qual (defArgs t.st) (defBody t.st) (defScope t.st) [] [] (He.fAd K t.at_) fd := F
    have gt := g1 t ht
    unfold DefT.good at gt
    simp only [Bool.and_eq_true, decide_eq_true_eq] at gt
    obtain ⟨q1, q2, q3, q4, q5, q6, q7, q8, q9, q10, q11, j, hb⟩ := partOf_ok hp
    obtain ⟨i, hi⟩ := Option.isSome_iff_exists.mp k10
    refine ⟨⟨He.fAd K t.at_, fd, ?_, ?_, ?_⟩, ⟨t.N, i, p.n, ?_, k2, slotAt_ok hi, isLocal_ok k11, k12.1, k12.2, q1, q2, q3, q4, q5, q6, q7, q8, q9, q10, q11, j, hb⟩, visB_ok k3, k4.1, k4.2, ?_⟩
    · rw [e1, hx]
      exact He.glo_ok KX G (f1 (.glo x) (List.mem_flatMap.mpr ⟨t, ht, by rw [hx]; exact List.mem_singleton_self _⟩))
    · rw [e2]
      have := He5.fun_of F
      rw [n1, n2] at this
      exact this
    · rw [e2, ← k5]
      exact plain_binds gt.1 gt.2 F
    · rw [← k5]
      exact (DefT.scope k1).1
    · obtain ⟨_, _, y1, y2, y3⟩ := xok p.c k6
      rw [e1, e2]
      refine ⟨He.ga K p.c, clsOf p.c (.inr (.inr k6)), He.glo_ok KX G (f8 (.glo p.c) (List.mem_map.mpr ⟨p.c, k6, rfl⟩)), ?_, by simpa using k9, y1, y2, by rw [k7]; exact y3⟩
      split at k8
      · assumption
      · cases k8
  · -- a constant
    obtain ⟨x, ct⟩ := p
    have q := f7 _ (List.mem_map.mpr ⟨(x, ct), hp, rfl⟩)
    cases ct with
    | int i =>
      obtain ⟨t, e⟩ := He.int_ok KX G q
      exact gt_int e ⟨t, rfl⟩
    | str s =>
      obtain ⟨t, e⟩ := He.str_ok KX G q
      exact gt_str e ⟨t, rfl⟩
    | tup ss =>
      have e0 := ec (x, .tup ss) hp
      simp only [Bool.and_eq_true] at e0
      have e1 := wrT_of e0.1 e0.2
      rw [List.map_map] at e1
      exact gt_tup (He.glo_ok KX G q) e1
    | tupI is =>
      have e0 := ec (x, .tupI is) hp
      simp only [Bool.and_eq_true] at e0
      have e1 := wrT_of e0.1 e0.2
      rw [List.map_map] at e1
      exact gt_tupI (He.glo_ok KX G q) e1
  · exact He.free_ok KX G (f4 (.free x) (List.mem_map.mpr ⟨x, hx, rfl⟩))
  · intro c hc C hC
    rw [List.mem_singleton] at hc
    subst hc
    have hcl : p.1 ∈ Pr.cls := of_decide_eq_true (g3 p hp)
    have e := clsInv _ _ hC
    subst e
    exact ⟨He.cls_ok (f2 (.cls p.1) (List.mem_flatMap.mpr ⟨p.1, hcl, by simp⟩)), He.noat_ok (f5 (.noat p.1 p.2) (List.mem_map.mpr ⟨p, hp, rfl⟩))⟩
  · -- told
    have e1 : X.mg = mg := congrArg Stat.mg hX
    have e2 : X.K = K := congrArg Stat.K hX
    have g := g5 t ht
    rw [hx] at g
    simp only [if_pos hT, hl] at g
    simp only [Bool.and_eq_true, decide_eq_true_eq, List.all_eq_true] at g
    obtain ⟨⟨n1, n2⟩, ⟨⟨⟨⟨k1, k2⟩, k3⟩, k4⟩, k5⟩, k6⟩ := g
    simp only [plainName, Bool.and_eq_true, Bool.not_eq_true'] at k4
    obtain ⟨fd, F⟩ := cd.defs (d := t.dd) (List.mem_map.mpr ⟨t, ht, rfl⟩)
    have F : FunD K t.name t.qual (defArgs t.st) (defBody t.st) (defScope t.st) [] [] (He.fAd K t.at_) fd := F
    have gt := g1 t ht
    unfold DefT.good at gt
    simp only [Bool.and_eq_true, decide_eq_true_eq] at gt
    have tN : ∀ z ∈ l, z.1 ∈ toldN Pr := fun z hz => by
      unfold toldN
      refine List.mem_flatMap.mpr ⟨t, ht, ?_⟩
      rw [hx]
      simp only [hT, and_self, if_true, hl]
      exact List.mem_map.mpr ⟨z, hz, rfl⟩
    obtain ⟨h0, hds, p1, p2, p3, p8, hb, hh⟩ := toldOf_ok hl
    have hd := toldHds_ok (mg := X.mg) (sc := defScope t.st) (R := Pr.rc K) (ga := He.ga K) hh fun z hz => by
      have hz6 := k6 z hz
      obtain ⟨⟨z1, z2⟩, z3⟩ := hz6
      refine ⟨?_, by simpa using z3, ?_, clsOf _ (.inr z1)⟩
      · split at z2
        · assumption
        · cases z2
      · rw [e1]
        exact He.glo_ok KX G (f6 (.glo z.1) (List.mem_flatMap.mpr ⟨z.1, tN z hz, List.mem_cons_self⟩))
    refine ⟨⟨He.fAd K t.at_, fd, ?_, ?_, ?_⟩, ⟨t.N, ?_, k2⟩, visB_ok k3, k4.1, k4.2, ⟨h0, hds, _, p1, p2, p3, p8, hb, hd.1, hd.2⟩, ?_⟩
    · rw [e1, hx]
      exact He.glo_ok KX G (f1 (.glo x) (List.mem_flatMap.mpr ⟨t, ht, by rw [hx]; exact List.mem_singleton_self _⟩))
    · rw [e2]
      have := He5.fun_of F
      rw [n1, n2] at this
      exact this
    · rw [e2, ← k5]
      exact plain_binds gt.1 gt.2 F
    · rw [← k5]
      exact (DefT.scope k1).1
    · intro n s n' s' C C' hm hm' hC hC'
      have c1 := clsInv _ _ hC
      have c2 := clsInv _ _ hC'
      subst c1 c2
      rw [e2]
      exact He.exm_ok (f6 (.exm n n' (decide (n = n'))) (List.mem_flatMap.mpr ⟨n, tN _ hm, List.mem_cons_of_mem _ (List.mem_map.mpr ⟨n', tN _ hm', rfl⟩)⟩))
end
end TL

set_option maxHeartbeats 4000000
namespace TL
open PySem PySem.Spec PyProof.Rows L2

/-! # the law's own def: for dice in rounds(script, 1): .. -/
def spR (R : RC) : Sp := fun vs H Q E => ∃ (a : Addr) (ns : List Int), vs = [.ref a, .int 1] ∧ SqL R.K H a (ns.map V.int) ∧ R.Tab H ∧
  ∀ (p q : Addr) (x y z : Int) (H' : Hp), H' p = some (.lst [.ref q]) → H' q = some (.lst [.int x, .int y, .int z]) → R.Tab H' → Q (.ref p) H'
def spL (R : RC) : Sp := fun vs H Q E => ∃ (a : Addr) (ns : List Int), vs = [.ref a] ∧ SqL R.K H a (ns.map V.int) ∧ R.Tab H ∧ ∀ H', Q (.bl true) H'
def isPlainD (x : Str) : Bool := !(x == ("__debug__" : Str))
section
variable {s : Stat} {R : RC} {G : GE} {k : Nat}
/-- the context of a def's body -/
theorem xok_def {t : DefT} {f : Addr} {fd : FuncData} (h : t.ok = true) (a : FnAt s R t f fd) (g : GOk G R s) {A : Around} {outer : List PySem.Env} {s' : Shared} {H : Hp} {E : XK} (hr : Room k (A.deeper (envOfC t.qual (defScope t.st) s'.heap.objs.size f fd.code))) :
    XOk G R (t.SC k) (fun cls d _ H' => E cls d H') (cxOf (L2.CX s.prog s.w) s.prog s.w s.K s.mg s.base t.N t.qual (defScope t.st) f fd.code A outer s' H E) where
  g := g
  N := rfl
  nd := (DefT.scope h).1.nd
  sc := rfl
  kind := (DefT.scope h).1.kind
  calm := rfl
  room := hr
  po := passes_of rfl
  tk := takes_cx
  fn := fun x hx => rfl
  code := fun hx => by
    obtain ⟨cc, P, e1, e2, e3⟩ := a.gen hx
    exact ⟨cc, P, e1, e2, e3⟩
  lam := fun hx => by
    obtain ⟨cc, P, ls, e1, e2, e3, e4, e5, e6⟩ := a.lam hx
    exact ⟨cc, P, ls, ⟨e1, e2, e3, e4, e5, e6⟩⟩
theorem fn_body {t : DefT} {f : Addr} {fd : FuncData} {sp : Sp} (h : t.ok = true) (a : FnAt s R t f fd) (len : ∀ vs H Q E, sp vs H Q E → vs.length = t.ps.length)
    (hb : ∀ (A : Around) (outer : List PySem.Env) (s' : Shared) (H : Hp) (vs : List V) (Q : VK) (E : XK), Room k (A.deeper (envOfC t.qual (defScope t.st) s'.heap.objs.size f fd.code)) → sp vs H Q E →
      ∃ tt, PSs (cxOf (L2.CX s.prog s.w) s.prog s.w s.K s.mg s.base t.N t.qual (defScope t.st) f fd.code A outer s' H E) (defBody t.st) tt ∧ tt { nx := fun _ H' => Q .non H', rt := Q } (L2.start t.N vs) H) :
    FnOk s.prog s.w s.K s.mg s.base (L2.CX s.prog s.w) (k + 1) f fd t.ps sp := by
  obtain ⟨oc, od, dV, kV, doc, pm, an, cdv, ct, osl, rfl, lk, hcd, _, _⟩ := a.d.ex
  exact fn_of lk hcd (DefT.scope h).1 len fun A outer s' H vs Q E hr hh => hb A outer s' H vs Q E hr hh
theorem visV {sc : Scope} {x : Str} (h : locB sc x = true) : Vis sc x := by
  rcases locB_ok h with h | h
  · exact .inl h
  · exact .inr (.inl h)
theorem Reps.ints {ex : Addr → Prop} {H : Hp} : ∀ ns : List Int, Reps R ex H (ns.map T.int) (ns.map V.int)
  | [] => rfl
  | n :: r => ⟨.int n, _, rfl, rfl, Reps.ints r⟩
/-- rounds(script, 1) -/
theorem rounds_ok {t : DefT} {f : Addr} {fd : FuncData} {cv sv mv : Str} {q1 q2 q3 q4 q5 q6 : Pos} {rest : List Stmt} {Nr : List Str} (h : t.ok = true) (a : FnAt s R t f fd) (g : GOk G R s) (hP : t.P = 0) (hnp : t.np = 2)
    (hb : defBody t.st = .Assign [.Name cv q1] (.Subscript (.Name sv q2) (.Slice none (some (.Name mv q3)) none q4) q5) q6 :: rest) (hN : t.N = sv :: mv :: cv :: Nr)
    (h1 : locB (defScope t.st) sv = true ∧ locB (defScope t.st) mv = true ∧ locB (defScope t.st) cv = true) (h2 : plainName sv = true ∧ plainName mv = true)
    (hm : ∀ ns : List Int, ∃ x y z μ', evSs (ev G fuel) (t.SC k) rest (none :: some (.int 1) :: some (.lst ((ns.take 1).map T.int)) :: List.replicate Nr.length none) [] = some (.rt (.lst [.lst [.int x, .int y, .int z]]), μ')) :
    FnOk s.prog s.w s.K s.mg s.base (L2.CX s.prog s.w) (k + 1) f fd t.ps (spR R) := by
  refine fn_body h a (fun vs H Q E hh => ?_) (fun A outer s' H vs Q E hr hh => ?_)
  · obtain ⟨a, ns, rfl, _⟩ := hh
    unfold DefT.ps
    rw [hnp, hN]
    rfl
  · obtain ⟨a0, ns, rfl, hS, hT, hQ⟩ := hh
    have X := xok_def (H := H) (E := E) (outer := outer) h a g hr
    have nd := (DefT.scope h).1.nd
    obtain ⟨l1, l2, l3⟩ := h1
    obtain ⟨n1, n2⟩ := h2
    simp only [plainName, Bool.and_eq_true, Bool.not_eq_true'] at n1 n2
    rw [hb]
    refine ⟨_, pss_cons (ps_set (i := 2) nd (by show t.N[2]? = _; rw [hN]; rfl) (locB_ok l3) (pe_slice sl_list (pe_var (i := 0) (by show t.N[0]? = _; rw [hN]; rfl) (visV l1) n1.1 n1.2) po_none (po_some (pe_var (i := 1) (by show t.N[1]? = _; rw [hN]; rfl) (visV l2) n2.1 n2.2))) rfl (.inl rfl))
      (evSs_ok (ev_ok (G := G) (R := R) fuel) X rest), ?_⟩
    have e0 : L2.start t.N [V.ref a0, .int 1] = some (.ref a0) :: some (.int 1) :: none :: List.replicate Nr.length none := by
      rw [hN]
      unfold L2.start
      simp [List.replicate_succ]
    rw [e0]
    refine ⟨.ref a0, rfl, ?_⟩
    refine ⟨.int 1, rfl, 1, rfl, a0, ns.map V.int, rfl, by rw [X.K]; exact hS, fun p hp => ?_⟩
    obtain ⟨x, y, z, μ', e⟩ := hm ns
    have hc : cutV (ns.map V.int) none (some 1) = (ns.take 1).map V.int := by
      cases ns with
      | nil => rfl
      | cons n r =>
        have : cutV ((n :: r).map V.int) none (some 1) = ((n :: r).map V.int).take 1 := by
          unfold cutV
          simp [HT.sIx]
        rw [this]
        rfl
    rw [hc]
    have so : SOk R (fun _ => False) [] [] (upd H p (.lst ((ns.take 1).map V.int))) := by
      refine ⟨rfl, List.nodup_nil, fun a h => h.elim, fun n a o h => by simp at h, fun a h => (by cases h), fun n o h => by simp at h, fun n o h => by simp at h, R.tabk _ _ hT (fun b ps hb => ?_) fun b φ hb => ?_⟩
      · rw [upd_ne (ne_of_none hb hp)]; exact hb
      · rw [upd_ne (ne_of_none hb hp)]; exact hb
    have en : EnvOk R (fun _ => False) [] (none :: some (.int 1) :: some (.lst ((ns.take 1).map T.int)) :: List.replicate Nr.length none) [] ((some (V.ref a0) :: some (.int 1) :: none :: List.replicate Nr.length none : L2.St).set 2 (some (.ref p))) (upd H p (.lst ((ns.take 1).map V.int))) := by
      refine ⟨so, by simp, fun i t' ht => ?_⟩
      match i with
      | 0 => simp at ht
      | 1 => simp at ht; subst ht; exact ⟨.int 1, rfl, .inr rfl⟩
      | 2 =>
        have et : t' = .lst ((ns.take 1).map T.int) := by
          have : some (some (T.lst ((ns.take 1).map T.int))) = some (some t') := ht
          cases this
          rfl
        subst et
        exact ⟨.ref p, rfl, .inr ⟨p, _, rfl, fun z => by rcases z with z | ⟨_, _, z, _⟩ <;> simp at z, upd_same, Reps.ints _⟩⟩
      | i + 3 =>
        simp only [List.getElem?_cons_succ, List.getElem?_replicate] at ht
        split at ht <;> cases ht
    refine ⟨fun _ => False, [], _, [], en, ?_⟩
    rw [e]
    intro S' v H' g1 s1 r1
    obtain ⟨p2, xs, rfl, _, e2, x1, r, rfl, ⟨q, ys, rfl, _, e3, rr⟩, rfl⟩ := r1
    obtain ⟨_, _, rfl, rfl, _, _, rfl, rfl, _, _, rfl, rfl, rfl⟩ := rr
    exact hQ p2 q x y z H' e2 e3 s1.tab
/-- the law -/
theorem law_ok {t tr : DefT} {f fr : Addr} {fd fdr : FuncData} {dv rd sv : Str} {p1 p2 p3 p4 p5 p6 p7 p8 : Pos} {j j2 i kr : Nat} {body : List Stmt} {Nr : List Str} (h : t.ok = true) (a : FnAt s R t f fd) (g : GOk G R s) (hP : t.P = 0) (hnp : t.np = 1)
    (hb : defBody t.st = [.For (.Name dv p1) (.Call (.Name rd p2) [.Name sv p3, .Constant (.int 1) j p4] [] p5) body [] p6, .Return (some (.Constant (.bool true) j2 p7)) p8]) (hN : t.N = sv :: Nr) (hi : t.N[i]? = some dv)
    (h1 : locB (defScope t.st) sv = true ∧ locB (defScope t.st) dv = true) (h2 : plainName sv = true) (h3 : glB (t.SC k) rd = true)
    (Fr : FnOk s.prog s.w s.K s.mg s.base (L2.CX s.prog s.w) kr fr fdr tr.ps (spR R)) (hkr : kr ≤ k) (hmr : s.mg rd = some (.ref fr)) (hkp : PySem.W.keepIn s.K (.ref fr) = true) (hbr : Binds s.K fdr tr.ps [])
    (hm : ∀ x y z : Int, ∃ ρ' μ', evSs (ev G fuel) (t.SC k) body ((List.replicate t.N.length none).set i (some (.sh 0))) [(.lst [.int x, .int y, .int z], true)] = some (.nx ρ', μ')) :
    FnOk s.prog s.w s.K s.mg s.base (L2.CX s.prog s.w) (k + 1) f fd t.ps (spL R) := by
  refine fn_body h a (fun vs H Q E hh => ?_) (fun A outer s' H vs Q E hr hh => ?_)
  · obtain ⟨a, ns, rfl, _⟩ := hh
    unfold DefT.ps
    rw [hnp, hN]
    rfl
  · obtain ⟨a0, ns, rfl, hS, hT, hQ⟩ := hh
    have X := xok_def (H := H) (E := E) (outer := outer) h a g hr
    have nd := (DefT.scope h).1.nd
    obtain ⟨l1, l2⟩ := h1
    simp only [plainName, Bool.and_eq_true, Bool.not_eq_true'] at h2
    obtain ⟨gl, db⟩ := gl_of X h3
    rw [hb]
    refine ⟨_, pss_cons (ps_for X.po X.calm (pi_list (pe_callS Fr (hr.mono hkr) gl hmr hkp hbr (passAt X.tk) (pa_cons (pe_var (i := 0) (by show t.N[0]? = _; rw [hN]; rfl) (visV l1) h2.1 h2.2) (pa_cons pe_int pa_nil)) db)) (pg_name (i := i) nd hi (locB_ok l2) (.inl rfl)) (evSs_ok (ev_ok (G := G) (R := R) fuel) X body)) (pss_one (ps_ret pe_bl)), ?_⟩
    have e0 : L2.start t.N [V.ref a0] = some (.ref a0) :: List.replicate Nr.length none := by
      rw [hN]
      unfold L2.start
      simp
    rw [e0]
    refine ⟨.ref a0, rfl, a0, ns, rfl, by exact hS, hT, fun p q x y z H' hp hq hT' => ?_⟩
    have hpq : q ≠ p := fun e => by rw [e, hp] at hq; cases hq
    have hl0 : (some (V.ref a0) :: List.replicate Nr.length none : L2.St).length = t.N.length := by rw [hN]; simp
    refine ⟨p, rfl, ⟨_, SqL.of hp⟩, ?_⟩
    refine for_list (xs := [.ref q]) (fun n σ H'' => SqL s.K H'' p [.ref q] ∧ (n = 0 → σ.length = t.N.length ∧ H'' p = some (.lst [.ref q]) ∧ H'' q = some (.lst [.int x, .int y, .int z]) ∧ R.Tab H'')) ⟨SqL.of hp, fun _ => ⟨hl0, hp, hq, hT'⟩⟩ (fun n σ H'' _ ⟨h, _⟩ => h) (fun n v σ H'' hv ⟨hs, h0⟩ => ?_) (fun σ H'' _ => hQ H'')
    match n with
    | n + 1 => simp at hv
    | 0 =>
      simp at hv
      subst hv
      obtain ⟨hl, hp2, hq2, hT2⟩ := h0 rfl
      obtain ⟨ρ', μ', e⟩ := hm x y z
      have so : SOk R (fun _ => False) [q] [(.lst [.int x, .int y, .int z], true)] H'' := by
        refine ⟨rfl, by simp, fun a h => h.elim, fun n a o _ _ h => h, fun a h => ?_, fun n o h => ?_, fun n o h => ?_, hT2⟩
        · rw [List.mem_singleton] at h
          rw [h, hq2]
          exact fun z => by cases z
        · match n with
          | 0 => simp at h; subst h; exact ⟨q, rfl, _, hq2, Reps.ints [x, y, z]⟩
          | n + 1 => simp at h
        · match n with
          | 0 => simp at h
          | n + 1 => simp at h
      have en : EnvOk R (fun _ => False) [q] ((List.replicate t.N.length none).set i (some (.sh 0))) [(.lst [.int x, .int y, .int z], true)] (σ.set i (some (.ref q))) H'' := by
        refine ⟨so, by rw [List.length_set, List.length_replicate, List.length_set, hl], fun m t' ht => ?_⟩
        by_cases hm : i = m
        · subst hm
          have hlt : i < t.N.length := ltE hi
          rw [List.getElem?_set_self (by simpa using hlt)] at ht
          cases ht
          exact ⟨.ref q, by rw [List.getElem?_set_self (by rw [hl]; exact hlt)], .inl ⟨0, q, rfl, rfl, rfl⟩⟩
        · rw [List.getElem?_set_ne hm, List.getElem?_replicate] at ht
          split at ht <;> cases ht
      refine ⟨fun _ => False, [q], _, _, en, ?_⟩
      rw [e]
      intro S' σ' H3 g3 e3
      refine ⟨SqL.of (g3.keep p _ hp2 (fun ps z => by cases z) fun n m h1 _ => ?_), fun z => by cases z⟩
      match n with
      | 0 => simp at h1; exact hpq h1
      | n + 1 => simp at h1
end
end TL

set_option maxHeartbeats 4000000
namespace TL
open PySem PySem.Spec PyProof.Rows L2

/-- the texts of the law's def and of rounds -/
structure LawTx (Pr : ProgT) (tl tr : DefT) (dv rd sv cv sv2 mv : Str) (body rest : List Stmt) (Nl Nr : List Str) (i : Nat) : Prop where
  ml : tl ∈ Pr.defs
  mr : tr ∈ Pr.defs
  al : tl.at_ = (Str.ofString "law", none)
  ar : tr.at_ = (rd, none)
  okl : tl.ok = true
  okr : tr.ok = true
  Pl : tl.P = 0
  Pr_ : tr.P = 0
  npl : tl.np = 1
  npr : tr.np = 2
  bl : ∃ p1 p2 p3 p4 p5 p6 p7 p8 j j2, defBody tl.st = [.For (.Name dv p1) (.Call (.Name rd p2) [.Name sv p3, .Constant (.int 1) j p4] [] p5) body [] p6, .Return (some (.Constant (.bool true) j2 p7)) p8]
  br : ∃ q1 q2 q3 q4 q5 q6, defBody tr.st = .Assign [.Name cv q1] (.Subscript (.Name sv2 q2) (.Slice none (some (.Name mv q3)) none q4) q5) q6 :: rest
  Nl_ : tl.N = sv :: Nl
  Nr_ : tr.N = sv2 :: mv :: cv :: Nr
  ni : tl.N[i]? = some dv
  vl : locB (defScope tl.st) sv = true ∧ locB (defScope tl.st) dv = true
  vr : locB (defScope tr.st) sv2 = true ∧ locB (defScope tr.st) mv = true ∧ locB (defScope tr.st) cv = true
  nl : plainName sv = true
  nr : plainName sv2 = true ∧ plainName mv = true
  hh : tr.h < tl.h
  gl : ∀ k, glB (tl.SC k) rd = true
theorem law_says {l : PySem.W.OpenLaw} {Pr : ProgT} {tl tr : DefT} {dv rd sv cv sv2 mv : Str} {body rest : List Stmt} {Nl Nr : List Str} {i nn : Nat} (hpg : progB Pr l.prog = true) (good : Pr.good = true) (hP : ∀ t ∈ Pr.defs, ∀ x, t.at_ = (x, some initN) → t.P = 1)
    (L : LawTx Pr tl tr dv rd sv cv sv2 mv body rest Nl Nr i)
    (hr : ∀ ns : List Int, ∃ x y z μ', evSs (ev (gH Pr tr.h) fuel) (tr.SC (lev tr.h)) rest (none :: some (.int 1) :: some (.lst ((ns.take 1).map T.int)) :: List.replicate Nr.length none) [] = some (.rt (.lst [.lst [.int x, .int y, .int z]]), μ'))
    (hb : ∀ x y z : Int, ∃ ρ' μ', evSs (ev (gH Pr tl.h) fuel) (tl.SC (lev tl.h)) body ((List.replicate tl.N.length none).set i (some (.sh 0))) [(.lst [.int x, .int y, .int z], true)] = some (.nx ρ', μ'))
    (w : World) (mg : Str → Option Value) (fa : Addr) (h : Heap) (Y : ∃ K : PySem.W.Frag, K.In h ∧ He.SaysX Pr.fa (Pr.defs.map DefT.dd) [] Pr.tf Pr.ex w h K) (G : h.Ns mainGlobals mg) (hfa : mg ("law" : Str) = some (.ref fa)) :
    ∃ K : PySem.W.Frag, K.In h ∧ LamX.LawAtS l w K (L2.CX l.prog w) (lev tl.h + 1) nn sv mg fa h := by
  obtain ⟨K, KX, c⟩ := Y
  refine ⟨K, KX, ?_⟩
  have cd := c.t.d
  have good0 := good
  unfold ProgT.good at good
  simp only [Bool.and_eq_true, List.all_eq_true] at good
  obtain ⟨⟨⟨⟨⟨g1, g2⟩, g3⟩, g4⟩, g5⟩, g6⟩ := good
  have glo : ∀ t ∈ Pr.defs, ∀ x, t.at_ = (x, none) → (He.Fa.glo x).ok K = true := fun t ht x hx => cd.facts (by
    unfold ProgT.fa
    simp only [List.mem_append]
    exact .inl (.inl (.inl (.inl (.inl (.inl (.inl (List.mem_flatMap.mpr ⟨t, ht, by rw [hx]; exact List.mem_singleton_self _⟩))))))))
  obtain ⟨fd, F⟩ := cd.defs (d := tl.dd) (List.mem_map.mpr ⟨tl, L.ml, rfl⟩)
  have F : FunD K tl.name tl.qual (defArgs tl.st) (defBody tl.st) (defScope tl.st) [] [] (He.fAd K tl.at_) fd := F
  have efa : fa = He.fAd K tl.at_ := by
    have q := He.glo_ok KX G (glo tl L.ml (Str.ofString "law") L.al)
    rw [hfa] at q
    cases q
    rw [L.al]
    rfl
  subst efa
  have gt := g1 tl L.ml
  unfold DefT.good at gt
  simp only [Bool.and_eq_true, decide_eq_true_eq] at gt
  have psl : tl.ps = [sv] := by
    unfold DefT.ps
    rw [L.npl, L.Nl_]
    rfl
  refine ⟨fd, Pr.tf.map (He.cT K), spL (Pr.rc K), fun p hp => ?_, fun p hp => ?_, fun p hp => ?_, fun s u => ?_, fun H a ns _ _ hT hS => ⟨a, ns, rfl, hS, ⟨fun P hP => ?_, fun p hp => ?_⟩, fun _ => rfl⟩, fun base KB GB TB => ?_⟩
  · obtain ⟨q, hq, e⟩ := List.mem_map.mp hp
    subst e
    exact c.empty q hq
  · obtain ⟨q, hq, e⟩ := List.mem_map.mp hp
    subst e
    exact c.out q hq
  · obtain ⟨q, hq, e⟩ := List.mem_map.mp hp
    subst e
    exact PySem.W.codeHd_of_K KX (c.hd q hq)
  · -- binding
    have ga := gt.1
    unfold plainArgs at ga
    split at ga
    · rename_i args he
      have e := of_decide_eq_true ga
      have nd2 : tl.ps.Nodup := gt.2.sublist (List.take_sublist ..)
      have := FunD.bindsA (ps := tl.ps) F (fun kV doc pm an cdv ct us hl => by
        rw [he, ← e]
        rw [← e] at hl nd2
        exact bind_plain hl nd2) s [u] (by rw [psl]; rfl)
      rw [psl] at this
      exact this
    · cases ga
  · obtain ⟨t, ht, e⟩ := List.mem_map.mp hP
    obtain ⟨m, g⟩ := List.mem_filter.mp ht
    subst e
    exact ⟨#[], hT (He.cT K t.at_) (List.mem_map.mpr ⟨t.at_, List.mem_map.mpr ⟨t, List.mem_filter.mpr ⟨m, by rw [g]; rfl⟩, rfl⟩, rfl⟩), trivial⟩
  · obtain ⟨t, ht, e⟩ := List.mem_map.mp hp
    obtain ⟨m, g⟩ := List.mem_filter.mp ht
    subst e
    exact ⟨#[], hT (He.cT K t.at_) (List.mem_map.mpr ⟨t.at_, List.mem_map.mpr ⟨t, List.mem_filter.mpr ⟨m, by rw [g]; exact Bool.or_true _⟩, rfl⟩, rfl⟩), trivial, fun pos cv h => by cases h⟩
  · have o := pok (prog := l.prog) (w := w) hpg good0 KB GB c TB
    have gk := gH_ok o hP
    obtain ⟨f, fd1, A, hm, _⟩ := o.fn tl L.ml
    obtain ⟨fr, fdr, Ar, hmr, _⟩ := o.fn tr L.mr
    have e1 : mg ("law" : Str) = some (.ref f) := hm _ L.al
    rw [hfa] at e1
    cases e1
    have e2 : fd1 = fd := by
      obtain ⟨oc, od, dV, kV, doc, pm, an, cdv, ct, osl, rfl, lk, _, _, _⟩ := F.ex
      obtain ⟨oc2, od2, dV2, kV2, doc2, pm2, an2, cdv2, ct2, osl2, rfl, lk2, _, _, _⟩ := A.d.ex
      have lk2 : K.lookup _ = _ := lk2
      rw [lk] at lk2
      cases lk2
      rfl
    subst e2
    obtain ⟨q1, q2, q3, q4, q5, q6, hbr⟩ := L.br
    obtain ⟨p1, p2, p3, p4, p5, p6, p7, p8, j, j2, hbl⟩ := L.bl
    have Fr := rounds_ok (k := lev tr.h) L.okr Ar (gk tr.h) L.Pr_ L.npr hbr L.Nr_ L.vr L.nr hr
    have Fl := law_ok (k := lev tl.h) (tr := tr) L.okl A (gk tl.h) L.Pl L.npl hbl L.Nl_ L.ni L.vl L.nl (L.gl _) Fr (by have := L.hh; unfold lev; omega) (hmr _ L.ar) Ar.d.kp Ar.b hb
    rw [psl] at Fl
    exact Fl
end TL

set_option maxHeartbeats 4000000
namespace TL
open PySem PySem.Spec PyProof.Rows L2

/-! # meanings worked out: rules for simp -/
section
variable {ρ : Env} {μ : Mu} {i : Nat} {t x y : T}
@[simp] theorem x_var : mVar i ρ μ = match ρ[i]? with
  | some (some t) => some (.ok t, μ)
  | _ => none := by unfold mVar; split <;> simp_all [M.ret, M.stuck]
@[simp] theorem x_cst : mCst t ρ μ = some (.ok t, μ) := rfl
@[simp] theorem x_ret {α : Type} {a : α} : M.ret a μ = some (.ok a, μ) := rfl
@[simp] theorem x_opt1 {α : Type} {a : α} : M.opt (some a) μ = some (.ok a, μ) := rfl
@[simp] theorem x_opt0 {α : Type} : M.opt (none : Option α) μ = none := rfl
@[simp] theorem x_bind {α β : Type} {m : M α} {k : α → M β} : M.bind m k μ = match m μ with
  | none => none
  | some (.ok a, μ') => k a μ'
  | some (.ex x, μ') => some (.ex x, μ') := rfl
@[simp] theorem x_eM {α : Type} {m : M α} {k : α → Mu → Option (SR × Mu)} : eM m k μ = match m μ with
  | none => none
  | some (.ok a, μ') => k a μ'
  | some (.ex x, μ') => some (.ex x, μ') := rfl
@[simp] theorem l_int {k : Int} : look μ (.int k) = some (.int k) := rfl
@[simp] theorem l_str {k : Str} : look μ (.str k) = some (.str k) := rfl
@[simp] theorem l_bl {k : Bool} : look μ (.bl k) = some (.bl k) := rfl
@[simp] theorem l_non : look μ .non = some .non := rfl
@[simp] theorem l_tup {k : List T} : look μ (.tup k) = some (.tup k) := rfl
@[simp] theorem l_wt {k : List T} : look μ (.wt k) = some (.wt k) := rfl
@[simp] theorem l_lst {k : List T} : look μ (.lst k) = some (.lst k) := rfl
@[simp] theorem l_dct {b : Bool} {k : List (T × T)} : look μ (.dct b k) = some (.dct b k) := rfl
@[simp] theorem l_ins {c : Str} {k : List (Str × T)} : look μ (.ins c k) = some (.ins c k) := rfl
@[simp] theorem l_sh {n : Nat} : look μ (.sh n) = match μ[n]? with
  | some (o, _) => some o.t
  | none => none := rfl
@[simp] theorem k_int {p : Nat} {k : Int} : keepT p (.int k) μ = some (.ok (.int k), μ) := rfl
@[simp] theorem k_str {p : Nat} {k : Str} : keepT p (.str k) μ = some (.ok (.str k), μ) := rfl
@[simp] theorem k_bl {p : Nat} {k : Bool} : keepT p (.bl k) μ = some (.ok (.bl k), μ) := rfl
@[simp] theorem k_non {p : Nat} : keepT p .non μ = some (.ok .non, μ) := rfl
@[simp] theorem k_tup {p : Nat} {k : List T} : keepT p (.tup k) μ = some (.ok (.tup k), μ) := rfl
@[simp] theorem k_wt {p : Nat} {k : List T} : keepT p (.wt k) μ = some (.ok (.wt k), μ) := rfl
@[simp] theorem k_lst {p : Nat} {k : List T} : keepT p (.lst k) μ = some (.ok (.lst k), μ) := rfl
@[simp] theorem k_dct {p : Nat} {b : Bool} {k : List (T × T)} : keepT p (.dct b k) μ = some (.ok (.dct b k), μ) := rfl
@[simp] theorem k_ins {p : Nat} {c : Str} {k : List (Str × T)} : keepT p (.ins c k) μ = some (.ok (.ins c k), μ) := rfl
@[simp] theorem a_int {p q : Nat} {k : Int} : keepA q p (.int k) μ = some (.ok (.int k), μ) := rfl
@[simp] theorem a_str {p q : Nat} {k : Str} : keepA q p (.str k) μ = some (.ok (.str k), μ) := rfl
@[simp] theorem a_bl {p q : Nat} {k : Bool} : keepA q p (.bl k) μ = some (.ok (.bl k), μ) := rfl
@[simp] theorem a_non {p q : Nat} : keepA q p .non μ = some (.ok .non, μ) := rfl
@[simp] theorem a_tup {p q : Nat} {k : List T} : keepA q p (.tup k) μ = some (.ok (.tup k), μ) := rfl
@[simp] theorem a_wt {p q : Nat} {k : List T} : keepA q p (.wt k) μ = some (.ok (.wt k), μ) := rfl
@[simp] theorem a_lst {p q : Nat} {k : List T} : keepA q p (.lst k) μ = some (.ok (.lst k), μ) := rfl
@[simp] theorem a_dct {p q : Nat} {b : Bool} {k : List (T × T)} : keepA q p (.dct b k) μ = some (.ok (.dct b k), μ) := rfl
@[simp] theorem a_ins {p q : Nat} {c : Str} {k : List (Str × T)} : keepA q p (.ins c k) μ = some (.ok (.ins c k), μ) := rfl
@[simp] theorem a_sh0 {p q : Nat} {n : Nat} (h : n < p) : keepA q p (.sh n) μ = some (.ok (.sh n), μ) := by simp [keepA, h]
end
/-- the values of operators at ints -/
@[simp] theorem f_add {i j : Int} : addT (.int i) (.int j) = some (.int (i + j)) := rfl
@[simp] theorem f_sub {i j : Int} : subT (.int i) (.int j) = some (.int (i - j)) := rfl
@[simp] theorem f_neg {i : Int} : negT (.int i) = some (.int (-i)) := rfl
@[simp] theorem f_lt {i j : Int} : ltT (.int i) (.int j) = some (.bl (decide (i < j))) := rfl
@[simp] theorem f_le {i j : Int} : leT (.int i) (.int j) = some (.bl (decide (i ≤ j))) := rfl
@[simp] theorem f_gt {i j : Int} : gtT (.int i) (.int j) = some (.bl (decide (j < i))) := rfl
@[simp] theorem f_ge {i j : Int} : geT (.int i) (.int j) = some (.bl (decide (j ≤ i))) := rfl
/-- an int that a product may have -/
def B64 (i : Int) : Prop := -(2 ^ 64) < i ∧ i < 2 ^ 64
theorem f_mul {i j : Int} (h : B64 i) : mulT (.int i) (.int j) = some (.int (i * j)) := if_pos (.inl h)
theorem f_mulR {i j : Int} (h : B64 j) : mulT (.int i) (.int j) = some (.int (i * j)) := if_pos (.inr h)
theorem f_div {i j : Int} (h : 0 < j ∧ j < 1073741824) : fdivT (.int i) (.int j) = some (.int (i / j)) := if_pos h
theorem f_mod {i j : Int} (h : 0 < j) : modT (.int i) (.int j) = some (.int (i % j)) := if_pos h
@[simp] theorem i_add {i j : Int} : iaddT (.int i) (.int j) = some (.int (i + j)) := rfl
/-! ### what is built of parts -/
section
variable {ρ : Env} {μ : Mu} {i q P np : Nat} {t x y : T} {f g : Sm} {fa fb fc fo fi fv fe : Env → M T} {ft fu : Env → M Bool} {fs fr : Env → M (List T)} {h k : T → T → Option T} {h1 : T → Option T} {G : FM} {b : TB} {ff : Env → M MO} {c : Str} {ts : List T}
@[simp] theorem y_seq : mSeq f g ρ μ = match f ρ μ with
  | some (.nx ρ', μ') => g ρ' μ'
  | r => r := rfl
@[simp] theorem y_skip : mSkip ρ μ = some (.nx ρ, μ) := rfl
@[simp] theorem y_never : mNever ρ μ = none := rfl
@[simp] theorem y_set : mSet i fa ρ μ = eM (fa ρ) (fun t μ => some (.nx (ρ.set i (some t)), μ)) μ := rfl
@[simp] theorem y_drop : mDrop fa ρ μ = eM (fa ρ) (fun _ μ => some (.nx ρ, μ)) μ := rfl
@[simp] theorem y_ret : mRet P fa ρ μ = eM (fa ρ) (fun t => eM (keepT P t) fun t' μ => some (.rt t', μ)) μ := rfl
@[simp] theorem y_retN : mRetN ρ μ = some (.rt .non, μ) := rfl
@[simp] theorem y_if : mIf ft f g ρ μ = eM (ft ρ) (fun b μ => if b = true then f ρ μ else g ρ μ) μ := rfl
@[simp] theorem y_raise : mRaise c ρ μ = some (.ex ⟨c, []⟩, μ) := rfl
@[simp] theorem y_brk : mBreak ρ μ = some (.bk ρ, μ) := rfl
@[simp] theorem y_cont : mCont ρ μ = some (.ct ρ, μ) := rfl
@[simp] theorem y_par {is : List Nat} : mPar is fs ρ μ = eM (fs ρ) (fun ts μ => match setL is ts ρ with
  | some ρ' => some (.nx ρ', μ)
  | none => none) μ := rfl
@[simp] theorem y_setL0 : setL [] [] ρ = some ρ := rfl
@[simp] theorem y_setL1 {is : List Nat} : setL (i :: is) (t :: ts) ρ = setL is ts (ρ.set i (some t)) := rfl
@[simp] theorem y_asg : mAsg b fa ρ μ = eM (fa ρ) (fun t μ => match b t ρ with
  | some ρ' => some (.nx ρ', μ)
  | none => none) μ := rfl
@[simp] theorem y_bNm : bNm i t ρ = some (ρ.set i (some t)) := rfl
@[simp] theorem y_bNil : bNil [] ρ = some ρ := rfl
@[simp] theorem y_nil : mNil ρ μ = some (.ok [], μ) := rfl
@[simp] theorem y_cons : mCons fa fr ρ μ = M.bind (fa ρ) (fun x => (fr ρ).bind fun xs => M.ret (x :: xs)) μ := rfl
@[simp] theorem y_bin : mBin h fa fb ρ μ = M.bind (fa ρ) (fun x => (fb ρ).bind fun y => op2 h x y) μ := rfl
@[simp] theorem y_un : mUn h1 fa ρ μ = M.bind (fa ρ) (fun x => op1 h1 x) μ := rfl
@[simp] theorem y_op1 : op1 h1 x μ = match look μ x with
  | some a => M.opt (h1 a) μ
  | none => none := rfl
@[simp] theorem y_op2 : op2 h x y μ = match look μ x, look μ y with
  | some a, some b => M.opt (h a b) μ
  | _, _ => none := rfl
@[simp] theorem y_trB {b : Bool} : truT (.bl b) = some b := rfl
@[simp] theorem y_tru : mTru fa ρ μ = M.bind (fa ρ) (fun x => fun μ => match look μ x with
  | some a => M.opt (truT a) μ
  | none => none) μ := rfl
@[simp] theorem y_andT : mAndT ft fu ρ μ = M.bind (ft ρ) (fun b => if b = true then fu ρ else M.ret false) μ := rfl
@[simp] theorem y_orT : mOrT ft fu ρ μ = M.bind (ft ρ) (fun b => if b = true then M.ret true else fu ρ) μ := rfl
@[simp] theorem y_notT : mNotT ft ρ μ = M.bind (ft ρ) (fun b => M.ret (!b)) μ := rfl
@[simp] theorem y_ite : mIte ft fa fb ρ μ = M.bind (ft ρ) (fun b => if b = true then fa ρ else fb ρ) μ := rfl
@[simp] theorem y_iteap {α : Type} {c : Prop} [Decidable c] {m n : M α} : (if c then m else n) μ = if c then m μ else n μ := by split <;> rfl
@[simp] theorem y_keep0 : keepTs P [] μ = some (.ok [], μ) := rfl
@[simp] theorem y_keep1 : keepTs P (t :: ts) μ = M.bind (keepT P t) (fun x => (keepTs P ts).bind fun xs => M.ret (x :: xs)) μ := rfl
@[simp] theorem y_keepA0 {p : Nat} : keepAs q p [] μ = some (.ok [], μ) := rfl
@[simp] theorem y_keepA1 {p : Nat} : keepAs q p (t :: ts) μ = M.bind (keepA q p t) (fun x => (keepAs q p ts).bind fun xs => M.ret (x :: xs)) μ := rfl
@[simp] theorem y_tup : mTup P fs ρ μ = M.bind (fs ρ) (fun xs => (keepTs P xs).bind fun ys => M.opt (if ys.length ≤ 1000 then some (.tup ys) else none)) μ := rfl
@[simp] theorem y_lst : mLst P fs ρ μ = M.bind (fs ρ) (fun xs => (keepTs P xs).bind fun ys => M.opt (if ys.length ≤ 1000 then some (.lst ys) else none)) μ := rfl
@[simp] theorem y_cb {k : List T → Option T} : mCB k fs ρ μ = M.bind (fs ρ) (fun xs => opN k xs) μ := rfl
@[simp] theorem y_opN {k : List T → Option T} : opN k ts μ = match looks μ ts with
  | some as => M.opt (k as) μ
  | none => none := rfl
@[simp] theorem y_looks0 : looks μ [] = some [] := rfl
@[simp] theorem y_looks1 : looks μ (t :: ts) = match look μ t, looks μ ts with
  | some x, some xs => some (x :: xs)
  | _, _ => none := rfl
@[simp] theorem y_call : mCall q P np G fs ρ μ = M.bind (fs ρ) (fun xs => (keepAs q P xs).bind fun ys => callM np P G ys) μ := rfl
@[simp] theorem y_callM {ys : List T} : callM np P G ys μ = if ys.length = np ∧ P ≤ μ.length then (match G ys (μ.take P) with
    | none => none
    | some (r, μ') => some (r, μ' ++ μ.drop P)) else none := rfl
@[simp] theorem y_make : mMake q np c G fs ρ μ = M.bind (fs ρ) (fun xs => (keepTs q xs).bind fun ys => makeM np c G ys) μ := rfl
@[simp] theorem y_makeM {ys : List T} : makeM np c G ys μ = if ys.length + 1 = np then (match G (.sh 0 :: ys) [(.ins c [], true)] with
    | some (.ok .non, [(.ins c' fs, true)]) => some (.ok (.ins c' fs), μ)
    | some (.ex x, _) => some (.ex x, μ)
    | _ => none)
  else none := rfl
@[simp] theorem y_of : mOf ff ρ μ = match ff ρ μ with
  | none => none
  | some (.ok o, μ') => some (.ok o.t, μ')
  | some (.ex x, μ') => some (.ex x, μ') := rfl
@[simp] theorem y_new : mNew i ff ρ μ = match ff ρ μ with
  | none => none
  | some (.ok o, μ') => some (.nx (ρ.set i (some (.sh μ'.length))), μ' ++ [(o, true)])
  | some (.ex x, μ') => some (.ex x, μ') := rfl
@[simp] theorem y_lstF : mLstF P fs ρ μ = M.bind (fs ρ) (fun xs => (keepTs P xs).bind fun ys μ => if ys.length ≤ 1000 then some (.ok (.lst ys), μ) else none) μ := rfl
@[simp] theorem y_dctF {b : Bool} : mDctF b ρ μ = some (.ok (.dct b []), μ) := rfl
@[simp] theorem y_moL : (MO.lst ts).t = .lst ts := rfl
@[simp] theorem y_moD {b : Bool} {ts : List (T × T)} : (MO.dct b ts).t = .dct b ts := rfl
@[simp] theorem y_moI {ts : List (Str × T)} : (MO.ins c ts).t = .ins c ts := rfl
@[simp] theorem y_told {l : List (Str × Str)} : mTold l fa ρ μ = match fa ρ μ with
  | none => none
  | some (.ok t, μ') => some (.ok t, μ')
  | some (.ex x, μ') => match l.lookup x.cls with
    | some s => some (.ok (.str s), μ')
    | none => none := rfl
@[simp] theorem y_ixT {k : Int} : ixA (.tup ts) (.int k) = L2.atI ts k := rfl
@[simp] theorem y_ixL {k : Int} : ixA (.lst ts) (.int k) = L2.atI ts k := rfl
@[simp] theorem y_ixW {k : Int} : ixA (.wt ts) (.int k) = L2.atI ts k := rfl
theorem at_nat {α : Type} {l : List α} {n : Nat} {a : α} (h : l[n]? = some a) : L2.atI l (n : Int) = some a := by
  have hl : n < l.length := (List.getElem?_eq_some_iff.mp h).1
  unfold L2.atI L2.ixN
  rw [if_pos (by omega), if_pos (by omega)]
  simpa using h
@[simp] theorem y_at0 {α : Type} {a : α} {l : List α} : L2.atI (a :: l) 0 = some a := at_nat (n := 0) rfl
@[simp] theorem y_at1 {α : Type} {a b : α} {l : List α} : L2.atI (a :: b :: l) 1 = some b := at_nat (n := 1) rfl
@[simp] theorem y_at2 {α : Type} {a b c : α} {l : List α} : L2.atI (a :: b :: c :: l) 2 = some c := at_nat (n := 2) rfl
@[simp] theorem y_at3 {α : Type} {a b c d : α} {l : List α} : L2.atI (a :: b :: c :: d :: l) 3 = some d := at_nat (n := 3) rfl
@[simp] theorem y_chain : mChain h k fa fb fc ρ μ = M.bind (fa ρ) (fun x => (fb ρ).bind fun y => (op2 h x y).bind fun b => match b with
  | .bl true => (fc ρ).bind fun z => op2 k y z
  | .bl false => M.ret (.bl false)
  | _ => M.stuck) μ := rfl
@[simp] theorem y_asB : asB fa ρ μ = M.bind (fa ρ) (fun t => match t with
  | .bl b => M.ret b
  | _ => M.stuck) μ := rfl
@[simp] theorem y_and : mAnd fa fb ρ μ = M.bind (fa ρ) (fun t => match t with
  | .bl true => fb ρ
  | .bl false => M.ret (.bl false)
  | _ => M.stuck) μ := rfl
@[simp] theorem y_or : mOr fa fb ρ μ = M.bind (fa ρ) (fun t => match t with
  | .bl true => M.ret (.bl true)
  | .bl false => fb ρ
  | _ => M.stuck) μ := rfl
@[simp] theorem y_not : mNot fa ρ μ = M.bind (fa ρ) (fun t => match t with
  | .bl b => M.ret (.bl (!b))
  | _ => M.stuck) μ := rfl
@[simp] theorem y_runB {n : Nat} : runB P n f ts μ = match f (ts.map some ++ List.replicate (n - ts.length) none) μ with
  | some (.nx _, μ') => some (.ok .non, μ'.take P)
  | some (.rt t, μ') => some (.ok t, μ'.take P)
  | some (.ex x, μ') => some (.ex x, μ'.take P)
  | _ => none := rfl
end
end TL

set_option maxHeartbeats 4000000
namespace TL
open PySem PySem.Spec PyProof.Rows L2
open Classical in
/-- the answer of a test, as a tree -/
noncomputable def dec (p : Prop) : Bool := decide p
theorem dec_true {p : Prop} (h : p) : dec p = true := by simp [dec, h]
theorem dec_false {p : Prop} (h : ¬ p) : dec p = false := by simp [dec, h]
@[simp] theorem dec_iff {p : Prop} : dec p = true ↔ p := by simp [dec]
@[simp] theorem dec_iffF {p : Prop} : dec p = false ↔ ¬ p := by simp [dec]
@[simp] theorem dec_dec {p : Prop} [Decidable p] : dec p = decide p := by
  by_cases h : p <;> simp [dec, h]
/-- data without bools, dicts, written tuples -/
def plainN : Nat → T → Bool
  | _, .non => true
  | _, .int _ => true
  | _, .str s => PyData.strOk s
  | n + 1, .lst ts => ts.all (plainN n)
  | n + 1, .tup ts => ts.all (plainN n)
  | _, _ => false
@[simp] theorem pl_non {n : Nat} : plainN n .non = true := by cases n <;> rfl
@[simp] theorem pl_int {n : Nat} {i : Int} : plainN n (.int i) = true := by cases n <;> rfl
@[simp] theorem pl_str {n : Nat} {i : Str} : plainN n (.str i) = PyData.strOk i := by cases n <;> rfl
@[simp] theorem pl_lst {n : Nat} {ts : List T} : plainN (n + 1) (.lst ts) = ts.all (plainN n) := rfl
@[simp] theorem pl_tup {n : Nat} {ts : List T} : plainN (n + 1) (.tup ts) = ts.all (plainN n) := rfl
theorem all_one {n : Nat} (ih : ∀ t, plainN n t = true → ∃ d, toD t = some d ∧ d.canLay0 = true ∧ d.depth ≤ n) : ∀ ts : List T, ts.all (plainN n) = true → ∃ ds, toDs ts = some ds ∧ PyData.canLayAll0 ds = true ∧ PyData.depthAll ds ≤ n
  | [], _ => ⟨[], rfl, rfl, Nat.zero_le _⟩
  | t :: ts, h => by
    simp only [List.all_cons, Bool.and_eq_true] at h
    obtain ⟨d, e1, c1, p1⟩ := ih t h.1
    obtain ⟨ds, e2, c2, p2⟩ := all_one ih ts h.2
    exact ⟨d :: ds, by simp [toDs, e1, e2], by simp [PyData.canLayAll0, c1, c2], by simp only [PyData.depthAll]; omega⟩
theorem plain_one : ∀ (n : Nat) (t : T), plainN n t = true → ∃ d, toD t = some d ∧ d.canLay0 = true ∧ d.depth ≤ n := by
  intro n
  induction n with
  | zero =>
    intro t h
    cases t <;> first
      | (simp [plainN] at h; done)
      | (refine ⟨_, rfl, ?_, Nat.zero_le _⟩; simp_all [PyData.canLay0])
  | succ n ih =>
    intro t h
    cases t with
    | lst ts =>
      obtain ⟨ds, e1, c1, p1⟩ := all_one ih ts h
      exact ⟨.list ds, by simp [toD, e1], by simpa [PyData.canLay0] using c1, by simp only [PyData.depth]; omega⟩
    | tup ts =>
      obtain ⟨ds, e1, c1, p1⟩ := all_one ih ts h
      exact ⟨.tuple ds, by simp [toD, e1], by simpa [PyData.canLay0] using c1, by simp only [PyData.depth]; omega⟩
    | non => exact ⟨_, rfl, rfl, Nat.zero_le _⟩
    | int i => exact ⟨_, rfl, rfl, Nat.zero_le _⟩
    | str s => exact ⟨_, rfl, by simpa [PyData.canLay0] using h, Nat.zero_le _⟩
    | _ => simp [plainN] at h
theorem eqv_all {n : Nat} (ih : ∀ t u d e, plainN n t = true → plainN n u = true → toD t = some d → toD u = some e → (PyData.eqv d e = true ↔ t = u)) :
    ∀ (ts us : List T) (ds es : List PyData), ts.all (plainN n) = true → us.all (plainN n) = true → toDs ts = some ds → toDs us = some es → (PyData.eqvAll ds es = true ↔ ts = us)
  | [], [], _, _, _, _, e1, e2 => by cases e1; cases e2; simp [PyData.eqvAll]
  | t :: ts, [], _, _, h, _, e1, e2 => by
    cases e2
    unfold toDs at e1
    split at e1
    · cases e1; simp [PyData.eqvAll]
    · cases e1
  | [], u :: us, _, _, _, h, e1, e2 => by
    cases e1
    unfold toDs at e2
    split at e2
    · cases e2; simp [PyData.eqvAll]
    · cases e2
  | t :: ts, u :: us, _, _, h, h', e1, e2 => by
    simp only [List.all_cons, Bool.and_eq_true] at h h'
    unfold toDs at e1 e2
    split at e1
    · rename_i d ds q1 q2
      cases e1
      split at e2
      · rename_i e es q3 q4
        cases e2
        simp only [PyData.eqvAll, Bool.and_eq_true, ih t u d e h.1 h'.1 q1 q3, eqv_all ih ts us ds es h.2 h'.2 q2 q4, List.cons.injEq]
      · cases e2
    · cases e1
theorem eqv_iff : ∀ (n : Nat) (t u : T) (d e : PyData), plainN n t = true → plainN n u = true → toD t = some d → toD u = some e → (PyData.eqv d e = true ↔ t = u) := by
  intro n
  induction n with
  | zero =>
    intro t u d e h h' q q'
    cases t <;> first
      | (simp [plainN] at h; done)
      | (cases u <;> first
          | (simp [plainN] at h'; done)
          | (cases q; cases q'; simp [PyData.eqv]))
  | succ n ih =>
    intro t u d e h h' q q'
    cases t with
    | lst ts =>
      cases u with
      | lst us =>
        unfold toD at q q'
        cases q1 : toDs ts with
        | none => rw [q1] at q; cases q
        | some ds =>
          cases q2 : toDs us with
          | none => rw [q2] at q'; cases q'
          | some es =>
            rw [q1] at q; rw [q2] at q'
            cases q; cases q'
            simp only [PyData.eqv, eqv_all ih ts us ds es h h' q1 q2, T.lst.injEq]
      | tup us =>
        unfold toD at q q'
        cases q1 : toDs ts with
        | none => rw [q1] at q; cases q
        | some ds =>
          cases q2 : toDs us with
          | none => rw [q2] at q'; cases q'
          | some es =>
            rw [q1] at q; rw [q2] at q'
            cases q; cases q'
            simp [PyData.eqv]
      | non => cases q'; unfold toD at q; cases q1 : toDs ts <;> rw [q1] at q <;> cases q; simp [PyData.eqv]
      | int i => cases q'; unfold toD at q; cases q1 : toDs ts <;> rw [q1] at q <;> cases q; simp [PyData.eqv]
      | str s => cases q'; unfold toD at q; cases q1 : toDs ts <;> rw [q1] at q <;> cases q; simp [PyData.eqv]
      | _ => simp [plainN] at h'
    | tup ts =>
      cases u with
      | tup us =>
        unfold toD at q q'
        cases q1 : toDs ts with
        | none => rw [q1] at q; cases q
        | some ds =>
          cases q2 : toDs us with
          | none => rw [q2] at q'; cases q'
          | some es =>
            rw [q1] at q; rw [q2] at q'
            cases q; cases q'
            simp only [PyData.eqv, eqv_all ih ts us ds es h h' q1 q2, T.tup.injEq]
      | lst us =>
        unfold toD at q q'
        cases q1 : toDs ts with
        | none => rw [q1] at q; cases q
        | some ds =>
          cases q2 : toDs us with
          | none => rw [q2] at q'; cases q'
          | some es =>
            rw [q1] at q; rw [q2] at q'
            cases q; cases q'
            simp [PyData.eqv]
      | non => cases q'; unfold toD at q; cases q1 : toDs ts <;> rw [q1] at q <;> cases q; simp [PyData.eqv]
      | int i => cases q'; unfold toD at q; cases q1 : toDs ts <;> rw [q1] at q <;> cases q; simp [PyData.eqv]
      | str s => cases q'; unfold toD at q; cases q1 : toDs ts <;> rw [q1] at q <;> cases q; simp [PyData.eqv]
      | _ => simp [plainN] at h'
    | non =>
      cases q
      cases u with
      | lst us => unfold toD at q'; cases q1 : toDs us <;> rw [q1] at q' <;> cases q'; simp [PyData.eqv]
      | tup us => unfold toD at q'; cases q1 : toDs us <;> rw [q1] at q' <;> cases q'; simp [PyData.eqv]
      | non => cases q'; simp [PyData.eqv]
      | int i => cases q'; simp [PyData.eqv]
      | str s => cases q'; simp [PyData.eqv]
      | _ => simp [plainN] at h'
    | int i =>
      cases q
      cases u with
      | lst us => unfold toD at q'; cases q1 : toDs us <;> rw [q1] at q' <;> cases q'; simp [PyData.eqv]
      | tup us => unfold toD at q'; cases q1 : toDs us <;> rw [q1] at q' <;> cases q'; simp [PyData.eqv]
      | non => cases q'; simp [PyData.eqv]
      | int i => cases q'; simp [PyData.eqv]
      | str s => cases q'; simp [PyData.eqv]
      | _ => simp [plainN] at h'
    | str s =>
      cases q
      cases u with
      | lst us => unfold toD at q'; cases q1 : toDs us <;> rw [q1] at q' <;> cases q'; simp [PyData.eqv]
      | tup us => unfold toD at q'; cases q1 : toDs us <;> rw [q1] at q' <;> cases q'; simp [PyData.eqv]
      | non => cases q'; simp [PyData.eqv]
      | int i => cases q'; simp [PyData.eqv]
      | str s => cases q'; simp [PyData.eqv]
      | _ => simp [plainN] at h'
    | _ => simp [plainN] at h
theorem eqB_plain {t u : T} (h : plainN 60 t = true) (h' : plainN 60 u = true) : eqB t u = some (dec (t = u)) := by
  obtain ⟨d, e1, c1, p1⟩ := plain_one 60 t h
  obtain ⟨e, e2, c2, p2⟩ := plain_one 60 u h'
  have q := eqv_iff 60 t u d e h h' e1 e2
  unfold eqB
  rw [e1, e2]
  simp only [SeqAt.shaped, c1, c2, Bool.true_and, decide_eq_true_eq]
  rw [if_pos ⟨by omega, by omega⟩]
  congr 1
  by_cases z : t = u
  · rw [q.mpr z, dec_true z]
  · rw [dec_false z]
    cases hh : PyData.eqv d e with
    | false => rfl
    | true => exact absurd (q.mp hh) z
theorem f_eq {t u : T} (h : plainN 60 t = true) (h' : plainN 60 u = true) : eqT t u = some (.bl (dec (t = u))) := by
  unfold eqT eqL
  rw [eqB_plain h h']
  rfl
theorem f_ne {t u : T} (h : plainN 60 t = true) (h' : plainN 60 u = true) : neT t u = some (.bl (!dec (t = u))) := by
  unfold neT
  rw [eqB_plain h h']
  try rfl
@[simp] theorem f_eqI {i j : Int} : eqT (.int i) (.int j) = some (.bl (decide (i = j))) := by rw [f_eq (by simp) (by simp)]; simp
@[simp] theorem f_neI {i j : Int} : neT (.int i) (.int j) = some (.bl (!decide (i = j))) := by rw [f_ne (by simp) (by simp)]; simp
@[simp] theorem f_eqBl {i j : Bool} : eqT (.bl i) (.bl j) = some (.bl (i == j)) := by cases i <;> cases j <;> rfl
@[simp] theorem f_neBl {i j : Bool} : neT (.bl i) (.bl j) = some (.bl (!(i == j))) := by cases i <;> cases j <;> rfl
end TL

set_option maxHeartbeats 4000000
namespace TL
open PySem PySem.Spec PyProof.Rows L2

/-! # dice -/
def mDice : Sm := (mSeq (mIf (asB (mChain ltT ltT (mBin subT (mCst (.int 0)) (mCst (.int 10))) (mVar 0) (mCst (.int 10)))) (mRet 0 (mLst 0 (mCons (mCB absT (mCons (mVar 0) mNil)) (mCons (mCst (.int 0)) (mCons (mCst (.int 2)) mNil))))) mSkip)
    (mRet 0 (mLst 0 (mCons (mVar 0) (mCons (mBin addT (mCst (.int 1)) (mBin modT (mCB intT (mCons (mVar 0) mNil)) (mCst (.int 1009)))) (mCons (mCB intT (mCons (mBin geT (mVar 0) (mBin powT (mCst (.int 10)) (mCst (.int 18)))) mNil)) mNil))))))
def mRoll : Sm := (mSeq (mIf (mOrT (asB (mBin eqT (mBin ixA (mVar 0) (mCst (.int 2))) (mCst (.int 2)))) (mAndT (asB (mBin eqT (mBin ixA (mVar 0) (mCst (.int 2))) (mCst (.int 1)))) (asB (mBin gtT (mBin ixA (mVar 0) (mCst (.int 0))) (mCst (.int 0)))))) (mSeq (mSet 2 (mBin modT (mCB intT (mCons (mBin ixA (mVar 0) (mCst (.int 0))) mNil)) (mVar 1)))
    (mSeq (mSubD 1 (mVar 0) (mCst (.int 0)) (mBin fdivT (mBin ixA (mVar 0) (mCst (.int 0))) (mVar 1)))
    (mRet 1 (mVar 2)))) mSkip)
    (mSeq (mSubD 1 (mVar 0) (mCst (.int 2)) (mCst (.int 0)))
    (mSeq (mSubD 1 (mVar 0) (mCst (.int 0)) (mBin modT (mCB intT (mCons (mBin addT (mBin addT (mBin mulT (mBin ixA (mVar 0) (mCst (.int 0))) (mCst (.int 48271))) (mBin mulT (mBin ixA (mVar 0) (mCst (.int 1))) (mCst (.int 69621)))) (mCst (.int 11))) mNil)) (mCst (.int 2147483647))))
    (mSeq (mSubD 1 (mVar 0) (mCst (.int 1)) (mBin addT (mBin ixA (mVar 0) (mCst (.int 1))) (mCst (.int 1))))
    (mRet 1 (mBin modT (mCB intT (mCons (mBin addT (mBin fdivT (mBin ixA (mVar 0) (mCst (.int 0))) (mCst (.int 7))) (mBin ixA (mVar 0) (mCst (.int 0)))) mNil)) (mVar 1)))))))
/-- rounds(script, most), behind its first row; g: dice -/
def mRnd (g : FM) : Sm := (mSeq (mIf (asB (mBin eqT (mVar 2) (mLst 0 mNil))) (mSet 2 (mLst 0 (mCons (mCst (.int 0)) mNil))) mSkip)
    (mRet 0 (mOf (mLc 0 [3] (mIter 0 (mVar 2)) (bNm 3) mYes (mCall 0 0 1 g (mCons (mVar 3) mNil))))))
section
variable {ρ : Env} {μ : Mu} {i q P : Nat} {fo fi fv : Env → M T} {o : MO}
@[simp] theorem z_subD : mSubD P fo fi fv ρ μ = eM (fv ρ) (fun v => eM (fo ρ) fun o => eM (fi ρ) fun i => eM (keepT P v) fun y μ => match liveL μ o with
  | some (n, ts) => (match i with
    | .int k => (match ixN ts.length k with
      | some j => some (.nx ρ, μ.set n (.lst (ts.set j y), true))
      | none => none)
    | _ => none)
  | none => (match liveD μ o, look μ i with
    | some (n, tk, kvs), some i' => (match dputT tk kvs i' y with
      | some kvs' => if kvs.length < 1000000 then some (.nx ρ, μ.set n (.dct tk kvs', true)) else none
      | none => none)
    | _, _ => none)) μ := rfl
@[simp] theorem z_liveL {n : Nat} : liveL μ (.sh n) = match μ[n]? with
  | some (.lst ts, true) => some (n, ts)
  | _ => none := rfl
@[simp] theorem z_int1 {i : Int} : intT [.int i] = some (.int i) := rfl
@[simp] theorem z_intB {b : Bool} : intT [.bl b] = some (.int (if b = true then 1 else 0)) := by cases b <;> rfl
@[simp] theorem z_abs {i : Int} : absT [.int i] = some (.int (if i < 0 then -i else i)) := rfl
end
theorem b_48271 : B64 48271 := by unfold B64; omega
theorem b_69621 : B64 69621 := by unfold B64; omega
theorem roll_ok (a b c many : Int) (h0 : 0 < many) (h1 : many < 1073741824) : ∃ r a' b' c' : Int, 0 ≤ r ∧ r < many ∧
    runB 1 3 mRoll [.sh 0, .int many] [(.lst [.int a, .int b, .int c], true)] = some (.ok (.int r), [(.lst [.int a', .int b', .int c'], true)]) := by
  by_cases hc : c = 2 ∨ (c = 1 ∧ 0 < a)
  · refine ⟨a % many, a / many, b, c, Int.emod_nonneg _ (by omega), Int.emod_lt_of_pos _ h0, ?_⟩
    rcases hc with hc | ⟨hc, ha⟩
    · simp [mRoll, hc, f_mod h0, f_div ⟨h0, h1⟩, L2.ixN]
    · simp [mRoll, hc, ha, f_mod h0, f_div ⟨h0, h1⟩, L2.ixN]
  · have hd : ¬ c = 2 := fun z => hc (.inl z)
    refine ⟨((((a * 48271 + b * 69621 + 11) % 2147483647) / 7 + (a * 48271 + b * 69621 + 11) % 2147483647)) % many, (a * 48271 + b * 69621 + 11) % 2147483647, b + 1, 0, Int.emod_nonneg _ (by omega), Int.emod_lt_of_pos _ h0, ?_⟩
    by_cases h2 : c = 1
    · have ha : ¬ 0 < a := fun z => hc (.inr ⟨h2, z⟩)
      simp [mRoll, h2, ha, f_mod h0, f_mod (show (0:Int) < 2147483647 by omega), f_div (show (0:Int) < 7 ∧ (7:Int) < 1073741824 by omega), f_mulR b_48271, f_mulR b_69621, L2.ixN]
    · simp [mRoll, hd, h2, f_mod h0, f_mod (show (0:Int) < 2147483647 by omega), f_div (show (0:Int) < 7 ∧ (7:Int) < 1073741824 by omega), f_mulR b_48271, f_mulR b_69621, L2.ixN]
theorem dice_ok (n : Int) : ∃ a b c : Int, runB 0 1 mDice [.int n] [] = some (.ok (.lst [.int a, .int b, .int c]), []) := by
  have hp : powT (.int 10) (.int 18) = some (.int 1000000000000000000) := by
    have hc : CPow 10 18 := ⟨by decide, by decide, by decide⟩
    simp [powT, hc]
  by_cases h : -10 < n
  · by_cases h2 : n < 10
    · refine ⟨if n < 0 then -n else n, 0, 2, ?_⟩
      simp [mDice, h, h2]
    · refine ⟨n, 1 + n % 1009, if 1000000000000000000 ≤ n then 1 else 0, ?_⟩
      simp [mDice, h, h2, hp, f_mod (show (0:Int) < 1009 by omega)]
  · refine ⟨n, 1 + n % 1009, if 1000000000000000000 ≤ n then 1 else 0, ?_⟩
    simp [mDice, h, hp, f_mod (show (0:Int) < 1009 by omega)]
/-! rounds -/
@[simp] theorem z_lc {P : Nat} {vs : List Nat} {b : TB} {c : Env → M Bool} {fe : Env → M T} {ρ : Env} {μ : Mu} {fi : Env → M (List T)} : mLc P vs fi b c fe ρ μ = M.bind (fi ρ) (fun ts μ => if ts.length ≤ 1000000 then match lcE P vs b c fe ρ ts μ with
    | some (ys, μ') => some (.ok (.lst ys), μ')
    | none => none
  else none) μ := rfl
@[simp] theorem z_iter {P : Nat} {fa : Env → M T} {ρ : Env} {μ : Mu} : mIter P fa ρ μ = M.bind (fa ρ) (fun t => (keepT P t).bind walkT) μ := rfl
@[simp] theorem z_walkL {ts : List T} {μ : Mu} : walkT (.lst ts) μ = some (.ok ts, μ) := rfl
@[simp] theorem z_walkT {ts : List T} {μ : Mu} : walkT (.tup ts) μ = some (.ok ts, μ) := rfl
@[simp] theorem z_walkW {ts : List T} {μ : Mu} : walkT (.wt ts) μ = some (.ok ts, μ) := rfl
@[simp] theorem z_yes {ρ : Env} {μ : Mu} : mYes ρ μ = some (.ok true, μ) := rfl
@[simp] theorem z_lcE0 {P : Nat} {vs : List Nat} {b : TB} {c : Env → M Bool} {fe : Env → M T} {ρ : Env} {μ : Mu} : lcE P vs b c fe ρ [] μ = some ([], μ) := rfl
theorem z_lcE1 {P : Nat} {vs : List Nat} {b : TB} {c : Env → M Bool} {fe : Env → M T} {ρ : Env} {μ : Mu} {t : T} {ts : List T} : lcE P vs b c fe ρ (t :: ts) μ = match b t (wipeE ρ vs) with
    | none => none
    | some ρ1 => match c ρ1 μ with
      | some (.ok true, μ1) => (match ((fe ρ1).bind (keepT P)) μ1 with
        | some (.ok y, μ2) => (match lcE P vs b c fe ρ ts μ2 with
          | some (ys, μ3) => some (y :: ys, μ3)
          | none => none)
        | _ => none)
      | some (.ok false, μ1) => lcE P vs b c fe ρ ts μ1
      | _ => none := rfl
theorem rnd_ok {g : FM} (hg : g = runB 0 1 mDice) (ns : List Int) : ∃ x y z μ', mRnd g (none :: some (.int 1) :: some (.lst ((ns.take 1).map T.int)) :: List.replicate 1 none) [] = some (.rt (.lst [.lst [.int x, .int y, .int z]]), μ') := by
  have one : ∀ n : Int, ∃ x y z, g [.int n] [] = some (.ok (.lst [.int x, .int y, .int z]), []) := fun n => by
    rw [hg]
    exact dice_ok n
  have eqL : ∀ ts : List Int, eqT (.lst (ts.map T.int)) (.lst []) = some (.bl (dec (T.lst (ts.map T.int) = .lst []))) := fun ts => f_eq (by simp [plainN]) (by simp)
  cases ns with
  | nil =>
    obtain ⟨x, y, z, e⟩ := one 0
    refine ⟨x, y, z, [], ?_⟩
    have := eqL []
    simp only [List.map_nil] at this
    simp [mRnd, this, z_lcE1, wipeE, e]
  | cons n r =>
    obtain ⟨x, y, z, e⟩ := one n
    refine ⟨x, y, z, [], ?_⟩
    have := eqL [n]
    simp only [List.map_cons, List.map_nil] at this
    simp [mRnd, this, z_lcE1, wipeE, e]
end TL

set_option maxHeartbeats 4000000
namespace TL
open PySem PySem.Spec PyProof.Rows L2
section
variable {ρ : Env} {μ : Mu} {q P i : Nat} {m : Str} {l : List (Str × Dv)} {fo fv fe : Env → M T} {fs : Env → M (List T)} {f g : Sm} {r : Option (SR × Mu)}
@[simp] theorem z_meth : mMethD q m l fo fs ρ μ = M.bind (fo ρ) (fun x => fun μ => match l.find? (fun p => isI p.1 m (look μ x)) with
  | some p => ((fs ρ).bind fun xs => (keepAs q p.2.P (x :: xs)).bind fun ys => callM p.2.np p.2.P p.2.g ys) μ
  | none => none) μ := rfl
theorem seq_nx {ρ1 : Env} {μ1 : Mu} (h1 : f ρ μ = some (.nx ρ1, μ1)) (h2 : g ρ1 μ1 = r) : mSeq f g ρ μ = r := by
  simp [h1, h2]
theorem seq_if {c : Env → M Bool} {f1 f2 : Sm} {μ1 : Mu} (h1 : c ρ μ = some (.ok false, μ1)) (h2 : g ρ μ1 = r) : mSeq (mIf c f1 mSkip) g ρ μ = r := by
  simp [h1, h2]
@[simp] theorem z_rng1 : mRng1 fs ρ μ = M.bind (fs ρ) (fun ts => match int1 ts with
  | some j => if -(2 ^ 62) ≤ j ∧ j < 2 ^ 62 then M.ret (rng 0 j) else M.stuck
  | none => M.stuck) μ := rfl
@[simp] theorem z_rng2 : mRng2 fs ρ μ = M.bind (fs ρ) (fun ts => match int2 ts with
  | some (i, j) => if -(2 ^ 62) ≤ i ∧ i < 2 ^ 62 ∧ -(2 ^ 62) ≤ j ∧ j < 2 ^ 62 then M.ret (rng i j) else M.stuck
  | none => M.stuck) μ := rfl
@[simp] theorem z_int1' {j : Int} : int1 [.int j] = some j := rfl
@[simp] theorem z_int2' {i j : Int} : int2 [.int i, .int j] = some (i, j) := rfl
@[simp] theorem z_tupL {ts : List T} : tupleT [.lst ts] = some (.tup ts) := rfl
@[simp] theorem z_lstT {ts : List T} : listT [.tup ts] = some (.lst ts) := rfl
@[simp] theorem z_lstL {ts : List T} : listT [.lst ts] = some (.lst ts) := rfl
@[simp] theorem z_fldS {c fl : Str} : mFldS P c fl fo fv ρ μ = eM (fv ρ) (fun v => eM (fo ρ) fun o => eM (keepT P v) fun y μ => match liveI μ c o with
  | some (n, fs) => if fs.length < 1000 then some (.nx ρ, μ.set n (.ins c (putFT fl y fs), true)) else none
  | none => none) μ := rfl
theorem lc_map {vs : List Nat} {b : TB} {c : Env → M Bool} (p : T → Bool) (f : T → T) : ∀ ts : List T, (∀ t ∈ ts, ∃ ρ1, b t (wipeE ρ vs) = some ρ1 ∧ c ρ1 μ = some (.ok (p t), μ) ∧ (p t = true → ((fe ρ1).bind (keepT P)) μ = some (.ok (f t), μ))) → lcE P vs b c fe ρ ts μ = some ((ts.filter p).map f, μ)
  | [], _ => rfl
  | t :: ts, h => by
    obtain ⟨ρ1, e1, e2, e3⟩ := h t List.mem_cons_self
    have ih := lc_map p f ts fun t ht => h t (List.mem_cons_of_mem _ ht)
    rw [z_lcE1, e1]
    simp only [e2]
    cases hp : p t with
    | true => simp only [e3 hp, ih, List.filter_cons, hp, if_true, List.map_cons]
    | false => simp only [ih, List.filter_cons, hp, Bool.false_eq_true, if_false]
end
def ival : T → Int
  | .int i => i
  | _ => 0
@[simp] theorem ival_int {i : Int} : ival (.int i) = i := rfl
theorem mem_rng {lo hi : Int} {t : T} (h : t ∈ rng lo hi) : ∃ k, t = .int k ∧ lo ≤ k ∧ k < hi := by
  unfold rng at h
  obtain ⟨n, hn, e⟩ := List.mem_map.mp h
  rw [List.mem_range] at hn
  exact ⟨lo + n, e.symm, by omega, by omega⟩
theorem rng_len {lo hi : Int} : (rng lo hi).length = (hi - lo).toNat := by simp [rng]
theorem forL1' {b : TB} {body : Sm} {ρ : Env} {μ : Mu} {t : T} {ts : List T} : forL b body (t :: ts) ρ μ = match b t ρ with
    | none => none
    | some ρ1 => match body ρ1 μ with
      | some (.nx ρ2, μ2) => forL b body ts ρ2 μ2
      | some (.ct ρ2, μ2) => forL b body ts ρ2 μ2
      | some (.bk ρ2, μ2) => some (.nx ρ2, μ2)
      | r => r := rfl
theorem for_app {b : TB} {body : Sm} : ∀ {xs ys : List T} {ρ ρ' : Env} {μ μ' : Mu}, forL b body xs ρ μ = some (.nx ρ', μ') → (∀ t ρ1 μ1 ρ2 μ2, t ∈ xs → body ρ1 μ1 ≠ some (.bk ρ2, μ2)) → forL b body (xs ++ ys) ρ μ = forL b body ys ρ' μ'
  | [], ys, ρ, ρ', μ, μ', h, _ => by
    cases h
    rfl
  | t :: xs, ys, ρ, ρ', μ, μ', h, hb => by
    rw [List.cons_append]
    rw [forL1'] at h ⊢
    cases q : b t ρ with
    | none => rw [q] at h; cases h
    | some ρ1 =>
      rw [q] at h
      try dsimp only at h
      try dsimp only
      have ih : ∀ {ρ ρ' : Env} {μ μ' : Mu}, forL b body xs ρ μ = some (.nx ρ', μ') → forL b body (xs ++ ys) ρ μ = forL b body ys ρ' μ' := fun hh => for_app hh fun t ρ1 μ1 ρ2 μ2 ht => hb t ρ1 μ1 ρ2 μ2 (List.mem_cons_of_mem _ ht)
      cases q2 : body ρ1 μ with
      | none => rw [q2] at h; cases h
      | some r =>
        obtain ⟨r, μ2⟩ := r
        rw [q2] at h
        try dsimp only at h
        try dsimp only
        cases r with
        | nx ρ2 => exact ih h
        | ct ρ2 => exact ih h
        | bk ρ2 => exact absurd q2 (hb t _ _ _ _ List.mem_cons_self)
        | rt t => cases h
        | ex x => cases h
@[simp] theorem z_for {fi : Env → M (List T)} {b : TB} {body : Sm} {ρ : Env} {μ : Mu} : mFor fi b body ρ μ = eM (fi ρ) (fun ts μ => forL b body ts ρ μ) μ := rfl
@[simp] theorem z_for0 {b : TB} {body : Sm} {ρ : Env} {μ : Mu} : forL b body [] ρ μ = some (.nx ρ, μ) := rfl
theorem z_for1 {b : TB} {body : Sm} {ρ : Env} {μ : Mu} {t : T} {ts : List T} : forL b body (t :: ts) ρ μ = match b t ρ with
    | none => none
    | some ρ1 => match body ρ1 μ with
      | some (.nx ρ2, μ2) => forL b body ts ρ2 μ2
      | some (.ct ρ2, μ2) => forL b body ts ρ2 μ2
      | some (.bk ρ2, μ2) => some (.nx ρ2, μ2)
      | r => r := rfl
theorem ints_map {μ : Mu} {vs : List Nat} {b : TB} {c : Env → M Bool} {fe : Env → M T} {ρ : Env} (p : T → Bool) (f : T → Int) : ∀ ts : List T, (∀ t ∈ ts, ∃ ρ1, b t (wipeE ρ vs) = some ρ1 ∧ c ρ1 μ = some (.ok (p t), μ) ∧ (p t = true → fe ρ1 μ = some (.ok (.int (f t)), μ))) → intsL vs b c fe ρ ts μ = some ((ts.filter p).map f, μ)
  | [], _ => rfl
  | t :: ts, h => by
    obtain ⟨ρ1, e1, e2, e3⟩ := h t List.mem_cons_self
    have ih := ints_map p f ts fun t ht => h t (List.mem_cons_of_mem _ ht)
    unfold intsL
    rw [e1]
    simp only [e2]
    cases hp : p t with
    | true => simp only [e3 hp, ih, List.filter_cons, hp, if_true, List.map_cons]
    | false => simp only [ih, List.filter_cons, hp, Bool.false_eq_true, if_false]
@[simp] theorem z_sum {vs : List Nat} {b : TB} {c : Env → M Bool} {fe : Env → M T} {ρ : Env} {μ : Mu} {fi : Env → M (List T)} : mSum vs fi b c fe ρ μ = M.bind (fi ρ) (fun ts μ => match intsL vs b c fe ρ ts μ with
  | some (ks, μ') => if longs 0 ks = true then some (.ok (.int ks.sum), μ') else none
  | none => none) μ := rfl
theorem at_last {α : Type} {xs : List α} {x : α} : L2.atI (xs ++ [x]) (-1) = some x := by
  unfold L2.atI L2.ixN
  have h1 : ¬ (0 : Int) ≤ -1 := by omega
  have h2 : -((xs ++ [x]).length : Int) ≤ -1 := by simp; omega
  rw [if_neg h1, if_pos h2]
  have h3 : ((-1 : Int) + (xs ++ [x]).length).toNat = xs.length := by simp; omega
  show (xs ++ [x])[((-1 : Int) + (xs ++ [x]).length).toNat]? = some x
  rw [h3]
  simp
@[simp] theorem z_app {P : Nat} {fo fe : TL.Env → M T} {ρ : TL.Env} {μ : Mu} : mApp P fo fe ρ μ = eM (fo ρ) (fun t μ => if (liveL μ t).isSome = true then eM (fe ρ) (fun u => eM (keepT P u) fun y μ => match liveL μ t with
    | some (n, ts) => if ts.length ≤ 1000000 then some (.nx ρ, μ.set n (.lst (ts ++ [y]), true)) else none
    | none => none) μ else none) μ := rfl
theorem for_inv {b : TB} {body : Sm} (f : Nat → T) (N : Nat) (S : Nat → TL.Env → Mu → Prop) (step : ∀ j ρ μ, j < N → S j ρ μ → ∃ ρ1 ρ2 μ2, b (f j) ρ = some ρ1 ∧ (body ρ1 μ = some (.nx ρ2, μ2) ∨ body ρ1 μ = some (.ct ρ2, μ2)) ∧ S (j + 1) ρ2 μ2) :
    ∀ (n j : Nat) (ρ : TL.Env) (μ : Mu), j + n = N → S j ρ μ → ∃ ρ' μ', forL b body ((List.range' j n).map f) ρ μ = some (.nx ρ', μ') ∧ S N ρ' μ' := by
  intro n
  induction n with
  | zero => intro j ρ μ e h; exact ⟨ρ, μ, rfl, by rw [← e]; exact h⟩
  | succ n ih =>
    intro j ρ μ e h
    obtain ⟨ρ1, ρ2, μ2, e1, e2, h2⟩ := step j ρ μ (by omega) h
    obtain ⟨ρ', μ', e3, h3⟩ := ih (j + 1) ρ2 μ2 (by omega) h2
    refine ⟨ρ', μ', ?_, h3⟩
    rw [List.range'_succ, List.map_cons, forL1', e1]
    dsimp only
    rcases e2 with e2 | e2 <;> rw [e2] <;> exact e3
theorem rng_range {n : Int} (h : 0 ≤ n) : rng 0 n = (List.range' 0 n.toNat).map fun (k : Nat) => T.int k := by
  unfold rng
  rw [List.range_eq_range', show (n - 0).toNat = n.toNat by omega]
  refine List.map_congr_left fun k _ => ?_
  rw [Int.zero_add]
theorem ne_same {t : T} (h : plainN 60 t = true) : neT t t = some (.bl false) := by rw [f_ne h h, dec_true rfl]; rfl
theorem eq_same {t : T} (h : plainN 60 t = true) : eqT t t = some (.bl true) := by rw [f_eq h h, dec_true rfl]
section
variable {x y : Int}
theorem mb {X Y : Int} (h1 : -X ≤ x) (h2 : x ≤ X) (h3 : -Y ≤ y) (h4 : y ≤ Y) : -(X * Y) ≤ x * y ∧ x * y ≤ X * Y := by
  have e1 : 0 ≤ (X - x) * (Y - y) := Int.mul_nonneg (by omega) (by omega)
  have e2 : 0 ≤ (X + x) * (Y + y) := Int.mul_nonneg (by omega) (by omega)
  have e3 : 0 ≤ (X - x) * (Y + y) := Int.mul_nonneg (by omega) (by omega)
  have e4 : 0 ≤ (X + x) * (Y - y) := Int.mul_nonneg (by omega) (by omega)
  simp only [Int.mul_add, Int.mul_sub, Int.add_mul, Int.sub_mul] at e1 e2 e3 e4
  omega
theorem sq0 : 0 ≤ x * x := by
  rcases Int.le_total 0 x with h | h
  · exact Int.mul_nonneg h h
  · exact Int.mul_nonneg_of_nonpos_of_nonpos h h
end
theorem comp {P v : Nat} {fi : TL.Env → M (List T)} {cc : TL.Env → M Bool} {fe : TL.Env → M T} {ρ : TL.Env} {μ : Mu} (lo hi : Int) (hl : hi - lo ≤ 1000000) (pp : Int → Bool) (f : Int → T) (e : fi ρ μ = some (.ok (rng lo hi), μ))
    (H : ∀ k, lo ≤ k → k < hi → ∃ ρ1, bNm v (.int k) (wipeE ρ [v]) = some ρ1 ∧ cc ρ1 μ = some (.ok (pp k), μ) ∧ (pp k = true → fe ρ1 μ = some (.ok (f k), μ) ∧ keepT P (f k) μ = some (.ok (f k), μ))) :
    mOf (mLc P [v] fi (bNm v) cc fe) ρ μ = some (.ok (.lst (((rng lo hi).filter fun t => pp (ival t)).map fun t => f (ival t))), μ) := by
  have hn : (rng lo hi).length ≤ 1000000 := by rw [rng_len]; omega
  have e2 := lc_map (P := P) (μ := μ) (ρ := ρ) (vs := [v]) (b := bNm v) (c := cc) (fe := fe) (fun t => pp (ival t)) (fun t => f (ival t)) (rng lo hi) fun t ht => by
    obtain ⟨k, rfl, k0, k1⟩ := mem_rng ht
    obtain ⟨ρ1, e1, e2, e3⟩ := H k k0 k1
    refine ⟨ρ1, e1, e2, fun z => ?_⟩
    obtain ⟨e4, e5⟩ := e3 z
    rw [x_bind, e4]
    exact e5
  rw [y_of, z_lc, x_bind, e]
  dsimp only
  rw [if_pos hn, e2]
  rfl
theorem rng_self {lo hi : Int} {pp : T → Bool} : ((rng lo hi).filter pp).map (fun t => .int (ival t)) = (rng lo hi).filter pp := by
  refine (List.map_congr_left fun t ht => ?_).trans (List.map_id _)
  obtain ⟨k, rfl, _, _⟩ := mem_rng (List.mem_filter.mp ht).1
  rfl
theorem rng_true {lo hi : Int} : ((rng lo hi).filter fun _ => true) = rng lo hi := List.filter_eq_self.mpr fun _ _ => rfl
theorem rng_false {lo hi : Int} : ((rng lo hi).filter fun _ => false) = [] := List.filter_eq_nil_iff.mpr fun _ _ => by simp
theorem rng_pl {lo hi : Int} {n : Nat} {pp : T → Bool} : ((rng lo hi).filter pp).all (plainN n) = true := by
  rw [List.all_eq_true]
  intro t ht
  obtain ⟨k, rfl, _, _⟩ := mem_rng (List.mem_filter.mp ht).1
  exact pl_int
theorem rng_keep {lo hi : Int} {pp : T → Bool} {t : T} (ht : t ∈ (rng lo hi).filter pp) : (∀ P μ, keepT P t μ = some (.ok t, μ)) ∧ (∀ μ, look μ t = some t) ∧ (∀ n, plainN n t = true) := by
  obtain ⟨k, rfl, _, _⟩ := mem_rng (List.mem_filter.mp ht).1
  exact ⟨fun _ _ => rfl, fun _ => rfl, fun _ => pl_int⟩
theorem b64 {x : Int} (h : -1000000 ≤ x ∧ x ≤ 1000000) : B64 x := by unfold B64; omega
theorem rollE {g : FM} (hg : g = runB 1 3 mRoll) {q i : Nat} {ρ : TL.Env} (hi : ρ[i]? = some (some (.sh 0))) (many : Int) (h0 : 0 < many) (h1 : many < 1073741824) (a b c : Int) (w : Mu) : ∃ r a' b' c' : Int, 0 ≤ r ∧ r < many ∧ mCall q 1 2 g (mCons (mVar i) (mCons (mCst (.int many)) mNil)) ρ ((.lst [.int a, .int b, .int c], true) :: w) = some (.ok (.int r), (.lst [.int a', .int b', .int c'], true) :: w) := by
  obtain ⟨r, a', b', c', r0, r1, e⟩ := roll_ok a b c many h0 h1
  refine ⟨r, a', b', c', r0, r1, ?_⟩
  rw [← hg] at e
  simp [hi, e]
theorem t_ex {l : List (Str × Str)} {fa : TL.Env → M T} {ρ : TL.Env} {c s : Str} {μ μ' : Mu} (e : fa ρ μ = some (.ex ⟨c, []⟩, μ')) (h : l.lookup c = some s) : mTold l fa ρ μ = some (.ok (.str s), μ') := by
  rw [y_told, e]
  simp only [h]
theorem t_ok {l : List (Str × Str)} {fa : TL.Env → M T} {ρ : TL.Env} {t : T} {μ μ' : Mu} (e : fa ρ μ = some (.ok t, μ')) : mTold l fa ρ μ = some (.ok t, μ') := by
  rw [y_told, e]
end TL

set_option maxHeartbeats 4000000
namespace TL
open PySem PySem.Spec PyProof.Rows L2
/-! # max, min, in: of ints, of plain data -/
theorem toDs_ints : ∀ is : List Int, toDs (is.map T.int) = some (is.map PyData.int)
  | [] => rfl
  | i :: is => by
    rw [List.map_cons, List.map_cons]
    unfold toDs
    rw [toDs_ints is]
    rfl
theorem alike_ints (is : List Int) : alikeB (is.map PyData.int) = true := by
  have hd : ∀ js : List Int, PyData.depthAll (js.map PyData.int) = 0 := fun js => by
    induction js with
    | nil => rfl
    | cons j js ih => simp [PyData.depthAll, ih, PyData.depth]
  unfold alikeB
  rw [hd]
  simp only [Bool.and_eq_true, List.all_eq_true, decide_eq_true_eq]
  refine ⟨⟨fun x hx y hy => ?_, fun x hx => ?_⟩, by omega⟩
  · obtain ⟨i, _, rfl⟩ := List.mem_map.mp hx
    obtain ⟨j, _, rfl⟩ := List.mem_map.mp hy
    rfl
  · obtain ⟨i, _, rfl⟩ := List.mem_map.mp hx
    rfl
theorem argBest_congr {f g : Nat → Nat → Bool} : ∀ n, (∀ i j, i ≤ n → j ≤ n → f i j = g i j) → argBest f n = argBest g n ∧ argBest f n ≤ n
  | 0, _ => ⟨rfl, Nat.le_refl _⟩
  | n + 1, h => by
    obtain ⟨h1, h2⟩ := argBest_congr n fun i j hi hj => h i j (by omega) (by omega)
    unfold argBest
    rw [h (n + 1) (argBest f n) (Nat.le_refl _) (by omega), h1]
    refine ⟨rfl, ?_⟩
    split <;> omega
theorem getD_ints {is : List Int} {k : Nat} (h : k < is.length) : (is.map PyData.int).getD k .none = .int (is.getD k 0) := by
  simp [List.getD, h]
theorem f_max1 {ts : List T} : maxT [.lst ts] = bestT (fun x y => PySem.W.dataLt y x) ts := rfl
theorem f_min1 {ts : List T} : minT [.lst ts] = bestT PySem.W.dataLt ts := rfl
theorem f_maxI (i : Int) (is : List Int) : ∃ m, maxT [.lst ((i :: is).map T.int)] = some (.int m) ∧ m ∈ i :: is ∧ ∀ j ∈ i :: is, j ≤ m := by
  have e0 := toDs_ints (i :: is)
  have e1 := alike_ints (i :: is)
  have ec := argBest_congr (f := fun a b => PySem.W.dataLt (((i :: is).map PyData.int).getD b .none) (((i :: is).map PyData.int).getD a .none)) (g := fun a b => decide ((i :: is).getD a 0 > (i :: is).getD b 0)) is.length fun a b ha hb => by
    rw [getD_ints (by simp; omega), getD_ints (by simp; omega), PySem.W.dataLt_int]
  obtain ⟨h1, h2⟩ := argBest_gt (fun k => (i :: is).getD k 0) is.length
  generalize hn : argBest (fun a b => decide ((i :: is).getD a 0 > (i :: is).getD b 0)) is.length = n at *
  refine ⟨(i :: is).getD n 0, ?_, ?_, ?_⟩
  · rw [f_max1]
    unfold bestT
    rw [e0]
    rw [List.map_cons] at e1 ec ⊢
    simp only [e1, if_true, List.length_map, ec.1]
    have hl : n < (i :: is).length := by simp; omega
    rw [List.getElem?_map, List.getElem?_eq_getElem hl]
    simp [List.getD, List.getElem?_eq_getElem hl]
  · have hl : n < (i :: is).length := by simp; omega
    simp only [List.getD, List.getElem?_eq_getElem hl]
    exact List.getElem_mem hl
  · intro j hj
    obtain ⟨k, hk, rfl⟩ := List.getElem_of_mem hj
    have := h2 k (by simp at hk; omega)
    simpa [List.getD, List.getElem?_eq_getElem hk] using this
theorem f_minI (i : Int) (is : List Int) : ∃ m, minT [.lst ((i :: is).map T.int)] = some (.int m) ∧ m ∈ i :: is ∧ ∀ j ∈ i :: is, m ≤ j := by
  have e0 := toDs_ints (i :: is)
  have e1 := alike_ints (i :: is)
  have ec := argBest_congr (f := fun a b => PySem.W.dataLt (((i :: is).map PyData.int).getD a .none) (((i :: is).map PyData.int).getD b .none)) (g := fun a b => decide ((i :: is).getD a 0 < (i :: is).getD b 0)) is.length fun a b ha hb => by
    rw [getD_ints (by simp; omega), getD_ints (by simp; omega), PySem.W.dataLt_int]
  obtain ⟨h1, h2⟩ := argBest_lt (fun k => (i :: is).getD k 0) is.length
  generalize hn : argBest (fun a b => decide ((i :: is).getD a 0 < (i :: is).getD b 0)) is.length = n at *
  refine ⟨(i :: is).getD n 0, ?_, ?_, ?_⟩
  · rw [f_min1]
    unfold bestT
    rw [e0]
    rw [List.map_cons] at e1 ec ⊢
    simp only [e1, if_true, List.length_map, ec.1]
    have hl : n < (i :: is).length := by simp; omega
    rw [List.getElem?_map, List.getElem?_eq_getElem hl]
    simp [List.getD, List.getElem?_eq_getElem hl]
  · have hl : n < (i :: is).length := by simp; omega
    simp only [List.getD, List.getElem?_eq_getElem hl]
    exact List.getElem_mem hl
  · intro j hj
    obtain ⟨k, hk, rfl⟩ := List.getElem_of_mem hj
    have := h2 k (by simp at hk; omega)
    simpa [List.getD, List.getElem?_eq_getElem hk] using this
/-- in a list, a tuple of plain data -/
theorem any_eqv {n : Nat} {t : T} {d : PyData} (ht : plainN n t = true) (e : toD t = some d) : ∀ (ts : List T) (ds : List PyData), ts.all (plainN n) = true → toDs ts = some ds → (ds.any fun z => PyData.eqv z d) = dec (t ∈ ts)
  | [], _, _, h => by cases h; simp [dec_false]
  | u :: us, _, hp, h => by
    simp only [List.all_cons, Bool.and_eq_true] at hp
    unfold toDs at h
    split at h
    · rename_i d' ds' q1 q2
      cases h
      rw [List.any_cons, any_eqv ht e us ds' hp.2 q2]
      have := eqv_iff n u t d' d hp.1 ht q1 e
      by_cases z : u = t
      · rw [this.mpr z, dec_true (p := t ∈ u :: us) (by rw [z]; exact List.mem_cons_self)]
        rfl
      · have f : PyData.eqv d' d = false := by
          cases hh : PyData.eqv d' d with
          | false => rfl
          | true => exact absurd (this.mp hh) z
        rw [f, Bool.false_or]
        by_cases z2 : t ∈ us
        · rw [dec_true z2, dec_true (List.mem_cons_of_mem _ z2)]
        · rw [dec_false z2, dec_false (fun q => z2 ((List.mem_cons.mp q).resolve_left fun w => z w.symm))]
    · cases h
theorem f_inL {t : T} {ts : List T} (h : plainN 59 t = true) (h' : ts.all (plainN 59) = true) : inA false t (.lst ts) = some (.bl (dec (t ∈ ts))) := by
  obtain ⟨d, e1, c1, p1⟩ := plain_one 59 t h
  obtain ⟨ds, e2, c2, p2⟩ := all_one (plain_one 59) ts h'
  have e3 : inB t (.lst ts) = (match toD t, toDs ts with
    | some d, some ds => if SeqAt.shaped d = true ∧ SeqAt.shaped (.list ds) = true then some (ds.any fun z => PyData.eqv z d) else none
    | _, _ => none) := rfl
  show (inB t (.lst ts)).map T.bl = _
  rw [e3, e1, e2]
  have s1 : SeqAt.shaped d = true := by
    unfold SeqAt.shaped
    rw [c1, Bool.true_and, decide_eq_true_eq]
    omega
  have s2 : SeqAt.shaped (.list ds) = true := by
    have e4 : PyData.canLay0 (.list ds) = PyData.canLayAll0 ds := by simp [PyData.canLay0]
    have e5 : PyData.depth (.list ds) = 1 + PyData.depthAll ds ∨ PyData.depth (.list ds) = PyData.depthAll ds + 1 := by simp [PyData.depth, Nat.add_comm]
    unfold SeqAt.shaped
    rw [e4, c2, Bool.true_and, decide_eq_true_eq]
    omega
  simp only [s1, s2, and_self, if_true]
  rw [any_eqv h e1 ts ds h' e2]
  rfl
theorem f_inT {t : T} {ts : List T} (h : plainN 59 t = true) (h' : ts.all (plainN 59) = true) : inA false t (.tup ts) = some (.bl (dec (t ∈ ts))) := by
  obtain ⟨d, e1, c1, p1⟩ := plain_one 59 t h
  obtain ⟨ds, e2, c2, p2⟩ := all_one (plain_one 59) ts h'
  have e3 : inB t (.tup ts) = (match toD t, toDs ts with
    | some d, some ds => if SeqAt.shaped d = true ∧ PyData.canLayAll0 ds = true then some (ds.any fun z => PyData.eqv z d) else none
    | _, _ => none) := rfl
  show (inB t (.tup ts)).map T.bl = _
  rw [e3, e1, e2]
  have s1 : SeqAt.shaped d = true := by
    unfold SeqAt.shaped
    rw [c1, Bool.true_and, decide_eq_true_eq]
    omega
  simp only [s1, c2, and_self, if_true]
  rw [any_eqv h e1 ts ds h' e2]
  rfl
theorem f_ninL {t : T} {ts : List T} (h : plainN 59 t = true) (h' : ts.all (plainN 59) = true) : inA true t (.lst ts) = some (.bl (!dec (t ∈ ts))) := by
  have e := f_inL h h'
  have e2 : inA false t (.lst ts) = (inB t (.lst ts)).map .bl := rfl
  have e3 : inA true t (.lst ts) = (inB t (.lst ts)).map fun c => .bl (!c) := rfl
  rw [e2] at e
  rw [e3]
  cases q : inB t (.lst ts) with
  | none => rw [q] at e; cases e
  | some c => rw [q] at e; cases e; rfl
theorem f_ninT {t : T} {ts : List T} (h : plainN 59 t = true) (h' : ts.all (plainN 59) = true) : inA true t (.tup ts) = some (.bl (!dec (t ∈ ts))) := by
  have e := f_inT h h'
  have e2 : inA false t (.tup ts) = (inB t (.tup ts)).map .bl := rfl
  have e3 : inA true t (.tup ts) = (inB t (.tup ts)).map fun c => .bl (!c) := rfl
  rw [e2] at e
  rw [e3]
  cases q : inB t (.tup ts) with
  | none => rw [q] at e; cases e
  | some c => rw [q] at e; cases e; rfl
/-! # targets of tuples, any, all -/
@[simp] theorem y_bTp {n : Nat} {bs : TBs} {ts : List T} {ρ : Env} : bTp n bs (.tup ts) ρ = if ts.length = n then bs ts ρ else none := rfl
@[simp] theorem y_bTw {n : Nat} {bs : TBs} {ts : List T} {ρ : Env} : bTp n bs (.wt ts) ρ = if ts.length = n then bs ts ρ else none := rfl
@[simp] theorem y_bCons {b : TB} {bs : TBs} {t : T} {ts : List T} {ρ : Env} : bCons b bs (t :: ts) ρ = match b t ρ with
  | some ρ1 => bs ts ρ1
  | none => none := rfl
/-- any, all of a list whose items answer p -/
theorem any_map {st : Bool} {vs : List Nat} {b : TB} {fe : Env → M T} {ρ : Env} {μ : Mu} (p : T → Bool) : ∀ ts : List T, (∀ t ∈ ts, ∃ ρ1, b t (wipeE ρ vs) = some ρ1 ∧ fe ρ1 μ = some (.ok (.bl (p t)), μ)) →
    anyL st vs b mYes fe ρ ts μ = some (if st = true then ts.any p else ts.all p, μ)
  | [], _ => by cases st <;> rfl
  | t :: ts, h => by
    obtain ⟨ρ1, e1, e2⟩ := h t List.mem_cons_self
    have ih := any_map (st := st) p ts fun u hu => h u (List.mem_cons_of_mem _ hu)
    unfold anyL
    rw [e1]
    simp only [z_yes, e2, ih]
    cases st <;> cases hp : p t <;> simp [hp]
theorem mAny_map {st : Bool} {vs : List Nat} {fi : Env → M (List T)} {b : TB} {fe : Env → M T} {ρ : Env} {μ μ' : Mu} {ts : List T} (p : T → Bool) (e : fi ρ μ = some (.ok ts, μ')) (h : ∀ t ∈ ts, ∃ ρ1, b t (wipeE ρ vs) = some ρ1 ∧ fe ρ1 μ' = some (.ok (.bl (p t)), μ')) :
    mAny st vs fi b mYes fe ρ μ = some (.ok (.bl (if st = true then ts.any p else ts.all p)), μ') := by
  unfold mAny
  rw [x_bind, e]
  dsimp only
  rw [any_map p ts h]
/-- a comprehension over a list, filtered, mapped -/
theorem comp_l {P : Nat} {vs : List Nat} {b : TB} {fi : TL.Env → M (List T)} {cc : TL.Env → M Bool} {fe : TL.Env → M T} {ρ : TL.Env} {μ μ' : Mu} {ts : List T} (pp : T → Bool) (f : T → T) (e : fi ρ μ = some (.ok ts, μ')) (hn : ts.length ≤ 1000000)
    (H : ∀ t ∈ ts, ∃ ρ1, b t (wipeE ρ vs) = some ρ1 ∧ cc ρ1 μ' = some (.ok (pp t), μ') ∧ (pp t = true → fe ρ1 μ' = some (.ok (f t), μ') ∧ keepT P (f t) μ' = some (.ok (f t), μ'))) :
    mOf (mLc P vs fi b cc fe) ρ μ = some (.ok (.lst ((ts.filter pp).map f)), μ') := by
  have e2 := lc_map (P := P) (μ := μ') (ρ := ρ) (vs := vs) (b := b) (c := cc) (fe := fe) pp f ts fun t ht => by
    obtain ⟨ρ1, e1, e2, e3⟩ := H t ht
    refine ⟨ρ1, e1, e2, fun z => ?_⟩
    obtain ⟨e4, e5⟩ := e3 z
    rw [x_bind, e4]
    exact e5
  rw [y_of, z_lc, x_bind, e]
  dsimp only
  rw [if_pos hn, e2]
  rfl
theorem run_rt {P n : Nat} {f : Sm} {ts : List T} {ρ : TL.Env} {μ μ' : Mu} {t : T} (e0 : ts.map some ++ List.replicate (n - ts.length) none = ρ) (e : f ρ μ = some (.rt t, μ')) : runB P n f ts μ = some (.ok t, μ'.take P) := by
  rw [y_runB, e0, e]
theorem run_nx {P n : Nat} {f : Sm} {ts : List T} {ρ ρ' : TL.Env} {μ μ' : Mu} (e0 : ts.map some ++ List.replicate (n - ts.length) none = ρ) (e : f ρ μ = some (.nx ρ', μ')) : runB P n f ts μ = some (.ok .non, μ'.take P) := by
  rw [y_runB, e0, e]
theorem run_ex {P n : Nat} {f : Sm} {ts : List T} {ρ : TL.Env} {μ μ' : Mu} {x} (e0 : ts.map some ++ List.replicate (n - ts.length) none = ρ) (e : f ρ μ = some (.ex x, μ')) : runB P n f ts μ = some (.ex x, μ'.take P) := by
  rw [y_runB, e0, e]
theorem ab {i : Int} : (if i < 0 then -i else i) = (i.natAbs : Int) := by split <;> omega
/-- a loop over a list by its invariant: what is done already -/
theorem for_list {b : TB} {body : Sm} (X : List T) (S : List T → TL.Env → Mu → Prop) (step : ∀ ds t rest ρ μ, X = ds ++ t :: rest → S ds ρ μ → ∃ ρ1 ρ2 μ2, b t ρ = some ρ1 ∧ (body ρ1 μ = some (.nx ρ2, μ2) ∨ body ρ1 μ = some (.ct ρ2, μ2)) ∧ S (ds ++ [t]) ρ2 μ2) :
    ∀ (xs ys : List T) (ρ : TL.Env) (μ : Mu), X = ys ++ xs → S ys ρ μ → ∃ ρ' μ', forL b body xs ρ μ = some (.nx ρ', μ') ∧ S X ρ' μ' := by
  intro xs
  induction xs with
  | nil => intro ys ρ μ e h; rw [List.append_nil] at e; exact ⟨ρ, μ, rfl, by rw [e]; exact h⟩
  | cons t ts ih =>
    intro ys ρ μ e h
    obtain ⟨ρ1, ρ2, μ2, e1, e2, h2⟩ := step ys t ts ρ μ e h
    obtain ⟨ρ', μ', e3, h3⟩ := ih (ys ++ [t]) ρ2 μ2 (by rw [List.append_assoc]; exact e) h2
    refine ⟨ρ', μ', ?_, h3⟩
    rw [forL1', e1]
    dsimp only
    rcases e2 with e2 | e2 <;> rw [e2] <;> exact e3
theorem for_s {b : TB} {body : Sm} {t : T} {ts : List T} {ρ ρ1 ρ2 : TL.Env} {μ μ2 : Mu} {r : Option (SR × Mu)} (h1 : b t ρ = some ρ1) (h2 : body ρ1 μ = some (.nx ρ2, μ2)) (h3 : forL b body ts ρ2 μ2 = r) : forL b body (t :: ts) ρ μ = r := by
  rw [forL1', h1]
  dsimp only
  rw [h2]
  exact h3
theorem while_s {c : TL.Env → M Bool} {body : Sm} {n : Nat} {ρ ρ2 : TL.Env} {μ μ1 μ2 : Mu} (h1 : c ρ μ = some (.ok true, μ1)) (h2 : body ρ μ1 = some (.nx ρ2, μ2)) : whileF c body (n + 1) ρ μ = whileF c body n ρ2 μ2 := by
  show eM (c ρ) _ μ = _
  rw [x_eM, h1]
  dsimp only
  rw [if_pos rfl, h2]
theorem while_e {c : TL.Env → M Bool} {body : Sm} {n : Nat} {ρ : TL.Env} {μ μ1 : Mu} (h1 : c ρ μ = some (.ok false, μ1)) : whileF c body (n + 1) ρ μ = some (.nx ρ, μ1) := by
  show eM (c ρ) _ μ = _
  rw [x_eM, h1]
  rfl
/-- what data are: no things of the store -/
theorem pl_keep {n : Nat} {t : T} (h : plainN n t = true) : (∀ P μ, keepT P t μ = some (.ok t, μ)) ∧ (∀ P q μ, keepA q P t μ = some (.ok t, μ)) ∧ ∀ μ, look μ t = some t := by
  cases t <;> first
    | exact ⟨fun _ _ => rfl, fun _ _ _ => rfl, fun _ => rfl⟩
    | (cases n <;> cases h)
end TL

set_option maxHeartbeats 4000000
namespace TL
open PySem PySem.Spec PyProof.Rows L2
section
variable {ρ : Env} {μ : Mu} {i k q P : Nat} {f g : T → T → Option T} {fo fi fv fe fa fb : Env → M T} {fs : Env → M (List T)} {ts : List T} {x : T}
@[simp] theorem z_aug {t : T} (h : ρ[i]? = some (some t)) : mAug i f fe ρ μ = eM ((fe ρ).bind fun y => op2 f t y) (fun z μ => some (.nx (ρ.set i (some z)), μ)) μ := by
  unfold mAug
  rw [h]
@[simp] theorem z_slT {h : T → Option Int → Option Int → Option T} {l u : Option Int} : slT h x l u μ = match look μ x with
  | some a => M.opt (h a l u) μ
  | none => none := by unfold slT; cases look μ x <;> rfl
@[simp] theorem z_sl {h : T → Option Int → Option Int → Option T} {fl fh : Env → M (Option Int)} : mSl h fa fl fh ρ μ = M.bind (fa ρ) (fun x => (fl ρ).bind fun l => (fh ρ).bind fun u => slT h x l u) μ := rfl
@[simp] theorem z_part0 : mPart none ρ μ = some (.ok none, μ) := rfl
@[simp] theorem z_part1 {f : Env → M T} : mPart (some f) ρ μ = M.bind (f ρ) (fun t => match t with
  | .int i => M.ret (some i)
  | _ => M.stuck) μ := rfl
@[simp] theorem z_mulF : mMulF fa fb ρ μ = M.bind (fa ρ) (fun x => (fb ρ).bind fun y μ => match look μ x, look μ y with
  | some (.lst ts), some (.int j) => if -(2 ^ 63) ≤ j ∧ j < 2 ^ 63 ∧ ts.length * j.toNat ≤ 1000000 then some (.ok (.lst (List.replicate j.toNat ts).flatten), μ) else none
  | _, _ => none) μ := rfl
@[simp] theorem z_iterD : mIterD P k ρ μ = M.bind (mVar k ρ) (fun t => (keepT P t).bind walkD) μ := rfl
@[simp] theorem z_walkD {kvs : List (T × T)} : walkD (.dct false kvs) μ = some (.ok (kvs.map (·.1)), μ) := rfl
@[simp] theorem z_tupR3 : mTupR3 fs ρ μ = M.bind (fs ρ) (fun ts => match int3 ts with
  | some (i, j, c) => if c ≠ 0 ∧ c.natAbs < 1073741824 ∧ Builtin.Range.small i j c = true ∧ 0 ≤ Builtin.Range.rangeSize i j c ∧ Builtin.Range.rangeSize i j c ≤ 1000000 then M.ret (.tup (rng3 i j c)) else M.stuck
  | none => M.stuck) μ := rfl
@[simp] theorem z_len {ts : List T} : lenT [.lst ts] = some (.int ts.length) := rfl
@[simp] theorem z_lenT {ts : List T} : lenT [.tup ts] = some (.int ts.length) := rfl
@[simp] theorem z_lenD {b : Bool} {ts : List (T × T)} : lenT [.dct b ts] = some (.int ts.length) := rfl
@[simp] theorem z_consN {ff : Env → M MO} {fr : Env → M (List T)} : mConsN ff fr ρ μ = match ff ρ μ with
  | none => none
  | some (.ok o, μ') => M.bind (fr ρ) (fun xs => M.ret (.sh μ'.length :: xs)) (μ' ++ [(o, true)])
  | some (.ex x, μ') => some (.ex x, μ') := rfl
end
theorem for_of {fi : TL.Env → M (List T)} {b : TB} {body : Sm} {ρ : TL.Env} {μ μ1 : Mu} {ts : List T} {r : Option (SR × Mu)} (e1 : fi ρ μ = some (.ok ts, μ1)) (e2 : forL b body ts ρ μ1 = r) : mFor fi b body ρ μ = r := by
  rw [z_for, x_eM, e1]
  exact e2
/-- a range, its end an int that is known to be small (the kernel is not to count to 2 ^ 62) -/
theorem rng1_of {fs : TL.Env → M (List T)} {ρ : TL.Env} {μ μ1 : Mu} {N : Int} (e : fs ρ μ = some (.ok [.int N], μ1)) (h1 : -4611686018427387904 ≤ N) (h2 : N < 4611686018427387904) : mRng1 fs ρ μ = some (.ok (rng 0 N), μ1) := by
  rw [z_rng1, x_bind, e]
  have hz : (-4611686018427387904 : Int) ≤ N ∧ N < 4611686018427387904 := ⟨h1, h2⟩
  simp [hz]
theorem rng2_of {fs : TL.Env → M (List T)} {ρ : TL.Env} {μ μ1 : Mu} {K N : Int} (e : fs ρ μ = some (.ok [.int K, .int N], μ1)) (h0 : -4611686018427387904 ≤ K) (h1 : K < 4611686018427387904) (h2 : -4611686018427387904 ≤ N) (h3 : N < 4611686018427387904) : mRng2 fs ρ μ = some (.ok (rng K N), μ1) := by
  rw [z_rng2, x_bind, e]
  have hz : (-4611686018427387904 : Int) ≤ K ∧ K < 4611686018427387904 ∧ (-4611686018427387904 : Int) ≤ N ∧ N < 4611686018427387904 := ⟨h0, h1, h2, h3⟩
  simp [hz]
theorem toInts_map : ∀ is : List Int, toInts (is.map T.int) = some is
  | [] => rfl
  | i :: is => by
    rw [List.map_cons]
    unfold toInts
    rw [toInts_map is]
    rfl
theorem z_sumI {is : List Int} : sumT [.lst (is.map T.int)] = some (.int is.sum) := by
  show (toInts (is.map T.int)).map (fun ns => T.int ns.sum) = _
  rw [toInts_map]
  rfl
/-- l[i] op= v of a live list of ints -/
theorem aug_live {P : Nat} {fo fi fv : Env → M T} {ρ : Env} {μ : Mu} {n : Nat} {k : Nat} {us : List Int} {v : Int} {f : T → T → Option T} {w : Int} (ho : ∀ μ, fo ρ μ = some (.ok (.sh n), μ)) (hi : ∀ μ, fi ρ μ = some (.ok (.int k), μ)) (hv : fv ρ μ = some (.ok (.int v), μ)) (hm : μ[n]? = some (.lst (us.map T.int), true)) (hk : k < us.length) (hz : k < 1000000) (hf : f (.int (us.getD k 0)) (.int v) = some (.int w)) :
    mAugSD P f fo fi fv ρ μ = some (.nx ρ, μ.set n (.lst ((us.set k w).map T.int), true)) := by
  have hl : liveL μ (.sh n) = some (n, us.map T.int) := by simp [hm]
  unfold mAugSD
  rw [x_eM, ho]
  dsimp only
  rw [x_eM, hi]
  dsimp only
  rw [hl]
  simp only [Option.isSome_some, if_true]
  unfold kAugL
  rw [hl]
  have hk2 : (us.map T.int)[(k : Int).toNat]? = some (.int (us.getD k 0)) := by
    simp [List.getD, hk]
  simp only
  rw [if_pos ⟨by omega, by omega⟩, hk2]
  simp only
  rw [x_eM, x_bind, hv]
  simp only [y_op2, l_int, hf, x_opt1]
  rw [x_eM, k_int]
  simp only [hl]
  rw [if_pos (by simpa using hk)]
  simp [List.map_set]
end TL

set_option maxHeartbeats 4000000
namespace TL
open PySem PySem.Spec PyProof.Rows L2
/-! # a body walked statement by statement -/
def Goes (m : Sm) (ρ : Env) (μ : Mu) (Q : SR → Mu → Prop) : Prop := ∃ r μ', m ρ μ = some (r, μ') ∧ Q r μ'
section
variable {ρ ρ1 : Env} {μ μ1 : Mu} {i q P : Nat} {f g : Sm} {fa : Env → M T} {c : Env → M Bool} {t t' : T} {Q : SR → Mu → Prop} {fi : Env → M (List T)} {b : TB}
theorem go (h : f ρ μ = some (.nx ρ1, μ1)) (k : Goes g ρ1 μ1 Q) : Goes (mSeq f g) ρ μ Q := by
  obtain ⟨r, μ', e, hq⟩ := k
  exact ⟨r, μ', by rw [seq_nx h e], hq⟩
/-- a test that does not hold -/
theorem go_if (h : c ρ μ = some (.ok false, μ)) (k : Goes g ρ μ Q) : Goes (mSeq (mIf c f mSkip) g) ρ μ Q := by
  obtain ⟨r, μ', e, hq⟩ := k
  exact ⟨r, μ', seq_if (f2 := mSkip) h e, hq⟩
theorem go_if' (h : c ρ μ = some (.ok false, μ1)) (k : Goes g ρ μ1 Q) : Goes (mSeq (mIf c f mSkip) g) ρ μ Q := by
  obtain ⟨r, μ', e, hq⟩ := k
  exact ⟨r, μ', seq_if (f2 := mSkip) h e, hq⟩
theorem go_set (h : fa ρ μ = some (.ok t, μ)) (k : Goes g (ρ.set i (some t)) μ Q) : Goes (mSeq (mSet i fa) g) ρ μ Q := go (by rw [y_set, x_eM, h]) k
theorem go_set' (h : fa ρ μ = some (.ok t, μ1)) (k : Goes g (ρ.set i (some t)) μ1 Q) : Goes (mSeq (mSet i fa) g) ρ μ Q := go (by rw [y_set, x_eM, h]) k
theorem go_par {is : List Nat} {fs : Env → M (List T)} {ts : List T} (h : fs ρ μ = some (.ok ts, μ1)) (h2 : setL is ts ρ = some ρ1) (k : Goes g ρ1 μ1 Q) : Goes (mSeq (mPar is fs) g) ρ μ Q := go (by rw [y_par, x_eM, h]; dsimp only; rw [h2]) k
theorem go_asg (h : fa ρ μ = some (.ok t, μ1)) (h2 : b t ρ = some ρ1) (k : Goes g ρ1 μ1 Q) : Goes (mSeq (mAsg b fa) g) ρ μ Q := go (by rw [y_asg, x_eM, h]; dsimp only; rw [h2]) k
/-- the last test -/
theorem go_last (h : c ρ μ = some (.ok false, μ1)) (hq : Q (.nx ρ) μ1) : Goes (mIf c f mSkip) ρ μ Q := ⟨.nx ρ, μ1, by simp [h], hq⟩
theorem go_ret (h : fa ρ μ = some (.ok t, μ)) (h2 : keepT P t μ = some (.ok t', μ1)) (hq : Q (.rt t') μ1) : Goes (mRet P fa) ρ μ Q := ⟨.rt t', μ1, by rw [y_ret, x_eM, h]; dsimp only; rw [x_eM, h2], hq⟩
/-- a test that holds, and answers -/
theorem go_yes {g' : Sm} (h : c ρ μ = some (.ok true, μ1)) (k : Goes f ρ μ1 fun r μ2 => (∀ ρ', r ≠ .nx ρ') ∧ Q r μ2) : Goes (mSeq (mIf c f g') g) ρ μ Q := by
  obtain ⟨r, μ', e, hn, hq⟩ := k
  refine ⟨r, μ', ?_, hq⟩
  rw [y_seq, y_if, x_eM, h]
  dsimp only
  rw [if_pos rfl, e]
  cases r with
  | nx ρ' => exact absurd rfl (hn ρ')
  | _ => rfl
theorem run_goes {n : Nat} {ts : List T} (h : Goes f (ts.map some ++ List.replicate (n - ts.length) none) μ fun r μ' => r = .rt t ∧ μ'.take P = μ1) : runB P n f ts μ = some (.ok t, μ1) := by
  obtain ⟨r, μ', e, rfl, rfl⟩ := h
  rw [y_runB, e]
end
theorem seq_if0 {c : TL.Env → M Bool} {f1 g : Sm} {ρ : TL.Env} {μ : Mu} {r : Option (SR × Mu)} (h1 : c ρ μ = some (.ok false, μ)) (h2 : g ρ μ = r) : mSeq (mIf c f1 mSkip) g ρ μ = r := by
  simp [h1, h2]
theorem seq_yes {c : TL.Env → M Bool} {f1 f2 g : Sm} {ρ : TL.Env} {μ : Mu} {t : T} {μ1 : Mu} (h1 : c ρ μ = some (.ok true, μ)) (h2 : f1 ρ μ = some (.rt t, μ1)) : mSeq (mIf c f1 f2) g ρ μ = some (.rt t, μ1) := by
  simp [h1, h2]
theorem seq_set {fa : TL.Env → M T} {i : Nat} {g : Sm} {ρ : TL.Env} {μ μ1 : Mu} {t : T} {r : Option (SR × Mu)} (h1 : fa ρ μ = some (.ok t, μ1)) (h2 : g (ρ.set i (some t)) μ1 = r) : mSeq (mSet i fa) g ρ μ = r := by
  simp [h1, h2]
theorem ret_of {fa : TL.Env → M T} {P : Nat} {ρ : TL.Env} {μ μ1 μ2 : Mu} {t t' : T} (h1 : fa ρ μ = some (.ok t, μ1)) (h2 : keepT P t μ1 = some (.ok t', μ2)) : mRet P fa ρ μ = some (.rt t', μ2) := by
  simp [h1, h2]
theorem any0 {st : Bool} {vs : List Nat} {fi : TL.Env → M (List T)} {b : TB} {fe : TL.Env → M T} {ρ : TL.Env} {μ : Mu} {ts : List T} (p : T → Bool) (e : fi ρ μ = some (.ok ts, μ)) (h : ∀ t ∈ ts, ∃ ρ1, b t (wipeE ρ vs) = some ρ1 ∧ fe ρ1 μ = some (.ok (.bl (p t)), μ)) :
    mAny st vs fi b mYes fe ρ μ = some (.ok (.bl (if st = true then ts.any p else ts.all p)), μ) := mAny_map p e h
section
variable {ft fu : TL.Env → M Bool} {fa fb fc : TL.Env → M T} {fs fr : TL.Env → M (List T)} {ρ : TL.Env} {μ μ1 μ2 μ3 : Mu} {a b : Bool} {x y z : T} {xs : List T} {f f2 : T → T → Option T} {h1 : T → Option T}
theorem or_f (e1 : ft ρ μ = some (.ok false, μ1)) (e2 : fu ρ μ1 = some (.ok b, μ2)) : mOrT ft fu ρ μ = some (.ok b, μ2) := by simp [e1, e2]
theorem or_ff (e1 : ft ρ μ = some (.ok false, μ)) (e2 : fu ρ μ = some (.ok false, μ)) : mOrT ft fu ρ μ = some (.ok false, μ) := or_f e1 e2
theorem or_t (e1 : ft ρ μ = some (.ok true, μ1)) : mOrT ft fu ρ μ = some (.ok true, μ1) := by simp [e1]
theorem and_t (e1 : ft ρ μ = some (.ok true, μ1)) (e2 : fu ρ μ1 = some (.ok b, μ2)) : mAndT ft fu ρ μ = some (.ok b, μ2) := by simp [e1, e2]
theorem and_f (e1 : ft ρ μ = some (.ok false, μ1)) : mAndT ft fu ρ μ = some (.ok false, μ1) := by simp [e1]
theorem not_of (e1 : ft ρ μ = some (.ok a, μ1)) : mNotT ft ρ μ = some (.ok (!a), μ1) := by simp [e1]
theorem not_t (e1 : ft ρ μ = some (.ok true, μ1)) : mNotT ft ρ μ = some (.ok false, μ1) := by simp [e1]
theorem tru_of (e1 : fa ρ μ = some (.ok (.bl a), μ1)) : mTru fa ρ μ = some (.ok a, μ1) := by simp [e1]
theorem asB_of (e1 : fa ρ μ = some (.ok (.bl a), μ1)) : asB fa ρ μ = some (.ok a, μ1) := by simp [e1]
theorem bin_of (e1 : fa ρ μ = some (.ok x, μ1)) (e2 : fb ρ μ1 = some (.ok y, μ2)) (e3 : op2 f x y μ2 = some (.ok z, μ3)) : mBin f fa fb ρ μ = some (.ok z, μ3) := by
  rw [y_bin, x_bind, e1]
  dsimp only
  rw [x_bind, e2]
  exact e3
theorem cons_of (e1 : fa ρ μ = some (.ok x, μ1)) (e2 : fr ρ μ1 = some (.ok xs, μ2)) : mCons fa fr ρ μ = some (.ok (x :: xs), μ2) := by simp [e1, e2]
theorem cb_of {k : List T → Option T} {as : List T} (e1 : fs ρ μ = some (.ok xs, μ1)) (e2 : looks μ1 xs = some as) (e3 : k as = some z) : mCB k fs ρ μ = some (.ok z, μ1) := by simp [e1, e2, e3]
theorem o2_add {i j : Int} : op2 addT (.int i) (.int j) μ = some (.ok (.int (i + j)), μ) := rfl
theorem o2_sub {i j : Int} : op2 subT (.int i) (.int j) μ = some (.ok (.int (i - j)), μ) := rfl
theorem o2_mod {i j : Int} (h : 0 < j) : op2 modT (.int i) (.int j) μ = some (.ok (.int (i % j)), μ) := by simp [f_mod h]
theorem o2_div {i j : Int} (h : 0 < j ∧ j < 1073741824) : op2 fdivT (.int i) (.int j) μ = some (.ok (.int (i / j)), μ) := by simp [f_div h]
theorem o2_mul {i j : Int} (h : B64 i) : op2 mulT (.int i) (.int j) μ = some (.ok (.int (i * j)), μ) := by simp [f_mul h]
theorem o2_mulR {i j : Int} (h : B64 j) : op2 mulT (.int i) (.int j) μ = some (.ok (.int (i * j)), μ) := by simp [f_mulR h]
theorem o2_lt {i j : Int} : op2 ltT (.int i) (.int j) μ = some (.ok (.bl (decide (i < j))), μ) := rfl
theorem o2_le {i j : Int} : op2 leT (.int i) (.int j) μ = some (.ok (.bl (decide (i ≤ j))), μ) := rfl
theorem o2_gt {i j : Int} : op2 gtT (.int i) (.int j) μ = some (.ok (.bl (decide (j < i))), μ) := rfl
theorem o2_ge {i j : Int} : op2 geT (.int i) (.int j) μ = some (.ok (.bl (decide (j ≤ i))), μ) := rfl
theorem o2_ixT {ts : List T} {k : Int} {t : T} (h : L2.atI ts k = some t) : op2 ixA (.tup ts) (.int k) μ = some (.ok t, μ) := by simp [h]
theorem o2_ixL {ts : List T} {k : Int} {t : T} (h : L2.atI ts k = some t) : op2 ixA (.lst ts) (.int k) μ = some (.ok t, μ) := by simp [h]
theorem o2_ixW {ts : List T} {k : Int} {t : T} (h : L2.atI ts k = some t) : op2 ixA (.wt ts) (.int k) μ = some (.ok t, μ) := by simp [h]
theorem tup_of {P : Nat} {ys : List T} (e1 : fs ρ μ = some (.ok xs, μ1)) (e2 : keepTs P xs μ1 = some (.ok ys, μ2)) (hl : ys.length ≤ 1000) : mTup P fs ρ μ = some (.ok (.tup ys), μ2) := by
  simp [e1, e2, hl]
theorem lst_of {P : Nat} {ys : List T} (e1 : fs ρ μ = some (.ok xs, μ1)) (e2 : keepTs P xs μ1 = some (.ok ys, μ2)) (hl : ys.length ≤ 1000) : mLst P fs ρ μ = some (.ok (.lst ys), μ2) := by
  simp [e1, e2, hl]
theorem bind_of {α β : Type} {m : M α} {k : α → M β} {v : α} {r : Option (Res β × Mu)} (e1 : m μ = some (.ok v, μ1)) (e2 : k v μ1 = r) : M.bind m k μ = r := by
  simp [e1, e2]
/-- a == b, a != b of plain data -/
theorem ne_of (e1 : fa ρ μ = some (.ok x, μ1)) (e2 : fb ρ μ1 = some (.ok y, μ2)) (p1 : plainN 60 x = true) (p2 : plainN 60 y = true) : asB (mBin TL.neT fa fb) ρ μ = some (.ok (!dec (x = y)), μ2) := by
  have l1 := (pl_keep p1).2.2 μ2
  have l2 := (pl_keep p2).2.2 μ2
  refine asB_of (bin_of e1 e2 ?_)
  rw [y_op2, l1, l2]
  dsimp only
  rw [f_ne p1 p2]
  rfl
theorem ne_ff (e1 : fa ρ μ = some (.ok x, μ1)) (e2 : fb ρ μ1 = some (.ok x, μ2)) (p1 : plainN 60 x = true) : asB (mBin TL.neT fa fb) ρ μ = some (.ok false, μ2) := by
  have := ne_of e1 e2 p1 p1
  rwa [dec_true rfl] at this
theorem eq_of (e1 : fa ρ μ = some (.ok x, μ1)) (e2 : fb ρ μ1 = some (.ok y, μ2)) (p1 : plainN 60 x = true) (p2 : plainN 60 y = true) : asB (mBin TL.eqT fa fb) ρ μ = some (.ok (dec (x = y)), μ2) := by
  have l1 := (pl_keep p1).2.2 μ2
  have l2 := (pl_keep p2).2.2 μ2
  refine asB_of (bin_of e1 e2 ?_)
  rw [y_op2, l1, l2]
  dsimp only
  rw [f_eq p1 p2]
  rfl
theorem neI_ff {a b : Int} (e1 : fa ρ μ = some (.ok (.int a), μ1)) (e2 : fb ρ μ1 = some (.ok (.int b), μ2)) (h : a = b) : asB (mBin TL.neT fa fb) ρ μ = some (.ok false, μ2) := by
  subst h
  exact ne_ff e1 e2 pl_int
theorem neS_ff {a b : Str} (e1 : fa ρ μ = some (.ok (.str a), μ1)) (e2 : fb ρ μ1 = some (.ok (.str b), μ2)) (h : a = b) (hs : PyData.strOk a = true) : asB (mBin TL.neT fa fb) ρ μ = some (.ok false, μ2) := by
  subst h
  exact ne_ff e1 e2 (by simpa using hs)
theorem o2_addL {a b : List T} (h : a.length + b.length ≤ 1000000) : op2 addT (.lst a) (.lst b) μ = some (.ok (.lst (a ++ b)), μ) := by
  simp [addT, h]
theorem o2_addT {a b : List T} (h : a.length + b.length ≤ 1000000) : op2 addT (.tup a) (.tup b) μ = some (.ok (.tup (a ++ b)), μ) := by
  simp [addT, h]
theorem o2_addS {a b : Str} (h : a.length + b.length ≤ 1000000) : op2 addT (.str a) (.str b) μ = some (.ok (.str (a ++ b)), μ) := by
  simp [addT, h]
theorem neB_ff {a : Bool} (e1 : fa ρ μ = some (.ok (.bl a), μ1)) (e2 : fb ρ μ1 = some (.ok (.bl a), μ2)) : asB (mBin TL.neT fa fb) ρ μ = some (.ok false, μ2) := by
  refine asB_of (bin_of e1 e2 ?_)
  cases a <;> rfl
end
theorem if_f {c : TL.Env → M Bool} {f1 f2 : Sm} {ρ : TL.Env} {μ μ1 : Mu} {r : Option (SR × Mu)} (h1 : c ρ μ = some (.ok false, μ1)) (h2 : f2 ρ μ1 = r) : mIf c f1 f2 ρ μ = r := by
  simp [h1, h2]
/-- a roll, as the def's meaning -/
theorem rollG {g : FM} (hg : g = runB 1 3 mRoll) (many : Int) (h0 : 0 < many) (h1 : many < 1073741824) (a b c : Int) : ∃ r a' b' c' : Int, 0 ≤ r ∧ r < many ∧ g [.sh 0, .int many] [(.lst [.int a, .int b, .int c], true)] = some (.ok (.int r), [(.lst [.int a', .int b', .int c'], true)]) := by
  rw [hg]
  exact roll_ok a b c many h0 h1
theorem lc_eff {P : Nat} {vs : List Nat} {b : TB} {c : TL.Env → M Bool} {fe : TL.Env → M T} {ρ : TL.Env} (I : Mu → Prop) (Q : T → T → Prop) (full : Bool) : ∀ (ts : List T) (μ : Mu),
    (∀ t ∈ ts, ∀ μ, I μ → ∃ ρ1 b0 μ1, b t (wipeE ρ vs) = some ρ1 ∧ c ρ1 μ = some (.ok b0, μ1) ∧ I μ1 ∧ (full = true → b0 = true) ∧ (b0 = true → ∃ y μ2, ((fe ρ1).bind (keepT P)) μ1 = some (.ok y, μ2) ∧ I μ2 ∧ Q t y)) → I μ →
    ∃ ys μ', lcE P vs b c fe ρ ts μ = some (ys, μ') ∧ I μ' ∧ ys.length ≤ ts.length ∧ (full = true → ys.length = ts.length) ∧ ∀ y ∈ ys, ∃ t ∈ ts, Q t y
  | [], μ, _, hI => ⟨[], μ, rfl, hI, Nat.le_refl _, fun _ => rfl, fun y hy => by cases hy⟩
  | t :: ts, μ, H, hI => by
    obtain ⟨ρ1, b0, μ1, e1, e2, h1, hf, h2⟩ := H t List.mem_cons_self μ hI
    cases b0 with
    | true =>
      obtain ⟨y, μ2, e3, h3, hq⟩ := h2 rfl
      obtain ⟨ys, μ3, e4, h4, h5, h6, h7⟩ := lc_eff I Q full ts μ2 (fun u hu => H u (List.mem_cons_of_mem _ hu)) h3
      refine ⟨y :: ys, μ3, ?_, h4, ?_, fun z => ?_, fun v hv => ?_⟩
      · rw [z_lcE1, e1]
        simp only [e2, e3, e4]
      · simp only [List.length_cons]; omega
      · simp only [List.length_cons, h6 z]
      · rcases List.mem_cons.mp hv with rfl | hv
        · exact ⟨t, List.mem_cons_self, hq⟩
        · obtain ⟨u, hu, hq⟩ := h7 v hv
          exact ⟨u, List.mem_cons_of_mem _ hu, hq⟩
    | false =>
      obtain ⟨ys, μ3, e4, h4, h5, h6, h7⟩ := lc_eff I Q full ts μ1 (fun u hu => H u (List.mem_cons_of_mem _ hu)) h1
      refine ⟨ys, μ3, ?_, h4, ?_, fun z => ?_, fun v hv => ?_⟩
      · rw [z_lcE1, e1]
        simp only [e2, e4]
      · simp only [List.length_cons]; omega
      · cases hf z
      · obtain ⟨u, hu, hq⟩ := h7 v hv
        exact ⟨u, List.mem_cons_of_mem _ hu, hq⟩
theorem comp_eff {P : Nat} {vs : List Nat} {b : TB} {fi : TL.Env → M (List T)} {c : TL.Env → M Bool} {fe : TL.Env → M T} {ρ : TL.Env} {μ μ0 : Mu} {ts : List T} (I : Mu → Prop) (Q : T → T → Prop) (full : Bool) (e : fi ρ μ = some (.ok ts, μ0)) (hn : ts.length ≤ 1000000)
    (H : ∀ t ∈ ts, ∀ μ, I μ → ∃ ρ1 b0 μ1, b t (wipeE ρ vs) = some ρ1 ∧ c ρ1 μ = some (.ok b0, μ1) ∧ I μ1 ∧ (full = true → b0 = true) ∧ (b0 = true → ∃ y μ2, ((fe ρ1).bind (keepT P)) μ1 = some (.ok y, μ2) ∧ I μ2 ∧ Q t y)) (hI : I μ0) :
    ∃ ys μ', mOf (mLc P vs fi b c fe) ρ μ = some (.ok (.lst ys), μ') ∧ I μ' ∧ ys.length ≤ ts.length ∧ (full = true → ys.length = ts.length) ∧ ∀ y ∈ ys, ∃ t ∈ ts, Q t y := by
  obtain ⟨ys, μ', e1, h⟩ := lc_eff I Q full ts μ0 H hI
  refine ⟨ys, μ', ?_, h⟩
  rw [y_of, z_lc, x_bind, e]
  dsimp only
  rw [if_pos hn, e1]
  rfl
theorem ivals_back : ∀ ys : List T, (∀ y ∈ ys, ∃ i : Int, y = .int i) → (ys.map ival).map T.int = ys
  | [], _ => rfl
  | y :: ys, h => by
    obtain ⟨i, rfl⟩ := h y List.mem_cons_self
    rw [List.map_cons, List.map_cons, ivals_back ys fun z hz => h z (List.mem_cons_of_mem _ hz)]
    rfl
theorem for_ret {b : TB} {body : Sm} (f : Nat → T) (S : TL.Env → Prop) (μ : Mu) (r : Nat) (v : T) (step : ∀ j ρ, j < r → S ρ → ∃ ρ1 ρ2, b (f j) ρ = some ρ1 ∧ body ρ1 μ = some (.nx ρ2, μ) ∧ S ρ2) (fin : ∀ ρ, S ρ → ∃ ρ1, b (f r) ρ = some ρ1 ∧ body ρ1 μ = some (.rt v, μ)) :
    ∀ (n j : Nat) (ρ : TL.Env), j ≤ r → r < j + n → S ρ → forL b body ((List.range' j n).map f) ρ μ = some (.rt v, μ) := by
  intro n
  induction n with
  | zero => intro j ρ h1 h2; omega
  | succ n ih =>
    intro j ρ h1 h2 hs
    rw [List.range'_succ, List.map_cons, forL1']
    by_cases hj : j = r
    · subst hj
      obtain ⟨ρ1, e1, e2⟩ := fin ρ hs
      rw [e1]
      dsimp only
      rw [e2]
    · obtain ⟨ρ1, ρ2, e1, e2, h3⟩ := step j ρ (by omega) hs
      rw [e1]
      dsimp only
      rw [e2]
      exact ih (j + 1) ρ2 (by omega) (by omega) h3
theorem for_all {b : TB} {body : Sm} (f : Nat → T) (S : TL.Env → Prop) (μ : Mu) (N : Nat) (step : ∀ j ρ, j < N → S ρ → ∃ ρ1 ρ2, b (f j) ρ = some ρ1 ∧ body ρ1 μ = some (.nx ρ2, μ) ∧ S ρ2) :
    ∀ (n j : Nat) (ρ : TL.Env), j + n = N → S ρ → ∃ ρ', forL b body ((List.range' j n).map f) ρ μ = some (.nx ρ', μ) ∧ S ρ' := by
  intro n
  induction n with
  | zero => intro j ρ h1 h2; exact ⟨ρ, rfl, h2⟩
  | succ n ih =>
    intro j ρ h1 hs
    obtain ⟨ρ1, ρ2, e1, e2, h3⟩ := step j ρ (by omega) hs
    obtain ⟨ρ', e3, h4⟩ := ih (j + 1) ρ2 (by omega) h3
    refine ⟨ρ', ?_, h4⟩
    rw [List.range'_succ, List.map_cons, forL1', e1]
    dsimp only
    rw [e2]
    exact e3
end TL

set_option maxHeartbeats 4000000
namespace TL
open PySem PySem.Spec PyProof.Rows L2
/-! # rows of ints and bools: the least, the greatest -/
inductive At where
  | i (k : Int) | b (k : Bool)
def At.t : At → T
  | .i k => .int k
  | .b k => .bl k
def At.d : At → PyData
  | .i k => .int k
  | .b k => .bool k
def At.v : At → Int
  | .i k => k
  | .b k => if k = true then 1 else 0
def At.k : At → Bool
  | .i _ => false
  | .b _ => true
def rowT (r : List At) : T := .tup (r.map At.t)
def rowD (r : List At) : PyData := .tuple (r.map At.d)
def lexI : List Int → List Int → Bool
  | a :: as, b :: bs => decide (a < b) || (decide (a = b) && lexI as bs)
  | [], _ :: _ => true
  | _, [] => false
theorem toDs_at : ∀ r : List At, toDs (r.map At.t) = some (r.map At.d)
  | [] => rfl
  | a :: r => by
    rw [List.map_cons, List.map_cons]
    unfold toDs
    rw [toDs_at r]
    cases a <;> rfl
theorem toD_row (r : List At) : toD (rowT r) = some (rowD r) := by
  unfold rowT rowD
  unfold toD
  rw [toDs_at]
  rfl
theorem toDs_row : ∀ rs : List (List At), toDs (rs.map rowT) = some (rs.map rowD)
  | [] => rfl
  | r :: rs => by
    rw [List.map_cons, List.map_cons]
    unfold toDs
    rw [toD_row, toDs_row rs]
theorem alike_at : ∀ {r s : List At}, r.map At.k = s.map At.k → PySem.W.alikeAll (r.map At.d) (s.map At.d) = true
  | [], _, _ => rfl
  | a :: r, [], h => by cases h
  | a :: r, b :: s, h => by
    rw [List.map_cons, List.map_cons, List.cons.injEq] at h
    rw [List.map_cons, List.map_cons]
    unfold PySem.W.alikeAll
    rw [alike_at h.2, Bool.and_true]
    cases a <;> cases b <;> first | rfl | (simp [At.k] at h)
theorem depth_at : ∀ r : List At, PyData.depthAll (r.map At.d) = 0
  | [] => rfl
  | a :: r => by
    rw [List.map_cons]
    simp only [PyData.depthAll, depth_at r]
    cases a <;> rfl
theorem depth_rows : ∀ rs : List (List At), PyData.depthAll (rs.map rowD) ≤ 1
  | [] => Nat.zero_le _
  | r :: rs => by
    rw [List.map_cons]
    have := depth_rows rs
    have h1 : PyData.depth (rowD r) ≤ 1 := by
      unfold rowD
      simp [PyData.depth, depth_at]
    simp only [PyData.depthAll]
    omega
theorem alike_rows {ks : List Bool} {rs : List (List At)} (h : ∀ r ∈ rs, r.map At.k = ks) : alikeB (rs.map rowD) = true := by
  unfold alikeB
  have := depth_rows rs
  simp only [Bool.and_eq_true, List.all_eq_true, decide_eq_true_eq]
  refine ⟨⟨fun x hx y hy => ?_, fun x hx => ?_⟩, by omega⟩
  · obtain ⟨r, hr, rfl⟩ := List.mem_map.mp hx
    obtain ⟨s, hs, rfl⟩ := List.mem_map.mp hy
    exact alike_at ((h r hr).trans (h s hs).symm)
  · obtain ⟨r, hr, rfl⟩ := List.mem_map.mp hx
    rfl
theorem toks_at (a : At) : PySem.W.keyToks a.d = [.inl a.v] := by
  cases a with
  | i k => simp [At.d, At.v, PySem.W.keyToks]
  | b k => simp [At.d, At.v, PySem.W.keyToks]
theorem lt_at : ∀ {r s : List At}, r.length = s.length → PyProof.Rows.lexLt PyProof.Rows.itemOrd (PySem.W.keyToksAll (r.map At.d)) (PySem.W.keyToksAll (s.map At.d)) = lexI (r.map At.v) (s.map At.v)
  | [], [], _ => by decide +kernel
  | [], _ :: _, h => by cases h
  | _ :: _, [], h => by cases h
  | a :: r, b :: s, h => by
    have ih := lt_at (r := r) (s := s) (by simpa using h)
    rw [List.map_cons, List.map_cons, List.map_cons, List.map_cons]
    unfold PySem.W.keyToksAll
    rw [PyProof.Rows.lex_self (O := PyProof.Rows.itemOrd), toks_at, toks_at]
    unfold lexI
    by_cases e : a.v = b.v
    · rw [e, List.cons_append, List.cons_append, PyProof.Rows.lex_self (O := PyProof.Rows.itemOrd), List.nil_append, List.nil_append, ih]
      simp
    · rw [List.cons_append, List.cons_append, PyProof.Rows.lex_diff (O := PyProof.Rows.itemOrd) (by simpa using e)]
      simp [e]
      rfl
theorem lt_row {r s : List At} (h : r.length = s.length) : PySem.W.dataLt (rowD r) (rowD s) = lexI (r.map At.v) (s.map At.v) := by
  unfold PySem.W.dataLt rowD
  simp only [PySem.W.keyToks]
  exact lt_at h
theorem lexI_irr : ∀ a : List Int, lexI a a = false
  | [] => rfl
  | x :: a => by unfold lexI; simp [lexI_irr a]
theorem lexI_tr : ∀ {a b c : List Int}, lexI a b = true → lexI b c = true → lexI a c = true
  | [], [], c, h, _ => by cases h
  | [], b :: bs, [], h, h2 => by cases h2
  | [], b :: bs, c :: cs, h, h2 => rfl
  | a :: as, [], c, h, h2 => by cases h
  | a :: as, b :: bs, [], h, h2 => by cases h2
  | a :: as, b :: bs, c :: cs, h, h2 => by
    unfold lexI at h h2 ⊢
    simp only [Bool.or_eq_true, decide_eq_true_eq, Bool.and_eq_true] at h h2 ⊢
    rcases h with h | ⟨h, h'⟩ <;> rcases h2 with h2 | ⟨h2, h2'⟩
    · left; omega
    · left; omega
    · left; omega
    · right; exact ⟨by omega, lexI_tr h' h2'⟩
theorem argBest_tr {f : Nat → Nat → Bool} (irr : ∀ i, f i i = false) (tr : ∀ i j k, f i j = true → f j k = true → f i k = true) : ∀ n, argBest f n ≤ n ∧ ∀ j, j ≤ n → f j (argBest f n) = false
  | 0 => ⟨Nat.le_refl _, fun j hj => by have : j = 0 := by omega
                                        subst this; exact irr 0⟩
  | n + 1 => by
    obtain ⟨h1, h2⟩ := argBest_tr irr tr n
    unfold argBest
    by_cases hc : f (n + 1) (argBest f n) = true
    · rw [if_pos hc]
      refine ⟨Nat.le_refl _, fun j hj => ?_⟩
      by_cases e : j = n + 1
      · rw [e]; exact irr _
      · cases q : f j (n + 1) with
        | false => rfl
        | true =>
          have := tr _ _ _ q hc
          rw [h2 j (by omega)] at this
          cases this
    · rw [if_neg hc]
      refine ⟨by omega, fun j hj => ?_⟩
      by_cases e : j = n + 1
      · rw [e]; simpa using hc
      · exact h2 j (by omega)
theorem best_rows {g : PyData → PyData → Bool} {lt : List Int → List Int → Bool} (irr : ∀ a, lt a a = false) (tr : ∀ a b c, lt a b = true → lt b c = true → lt a c = true) {ks : List Bool} {r : List At} {rs : List (List At)} (h : ∀ s ∈ r :: rs, s.map At.k = ks) (hg : ∀ x ∈ r :: rs, ∀ y ∈ r :: rs, g (rowD x) (rowD y) = lt (x.map At.v) (y.map At.v)) :
    ∃ m, bestT g ((r :: rs).map rowT) = some (rowT m) ∧ m ∈ r :: rs ∧ ∀ s ∈ r :: rs, lt (s.map At.v) (m.map At.v) = false := by
  have e0 := toDs_row (r :: rs)
  have e1 := alike_rows h
  have gd : ∀ k, k < (r :: rs).length → ((r :: rs).map rowD).getD k .none = rowD ((r :: rs).getD k []) ∧ (r :: rs).getD k [] ∈ r :: rs := fun k hk => by
    simp only [List.getD, List.getElem?_map, List.getElem?_eq_getElem hk, Option.map_some, Option.getD_some]
    exact ⟨trivial, List.getElem_mem hk⟩
  have ec := argBest_congr (f := fun a b => g (((r :: rs).map rowD).getD a .none) (((r :: rs).map rowD).getD b .none)) (g := fun a b => lt (((r :: rs).getD a []).map At.v) (((r :: rs).getD b []).map At.v)) rs.length fun a b ha hb => by
    obtain ⟨a1, a2⟩ := gd a (by simp; omega)
    obtain ⟨b1, b2⟩ := gd b (by simp; omega)
    rw [a1, b1, hg _ a2 _ b2]
  obtain ⟨h1, h2⟩ := argBest_tr (f := fun a b => lt (((r :: rs).getD a []).map At.v) (((r :: rs).getD b []).map At.v)) (fun i => irr _) (fun i j k => tr _ _ _) rs.length
  generalize hn : argBest (fun a b => lt (((r :: rs).getD a []).map At.v) (((r :: rs).getD b []).map At.v)) rs.length = n at *
  have hl : n < (r :: rs).length := by simp; omega
  refine ⟨(r :: rs).getD n [], ?_, (gd n hl).2, ?_⟩
  · unfold bestT
    rw [e0]
    rw [List.map_cons] at e1 ec ⊢
    simp only [e1, if_true, List.length_map, ec.1]
    rw [List.getElem?_map, List.getElem?_eq_getElem hl]
    simp [List.getD, List.getElem?_eq_getElem hl]
  · intro s hs
    obtain ⟨k, hk, rfl⟩ := List.getElem_of_mem hs
    have := h2 k (by simp at hk; omega)
    simpa [List.getD, List.getElem?_eq_getElem hk] using this
theorem min_rows {ks : List Bool} {r : List At} {rs : List (List At)} (h : ∀ s ∈ r :: rs, s.map At.k = ks) : ∃ m, minT [.lst ((r :: rs).map rowT)] = some (rowT m) ∧ m ∈ r :: rs ∧ ∀ s ∈ r :: rs, lexI (s.map At.v) (m.map At.v) = false := by
  have len : ∀ x ∈ r :: rs, x.length = ks.length := fun x hx => by rw [← h x hx, List.length_map]
  exact best_rows lexI_irr (fun a b c => lexI_tr) h fun x hx y hy => lt_row ((len x hx).trans (len y hy).symm)
theorem max_rows {ks : List Bool} {r : List At} {rs : List (List At)} (h : ∀ s ∈ r :: rs, s.map At.k = ks) : ∃ m, maxT [.lst ((r :: rs).map rowT)] = some (rowT m) ∧ m ∈ r :: rs ∧ ∀ s ∈ r :: rs, lexI (m.map At.v) (s.map At.v) = false := by
  have len : ∀ x ∈ r :: rs, x.length = ks.length := fun x hx => by rw [← h x hx, List.length_map]
  exact best_rows (g := fun x y => PySem.W.dataLt y x) (lt := fun a b => lexI b a) lexI_irr (fun a b c h1 h2 => lexI_tr h2 h1) h fun x hx y hy => lt_row ((len y hy).trans (len x hx).symm)
end TL

set_option maxHeartbeats 4000000
namespace TL
open PySem PySem.Spec PyProof.Rows L2
/-! # ranges, lists of ints, rows of pairs -/
theorem rg_pw {lo hi : Int} : (rng lo hi).Pairwise fun a b => ival a < ival b := by
  unfold rng
  rw [List.pairwise_map]
  refine List.Pairwise.imp (fun h => ?_) List.pairwise_lt_range
  show lo + _ < lo + _
  omega
/-- the last of some numbers of a range is the greatest -/
theorem rg_last {lo hi : Int} {pp : T → Bool} {ys : List T} {t : T} (h : (rng lo hi).filter pp = ys ++ [t]) : ∃ k, t = .int k ∧ lo ≤ k ∧ k < hi ∧ pp t = true ∧ ∀ u ∈ ys, ∃ j, u = .int j ∧ j < k ∧ lo ≤ j := by
  have hm : t ∈ (rng lo hi).filter pp := by rw [h]; simp
  obtain ⟨h1, h2⟩ := List.mem_filter.mp hm
  obtain ⟨k, rfl, k0, k1⟩ := mem_rng h1
  refine ⟨k, rfl, k0, k1, h2, fun u hu => ?_⟩
  have hu2 : u ∈ (rng lo hi).filter pp := by rw [h]; simp [hu]
  obtain ⟨j, rfl, j0, j1⟩ := mem_rng (List.mem_filter.mp hu2).1
  have pw := (rg_pw (lo := lo) (hi := hi)).filter pp
  rw [h, List.pairwise_append] at pw
  exact ⟨j, rfl, pw.2.2 (.int j) hu (.int k) (List.mem_singleton_self _), j0⟩
theorem nil_last {α : Type} (l : List α) : l = [] ∨ ∃ ys t, l = ys ++ [t] := by
  rcases l.eq_nil_or_concat with h | ⟨ys, t, h⟩
  · exact .inl h
  · exact .inr ⟨ys, t, by simpa using h⟩
theorem at_end {α : Type} {xs : List α} (h : 0 < xs.length) : L2.atI xs (-1) = xs[xs.length - 1]? := by
  rcases nil_last xs with rfl | ⟨ys, t, rfl⟩
  · simp at h
  · rw [at_last]; simp
theorem mem_ints {bs : List Int} {t : T} (h : t ∈ bs.map T.int) : ∃ k, k ∈ bs ∧ t = .int k := by
  obtain ⟨k, hk, rfl⟩ := List.mem_map.mp h
  exact ⟨k, hk, rfl⟩
theorem ints_filt {bs : List Int} {p : Int → Bool} : ((bs.map T.int).filter fun t => p (ival t)).map (fun t => T.int (ival t)) = (bs.filter p).map T.int := by
  rw [List.filter_map, List.map_map]
  rfl
theorem rng_mem {lo hi k : Int} (h0 : lo ≤ k) (h1 : k < hi) : T.int k ∈ rng lo hi := by
  unfold rng
  exact List.mem_map.mpr ⟨(k - lo).toNat, List.mem_range.mpr (by omega), by congr 1; omega⟩
/-- the greatest of some numbers of a range is the last -/
theorem rg_max {lo hi : Int} {pp : T → Bool} {ys : List T} {q : Int} (h : (rng lo hi).filter pp = ys ++ [.int q]) : maxT [.lst (ys ++ [.int q])] = some (.int q) := by
  obtain ⟨k, e, k0, k1, _, hk⟩ := rg_last h
  cases e
  have hy : ys = (ys.map ival).map T.int := (ivals_back ys fun y hy => by obtain ⟨j, e, _⟩ := hk y hy; exact ⟨j, e⟩).symm
  have hle : ∀ j ∈ ys.map ival, j < q := fun j hj => by
    obtain ⟨t, ht, rfl⟩ := List.mem_map.mp hj
    obtain ⟨j, e, h1, _⟩ := hk t ht
    rw [e]
    exact h1
  have e2 : ys ++ [.int q] = ((ys.map ival) ++ [q]).map T.int := by
    rw [List.map_append, ← hy]
    simp
  rw [e2]
  generalize ys.map ival = is at *
  match is, hle with
  | [], _ =>
    obtain ⟨m, e, hm, hx⟩ := f_maxI q []
    rw [List.nil_append, e]
    simp at hm
    rw [hm]
  | a :: js, hle =>
    obtain ⟨m, e, hm, hx⟩ := f_maxI a (js ++ [q])
    rw [List.cons_append, e]
    have := hx q (by simp)
    rcases List.mem_cons.mp hm with h | h
    · have := hle a (by simp); omega
    · rw [List.mem_append, List.mem_singleton] at h
      rcases h with h | h
      · have := hle m (List.mem_cons_of_mem _ h); omega
      · rw [h]
/-- rows of two ints -/
def pT (ps : List (Int × Int)) : List T := ps.map fun p => .tup [.int p.1, .int p.2]
def pF (ps : List (Int × Int)) (k : Int) : Int := (ps.getD k.toNat (0, 0)).1
def pD (ps : List (Int × Int)) (k : Int) : Int := (ps.getD k.toNat (0, 0)).2
@[simp] theorem pT_len {ps : List (Int × Int)} : (pT ps).length = ps.length := by simp [pT]
section
variable {ps : List (Int × Int)} {k : Int}
theorem pT_at (h0 : 0 ≤ k) (h1 : k < ps.length) : L2.atI (pT ps) k = some (.tup [.int (pF ps k), .int (pD ps k)]) := by
  obtain ⟨n, rfl⟩ : ∃ n : Nat, k = n := ⟨k.toNat, by omega⟩
  have hn : n < ps.length := by omega
  refine at_nat ?_
  unfold pT pF pD
  rw [List.getElem?_map, List.getElem?_eq_getElem hn]
  simp [List.getD, List.getElem?_eq_getElem hn]
theorem pT_end (h1 : 0 < ps.length) : L2.atI (pT ps) (-1) = some (.tup [.int (pF ps (ps.length - 1)), .int (pD ps (ps.length - 1))]) := by
  rw [at_end (by simpa using h1), ← pT_at (by omega) (by omega), pT_len, show ((ps.length : Int) - 1) = ((ps.length - 1 : Nat) : Int) by omega]
  have hn : ps.length - 1 < (pT ps).length := by simp; omega
  rw [at_nat (List.getElem?_eq_getElem hn), List.getElem?_eq_getElem hn]
theorem pFD_mem (h0 : 0 ≤ k) (h1 : k < ps.length) : (pF ps k, pD ps k) ∈ ps := by
  have hn : k.toNat < ps.length := by omega
  unfold pF pD
  simp only [List.getD, List.getElem?_eq_getElem hn, Option.getD_some]
  exact List.getElem_mem hn
theorem pT_mem {t : T} (h : t ∈ pT ps) : ∃ p ∈ ps, t = .tup [.int p.1, .int p.2] := by
  obtain ⟨p, hp, rfl⟩ := List.mem_map.mp h
  exact ⟨p, hp, rfl⟩
theorem pT_pl {n : Nat} : plainN (n + 2) (.lst (pT ps)) = true := by
  rw [pl_lst, List.all_eq_true]
  intro t ht
  obtain ⟨p, _, rfl⟩ := pT_mem ht
  simp
theorem pT_all {n : Nat} : (pT ps).all (plainN (n + 1)) = true := pT_pl
theorem pT_nil : T.lst (pT ps) = .lst [] ↔ ps = [] := by
  rw [T.lst.injEq]; unfold pT; simp
end
theorem for_of0 {fi : TL.Env → M (List T)} {b : TB} {body : Sm} {ρ : TL.Env} {μ : Mu} {ts : List T} {r : Option (SR × Mu)} (e1 : fi ρ μ = some (.ok ts, μ)) (e2 : forL b body ts ρ μ = r) : mFor fi b body ρ μ = r := for_of e1 e2
theorem run_of {P n : Nat} {f : Sm} {ts : List T} {μ μ' μ1 : Mu} {t : T} (e : f (ts.map some ++ List.replicate (n - ts.length) none) μ = some (.rt t, μ')) (h : μ'.take P = μ1) : runB P n f ts μ = some (.ok t, μ1) := by
  rw [y_runB, e, ← h]
theorem run_non {P n : Nat} {f : Sm} {ts : List T} {μ μ' μ1 : Mu} {ρ : TL.Env} (e : f (ts.map some ++ List.replicate (n - ts.length) none) μ = some (.nx ρ, μ')) (h : μ'.take P = μ1) : runB P n f ts μ = some (.ok .non, μ1) := by
  rw [y_runB, e, ← h]
theorem run_exc {P n : Nat} {f : Sm} {ts : List T} {μ μ' μ1 : Mu} {x : Exc} (e : f (ts.map some ++ List.replicate (n - ts.length) none) μ = some (.ex x, μ')) (h : μ'.take P = μ1) : runB P n f ts μ = some (.ex x, μ1) := by
  rw [y_runB, e, ← h]
/-- calls of defs, methods, classes whose meanings are known -/
theorem call_of {q np : Nat} {g : FM} {fs : TL.Env → M (List T)} {ρ : TL.Env} {μ μ1 μ2 : Mu} {xs ys : List T} {r : Res T} (e1 : fs ρ μ = some (.ok xs, μ1)) (e3 : keepAs q 0 xs μ1 = some (.ok ys, μ2)) (hl : ys.length = np) (e4 : g ys [] = some (r, [])) : mCall q 0 np g fs ρ μ = some (r, μ2) := by
  rw [y_call, x_bind, e1]
  dsimp only
  rw [x_bind, e3]
  dsimp only
  rw [y_callM, if_pos ⟨hl, Nat.zero_le _⟩, List.take_zero, e4]
  simp
theorem meth_of {q np lev : Nat} {c m : Str} {g : FM} {fo : TL.Env → M T} {fs : TL.Env → M (List T)} {ρ : TL.Env} {μ μ1 μ2 μ3 : Mu} {x : T} {xs ys : List T} {r : Res T} (e1 : fo ρ μ = some (.ok x, μ1)) (hi : isI c m (look μ1 x) = true) (e2 : fs ρ μ1 = some (.ok xs, μ2)) (e3 : keepAs q 0 (x :: xs) μ2 = some (.ok ys, μ3)) (hl : ys.length = np) (e4 : g ys [] = some (r, [])) : mMethD q m [(c, ⟨np, 0, lev, g⟩)] fo fs ρ μ = some (r, μ3) := by
  rw [z_meth, x_bind, e1]
  simp only [List.find?_cons, hi]
  rw [x_bind, e2]
  dsimp only
  rw [x_bind, e3]
  dsimp only
  rw [y_callM, if_pos ⟨hl, Nat.zero_le _⟩, List.take_zero, e4]
  simp
theorem make_of {q np : Nat} {c : Str} {g : FM} {fs : TL.Env → M (List T)} {ρ : TL.Env} {μ μ1 μ2 : Mu} {xs ys : List T} {t : T} (e1 : fs ρ μ = some (.ok xs, μ1)) (e3 : keepTs q xs μ1 = some (.ok ys, μ2)) (e4 : makeM np c g ys μ2 = some (.ok t, μ2)) : mMake q np c g fs ρ μ = some (.ok t, μ2) := by
  rw [y_make, x_bind, e1]
  dsimp only
  rw [x_bind, e3]
  exact e4
theorem make_ex {q np : Nat} {c : Str} {g : FM} {fs : TL.Env → M (List T)} {ρ : TL.Env} {μ μ1 μ2 : Mu} {xs ys : List T} {x : Exc} (e1 : fs ρ μ = some (.ok xs, μ1)) (e3 : keepTs q xs μ1 = some (.ok ys, μ2)) (e4 : makeM np c g ys μ2 = some (.ex x, μ2)) : mMake q np c g fs ρ μ = some (.ex x, μ2) := by
  rw [y_make, x_bind, e1]
  dsimp only
  rw [x_bind, e3]
  exact e4
theorem iter_of {P : Nat} {fa : TL.Env → M T} {ρ : TL.Env} {μ μ1 μ2 μ3 : Mu} {x y : T} {ts : List T} (e1 : fa ρ μ = some (.ok x, μ1)) (e2 : keepT P x μ1 = some (.ok y, μ2)) (e3 : walkT y μ2 = some (.ok ts, μ3)) : mIter P fa ρ μ = some (.ok ts, μ3) := by
  rw [z_iter, x_bind, e1]
  dsimp only
  rw [x_bind, e2]
  exact e3
/-! # part_down -/
/-- the greatest common part -/
def gcI (c d : Int) : Int := ((Nat.gcd c.natAbs d.natAbs : Nat) : Int)
section
variable {c d t p : Int} {μ : Mu}
theorem gcI_pos (h : d ≠ 0) : 0 < gcI c d := by
  unfold gcI
  have : 0 < Nat.gcd c.natAbs d.natAbs := by
    rw [Nat.gcd_pos_iff]
    omega
  omega
theorem gcI_l : gcI c d ∣ c := by
  have := Int.natCast_dvd_natCast.mpr (Nat.gcd_dvd_left c.natAbs d.natAbs)
  exact Int.dvd_natAbs.mp this
theorem gcI_r : gcI c d ∣ d := by
  have := Int.natCast_dvd_natCast.mpr (Nat.gcd_dvd_right c.natAbs d.natAbs)
  exact Int.dvd_natAbs.mp this
theorem gcI_le (h : 0 < d) : gcI c d ≤ d := Int.le_of_dvd h gcI_r
theorem gcI_eq : gcI c d * (c / gcI c d) = c ∧ gcI c d * (d / gcI c d) = d := ⟨Int.mul_ediv_cancel' gcI_l, Int.mul_ediv_cancel' gcI_r⟩
theorem while_mono {cc : TL.Env → M Bool} {body : Sm} : ∀ {n : Nat} {ρ : TL.Env} {μ : Mu} {r : SR × Mu}, whileF cc body n ρ μ = some r → ∀ k, whileF cc body (n + k) ρ μ = some r
  | 0, ρ, μ, r, h, k => by cases h
  | n + 1, ρ, μ, r, h, k => by
    rw [show n + 1 + k = (n + k) + 1 by omega]
    unfold whileF at h ⊢
    rw [x_eM] at h ⊢
    cases hc : cc ρ μ with
    | none => rw [hc] at h; cases h
    | some v =>
      obtain ⟨v, μ1⟩ := v
      rw [hc] at h
      cases v with
      | ex x => exact h
      | ok b =>
        dsimp only at h ⊢
        split at h
        · rename_i hb
          rw [if_pos hb]
          cases hq : body ρ μ1 with
          | none => rw [hq] at h; cases h
          | some w =>
            obtain ⟨w, μ2⟩ := w
            rw [hq] at h
            cases w with
            | nx ρ2 => exact while_mono h k
            | ct ρ2 => exact while_mono h k
            | bk ρ2 => exact h
            | rt t => exact h
            | ex x => exact h
        · rename_i hb
          rw [if_neg hb]
          exact h
abbrev pdC : TL.Env → M Bool := asB (mBin TL.neT (mVar 3) (mCst (.int 0)))
abbrev pdB : Sm := mPar [2, 3] (mCons (mVar 3) (mCons (mBin modT (mVar 2) (mVar 3)) mNil))
theorem pd_loop {r0 r1 : Option T} : ∀ (n a b : Nat), b < 2 ^ n → whileF pdC pdB (2 * n + 1) [r0, r1, some (.int a), some (.int b)] μ = some (.nx [r0, r1, some (.int (Nat.gcd a b : Nat)), some (.int 0)], μ) := by
  have stop : ∀ (n a : Nat), whileF pdC pdB (n + 1) [r0, r1, some (.int a), some (.int 0)] μ = some (.nx [r0, r1, some (.int a), some (.int 0)], μ) := fun n a => while_e (by simp)
  have step : ∀ (n a b : Nat), 0 < b → whileF pdC pdB (n + 1) [r0, r1, some (.int a), some (.int b)] μ = whileF pdC pdB n [r0, r1, some (.int b), some (.int (a % b : Nat))] μ := fun n a b hb => by
    have hb' : (0 : Int) < b := by omega
    have hne : ¬ (b : Int) = 0 := by omega
    have hne' : ¬ b = 0 := by omega
    exact while_s (μ1 := μ) (by simp [hne, hne']) (by simp [f_mod hb'])
  intro n
  induction n with
  | zero =>
    intro a b h
    have : b = 0 := by simpa using h
    subst this
    rw [Nat.gcd_zero_right]
    exact stop 0 a
  | succ n ih =>
    intro a b h
    by_cases hb : b = 0
    · subst hb
      rw [Nat.gcd_zero_right]
      exact stop _ a
    · rw [show 2 * (n + 1) + 1 = (2 * n + 1 + 1) + 1 by omega, step _ a b (by omega)]
      have e1 : Nat.gcd a b = Nat.gcd b (a % b) := by rw [Nat.gcd_comm a b, Nat.gcd_rec b a, Nat.gcd_comm]
      by_cases hr : a % b = 0
      · rw [e1, hr, Nat.gcd_zero_right]
        exact stop _ b
      · have hlt : a % b < b := Nat.mod_lt a (by omega)
        rw [step _ b (a % b) (by omega), e1]
        have e2 : Nat.gcd b (a % b) = Nat.gcd (a % b) (b % (a % b)) := by rw [Nat.gcd_comm b, Nat.gcd_rec (a % b) b, Nat.gcd_comm]
        rw [e2]
        refine ih _ _ ?_
        generalize a % b = r at *
        have h3 : b % r < r := Nat.mod_lt b (by omega)
        have h4 : b % r ≤ b - r := by
          have := Nat.mod_add_div b r
          have h5 : 1 ≤ b / r := Nat.div_pos (by omega) (by omega)
          have h6 : r * 1 ≤ r * (b / r) := Nat.mul_le_mul_left r h5
          omega
        have h7 : 2 ^ (n + 1) = 2 * 2 ^ n := by rw [Nat.pow_succ]; omega
        omega
def mPD : Sm := (mSeq (mPar [2, 3] (mCons (mCB absT (mCons (mVar 0) mNil)) (mCons (mVar 1) mNil)))
    (mSeq (whileF pdC pdB turns)
    (mRet 0 (mIte (asB (mBin gtT (mVar 2) (mCst (.int 0)))) (mTup 0 (mCons (mBin fdivT (mVar 0) (mVar 2)) (mCons (mBin fdivT (mVar 1) (mVar 2)) mNil))) (mTup 0 (mCons (mCst (.int 0)) (mCons (mCst (.int 1)) mNil)))))))
/-- part_down -/
theorem pd_ok (hp : 0 < p) (h2 : p < 1073741824) : runB 0 4 mPD [.int t, .int p] [] = some (.ok (.tup [.int (t / gcI t p), .int (p / gcI t p)]), []) := by
  have gp : 0 < gcI t p := gcI_pos (by omega)
  have gl : gcI t p ≤ p := gcI_le hp
  have e0 := pd_loop (r0 := some (.int t)) (r1 := some (.int p)) (μ := []) 31 t.natAbs p.toNat (by omega)
  have e1 := while_mono e0 (turns - 63)
  rw [show 2 * 31 + 1 + (turns - 63) = turns by decide] at e1
  rw [show ((p.toNat : Nat) : Int) = p by omega, show (Nat.gcd t.natAbs p.toNat : Nat) = Nat.gcd t.natAbs p.natAbs by congr 1; omega] at e1
  have e : mPD [some (.int t), some (.int p), none, none] [] = some (.rt (.tup [.int (t / gcI t p), .int (p / gcI t p)]), []) := by
    unfold mPD
    refine seq_nx (ρ1 := [some (.int t), some (.int p), some (.int (t.natAbs : Nat)), some (.int p)]) (μ1 := []) (by simp [ab]) ?_
    refine seq_nx e1 ?_
    show mRet 0 _ [some (.int t), some (.int p), some (.int (gcI t p)), some (.int 0)] [] = _
    simp [gp, f_div (show 0 < gcI t p ∧ gcI t p < 1073741824 by omega)]
  simp [e]
end
end TL

set_option maxHeartbeats 4000000
namespace TL
open PySem PySem.Spec PyProof.Rows L2
/-! # _law_flat -/
def mFlat : Sm := (mSeq (mSet 1 (mLst 0 mNil))
    (mSeq (mFor (mIter 0 (mVar 0)) (bNm 2) (mSet 1 (mBin addT (mVar 1) (mVar 2))))
    (mRet 0 (mVar 1))))
theorem flat_ok (rows : List (List T)) (h : rows.flatten.length ≤ 1000000) : runB 0 3 mFlat [.lst (rows.map T.lst)] [] = some (.ok (.lst rows.flatten), []) := by
  have key : ∀ (xs ys : List (List T)) (r2 : Option T), (ys ++ xs).flatten.length ≤ 1000000 → ∃ r2', forL (bNm 2) (mSet 1 (mBin addT (mVar 1) (mVar 2))) (xs.map T.lst) [some (.lst (rows.map T.lst)), some (.lst ys.flatten), r2] [] = some (.nx [some (.lst (rows.map T.lst)), some (.lst (ys ++ xs).flatten), r2'], []) := by
    intro xs
    induction xs with
    | nil => intro ys r2 _; exact ⟨r2, by simp⟩
    | cons x xs ih =>
      intro ys r2 hl
      obtain ⟨r2', e⟩ := ih (ys ++ [x]) (some (.lst x)) (by simpa using hl)
      refine ⟨r2', ?_⟩
      rw [List.map_cons]
      refine for_s (ρ1 := [some (.lst (rows.map T.lst)), some (.lst ys.flatten), some (.lst x)]) (ρ2 := [some (.lst (rows.map T.lst)), some (.lst (ys ++ [x]).flatten), some (.lst x)]) (μ2 := []) (by simp) ?_ (by simpa using e)
      have h2 : ys.flatten.length + x.length ≤ 1000000 := by
        rw [List.flatten_append, List.length_append, List.flatten_cons, List.length_append] at hl
        omega
      simp [addT, h2, -List.length_flatten]
  obtain ⟨r2', e⟩ := key rows [] none (by simpa using h)
  have e2 : mFlat [some (.lst (rows.map T.lst)), none, none] [] = some (.rt (.lst rows.flatten), []) := by
    unfold mFlat
    refine seq_set (t := .lst []) (μ1 := []) (by simp) ?_
    dsimp only [List.set]
    refine seq_nx (for_of0 (by simp) e) (by simp)
  exact run_of e2 rfl
theorem rng_split {n : Nat} {p : T → Bool} (N : Nat) (h : n ≤ N) (h1 : ∀ k : Nat, k < n → p (.int k) = true) (h2 : ∀ k : Nat, n ≤ k → k < N → p (.int k) = false) : (rng 0 N).filter p = rng 0 n := by
  obtain ⟨m, rfl⟩ : ∃ m, N = n + m := ⟨N - n, by omega⟩
  have e : rng 0 ((n + m : Nat) : Int) = rng 0 n ++ (List.range m).map fun (j : Nat) => T.int ((n + j : Nat) : Int) := by
    unfold rng
    rw [show (((n + m : Nat) : Int) - 0).toNat = n + m by omega, show ((n : Int) - 0).toNat = n by omega, List.range_add, List.map_append, List.map_map]
    congr 1
    refine List.map_congr_left fun j _ => ?_
    show T.int (0 + ((n + j : Nat) : Int)) = _
    rw [Int.zero_add]
  rw [e, List.filter_append, List.filter_eq_self.mpr, List.filter_eq_nil_iff.mpr, List.append_nil]
  · intro t ht
    obtain ⟨j, hj, rfl⟩ := List.mem_map.mp ht
    rw [List.mem_range] at hj
    rw [h2 (n + j) (by omega) (by omega)]
    simp
  · intro t ht
    obtain ⟨k, rfl, k0, k1⟩ := mem_rng ht
    have := h1 k.toNat (by omega)
    rwa [show ((k.toNat : Nat) : Int) = k by omega] at this
end TL

set_option maxHeartbeats 4000000
namespace TL
open PySem PySem.Spec PyProof.Rows L2
/-! # texts by their signs -/
def sl (l : List Nat) : Str := SX.S l
section
variable {a b : List Nat} {μ : Mu} {k : Int}
@[simp] theorem sl_inj : sl a = sl b ↔ a = b := ⟨SX.S_inj, fun h => by rw [h]⟩
theorem sl_len : (sl a).length = a.length := SX.S_len a
theorem sl_cat : sl a ++ sl b = sl (a ++ b) := SX.S_cat a b
def okS (a : List Nat) : Bool := a.all fun c => decide (c < 0x110000)
@[simp] theorem sl_ok : PyData.strOk (sl a) = okS a := by
  show a.toArray.all _ = a.all _
  simp
@[simp] theorem lit_o : (("o" : String) : Str) = sl [111] := by decide +kernel
@[simp] theorem lit_m : (("-" : String) : Str) = sl [45] := by decide +kernel
@[simp] theorem lit_x : (("x" : String) : Str) = sl [120] := by decide +kernel
@[simp] theorem lit_a : (("a" : String) : Str) = sl [97] := by decide +kernel
@[simp] theorem lit_b : (("b" : String) : Str) = sl [98] := by decide +kernel
@[simp] theorem lit_0 : (("" : String) : Str) = sl [] := by decide +kernel
theorem f_eqS (ha : okS a = true) (hb : okS b = true) : eqT (.str (sl a)) (.str (sl b)) = some (.bl (decide (a = b))) := by
  rw [f_eq (by rw [pl_str, sl_ok]; exact ha) (by rw [pl_str, sl_ok]; exact hb)]
  simp
theorem f_neS (ha : okS a = true) (hb : okS b = true) : TL.neT (.str (sl a)) (.str (sl b)) = some (.bl (!decide (a = b))) := by
  rw [f_ne (by rw [pl_str, sl_ok]; exact ha) (by rw [pl_str, sl_ok]; exact hb)]
  simp
theorem ix_sl (h : a.length ≤ 1000000) : ixA (.str (sl a)) (.int k) = (L2.atI a k).map fun c => .str (sl [c]) := by
  show (if (sl a).length ≤ 1000000 then (L2.atI (sl a).cps.toList k).map (fun c => T.str ⟨#[c]⟩) else none) = _
  rw [sl_len, if_pos h]
  rfl
theorem add_sl (h : a.length + b.length ≤ 1000000) : addT (.str (sl a)) (.str (sl b)) = some (.str (sl (a ++ b))) := by
  unfold addT
  simp only
  rw [sl_len, sl_len, if_pos h, sl_cat]
theorem iadd_sl (h : a.length + b.length ≤ 1000000) : iaddT (.str (sl a)) (.str (sl b)) = some (.str (sl (a ++ b))) := by
  unfold iaddT
  simp only
  rw [sl_len, sl_len, if_pos h, sl_cat]
theorem len_sl (h : a.length ≤ 1000000) : lenT [.str (sl a)] = some (.int a.length) := by
  unfold lenT
  simp only
  rw [sl_len, if_pos h]
theorem walk_sl : walkT (.str (sl a)) μ = some (.ok (a.map fun c => .str (sl [c])), μ) := rfl
theorem in_sl {c : Nat} : inA false (.str (sl [c])) (.str (sl a)) = some (.bl (decide (c ∈ a))) := by
  show (inB (.str (sl [c])) (.str (sl a))).map T.bl = _
  show (some (!(Builtin.Str.occurrences (sl a) (sl [c]) 0 (sl a).length 1).isEmpty)).map T.bl = _
  rw [Option.map_some]
  congr 2
  exact SX.in_one a c
theorem nin_sl {c : Nat} : inA true (.str (sl [c])) (.str (sl a)) = some (.bl (!decide (c ∈ a))) := by
  show (some (!(Builtin.Str.occurrences (sl a) (sl [c]) 0 (sl a).length 1).isEmpty)).map (fun c => T.bl (!c)) = _
  rw [Option.map_some]
  congr 3
  exact SX.in_one a c
theorem strs_sl : ∀ xs : List (List Nat), strsT (xs.map fun a => .str (sl a)) = some (xs.map SX.S)
  | [] => rfl
  | x :: xs => by
    rw [List.map_cons]
    unfold strsT
    rw [strs_sl xs]
    rfl
theorem joinL_nil : ∀ xs : List (List Nat), TL.joinL [] xs = xs.flatten
  | [] => rfl
  | [x] => by simp [TL.joinL]
  | x :: y :: r => by
    show x ++ ([] ++ TL.joinL [] (y :: r)) = _
    rw [joinL_nil (y :: r)]
    simp
theorem join_sl {xs : List (List Nat)} (h : xs.flatten.length ≤ 1000000) : joinT (.str (sl [])) [.lst (xs.map fun a => .str (sl a))] = some (.str (sl xs.flatten)) := by
  show jnT (sl []) _ = _
  unfold jnT
  rw [strs_sl]
  simp only
  rw [if_pos, show sl [] = SX.S [] from rfl, SX.join_S, joinL_nil]
  · rfl
  · rw [SX.lens, sl_len]
    have : (xs.map fun x => x.length).sum = xs.flatten.length := by rw [List.length_flatten]
    simp only [List.length_nil, Nat.mul_zero, Nat.add_zero]
    show (xs.map fun x => x.length).sum ≤ _
    omega
/-- joined, one sign each -/
theorem join_one {l : List Nat} (h : l.length ≤ 1000000) : joinT (.str (sl [])) [.lst (l.map fun c => .str (sl [c]))] = some (.str (sl l)) := by
  have e : (l.map fun c => T.str (sl [c])) = (l.map fun c => [c]).map fun a => T.str (sl a) := by rw [List.map_map]; rfl
  have e2 : (l.map fun c => [c]).flatten = l := by
    rw [← List.flatMap_def]
    simp
  rw [e, join_sl (by rw [e2]; exact h), e2]
end
@[simp] theorem z_mtD {l : List (String × (T → List T → Option T))} {fo : TL.Env → M T} {fs : TL.Env → M (List T)} {ρ : TL.Env} {μ : Mu} : mMtD l fo fs ρ μ = M.bind (fo ρ) (fun x => fun μ => match l.find? (fun p => isTy p.1 (look μ x)) with
  | some p => ((fs ρ).bind fun xs => fun μ => match look μ x, looks μ xs with
    | some a, some as => M.opt (p.2 a as) μ
    | _, _ => none) μ
  | none => none) μ := rfl
/-- what is told of each number under n -/
def rm {α : Type} (n : Int) (g : Int → α) : List α := (rng 0 n).map fun t => g (ival t)
section
variable {α β : Type} {n k : Int} {g g' : Int → α}
theorem rm_len (h : 0 ≤ n) : ((rm n g).length : Int) = n := by
  unfold rm
  rw [List.length_map, rng_len]
  omega
theorem rm_lenN : (rm n g).length = n.toNat := by
  unfold rm
  rw [List.length_map, rng_len]
  omega
theorem rm_nat : rm n g = (List.range n.toNat).map fun (k : Nat) => g k := by
  unfold rm rng
  rw [List.map_map, Int.sub_zero]
  exact List.map_congr_left fun k _ => by simp
theorem rm_at (h0 : 0 ≤ k) (h1 : k < n) : L2.atI (rm n g) k = some (g k) := by
  obtain ⟨j, rfl⟩ : ∃ j : Nat, k = j := ⟨k.toNat, by omega⟩
  refine at_nat ?_
  rw [rm_nat, List.getElem?_map, List.getElem?_eq_getElem (by simp; omega)]
  simp
theorem rm_congr (h : ∀ k, 0 ≤ k → k < n → g k = g' k) : rm n g = rm n g' := by
  unfold rm
  refine List.map_congr_left fun t ht => ?_
  obtain ⟨k, rfl, k0, k1⟩ := mem_rng ht
  exact h k k0 k1
theorem rm_iff : rm n g = rm n g' ↔ ∀ k, 0 ≤ k → k < n → g k = g' k := by
  constructor
  · intro h k h0 h1
    have := rm_at (g := g) h0 h1
    rw [h, rm_at h0 h1] at this
    exact (Option.some.inj this).symm
  · exact rm_congr
theorem rm_map {f : α → β} : (rm n g).map f = rm n fun k => f (g k) := by
  unfold rm
  rw [List.map_map]
  rfl
theorem rm_mem {x : α} : x ∈ rm n g ↔ ∃ k, 0 ≤ k ∧ k < n ∧ g k = x := by
  unfold rm
  rw [List.mem_map]
  constructor
  · rintro ⟨t, ht, rfl⟩
    obtain ⟨k, rfl, k0, k1⟩ := mem_rng ht
    exact ⟨k, k0, k1, rfl⟩
  · rintro ⟨k, k0, k1, rfl⟩
    exact ⟨.int k, rng_mem k0 k1, rfl⟩
theorem rm_succ {n : Nat} : rm ((n : Int) + 1) g = rm n g ++ [g n] := by
  rw [rm_nat, rm_nat, show ((n : Int) + 1).toNat = n + 1 by omega, Int.toNat_natCast, List.range_succ, List.map_append]
  rfl
theorem rm_zero : rm 0 g = [] := rfl
end
theorem rm_okS {n : Int} {g : Int → Nat} (h : ∀ k, 0 ≤ k → k < n → g k < 0x110000) : okS (rm n g) = true := by
  unfold okS
  rw [List.all_eq_true]
  intro c hc
  obtain ⟨k, k0, k1, rfl⟩ := rm_mem.mp hc
  exact decide_eq_true (h k k0 k1)
theorem comp_rm {P v : Nat} {fi : TL.Env → M (List T)} {fe : TL.Env → M T} {ρ : TL.Env} {μ : Mu} {n : Int} (hl : n ≤ 1000000) (f : Int → T) (e : fi ρ μ = some (.ok (rng 0 n), μ))
    (H : ∀ k, 0 ≤ k → k < n → ∃ ρ1, bNm v (.int k) (wipeE ρ [v]) = some ρ1 ∧ fe ρ1 μ = some (.ok (f k), μ) ∧ keepT P (f k) μ = some (.ok (f k), μ)) :
    mOf (mLc P [v] fi (bNm v) mYes fe) ρ μ = some (.ok (.lst (rm n f)), μ) := by
  refine (comp 0 n (by omega) (fun _ => true) f e fun k k0 k1 => ?_).trans ?_
  · obtain ⟨ρ1, e1, e2, e3⟩ := H k k0 k1
    exact ⟨ρ1, e1, rfl, fun _ => ⟨e2, e3⟩⟩
  · rw [rng_true]
    rfl
theorem joinM_of {fs : TL.Env → M (List T)} {fo : TL.Env → M T} {ρ : TL.Env} {μ μ1 μ2 : Mu} {s : Str} {ts : List T} {t : T} (e0 : fo ρ μ = some (.ok (.str s), μ1)) (e1 : fs ρ μ1 = some (.ok [.lst ts], μ2)) (e2 : joinT (.str s) [.lst ts] = some t) : mMtD [("str", joinT)] fo fs ρ μ = some (.ok t, μ2) := by
  rw [z_mtD, x_bind, e0]
  show M.bind (fs ρ) _ μ1 = _
  rw [x_bind, e1]
  show M.opt (joinT (.str s) [.lst ts]) μ2 = _
  rw [e2]
  rfl
/-- "".join([sign of k for k in range(n)]) -/
theorem join_rm {P v : Nat} {fi : TL.Env → M (List T)} {fe : TL.Env → M T} {ρ : TL.Env} {μ : Mu} {n : Int} (hl : n ≤ 1000000) (g : Int → Nat) (e : fi ρ μ = some (.ok (rng 0 n), μ))
    (H : ∀ k, 0 ≤ k → k < n → ∃ ρ1, bNm v (.int k) (wipeE ρ [v]) = some ρ1 ∧ fe ρ1 μ = some (.ok (.str (sl [g k])), μ)) :
    mMtD [("str", joinT)] (mCst (.str "")) (mCons (mOf (mLc P [v] fi (bNm v) mYes fe)) mNil) ρ μ = some (.ok (.str (sl (rm n g))), μ) := by
  refine joinM_of (s := sl []) (ts := rm n fun k => .str (sl [g k])) (by rw [x_cst, lit_0]) (cons_of (comp_rm hl (fun k => .str (sl [g k])) e fun k k0 k1 => ?_) rfl) ?_
  · obtain ⟨ρ1, e1, e2⟩ := H k k0 k1
    exact ⟨ρ1, e1, e2, rfl⟩
  · have : (rm n fun k => T.str (sl [g k])) = (rm n g).map fun c => T.str (sl [c]) := by rw [rm_map]
    rw [this, join_one (by rw [rm_lenN]; omega)]
theorem seq_par {is : List Nat} {fs : TL.Env → M (List T)} {ts : List T} {g : Sm} {ρ ρ1 : TL.Env} {μ μ1 : Mu} {r : Option (SR × Mu)} (h : fs ρ μ = some (.ok ts, μ1)) (h2 : setL is ts ρ = some ρ1) (k : g ρ1 μ1 = r) : mSeq (mPar is fs) g ρ μ = r := by
  refine seq_nx (ρ1 := ρ1) (μ1 := μ1) ?_ k
  rw [y_par, x_eM, h]
  dsimp only
  rw [h2]
/-- a row of kernel's sums: the same names on both sides would be compared first -/
def mp {α β : Type} (g : α → β) : List α → List β
  | [] => []
  | x :: r => g x :: mp g r
theorem mp_map {α β : Type} (g : α → β) : ∀ l : List α, mp g l = l.map g
  | [] => rfl
  | x :: r => by unfold mp; rw [mp_map g r]; rfl
theorem of_map {α β : Type} {f g : α → β} {l : List α} (h : l.map f = mp g l) : ∀ x ∈ l, f x = g x := List.map_inj_left.mp (h.trans (mp_map g l))
end TL

set_option maxHeartbeats 4000000
namespace Ck01
open PySem PySem.Spec PyProof.Rows L2 TL
def prog : Program := PySem.Challenge.pw_coasthall_k01_rhythms
def topS (i : Nat) : Stmt := prog.main.body.getD i (.Pass ⟨0, 0, 0, 0⟩)
def clsS (i j : Nat) : Stmt := match topS i with
  | .ClassDef _ _ _ b _ _ _ _ _ _ _ => b.getD j (.Pass ⟨0, 0, 0, 0⟩)
  | _ => .Pass ⟨0, 0, 0, 0⟩
def d0 : DefT := ⟨("Rhythm", some (Str.ofString "__init__")), "__init__", "Rhythm.__init__", (clsS 13 0), ["self", "signs", "sign"], 2, 1, true, false, 0⟩
def d1 : DefT := ⟨("Rhythm", some (Str.ofString "lit_at")), "lit_at", "Rhythm.lit_at", (clsS 13 1), ["self", "beat"], 2, 0, false, false, 0⟩
def d2 : DefT := ⟨("Rhythm", some (Str.ofString "shown_from")), "shown_from", "Rhythm.shown_from", (clsS 13 2), ["self", "start", "many", "k"], 3, 0, false, false, 1⟩
def d3 : DefT := ⟨("Rhythm", some (Str.ofString "cycle")), "cycle", "Rhythm.cycle", (clsS 13 3), ["self", "size"], 1, 0, false, false, 0⟩
def d4 : DefT := ⟨("Rhythm", some (Str.ofString "shortest")), "shortest", "Rhythm.shortest", (clsS 13 4), ["self"], 1, 0, false, false, 1⟩
def d5 : DefT := ⟨("Rhythm", some (Str.ofString "begun_at")), "begun_at", "Rhythm.begun_at", (clsS 13 5), ["self", "beat", "gap"], 2, 0, false, false, 1⟩
def d6 : DefT := ⟨("Rhythm", some (Str.ofString "foremost")), "foremost", "Rhythm.foremost", (clsS 13 6), ["self", "short", "k"], 1, 0, false, false, 2⟩
def d7 : DefT := ⟨("Rhythm", some (Str.ofString "lit_beats")), "lit_beats", "Rhythm.lit_beats", (clsS 13 7), ["self"], 1, 0, false, false, 2⟩
def d8 : DefT := ⟨("Rhythm", some (Str.ofString "runs")), "runs", "Rhythm.runs", (clsS 13 8), ["self", "short", "first", "k", "row", "found", "sign"], 1, 0, false, false, 2⟩
def d9 : DefT := ⟨("Rhythm", some (Str.ofString "kind")), "kind", "Rhythm.kind", (clsS 13 9), ["self", "runs"], 1, 0, false, false, 3⟩
def d10 : DefT := ⟨("Rhythm", some (Str.ofString "flashes")), "flashes", "Rhythm.flashes", (clsS 13 10), ["self", "runs"], 1, 0, false, false, 3⟩
def d11 : DefT := ⟨("Rhythm", some (Str.ofString "turned_round")), "turned_round", "Rhythm.turned_round", (clsS 13 11), ["self", "sign"], 1, 0, false, false, 1⟩
def d12 : DefT := ⟨("Rhythm", some (Str.ofString "said")), "said", "Rhythm.said", (clsS 13 12), ["self", "sign", "size"], 1, 0, false, false, 4⟩
def d13 : DefT := ⟨("read_rhythm", none), "read_rhythm", "read_rhythm", (topS 14), ["text", "kind", "gap", "sizes", "signs", "k", "word", "sign", "found"], 1, 0, true, false, 5⟩
def d14 : DefT := ⟨("are_alike", none), "are_alike", "are_alike", (topS 15), ["one", "other"], 2, 0, false, false, 3⟩
def d15 : DefT := ⟨("together", none), "together", "together", (topS 16), ["one", "other", "a", "b", "size", "k"], 2, 0, false, false, 1⟩
def d16 : DefT := ⟨("how_many_rhythms", none), "how_many_rhythms", "how_many_rhythms", (topS 17), ["size", "found", "k"], 1, 0, false, false, 1⟩
def d17 : DefT := ⟨("mobius", none), "mobius", "mobius", (topS 18), ["number", "found", "prime"], 1, 0, false, false, 0⟩
def d18 : DefT := ⟨("all_rhythms", none), "all_rhythms", "all_rhythms", (topS 19), ["size", "words", "k", "word", "sign"], 1, 0, false, false, 3⟩
def d19 : DefT := ⟨("_law_dice", none), "_law_dice", "_law_dice", (topS 21), ["cell"], 1, 0, false, false, 0⟩
def d20 : DefT := ⟨("_law_roll", none), "_law_roll", "_law_roll", (topS 22), ["dice", "many", "found"], 2, 1, false, false, 0⟩
def d21 : DefT := ⟨("_law_rounds", none), "_law_rounds", "_law_rounds", (topS 23), ["script", "most", "cells", "cell"], 2, 0, false, false, 1⟩
def d22 : DefT := ⟨("_law_told", none), "_law_told", "_law_told", (topS 24), ["what"], 1, 0, false, false, 0⟩
def d23 : DefT := ⟨("_law_signs", none), "_law_signs", "_law_signs", (topS 25), ["dice", "most", "k"], 2, 1, false, false, 1⟩
def d24 : DefT := ⟨("_law_turns", none), "_law_turns", "_law_turns", (topS 26), ["signs", "k"], 1, 0, false, false, 0⟩
def d25 : DefT := ⟨("_law_short", none), "_law_short", "_law_short", (topS 27), ["signs", "sizes", "size"], 1, 0, false, false, 0⟩
def d26 : DefT := ⟨("_law_runs", none), "_law_runs", "_law_runs", (topS 28), ["signs", "first", "k", "row", "edges"], 1, 0, false, false, 0⟩
def d27 : DefT := ⟨("_law_kind", none), "_law_kind", "_law_kind", (topS 29), ["signs", "runs"], 1, 0, false, false, 1⟩
def d28 : DefT := ⟨("_law_cases1", none), "_law_cases1", "_law_cases1", (topS 30), [], 0, 0, false, true, 4⟩
def d29 : DefT := ⟨("_law_rest1", none), "_law_rest1", "_law_rest1", (topS 31), ["dice", "one", "short", "size", "rows", "number", "k", "wrong"], 3, 1, false, true, 6⟩
def d30 : DefT := ⟨("law", none), "law", "law", (topS 32), ["script", "dice", "signs", "more", "one", "other", "beat", "many", "short", "row", "k", "runs", "words", "sign", "size", "both", "steps"], 1, 0, false, true, 7⟩
def newL : List Nat := [75]
def dkL : List Nat := []
def fzL : List Nat := []
def tkL : List Nat := []
def exfL : List (Str × Str) := [("Unclear", "many"), ("Aground", "step"), ("BadText", "row")]
def pr : ProgT where
  exf := fun x => (exfL.lookup x).getD ""
  file := prog.main.file
  defs := [d0, d1, d2, d3, d4, d5, d6, d7, d8, d9, d10, d11, d12, d13, d14, d15, d16, d17, d18, d19, d20, d21, d22, d23, d24, d25, d26, d27, d28, d29, d30]
  cls := ["Rhythm"]
  exc := ["CoastFault", "BadLight", "BadBearing", "BadChart", "BadTime", "NoWay", "TooLarge"]
  excI := ["Unclear", "Aground", "BadText"]
  told := ["_law_told"]
  csts := [("LONGEST", .int 60)]
  free := ["ValueError", "abs", "any", "enumerate", "int", "len", "list", "min", "range", "sorted", "str", "sum", "super", "tuple"]
  fld := [("Rhythm", "signs")]
  new := fun n => newL.contains n
  tk := fun n => tkL.contains n
  dk := fun n => dkL.contains n
  fz := fun n => fzL.contains n
end Ck01

set_option maxHeartbeats 0
namespace Ck01
open PySem PySem.Spec PyProof.Rows L2 TL
abbrev lbody : List Stmt := match defBody d30.st with
  | .For _ _ b _ _ :: _ => b
  | _ => []
abbrev rrest : List Stmt := match defBody d21.st with
  | _ :: r => r
  | _ => []
abbrev HR : Prop := ∀ ns : List Int, ∃ x y z μ', evSs (ev (gH pr d21.h) fuel) (d21.SC (lev d21.h)) rrest (none :: some (.int 1) :: some (.lst ((ns.take 1).map T.int)) :: List.replicate 1 none) [] = some (.rt (.lst [.lst [.int x, .int y, .int z]]), μ')
abbrev HB : Prop := ∀ x y z : Int, ∃ ρ' μ', evSs (ev (gH pr d30.h) fuel) (d30.SC (lev d30.h)) lbody ((List.replicate d30.N.length none).set 1 (some (.sh 0))) [(.lst [.int x, .int y, .int z], true)] = some (.nx ρ', μ')
def m0 : Sm := (mSeq (mIf (mOrT (mNotT (asB (mChain leT leT (mCst (.int 1)) (mCB lenT (mCons (mVar 1) mNil)) (mCst (CT.t (.int 60)))))) (mTru (mAny true [2] (mIter 1 (mVar 1)) (bNm 2) mYes (mBin (inA true) (mVar 2) (mCst (.str "*.")))))) (mRaise "BadLight") mSkip)
    (mFldS 1 "Rhythm" "signs" (mVar 0) (mVar 1)))
/-- Rhythm.__init__ -/
theorem E0 : d0.G pr = runB 1 3 m0 := by kernel_rfl
def m1 : Sm := (mSeq (mIf (asB (mBin ltT (mVar 1) (mCst (.int 0)))) (mRaise "BadLight") mSkip)
    (mRet 0 (mBin eqT (mBin ixA (mUn (fldC ["Rhythm"] "signs") (mVar 0)) (mBin modT (mVar 1) (mCB lenT (mCons (mUn (fldC ["Rhythm"] "signs") (mVar 0)) mNil)))) (mCst (.str "*")))))
/-- Rhythm.lit_at -/
theorem E1 : d1.G pr = runB 0 2 m1 := by kernel_rfl
def m3 : Sm := (mSeq (mFor (mRng2 (mCons (mCst (.int 1)) (mCons (mCB lenT (mCons (mUn (fldC ["Rhythm"] "signs") (mVar 0)) mNil)) mNil))) (bNm 1) (mIf (mAndT (asB (mBin eqT (mBin modT (mCB lenT (mCons (mUn (fldC ["Rhythm"] "signs") (mVar 0)) mNil)) (mVar 1)) (mCst (.int 0)))) (asB (mBin eqT (mBin mulT (mSl sliceT (mUn (fldC ["Rhythm"] "signs") (mVar 0)) (mPart none) (mPart (some (mVar 1)))) (mBin fdivT (mCB lenT (mCons (mUn (fldC ["Rhythm"] "signs") (mVar 0)) mNil)) (mVar 1))) (mUn (fldC ["Rhythm"] "signs") (mVar 0))))) (mRet 0 (mVar 1)) mSkip))
    (mRet 0 (mCB lenT (mCons (mUn (fldC ["Rhythm"] "signs") (mVar 0)) mNil))))
/-- Rhythm.cycle -/
theorem E3 : d3.G pr = runB 0 2 m3 := by kernel_rfl
def m17 : Sm := (mSeq (mPar [1, 2] (mCons (mCst (.int 1)) (mCons (mCst (.int 2)) mNil)))
    (mSeq (whileF (asB (mBin gtT (mVar 0) (mCst (.int 1)))) (mSeq (mIf (asB (mBin eqT (mBin modT (mVar 0) (mVar 2)) (mCst (.int 0)))) (mSeq (mAug 0 ifdivT (mVar 2))
    (mSeq (mIf (asB (mBin eqT (mBin modT (mVar 0) (mVar 2)) (mCst (.int 0)))) (mRet 0 (mCst (.int 0))) mSkip)
    (mSet 1 (mBin subT (mCst (.int 0)) (mVar 1))))) mSkip)
    (fun ρ μ => if liveAt 2 ρ μ = true then mExt 2 0 (mCst (.int 1)) ρ μ else mAug 2 iaddT (mCst (.int 1)) ρ μ)) turns)
    (mRet 0 (mVar 1))))
/-- mobius -/
theorem E17 : d17.G pr = runB 0 3 m17 := by kernel_rfl
theorem E19 : d19.G pr = runB 0 1 mDice := by kernel_rfl
theorem E20 : d20.G pr = runB 1 3 mRoll := by kernel_rfl
def m24 : Sm := (mRet 0 (mOf (mLc 0 [1] (mRng1 (mCons (mCB lenT (mCons (mVar 0) mNil)) mNil)) (bNm 1) mYes (mBin addT (mSl sliceT (mVar 0) (mPart (some (mVar 1))) (mPart none)) (mSl sliceT (mVar 0) (mPart none) (mPart (some (mVar 1))))))))
/-- _law_turns -/
theorem E24 : d24.G pr = runB 0 2 m24 := by kernel_rfl
def m25 : Sm := (mSeq (mSet 1 (mOf (mLc 0 [2] (mRng2 (mCons (mCst (.int 1)) (mCons (mBin addT (mCB lenT (mCons (mVar 0) mNil)) (mCst (.int 1))) mNil))) (bNm 2) (mAndT (asB (mBin eqT (mBin modT (mCB lenT (mCons (mVar 0) mNil)) (mVar 2)) (mCst (.int 0)))) (asB (mBin eqT (mBin mulT (mSl sliceT (mVar 0) (mPart none) (mPart (some (mVar 2)))) (mBin fdivT (mCB lenT (mCons (mVar 0) mNil)) (mVar 2))) (mVar 0)))) (mVar 2))))
    (mRet 0 (mSl sliceT (mVar 0) (mPart none) (mPart (some (mBin ixA (mVar 1) (mCst (.int 0))))))))
/-- _law_short -/
theorem E25 : d25.G pr = runB 0 3 m25 := by kernel_rfl
def m26 : Sm := (mSeq (mIf (asB (mBin eqT (mCB lenT (mCons (mVar 0) mNil)) (mCst (.int 1)))) (mRet 0 (mLst 0 (mCons (mTup 0 (mCons (mVar 0) (mCons (mCst (.int 1)) mNil))) mNil))) mSkip)
    (mSeq (mSet 1 (mBin ixA (mOf (mLc 0 [2] (mRng1 (mCons (mCB lenT (mCons (mVar 0) mNil)) mNil)) (bNm 2) (mAndT (asB (mBin eqT (mBin ixA (mVar 0) (mVar 2)) (mCst (.str "*")))) (asB (mBin eqT (mBin ixA (mVar 0) (mBin subT (mVar 2) (mCst (.int 1)))) (mCst (.str "."))))) (mVar 2))) (mCst (.int 0))))
    (mSeq (mSet 3 (mBin addT (mSl sliceT (mVar 0) (mPart (some (mVar 1))) (mPart none)) (mSl sliceT (mVar 0) (mPart none) (mPart (some (mVar 1))))))
    (mSeq (mSet 4 (mBin addT (mOf (mLc 0 [2] (mRng1 (mCons (mCB lenT (mCons (mVar 3) mNil)) mNil)) (bNm 2) (mOrT (asB (mBin eqT (mVar 2) (mCst (.int 0)))) (asB (mBin neT (mBin ixA (mVar 3) (mVar 2)) (mBin ixA (mVar 3) (mBin subT (mVar 2) (mCst (.int 1))))))) (mVar 2))) (mLst 0 (mCons (mCB lenT (mCons (mVar 3) mNil)) mNil))))
    (mRet 0 (mOf (mLc 0 [2] (mRng1 (mCons (mBin subT (mCB lenT (mCons (mVar 4) mNil)) (mCst (.int 1))) mNil)) (bNm 2) mYes (mTup 0 (mCons (mBin ixA (mVar 3) (mBin ixA (mVar 4) (mVar 2))) (mCons (mBin subT (mBin ixA (mVar 4) (mBin addT (mVar 2) (mCst (.int 1)))) (mBin ixA (mVar 4) (mVar 2))) mNil))))))))))
/-- _law_runs -/
theorem E26 : d26.G pr = runB 0 5 m26 := by kernel_rfl
def m2 : Sm := (mSeq (mIf (mOrT (asB (mBin ltT (mVar 1) (mCst (.int 0)))) (asB (mBin ltT (mVar 2) (mCst (.int 0))))) (mRaise "BadLight") mSkip)
    (mRet 0 (mMtD [("str", joinT)] (mCst (.str "")) (mCons (mOf (mLc 0 [3] (mRng1 (mCons (mVar 2) mNil)) (bNm 3) mYes (mIte (mTru (mMethD 0 "lit_at" [("Rhythm", ⟨2, 0, 9, d1.G pr⟩)] (mVar 0) (mCons (mBin addT (mVar 1) (mVar 3)) mNil))) (mCst (.str "*")) (mCst (.str "."))))) mNil))))
/-- Rhythm.shown_from -/
theorem E2 : d2.G pr = runB 0 4 m2 := by kernel_rfl
def m4 : Sm := (mRet 0 (mMake 0 2 "Rhythm" (d0.G pr) (mCons (mSl sliceT (mUn (fldC ["Rhythm"] "signs") (mVar 0)) (mPart none) (mPart (some (mMethD 0 "cycle" [("Rhythm", ⟨1, 0, 9, d3.G pr⟩)] (mVar 0) mNil)))) mNil)))
/-- Rhythm.shortest -/
theorem E4 : d4.G pr = runB 0 1 m4 := by kernel_rfl
def m5 : Sm := (mSeq (mSet 2 (mBin modT (mVar 1) (mCB lenT (mCons (mUn (fldC ["Rhythm"] "signs") (mVar 0)) mNil))))
    (mRet 0 (mMake 0 2 "Rhythm" (d0.G pr) (mCons (mBin addT (mSl sliceT (mUn (fldC ["Rhythm"] "signs") (mVar 0)) (mPart (some (mVar 2))) (mPart none)) (mSl sliceT (mUn (fldC ["Rhythm"] "signs") (mVar 0)) (mPart none) (mPart (some (mVar 2))))) mNil))))
/-- Rhythm.begun_at -/
theorem E5 : d5.G pr = runB 0 3 m5 := by kernel_rfl
def m11 : Sm := (mRet 0 (mMake 0 2 "Rhythm" (d0.G pr) (mCons (mMtD [("str", joinT)] (mCst (.str "")) (mCons (mOf (mLc 0 [1] (mIter 0 (mUn (fldC ["Rhythm"] "signs") (mVar 0))) (bNm 1) mYes (mIte (asB (mBin eqT (mVar 1) (mCst (.str "*")))) (mCst (.str ".")) (mCst (.str "*"))))) mNil)) mNil)))
/-- Rhythm.turned_round -/
theorem E11 : d11.G pr = runB 0 2 m11 := by kernel_rfl
def m15 : Sm := (mSeq (mPar [2, 3] (mCons (mMethD 0 "cycle" [("Rhythm", ⟨1, 0, 9, d3.G pr⟩)] (mVar 0) mNil) (mCons (mMethD 0 "cycle" [("Rhythm", ⟨1, 0, 9, d3.G pr⟩)] (mVar 1) mNil) mNil)))
    (mSeq (mSet 4 (mVar 2))
    (mSeq (whileF (asB (mBin neT (mBin modT (mVar 4) (mVar 3)) (mCst (.int 0)))) (fun ρ μ => if liveAt 4 ρ μ = true then mExt 4 0 (mVar 2) ρ μ else mAug 4 iaddT (mVar 2) ρ μ) turns)
    (mSeq (mIf (asB (mBin gtT (mVar 4) (mCst (CT.t (.int 60))))) (mRaise "BadLight") mSkip)
    (mRet 0 (mMake 0 2 "Rhythm" (d0.G pr) (mCons (mMtD [("str", joinT)] (mCst (.str "")) (mCons (mOf (mLc 0 [5] (mRng1 (mCons (mVar 4) mNil)) (bNm 5) mYes (mIte (mOrT (mTru (mMethD 0 "lit_at" [("Rhythm", ⟨2, 0, 9, d1.G pr⟩)] (mVar 0) (mCons (mVar 5) mNil))) (mTru (mMethD 0 "lit_at" [("Rhythm", ⟨2, 0, 9, d1.G pr⟩)] (mVar 1) (mCons (mVar 5) mNil)))) (mCst (.str "*")) (mCst (.str "."))))) mNil)) mNil)))))))
/-- together -/
theorem E15 : d15.G pr = runB 0 6 m15 := by kernel_rfl
def m16 : Sm := (mSeq (mIf (mNotT (asB (mChain leT leT (mCst (.int 1)) (mVar 0) (mCst (.int 12))))) (mRaise "BadLight") mSkip)
    (mSeq (mSet 1 (mCst (.int 0)))
    (mSeq (mFor (mRng2 (mCons (mCst (.int 1)) (mCons (mBin addT (mVar 0) (mCst (.int 1))) mNil))) (bNm 2) (mIf (asB (mBin eqT (mBin modT (mVar 0) (mVar 2)) (mCst (.int 0)))) (fun ρ μ => if liveAt 1 ρ μ = true then mExt 1 0 (mBin mulT (mCall 0 0 1 (d17.G pr) (mCons (mBin fdivT (mVar 0) (mVar 2)) mNil)) (mBin ixA (mLst 0 (mCons (mCst (.int 1)) (mCons (mCst (.int 2)) (mCons (mCst (.int 4)) (mCons (mCst (.int 8)) (mCons (mCst (.int 16)) (mCons (mCst (.int 32)) (mCons (mCst (.int 64)) (mCons (mCst (.int 128)) (mCons (mCst (.int 256)) (mCons (mCst (.int 512)) (mCons (mCst (.int 1024)) (mCons (mCst (.int 2048)) (mCons (mCst (.int 4096)) mNil)))))))))))))) (mVar 2))) ρ μ else mAug 1 iaddT (mBin mulT (mCall 0 0 1 (d17.G pr) (mCons (mBin fdivT (mVar 0) (mVar 2)) mNil)) (mBin ixA (mLst 0 (mCons (mCst (.int 1)) (mCons (mCst (.int 2)) (mCons (mCst (.int 4)) (mCons (mCst (.int 8)) (mCons (mCst (.int 16)) (mCons (mCst (.int 32)) (mCons (mCst (.int 64)) (mCons (mCst (.int 128)) (mCons (mCst (.int 256)) (mCons (mCst (.int 512)) (mCons (mCst (.int 1024)) (mCons (mCst (.int 2048)) (mCons (mCst (.int 4096)) mNil)))))))))))))) (mVar 2))) ρ μ) mSkip))
    (mRet 0 (mBin fdivT (mVar 1) (mVar 0))))))
/-- how_many_rhythms -/
theorem E16 : d16.G pr = runB 0 3 m16 := by kernel_rfl
theorem Ernd : evSs (ev (gH pr d21.h) fuel) (d21.SC (lev d21.h)) rrest = mRnd (d19.G pr) := by kernel_rfl
theorem hr : HR := fun ns => by
  rw [Ernd]
  exact rnd_ok E19 ns
def m23 : Sm := (mRet 1 (mMtD [("str", joinT)] (mCst (.str "")) (mCons (mOf (mLc 1 [2] (mRng1 (mCons (mBin addT (mCst (.int 1)) (mCall 1 1 2 (d20.G pr) (mCons (mVar 0) (mCons (mVar 1) mNil)))) mNil)) (bNm 2) mYes (mBin ixA (mCst (.str ".*")) (mCall 1 1 2 (d20.G pr) (mCons (mVar 0) (mCons (mCst (.int 2)) mNil)))))) mNil)))
/-- _law_signs -/
theorem E23 : d23.G pr = runB 1 3 m23 := by kernel_rfl
def m27 : Sm := (mSeq (mSet 1 (mCall 0 0 1 (d26.G pr) (mCons (mVar 0) mNil)))
    (mSeq (mIf (asB (mBin eqT (mCB lenT (mCons (mVar 1) mNil)) (mCst (.int 1)))) (mRet 0 (mIte (asB (mBin eqT (mVar 0) (mCst (.str "*")))) (mCst (.str "steady")) (mCst (.str "dark")))) mSkip)
    (mSeq (mIf (mAndT (asB (mBin eqT (mCB lenT (mCons (mVar 1) mNil)) (mCst (.int 2)))) (asB (mBin eqT (mBin ixA (mBin ixA (mVar 1) (mCst (.int 0))) (mCst (.int 1))) (mBin ixA (mBin ixA (mVar 1) (mCst (.int 1))) (mCst (.int 1)))))) (mRet 0 (mCst (.str "even"))) mSkip)
    (mRet 0 (mIte (asB (mBin leT (mBin mulT (mCst (.int 2)) (mMtD [("str", (ss1 fun a b => .int (Txt.count a b))), ("list", lcountT)] (mVar 0) (mCons (mCst (.str "*")) mNil))) (mCB lenT (mCons (mVar 0) mNil)))) (mCst (.str "flashing")) (mCst (.str "broken")))))))
/-- _law_kind -/
theorem E27 : d27.G pr = runB 0 2 m27 := by kernel_rfl
def m6 : Sm := (mSeq (mSet 1 (mUn (fldC ["Rhythm"] "signs") (mMethD 0 "shortest" [("Rhythm", ⟨1, 0, 17, d4.G pr⟩)] (mVar 0) mNil)))
    (mRet 0 (mMake 0 2 "Rhythm" (d0.G pr) (mCons (mCB minT (mCons (mOf (mLc 0 [2] (mRng1 (mCons (mCB lenT (mCons (mVar 1) mNil)) mNil)) (bNm 2) mYes (mBin addT (mSl sliceT (mVar 1) (mPart (some (mVar 2))) (mPart none)) (mSl sliceT (mVar 1) (mPart none) (mPart (some (mVar 2))))))) mNil)) mNil))))
/-- Rhythm.foremost -/
theorem E6 : d6.G pr = runB 0 3 m6 := by kernel_rfl
def m7 : Sm := (mRet 0 (mMtD [("str", (ss1 fun a b => .int (Txt.count a b))), ("list", lcountT)] (mUn (fldC ["Rhythm"] "signs") (mMethD 0 "shortest" [("Rhythm", ⟨1, 0, 17, d4.G pr⟩)] (mVar 0) mNil)) (mCons (mCst (.str "*")) mNil)))
/-- Rhythm.lit_beats -/
theorem E7 : d7.G pr = runB 0 1 m7 := by kernel_rfl
def m8 : Sm := (mSeq (mSet 1 (mUn (fldC ["Rhythm"] "signs") (mMethD 0 "shortest" [("Rhythm", ⟨1, 0, 17, d4.G pr⟩)] (mVar 0) mNil)))
    (mSeq (mIf (mOrT (asB (mBin (inA true) (mCst (.str "*")) (mVar 1))) (asB (mBin (inA true) (mCst (.str ".")) (mVar 1)))) (mRet 0 (mTup 0 (mCons (mTup 0 (mCons (mBin ixA (mVar 1) (mCst (.int 0))) (mCons (mCst (.int 1)) mNil))) mNil))) mSkip)
    (mSeq (mSet 2 (mBin ixA (mOf (mLc 0 [3] (mRng1 (mCons (mCB lenT (mCons (mVar 1) mNil)) mNil)) (bNm 3) (mAndT (asB (mBin eqT (mBin ixA (mVar 1) (mVar 3)) (mCst (.str "*")))) (asB (mBin eqT (mBin ixA (mVar 1) (mBin subT (mVar 3) (mCst (.int 1)))) (mCst (.str "."))))) (mVar 3))) (mCst (.int 0))))
    (mSeq (mPar [4, 5] (mCons (mBin addT (mSl sliceT (mVar 1) (mPart (some (mVar 2))) (mPart none)) (mSl sliceT (mVar 1) (mPart none) (mPart (some (mVar 2))))) (mConsN (mLstF 0 mNil) mNil)))
    (mSeq (mFor (mIter 0 (mVar 4)) (bNm 6) (mIf (mAndT (asB (mBin neT (mVar 5) (mLst 0 mNil))) (asB (mBin eqT (mBin ixA (mBin ixA (mVar 5) (mUn negT (mCst (.int 1)))) (mCst (.int 0))) (mVar 6)))) (mSubD 0 (mVar 5) (mUn negT (mCst (.int 1))) (mTup 0 (mCons (mVar 6) (mCons (mBin addT (mBin ixA (mBin ixA (mVar 5) (mUn negT (mCst (.int 1)))) (mCst (.int 1))) (mCst (.int 1))) mNil)))) (mApp 0 (mVar 5) (mTup 0 (mCons (mVar 6) (mCons (mCst (.int 1)) mNil))))))
    (mRet 0 (mCB tupleT (mCons (mVar 5) mNil))))))))
/-- Rhythm.runs -/
theorem E8 : d8.G pr = runB 0 7 m8 := by kernel_rfl
def m9 : Sm := (mSeq (mSet 1 (mMethD 0 "runs" [("Rhythm", ⟨1, 0, 25, d8.G pr⟩)] (mVar 0) mNil))
    (mSeq (mIf (asB (mBin eqT (mCB lenT (mCons (mVar 1) mNil)) (mCst (.int 1)))) (mRet 0 (mIte (asB (mBin eqT (mBin ixA (mBin ixA (mVar 1) (mCst (.int 0))) (mCst (.int 0))) (mCst (.str "*")))) (mCst (.str "steady")) (mCst (.str "dark")))) mSkip)
    (mSeq (mIf (mAndT (asB (mBin eqT (mCB lenT (mCons (mVar 1) mNil)) (mCst (.int 2)))) (asB (mBin eqT (mBin ixA (mBin ixA (mVar 1) (mCst (.int 0))) (mCst (.int 1))) (mBin ixA (mBin ixA (mVar 1) (mCst (.int 1))) (mCst (.int 1)))))) (mRet 0 (mCst (.str "even"))) mSkip)
    (mRet 0 (mIte (asB (mBin leT (mBin mulT (mCst (.int 2)) (mMethD 0 "lit_beats" [("Rhythm", ⟨1, 0, 25, d7.G pr⟩)] (mVar 0) mNil)) (mMethD 0 "cycle" [("Rhythm", ⟨1, 0, 9, d3.G pr⟩)] (mVar 0) mNil))) (mCst (.str "flashing")) (mCst (.str "broken")))))))
/-- Rhythm.kind -/
theorem E9 : d9.G pr = runB 0 2 m9 := by kernel_rfl
def m10 : Sm := (mSeq (mSet 1 (mMethD 0 "runs" [("Rhythm", ⟨1, 0, 25, d8.G pr⟩)] (mVar 0) mNil))
    (mRet 0 (mIte (asB (mBin gtT (mCB lenT (mCons (mVar 1) mNil)) (mCst (.int 1)))) (mBin fdivT (mCB lenT (mCons (mVar 1) mNil)) (mCst (.int 2))) (mCst (.int 0)))))
/-- Rhythm.flashes -/
theorem E10 : d10.G pr = runB 0 2 m10 := by kernel_rfl
def m14 : Sm := (mRet 0 (mBin eqT (mUn (fldC ["Rhythm"] "signs") (mMethD 0 "foremost" [("Rhythm", ⟨1, 0, 25, d6.G pr⟩)] (mVar 0) mNil)) (mUn (fldC ["Rhythm"] "signs") (mMethD 0 "foremost" [("Rhythm", ⟨1, 0, 25, d6.G pr⟩)] (mVar 1) mNil))))
/-- are_alike -/
theorem E14 : d14.G pr = runB 0 2 m14 := by kernel_rfl
def m18 : Sm := (mSeq (mIf (mNotT (asB (mChain leT leT (mCst (.int 1)) (mVar 0) (mCst (.int 10))))) (mRaise "BadLight") mSkip)
    (mSeq (mSet 1 (mLst 0 (mCons (mCst (.str "")) mNil)))
    (mSeq (mFor (mRng1 (mCons (mVar 0) mNil)) (bNm 2) (mSet 1 (mOf (mLc2 0 [3, 4] [4] (mIter 0 (mVar 1)) (bNm 3) mYes (mIter 0 (mCst (.str "*."))) (bNm 4) mYes (mBin addT (mVar 3) (mVar 4))))))
    (mSeq (mSet 1 (mOf (mLc 0 [3] (mIter 0 (mVar 1)) (bNm 3) (asB (mBin eqT (mMethD 0 "cycle" [("Rhythm", ⟨1, 0, 9, d3.G pr⟩)] (mMake 0 2 "Rhythm" (d0.G pr) (mCons (mVar 3) mNil)) mNil) (mVar 0))) (mVar 3))))
    (mRet 0 (mCB tupleT (mCons (mCB sortT (mCons (mOf (mLc 0 [3] (mIter 0 (mVar 1)) (bNm 3) (asB (mBin eqT (mUn (fldC ["Rhythm"] "signs") (mMethD 0 "foremost" [("Rhythm", ⟨1, 0, 25, d6.G pr⟩)] (mMake 0 2 "Rhythm" (d0.G pr) (mCons (mVar 3) mNil)) mNil)) (mVar 3))) (mVar 3))) mNil)) mNil)))))))
/-- all_rhythms -/
theorem E18 : d18.G pr = runB 0 5 m18 := by kernel_rfl
def m12 : Sm := (mSeq (mIf (asB (mBin (inA false) (mMethD 0 "kind" [("Rhythm", ⟨1, 0, 33, d9.G pr⟩)] (mVar 0) mNil) (mTup 0 (mCons (mCst (.str "steady")) (mCons (mCst (.str "dark")) mNil))))) (mRet 0 (mMethD 0 "kind" [("Rhythm", ⟨1, 0, 33, d9.G pr⟩)] (mVar 0) mNil)) mSkip)
    (mRet 0 (mBin addT (mBin addT (mMethD 0 "kind" [("Rhythm", ⟨1, 0, 33, d9.G pr⟩)] (mVar 0) mNil) (mCst (.str " "))) (mMtD [("str", joinT)] (mCst (.str ",")) (mCons (mOf (mLc 0 [1, 2] (mIter 0 (mMethD 0 "runs" [("Rhythm", ⟨1, 0, 25, d8.G pr⟩)] (mVar 0) mNil)) (bTp 2 (bCons (bNm 1) (bCons (bNm 2) bNil))) mYes (mCB strT (mCons (mVar 2) mNil)))) mNil)))))
/-- Rhythm.said -/
theorem E12 : d12.G pr = runB 0 3 m12 := by kernel_rfl
def m28 : Sm := (mSeq (mIf (asB (mBin neT (mTold [("BadBearing", "bearing"), ("BadChart", "chart"), ("BadLight", "light"), ("BadTime", "time"), ("Unclear", "unclear"), ("Aground", "aground"), ("NoWay", "no way"), ("TooLarge", "large"), ("BadText", "text")] (mMake 0 2 "Rhythm" (d0.G pr) (mCons (mCst (.str "")) mNil))) (mCst (.str "light")))) (mRet 0 (mCst (.bl false))) mSkip)
    (mSeq (mIf (asB (mBin neT (mTold [("BadBearing", "bearing"), ("BadChart", "chart"), ("BadLight", "light"), ("BadTime", "time"), ("Unclear", "unclear"), ("Aground", "aground"), ("NoWay", "no way"), ("TooLarge", "large"), ("BadText", "text")] (mMake 0 2 "Rhythm" (d0.G pr) (mCons (mCst (.str "x")) mNil))) (mCst (.str "light")))) (mRet 0 (mCst (.bl false))) mSkip)
    (mSeq (mIf (asB (mBin neT (mTold [("BadBearing", "bearing"), ("BadChart", "chart"), ("BadLight", "light"), ("BadTime", "time"), ("Unclear", "unclear"), ("Aground", "aground"), ("NoWay", "no way"), ("TooLarge", "large"), ("BadText", "text")] (mCall 0 0 1 (d18.G pr) (mCons (mCst (.int 11)) mNil))) (mCst (.str "light")))) (mRet 0 (mCst (.bl false))) mSkip)
    (mSeq (mIf (asB (mBin neT (mTold [("BadBearing", "bearing"), ("BadChart", "chart"), ("BadLight", "light"), ("BadTime", "time"), ("Unclear", "unclear"), ("Aground", "aground"), ("NoWay", "no way"), ("TooLarge", "large"), ("BadText", "text")] (mCall 0 0 1 (d16.G pr) (mCons (mCst (.int 13)) mNil))) (mCst (.str "light")))) (mRet 0 (mCst (.bl false))) mSkip)
    (mSeq (mIf (asB (mBin neT (mTold [("BadBearing", "bearing"), ("BadChart", "chart"), ("BadLight", "light"), ("BadTime", "time"), ("Unclear", "unclear"), ("Aground", "aground"), ("NoWay", "no way"), ("TooLarge", "large"), ("BadText", "text")] (mMake 0 2 "Rhythm" (d0.G pr) (mCons (mBin mulT (mCst (.str "*")) (mCst (.int 61))) mNil))) (mCst (.str "light")))) (mRet 0 (mCst (.bl false))) mSkip)
    (mRet 0 (mCst (.bl true))))))))
/-- _law_cases1 -/
theorem E28 : d28.G pr = runB 0 0 m28 := by kernel_rfl
def m13 : Sm := (mSeq (mIf (mOrT (asB (mBin eqT (mVar 0) (mCst (.str "steady")))) (asB (mBin eqT (mVar 0) (mCst (.str "dark"))))) (mRet 0 (mMake 0 2 "Rhythm" (d0.G pr) (mCons (mIte (asB (mBin eqT (mVar 0) (mCst (.str "steady")))) (mCst (.str "*")) (mCst (.str "."))) mNil))) mSkip)
    (mSeq (mAsg (bTp 3 (bCons (bNm 1) (bCons (bNm 2) (bCons (bNm 3) bNil)))) (mMtD [("str", partT)] (mVar 0) (mCons (mCst (.str " ")) mNil)))
    (mSeq (mSet 4 (mCst (.str "")))
    (mSeq (mFor (mEnum 0 (mMtD [("str", splitT)] (mVar 3) (mCons (mCst (.str ",")) mNil))) (bTp 2 (bCons (bNm 5) (bCons (bNm 6) bNil))) (mSeq (mIf (mOrT (asB (mBin (inA true) (mCB lenT (mCons (mVar 6) mNil)) (mTup 0 (mCons (mCst (.int 1)) (mCons (mCst (.int 2)) mNil))))) (mOrT (mTru (mAny true [7] (mIter 0 (mVar 6)) (bNm 7) mYes (mBin (inA true) (mVar 7) (mCst (.str "0123456789"))))) (asB (mBin eqT (mBin ixA (mVar 6) (mCst (.int 0))) (mCst (.str "0")))))) (mRaise "BadLight") mSkip)
    (fun ρ μ => if liveAt 4 ρ μ = true then mExt 4 0 (mBin mulT (mIte (asB (mBin eqT (mBin modT (mVar 5) (mCst (.int 2))) (mCst (.int 0)))) (mCst (.str "*")) (mCst (.str "."))) (mCB intT (mCons (mVar 6) mNil))) ρ μ else mAug 4 iaddT (mBin mulT (mIte (asB (mBin eqT (mBin modT (mVar 5) (mCst (.int 2))) (mCst (.int 0)))) (mCst (.str "*")) (mCst (.str "."))) (mCB intT (mCons (mVar 6) mNil))) ρ μ)))
    (mSeq (mSet 8 (mMake 0 2 "Rhythm" (d0.G pr) (mCons (mVar 4) mNil)))
    (mSeq (mIf (asB (mBin neT (mMethD 0 "said" [("Rhythm", ⟨1, 0, 41, d12.G pr⟩)] (mVar 8) mNil) (mVar 0))) (mRaise "BadLight") mSkip)
    (mRet 0 (mVar 8))))))))
/-- read_rhythm -/
theorem E13 : d13.G pr = runB 0 9 m13 := by kernel_rfl
def m29 : Sm := (mSeq (mSet 3 (mBin addT (mCst (.int 1)) (mCall 1 1 2 (d20.G pr) (mCons (mVar 0) (mCons (mCst (.int 5)) mNil)))))
    (mSeq (mSet 4 (mCall 1 0 1 (d18.G pr) (mCons (mVar 3) mNil)))
    (mSeq (mIf (mOrT (asB (mBin neT (mCall 1 0 1 (d16.G pr) (mCons (mVar 3) mNil)) (mCB lenT (mCons (mVar 4) mNil)))) (mOrT (asB (mBin neT (mCB lenT (mCons (mVar 4) mNil)) (mBin ixA (mLst 1 (mCons (mCst (.int 2)) (mCons (mCst (.int 1)) (mCons (mCst (.int 2)) (mCons (mCst (.int 3)) (mCons (mCst (.int 6)) mNil)))))) (mBin subT (mVar 3) (mCst (.int 1)))))) (asB (mBin neT (mCB listT (mCons (mVar 4) mNil)) (mCB sortT (mCons (mVar 4) mNil)))))) (mRet 1 (mCst (.bl false))) mSkip)
    (mSeq (mIf (mAndT (asB (mBin leT (mCB lenT (mCons (mVar 2) mNil)) (mCst (.int 5)))) (asB (mBin (inA true) (mCB minT (mCons (mCall 1 0 1 (d24.G pr) (mCons (mVar 2) mNil)) mNil)) (mCall 1 0 1 (d18.G pr) (mCons (mCB lenT (mCons (mVar 2) mNil)) mNil))))) (mRet 1 (mCst (.bl false))) mSkip)
    (mSeq (mSet 5 (mBin addT (mCst (.int 1)) (mCall 1 1 2 (d20.G pr) (mCons (mVar 0) (mCons (mCst (.int 30)) mNil)))))
    (mSeq (mIf (asB (mBin neT (mCB sumT (mCons (mOf (mLc 1 [6] (mRng2 (mCons (mCst (.int 1)) (mCons (mBin addT (mVar 5) (mCst (.int 1))) mNil))) (bNm 6) (asB (mBin eqT (mBin modT (mVar 5) (mVar 6)) (mCst (.int 0)))) (mCall 1 0 1 (d17.G pr) (mCons (mVar 6) mNil)))) mNil)) (mCB intT (mCons (mBin eqT (mVar 5) (mCst (.int 1))) mNil)))) (mRet 1 (mCst (.bl false))) mSkip)
    (mSeq (mFor (mIter 1 (mLst 1 (mCons (mCst (.str "flashing 1")) (mCons (mCst (.str "flashing 0,2")) (mCons (mCst (.str "even 1,2")) (mCons (mCst (.str "x")) (mCons (mCst (.str "flashing 2,1")) (mCons (mCst (.str "broken 1,1")) (mCons (mCst (.str "even 01,1")) (mCons (mCst (.str "steady 1")) mNil)))))))))) (bNm 7) (mIf (asB (mBin neT (mTold [("BadBearing", "bearing"), ("BadChart", "chart"), ("BadLight", "light"), ("BadTime", "time"), ("Unclear", "unclear"), ("Aground", "aground"), ("NoWay", "no way"), ("TooLarge", "large"), ("BadText", "text")] (mCall 1 0 1 (d13.G pr) (mCons (mVar 7) mNil))) (mCst (.str "light")))) (mRet 1 (mCst (.bl false))) mSkip))
    (mSeq (mIf (mNotT (mTru (mCall 1 0 0 (d28.G pr) mNil))) (mRet 1 (mCst (.bl false))) mSkip)
    (mSeq (mIf (asB (mBin neT (mTold [("BadBearing", "bearing"), ("BadChart", "chart"), ("BadLight", "light"), ("BadTime", "time"), ("Unclear", "unclear"), ("Aground", "aground"), ("NoWay", "no way"), ("TooLarge", "large"), ("BadText", "text")] (mMethD 1 "lit_at" [("Rhythm", ⟨2, 0, 9, d1.G pr⟩)] (mVar 1) (mCons (mBin subT (mCst (.int 0)) (mCst (.int 1))) mNil))) (mCst (.str "light")))) (mRet 1 (mCst (.bl false))) mSkip)
    (mRet 1 (mCst (.bl true))))))))))))
/-- _law_rest1 -/
theorem E29 : d29.G pr = runB 1 8 m29 := by kernel_rfl
def mlaw : Sm := (mSeq (mPar [2, 3] (mCons (mCall 0 1 2 (d23.G pr) (mCons (mVar 1) (mCons (mCst (.int 8)) mNil))) (mCons (mCall 0 1 2 (d23.G pr) (mCons (mVar 1) (mCons (mCst (.int 6)) mNil))) mNil)))
    (mSeq (mPar [4, 5, 6, 7] (mCons (mMake 0 2 "Rhythm" (d0.G pr) (mCons (mVar 2) mNil)) (mCons (mMake 0 2 "Rhythm" (d0.G pr) (mCons (mVar 3) mNil)) (mCons (mCall 0 1 2 (d20.G pr) (mCons (mVar 1) (mCons (mCst (.int 20)) mNil))) (mCons (mCall 0 1 2 (d20.G pr) (mCons (mVar 1) (mCons (mCst (.int 12)) mNil))) mNil)))))
    (mSeq (mSet 8 (mCall 0 0 1 (d25.G pr) (mCons (mVar 2) mNil)))
    (mSeq (mIf (mOrT (asB (mBin neT (mMethD 0 "cycle" [("Rhythm", ⟨1, 0, 9, d3.G pr⟩)] (mVar 4) mNil) (mCB lenT (mCons (mVar 8) mNil)))) (mOrT (asB (mBin neT (mUn (fldC ["Rhythm"] "signs") (mMethD 0 "shortest" [("Rhythm", ⟨1, 0, 17, d4.G pr⟩)] (mVar 4) mNil)) (mVar 8))) (asB (mBin neT (mMethD 0 "lit_beats" [("Rhythm", ⟨1, 0, 25, d7.G pr⟩)] (mVar 4) mNil) (mMtD [("str", (ss1 fun a b => .int (Txt.count a b))), ("list", lcountT)] (mVar 8) (mCons (mCst (.str "*")) mNil)))))) (mRet 0 (mCst (.bl false))) mSkip)
    (mSeq (mSet 9 (mMtD [("str", joinT)] (mCst (.str "")) (mCons (mOf (mLc 0 [10] (mRng1 (mCons (mVar 7) mNil)) (bNm 10) mYes (mBin ixA (mVar 2) (mBin modT (mBin addT (mVar 6) (mVar 10)) (mCB lenT (mCons (mVar 2) mNil)))))) mNil)))
    (mSeq (mIf (mOrT (asB (mBin neT (mMethD 0 "shown_from" [("Rhythm", ⟨3, 0, 17, d2.G pr⟩)] (mVar 4) (mCons (mVar 6) (mCons (mVar 7) mNil))) (mVar 9))) (asB (mBin neT (mMethD 0 "lit_at" [("Rhythm", ⟨2, 0, 9, d1.G pr⟩)] (mVar 4) (mCons (mVar 6) mNil)) (mBin eqT (mBin ixA (mVar 2) (mBin modT (mVar 6) (mCB lenT (mCons (mVar 2) mNil)))) (mCst (.str "*")))))) (mRet 0 (mCst (.bl false))) mSkip)
    (mSeq (mIf (mOrT (asB (mBin neT (mMethD 0 "shown_from" [("Rhythm", ⟨3, 0, 17, d2.G pr⟩)] (mMethD 0 "begun_at" [("Rhythm", ⟨2, 0, 17, d5.G pr⟩)] (mVar 4) (mCons (mVar 6) mNil)) (mCons (mCst (.int 0)) (mCons (mVar 7) mNil))) (mVar 9))) (asB (mBin neT (mUn (fldC ["Rhythm"] "signs") (mMethD 0 "foremost" [("Rhythm", ⟨1, 0, 25, d6.G pr⟩)] (mVar 4) mNil)) (mCB minT (mCons (mCall 0 0 1 (d24.G pr) (mCons (mVar 8) mNil)) mNil))))) (mRet 0 (mCst (.bl false))) mSkip)
    (mSeq (mSet 11 (mCall 0 0 1 (d26.G pr) (mCons (mVar 8) mNil)))
    (mSeq (mIf (mOrT (asB (mBin neT (mCB listT (mCons (mMethD 0 "runs" [("Rhythm", ⟨1, 0, 25, d8.G pr⟩)] (mVar 4) mNil) mNil)) (mVar 11))) (mOrT (asB (mBin neT (mMethD 0 "kind" [("Rhythm", ⟨1, 0, 33, d9.G pr⟩)] (mVar 4) mNil) (mCall 0 0 1 (d27.G pr) (mCons (mVar 8) mNil)))) (asB (mBin neT (mMethD 0 "flashes" [("Rhythm", ⟨1, 0, 33, d10.G pr⟩)] (mVar 4) mNil) (mBin fdivT (mCB lenT (mCons (mVar 11) mNil)) (mCst (.int 2))))))) (mRet 0 (mCst (.bl false))) mSkip)
    (mSeq (mSet 12 (mBin addT (mCall 0 0 1 (d27.G pr) (mCons (mVar 8) mNil)) (mIte (asB (mBin gtT (mCB lenT (mCons (mVar 11) mNil)) (mCst (.int 1)))) (mBin addT (mCst (.str " ")) (mMtD [("str", joinT)] (mCst (.str ",")) (mCons (mOf (mLc 0 [13, 14] (mIter 0 (mVar 11)) (bTp 2 (bCons (bNm 13) (bCons (bNm 14) bNil))) mYes (mCB strT (mCons (mVar 14) mNil)))) mNil))) (mCst (.str "")))))
    (mSeq (mIf (mOrT (asB (mBin neT (mMethD 0 "said" [("Rhythm", ⟨1, 0, 41, d12.G pr⟩)] (mVar 4) mNil) (mVar 12))) (mNotT (mTru (mCall 0 0 2 (d14.G pr) (mCons (mCall 0 0 1 (d13.G pr) (mCons (mVar 12) mNil)) (mCons (mVar 4) mNil)))))) (mRet 0 (mCst (.bl false))) mSkip)
    (mSeq (mIf (asB (mBin neT (mUn (fldC ["Rhythm"] "signs") (mMethD 0 "turned_round" [("Rhythm", ⟨1, 0, 17, d11.G pr⟩)] (mMethD 0 "turned_round" [("Rhythm", ⟨1, 0, 17, d11.G pr⟩)] (mVar 4) mNil) mNil)) (mVar 2))) (mRet 0 (mCst (.bl false))) mSkip)
    (mSeq (mIf (asB (mBin neT (mMethD 0 "lit_beats" [("Rhythm", ⟨1, 0, 25, d7.G pr⟩)] (mMethD 0 "turned_round" [("Rhythm", ⟨1, 0, 17, d11.G pr⟩)] (mVar 4) mNil) mNil) (mBin subT (mCB lenT (mCons (mVar 8) mNil)) (mMtD [("str", (ss1 fun a b => .int (Txt.count a b))), ("list", lcountT)] (mVar 8) (mCons (mCst (.str "*")) mNil))))) (mRet 0 (mCst (.bl false))) mSkip)
    (mSeq (mIf (asB (mBin neT (mCall 0 0 2 (d14.G pr) (mCons (mVar 4) (mCons (mVar 5) mNil))) (mBin (inA false) (mCall 0 0 1 (d25.G pr) (mCons (mVar 3) mNil)) (mCall 0 0 1 (d24.G pr) (mCons (mVar 8) mNil))))) (mRet 0 (mCst (.bl false))) mSkip)
    (mSeq (mSet 15 (mTold [("BadBearing", "bearing"), ("BadChart", "chart"), ("BadLight", "light"), ("BadTime", "time"), ("Unclear", "unclear"), ("Aground", "aground"), ("NoWay", "no way"), ("TooLarge", "large"), ("BadText", "text")] (mCall 0 0 2 (d15.G pr) (mCons (mVar 4) (mCons (mVar 5) mNil)))))
    (mSeq (mSet 16 (mOf (mLc 0 [10] (mRng2 (mCons (mCst (.int 1)) (mCons (mCst (.int 61)) mNil))) (bNm 10) (mAndT (asB (mBin eqT (mBin modT (mVar 10) (mCB lenT (mCons (mVar 8) mNil))) (mCst (.int 0)))) (asB (mBin eqT (mBin modT (mVar 10) (mMethD 0 "cycle" [("Rhythm", ⟨1, 0, 9, d3.G pr⟩)] (mVar 5) mNil)) (mCst (.int 0))))) (mVar 10))))
    (mSeq (mIf (asB (mBin neT (mBin eqT (mVar 15) (mCst (.str "light"))) (mBin eqT (mVar 16) (mLst 0 mNil)))) (mRet 0 (mCst (.bl false))) mSkip)
    (mSeq (mIf (mAndT (asB (mBin neT (mVar 15) (mCst (.str "light")))) (asB (mBin neT (mOf (mLc 0 [10] (mRng1 (mCons (mBin ixA (mVar 16) (mCst (.int 0))) mNil)) (bNm 10) (asB (mBin neT (mMethD 0 "lit_at" [("Rhythm", ⟨2, 0, 9, d1.G pr⟩)] (mVar 15) (mCons (mVar 10) mNil)) (mOr (mMethD 0 "lit_at" [("Rhythm", ⟨2, 0, 9, d1.G pr⟩)] (mVar 4) (mCons (mVar 10) mNil)) (mMethD 0 "lit_at" [("Rhythm", ⟨2, 0, 9, d1.G pr⟩)] (mVar 5) (mCons (mVar 10) mNil))))) (mVar 10))) (mLst 0 mNil)))) (mRet 0 (mCst (.bl false))) mSkip)
    (mIf (mNotT (mTru (mCall 0 1 3 (d29.G pr) (mCons (mVar 1) (mCons (mVar 4) (mCons (mVar 8) mNil)))))) (mRet 0 (mCst (.bl false))) mSkip)))))))))))))))))))
theorem Elaw : evSs (ev (gH pr d30.h) fuel) (d30.SC (lev d30.h)) lbody = mlaw := by kernel_rfl
end Ck01

set_option maxHeartbeats 4000000
namespace Ck01
open PySem PySem.Spec PyProof.Rows L2 TL
def c0 : Sm := (mSeq (mIf (mOrT (mNotT (asB (mChain leT leT (mCst (.int 1)) (mCB lenT (mCons (mVar 1) mNil)) (mCst (CT.t (.int 60)))))) (mTru (mAny true [2] (mIter 1 (mVar 1)) (bNm 2) mYes (mBin (inA true) (mVar 2) (mCst (.str "*.")))))) (mRaise "BadLight") mSkip)
    (mFldS 1 "Rhythm" "signs" (mVar 0) (mVar 1)))
def g0 : FM := runB 1 3 c0
theorem C0 : d0.G pr = g0 := E0
def c1 : Sm := (mSeq (mIf (asB (mBin ltT (mVar 1) (mCst (.int 0)))) (mRaise "BadLight") mSkip)
    (mRet 0 (mBin eqT (mBin ixA (mUn (fldC ["Rhythm"] "signs") (mVar 0)) (mBin modT (mVar 1) (mCB lenT (mCons (mUn (fldC ["Rhythm"] "signs") (mVar 0)) mNil)))) (mCst (.str "*")))))
def g1 : FM := runB 0 2 c1
theorem C1 : d1.G pr = g1 := E1
def c3 : Sm := (mSeq (mFor (mRng2 (mCons (mCst (.int 1)) (mCons (mCB lenT (mCons (mUn (fldC ["Rhythm"] "signs") (mVar 0)) mNil)) mNil))) (bNm 1) (mIf (mAndT (asB (mBin eqT (mBin modT (mCB lenT (mCons (mUn (fldC ["Rhythm"] "signs") (mVar 0)) mNil)) (mVar 1)) (mCst (.int 0)))) (asB (mBin eqT (mBin mulT (mSl sliceT (mUn (fldC ["Rhythm"] "signs") (mVar 0)) (mPart none) (mPart (some (mVar 1)))) (mBin fdivT (mCB lenT (mCons (mUn (fldC ["Rhythm"] "signs") (mVar 0)) mNil)) (mVar 1))) (mUn (fldC ["Rhythm"] "signs") (mVar 0))))) (mRet 0 (mVar 1)) mSkip))
    (mRet 0 (mCB lenT (mCons (mUn (fldC ["Rhythm"] "signs") (mVar 0)) mNil))))
def g3 : FM := runB 0 2 c3
theorem C3 : d3.G pr = g3 := E3
def c17 : Sm := (mSeq (mPar [1, 2] (mCons (mCst (.int 1)) (mCons (mCst (.int 2)) mNil)))
    (mSeq (whileF (asB (mBin gtT (mVar 0) (mCst (.int 1)))) (mSeq (mIf (asB (mBin eqT (mBin modT (mVar 0) (mVar 2)) (mCst (.int 0)))) (mSeq (mAug 0 ifdivT (mVar 2))
    (mSeq (mIf (asB (mBin eqT (mBin modT (mVar 0) (mVar 2)) (mCst (.int 0)))) (mRet 0 (mCst (.int 0))) mSkip)
    (mSet 1 (mBin subT (mCst (.int 0)) (mVar 1))))) mSkip)
    (fun ρ μ => if liveAt 2 ρ μ = true then mExt 2 0 (mCst (.int 1)) ρ μ else mAug 2 iaddT (mCst (.int 1)) ρ μ)) turns)
    (mRet 0 (mVar 1))))
def g17 : FM := runB 0 3 c17
theorem C17 : d17.G pr = g17 := E17
def c24 : Sm := (mRet 0 (mOf (mLc 0 [1] (mRng1 (mCons (mCB lenT (mCons (mVar 0) mNil)) mNil)) (bNm 1) mYes (mBin addT (mSl sliceT (mVar 0) (mPart (some (mVar 1))) (mPart none)) (mSl sliceT (mVar 0) (mPart none) (mPart (some (mVar 1))))))))
def g24 : FM := runB 0 2 c24
theorem C24 : d24.G pr = g24 := E24
def c25 : Sm := (mSeq (mSet 1 (mOf (mLc 0 [2] (mRng2 (mCons (mCst (.int 1)) (mCons (mBin addT (mCB lenT (mCons (mVar 0) mNil)) (mCst (.int 1))) mNil))) (bNm 2) (mAndT (asB (mBin eqT (mBin modT (mCB lenT (mCons (mVar 0) mNil)) (mVar 2)) (mCst (.int 0)))) (asB (mBin eqT (mBin mulT (mSl sliceT (mVar 0) (mPart none) (mPart (some (mVar 2)))) (mBin fdivT (mCB lenT (mCons (mVar 0) mNil)) (mVar 2))) (mVar 0)))) (mVar 2))))
    (mRet 0 (mSl sliceT (mVar 0) (mPart none) (mPart (some (mBin ixA (mVar 1) (mCst (.int 0))))))))
def g25 : FM := runB 0 3 c25
theorem C25 : d25.G pr = g25 := E25
def c26 : Sm := (mSeq (mIf (asB (mBin eqT (mCB lenT (mCons (mVar 0) mNil)) (mCst (.int 1)))) (mRet 0 (mLst 0 (mCons (mTup 0 (mCons (mVar 0) (mCons (mCst (.int 1)) mNil))) mNil))) mSkip)
    (mSeq (mSet 1 (mBin ixA (mOf (mLc 0 [2] (mRng1 (mCons (mCB lenT (mCons (mVar 0) mNil)) mNil)) (bNm 2) (mAndT (asB (mBin eqT (mBin ixA (mVar 0) (mVar 2)) (mCst (.str "*")))) (asB (mBin eqT (mBin ixA (mVar 0) (mBin subT (mVar 2) (mCst (.int 1)))) (mCst (.str "."))))) (mVar 2))) (mCst (.int 0))))
    (mSeq (mSet 3 (mBin addT (mSl sliceT (mVar 0) (mPart (some (mVar 1))) (mPart none)) (mSl sliceT (mVar 0) (mPart none) (mPart (some (mVar 1))))))
    (mSeq (mSet 4 (mBin addT (mOf (mLc 0 [2] (mRng1 (mCons (mCB lenT (mCons (mVar 3) mNil)) mNil)) (bNm 2) (mOrT (asB (mBin eqT (mVar 2) (mCst (.int 0)))) (asB (mBin neT (mBin ixA (mVar 3) (mVar 2)) (mBin ixA (mVar 3) (mBin subT (mVar 2) (mCst (.int 1))))))) (mVar 2))) (mLst 0 (mCons (mCB lenT (mCons (mVar 3) mNil)) mNil))))
    (mRet 0 (mOf (mLc 0 [2] (mRng1 (mCons (mBin subT (mCB lenT (mCons (mVar 4) mNil)) (mCst (.int 1))) mNil)) (bNm 2) mYes (mTup 0 (mCons (mBin ixA (mVar 3) (mBin ixA (mVar 4) (mVar 2))) (mCons (mBin subT (mBin ixA (mVar 4) (mBin addT (mVar 2) (mCst (.int 1)))) (mBin ixA (mVar 4) (mVar 2))) mNil))))))))))
def g26 : FM := runB 0 5 c26
theorem C26 : d26.G pr = g26 := E26
def c2 : Sm := (mSeq (mIf (mOrT (asB (mBin ltT (mVar 1) (mCst (.int 0)))) (asB (mBin ltT (mVar 2) (mCst (.int 0))))) (mRaise "BadLight") mSkip)
    (mRet 0 (mMtD [("str", joinT)] (mCst (.str "")) (mCons (mOf (mLc 0 [3] (mRng1 (mCons (mVar 2) mNil)) (bNm 3) mYes (mIte (mTru (mMethD 0 "lit_at" [("Rhythm", ⟨2, 0, 9, g1⟩)] (mVar 0) (mCons (mBin addT (mVar 1) (mVar 3)) mNil))) (mCst (.str "*")) (mCst (.str "."))))) mNil))))
def g2 : FM := runB 0 4 c2
theorem C2 : d2.G pr = g2 := by
  rw [E2]; unfold m2; rw [C1]; rfl
def c4 : Sm := (mRet 0 (mMake 0 2 "Rhythm" g0 (mCons (mSl sliceT (mUn (fldC ["Rhythm"] "signs") (mVar 0)) (mPart none) (mPart (some (mMethD 0 "cycle" [("Rhythm", ⟨1, 0, 9, g3⟩)] (mVar 0) mNil)))) mNil)))
def g4 : FM := runB 0 1 c4
theorem C4 : d4.G pr = g4 := by
  rw [E4]; unfold m4; rw [C0, C3]; rfl
def c5 : Sm := (mSeq (mSet 2 (mBin modT (mVar 1) (mCB lenT (mCons (mUn (fldC ["Rhythm"] "signs") (mVar 0)) mNil))))
    (mRet 0 (mMake 0 2 "Rhythm" g0 (mCons (mBin addT (mSl sliceT (mUn (fldC ["Rhythm"] "signs") (mVar 0)) (mPart (some (mVar 2))) (mPart none)) (mSl sliceT (mUn (fldC ["Rhythm"] "signs") (mVar 0)) (mPart none) (mPart (some (mVar 2))))) mNil))))
def g5 : FM := runB 0 3 c5
theorem C5 : d5.G pr = g5 := by
  rw [E5]; unfold m5; rw [C0]; rfl
def c11 : Sm := (mRet 0 (mMake 0 2 "Rhythm" g0 (mCons (mMtD [("str", joinT)] (mCst (.str "")) (mCons (mOf (mLc 0 [1] (mIter 0 (mUn (fldC ["Rhythm"] "signs") (mVar 0))) (bNm 1) mYes (mIte (asB (mBin eqT (mVar 1) (mCst (.str "*")))) (mCst (.str ".")) (mCst (.str "*"))))) mNil)) mNil)))
def g11 : FM := runB 0 2 c11
theorem C11 : d11.G pr = g11 := by
  rw [E11]; unfold m11; rw [C0]; rfl
def c15 : Sm := (mSeq (mPar [2, 3] (mCons (mMethD 0 "cycle" [("Rhythm", ⟨1, 0, 9, g3⟩)] (mVar 0) mNil) (mCons (mMethD 0 "cycle" [("Rhythm", ⟨1, 0, 9, g3⟩)] (mVar 1) mNil) mNil)))
    (mSeq (mSet 4 (mVar 2))
    (mSeq (whileF (asB (mBin neT (mBin modT (mVar 4) (mVar 3)) (mCst (.int 0)))) (fun ρ μ => if liveAt 4 ρ μ = true then mExt 4 0 (mVar 2) ρ μ else mAug 4 iaddT (mVar 2) ρ μ) turns)
    (mSeq (mIf (asB (mBin gtT (mVar 4) (mCst (CT.t (.int 60))))) (mRaise "BadLight") mSkip)
    (mRet 0 (mMake 0 2 "Rhythm" g0 (mCons (mMtD [("str", joinT)] (mCst (.str "")) (mCons (mOf (mLc 0 [5] (mRng1 (mCons (mVar 4) mNil)) (bNm 5) mYes (mIte (mOrT (mTru (mMethD 0 "lit_at" [("Rhythm", ⟨2, 0, 9, g1⟩)] (mVar 0) (mCons (mVar 5) mNil))) (mTru (mMethD 0 "lit_at" [("Rhythm", ⟨2, 0, 9, g1⟩)] (mVar 1) (mCons (mVar 5) mNil)))) (mCst (.str "*")) (mCst (.str "."))))) mNil)) mNil)))))))
def g15 : FM := runB 0 6 c15
theorem C15 : d15.G pr = g15 := by
  rw [E15]; unfold m15; rw [C0, C1, C3]; rfl
def c16 : Sm := (mSeq (mIf (mNotT (asB (mChain leT leT (mCst (.int 1)) (mVar 0) (mCst (.int 12))))) (mRaise "BadLight") mSkip)
    (mSeq (mSet 1 (mCst (.int 0)))
    (mSeq (mFor (mRng2 (mCons (mCst (.int 1)) (mCons (mBin addT (mVar 0) (mCst (.int 1))) mNil))) (bNm 2) (mIf (asB (mBin eqT (mBin modT (mVar 0) (mVar 2)) (mCst (.int 0)))) (fun ρ μ => if liveAt 1 ρ μ = true then mExt 1 0 (mBin mulT (mCall 0 0 1 g17 (mCons (mBin fdivT (mVar 0) (mVar 2)) mNil)) (mBin ixA (mLst 0 (mCons (mCst (.int 1)) (mCons (mCst (.int 2)) (mCons (mCst (.int 4)) (mCons (mCst (.int 8)) (mCons (mCst (.int 16)) (mCons (mCst (.int 32)) (mCons (mCst (.int 64)) (mCons (mCst (.int 128)) (mCons (mCst (.int 256)) (mCons (mCst (.int 512)) (mCons (mCst (.int 1024)) (mCons (mCst (.int 2048)) (mCons (mCst (.int 4096)) mNil)))))))))))))) (mVar 2))) ρ μ else mAug 1 iaddT (mBin mulT (mCall 0 0 1 g17 (mCons (mBin fdivT (mVar 0) (mVar 2)) mNil)) (mBin ixA (mLst 0 (mCons (mCst (.int 1)) (mCons (mCst (.int 2)) (mCons (mCst (.int 4)) (mCons (mCst (.int 8)) (mCons (mCst (.int 16)) (mCons (mCst (.int 32)) (mCons (mCst (.int 64)) (mCons (mCst (.int 128)) (mCons (mCst (.int 256)) (mCons (mCst (.int 512)) (mCons (mCst (.int 1024)) (mCons (mCst (.int 2048)) (mCons (mCst (.int 4096)) mNil)))))))))))))) (mVar 2))) ρ μ) mSkip))
    (mRet 0 (mBin fdivT (mVar 1) (mVar 0))))))
def g16 : FM := runB 0 3 c16
theorem C16 : d16.G pr = g16 := by
  rw [E16]; unfold m16; rw [C17]; rfl
def c27 : Sm := (mSeq (mSet 1 (mCall 0 0 1 g26 (mCons (mVar 0) mNil)))
    (mSeq (mIf (asB (mBin eqT (mCB lenT (mCons (mVar 1) mNil)) (mCst (.int 1)))) (mRet 0 (mIte (asB (mBin eqT (mVar 0) (mCst (.str "*")))) (mCst (.str "steady")) (mCst (.str "dark")))) mSkip)
    (mSeq (mIf (mAndT (asB (mBin eqT (mCB lenT (mCons (mVar 1) mNil)) (mCst (.int 2)))) (asB (mBin eqT (mBin ixA (mBin ixA (mVar 1) (mCst (.int 0))) (mCst (.int 1))) (mBin ixA (mBin ixA (mVar 1) (mCst (.int 1))) (mCst (.int 1)))))) (mRet 0 (mCst (.str "even"))) mSkip)
    (mRet 0 (mIte (asB (mBin leT (mBin mulT (mCst (.int 2)) (mMtD [("str", (ss1 fun a b => .int (Txt.count a b))), ("list", lcountT)] (mVar 0) (mCons (mCst (.str "*")) mNil))) (mCB lenT (mCons (mVar 0) mNil)))) (mCst (.str "flashing")) (mCst (.str "broken")))))))
def g27 : FM := runB 0 2 c27
theorem C27 : d27.G pr = g27 := by
  rw [E27]; unfold m27; rw [C26]; rfl
def c6 : Sm := (mSeq (mSet 1 (mUn (fldC ["Rhythm"] "signs") (mMethD 0 "shortest" [("Rhythm", ⟨1, 0, 17, g4⟩)] (mVar 0) mNil)))
    (mRet 0 (mMake 0 2 "Rhythm" g0 (mCons (mCB minT (mCons (mOf (mLc 0 [2] (mRng1 (mCons (mCB lenT (mCons (mVar 1) mNil)) mNil)) (bNm 2) mYes (mBin addT (mSl sliceT (mVar 1) (mPart (some (mVar 2))) (mPart none)) (mSl sliceT (mVar 1) (mPart none) (mPart (some (mVar 2))))))) mNil)) mNil))))
def g6 : FM := runB 0 3 c6
theorem C6 : d6.G pr = g6 := by
  rw [E6]; unfold m6; rw [C0, C4]; rfl
def c7 : Sm := (mRet 0 (mMtD [("str", (ss1 fun a b => .int (Txt.count a b))), ("list", lcountT)] (mUn (fldC ["Rhythm"] "signs") (mMethD 0 "shortest" [("Rhythm", ⟨1, 0, 17, g4⟩)] (mVar 0) mNil)) (mCons (mCst (.str "*")) mNil)))
def g7 : FM := runB 0 1 c7
theorem C7 : d7.G pr = g7 := by
  rw [E7]; unfold m7; rw [C4]; rfl
def c8 : Sm := (mSeq (mSet 1 (mUn (fldC ["Rhythm"] "signs") (mMethD 0 "shortest" [("Rhythm", ⟨1, 0, 17, g4⟩)] (mVar 0) mNil)))
    (mSeq (mIf (mOrT (asB (mBin (inA true) (mCst (.str "*")) (mVar 1))) (asB (mBin (inA true) (mCst (.str ".")) (mVar 1)))) (mRet 0 (mTup 0 (mCons (mTup 0 (mCons (mBin ixA (mVar 1) (mCst (.int 0))) (mCons (mCst (.int 1)) mNil))) mNil))) mSkip)
    (mSeq (mSet 2 (mBin ixA (mOf (mLc 0 [3] (mRng1 (mCons (mCB lenT (mCons (mVar 1) mNil)) mNil)) (bNm 3) (mAndT (asB (mBin eqT (mBin ixA (mVar 1) (mVar 3)) (mCst (.str "*")))) (asB (mBin eqT (mBin ixA (mVar 1) (mBin subT (mVar 3) (mCst (.int 1)))) (mCst (.str "."))))) (mVar 3))) (mCst (.int 0))))
    (mSeq (mPar [4, 5] (mCons (mBin addT (mSl sliceT (mVar 1) (mPart (some (mVar 2))) (mPart none)) (mSl sliceT (mVar 1) (mPart none) (mPart (some (mVar 2))))) (mConsN (mLstF 0 mNil) mNil)))
    (mSeq (mFor (mIter 0 (mVar 4)) (bNm 6) (mIf (mAndT (asB (mBin neT (mVar 5) (mLst 0 mNil))) (asB (mBin eqT (mBin ixA (mBin ixA (mVar 5) (mUn negT (mCst (.int 1)))) (mCst (.int 0))) (mVar 6)))) (mSubD 0 (mVar 5) (mUn negT (mCst (.int 1))) (mTup 0 (mCons (mVar 6) (mCons (mBin addT (mBin ixA (mBin ixA (mVar 5) (mUn negT (mCst (.int 1)))) (mCst (.int 1))) (mCst (.int 1))) mNil)))) (mApp 0 (mVar 5) (mTup 0 (mCons (mVar 6) (mCons (mCst (.int 1)) mNil))))))
    (mRet 0 (mCB tupleT (mCons (mVar 5) mNil))))))))
def g8 : FM := runB 0 7 c8
theorem C8 : d8.G pr = g8 := by
  rw [E8]; unfold m8; rw [C4]; rfl
def c9 : Sm := (mSeq (mSet 1 (mMethD 0 "runs" [("Rhythm", ⟨1, 0, 25, g8⟩)] (mVar 0) mNil))
    (mSeq (mIf (asB (mBin eqT (mCB lenT (mCons (mVar 1) mNil)) (mCst (.int 1)))) (mRet 0 (mIte (asB (mBin eqT (mBin ixA (mBin ixA (mVar 1) (mCst (.int 0))) (mCst (.int 0))) (mCst (.str "*")))) (mCst (.str "steady")) (mCst (.str "dark")))) mSkip)
    (mSeq (mIf (mAndT (asB (mBin eqT (mCB lenT (mCons (mVar 1) mNil)) (mCst (.int 2)))) (asB (mBin eqT (mBin ixA (mBin ixA (mVar 1) (mCst (.int 0))) (mCst (.int 1))) (mBin ixA (mBin ixA (mVar 1) (mCst (.int 1))) (mCst (.int 1)))))) (mRet 0 (mCst (.str "even"))) mSkip)
    (mRet 0 (mIte (asB (mBin leT (mBin mulT (mCst (.int 2)) (mMethD 0 "lit_beats" [("Rhythm", ⟨1, 0, 25, g7⟩)] (mVar 0) mNil)) (mMethD 0 "cycle" [("Rhythm", ⟨1, 0, 9, g3⟩)] (mVar 0) mNil))) (mCst (.str "flashing")) (mCst (.str "broken")))))))
def g9 : FM := runB 0 2 c9
theorem C9 : d9.G pr = g9 := by
  rw [E9]; unfold m9; rw [C3, C7, C8]; rfl
def c10 : Sm := (mSeq (mSet 1 (mMethD 0 "runs" [("Rhythm", ⟨1, 0, 25, g8⟩)] (mVar 0) mNil))
    (mRet 0 (mIte (asB (mBin gtT (mCB lenT (mCons (mVar 1) mNil)) (mCst (.int 1)))) (mBin fdivT (mCB lenT (mCons (mVar 1) mNil)) (mCst (.int 2))) (mCst (.int 0)))))
def g10 : FM := runB 0 2 c10
theorem C10 : d10.G pr = g10 := by
  rw [E10]; unfold m10; rw [C8]; rfl
def c14 : Sm := (mRet 0 (mBin eqT (mUn (fldC ["Rhythm"] "signs") (mMethD 0 "foremost" [("Rhythm", ⟨1, 0, 25, g6⟩)] (mVar 0) mNil)) (mUn (fldC ["Rhythm"] "signs") (mMethD 0 "foremost" [("Rhythm", ⟨1, 0, 25, g6⟩)] (mVar 1) mNil))))
def g14 : FM := runB 0 2 c14
theorem C14 : d14.G pr = g14 := by
  rw [E14]; unfold m14; rw [C6]; rfl
def c18 : Sm := (mSeq (mIf (mNotT (asB (mChain leT leT (mCst (.int 1)) (mVar 0) (mCst (.int 10))))) (mRaise "BadLight") mSkip)
    (mSeq (mSet 1 (mLst 0 (mCons (mCst (.str "")) mNil)))
    (mSeq (mFor (mRng1 (mCons (mVar 0) mNil)) (bNm 2) (mSet 1 (mOf (mLc2 0 [3, 4] [4] (mIter 0 (mVar 1)) (bNm 3) mYes (mIter 0 (mCst (.str "*."))) (bNm 4) mYes (mBin addT (mVar 3) (mVar 4))))))
    (mSeq (mSet 1 (mOf (mLc 0 [3] (mIter 0 (mVar 1)) (bNm 3) (asB (mBin eqT (mMethD 0 "cycle" [("Rhythm", ⟨1, 0, 9, g3⟩)] (mMake 0 2 "Rhythm" g0 (mCons (mVar 3) mNil)) mNil) (mVar 0))) (mVar 3))))
    (mRet 0 (mCB tupleT (mCons (mCB sortT (mCons (mOf (mLc 0 [3] (mIter 0 (mVar 1)) (bNm 3) (asB (mBin eqT (mUn (fldC ["Rhythm"] "signs") (mMethD 0 "foremost" [("Rhythm", ⟨1, 0, 25, g6⟩)] (mMake 0 2 "Rhythm" g0 (mCons (mVar 3) mNil)) mNil)) (mVar 3))) (mVar 3))) mNil)) mNil)))))))
def g18 : FM := runB 0 5 c18
theorem C18 : d18.G pr = g18 := by
  rw [E18]; unfold m18; rw [C0, C3, C6]; rfl
def c12 : Sm := (mSeq (mIf (asB (mBin (inA false) (mMethD 0 "kind" [("Rhythm", ⟨1, 0, 33, g9⟩)] (mVar 0) mNil) (mTup 0 (mCons (mCst (.str "steady")) (mCons (mCst (.str "dark")) mNil))))) (mRet 0 (mMethD 0 "kind" [("Rhythm", ⟨1, 0, 33, g9⟩)] (mVar 0) mNil)) mSkip)
    (mRet 0 (mBin addT (mBin addT (mMethD 0 "kind" [("Rhythm", ⟨1, 0, 33, g9⟩)] (mVar 0) mNil) (mCst (.str " "))) (mMtD [("str", joinT)] (mCst (.str ",")) (mCons (mOf (mLc 0 [1, 2] (mIter 0 (mMethD 0 "runs" [("Rhythm", ⟨1, 0, 25, g8⟩)] (mVar 0) mNil)) (bTp 2 (bCons (bNm 1) (bCons (bNm 2) bNil))) mYes (mCB strT (mCons (mVar 2) mNil)))) mNil)))))
def g12 : FM := runB 0 3 c12
theorem C12 : d12.G pr = g12 := by
  rw [E12]; unfold m12; rw [C8, C9]; rfl
def c28 : Sm := (mSeq (mIf (asB (mBin neT (mTold [("BadBearing", "bearing"), ("BadChart", "chart"), ("BadLight", "light"), ("BadTime", "time"), ("Unclear", "unclear"), ("Aground", "aground"), ("NoWay", "no way"), ("TooLarge", "large"), ("BadText", "text")] (mMake 0 2 "Rhythm" g0 (mCons (mCst (.str "")) mNil))) (mCst (.str "light")))) (mRet 0 (mCst (.bl false))) mSkip)
    (mSeq (mIf (asB (mBin neT (mTold [("BadBearing", "bearing"), ("BadChart", "chart"), ("BadLight", "light"), ("BadTime", "time"), ("Unclear", "unclear"), ("Aground", "aground"), ("NoWay", "no way"), ("TooLarge", "large"), ("BadText", "text")] (mMake 0 2 "Rhythm" g0 (mCons (mCst (.str "x")) mNil))) (mCst (.str "light")))) (mRet 0 (mCst (.bl false))) mSkip)
    (mSeq (mIf (asB (mBin neT (mTold [("BadBearing", "bearing"), ("BadChart", "chart"), ("BadLight", "light"), ("BadTime", "time"), ("Unclear", "unclear"), ("Aground", "aground"), ("NoWay", "no way"), ("TooLarge", "large"), ("BadText", "text")] (mCall 0 0 1 g18 (mCons (mCst (.int 11)) mNil))) (mCst (.str "light")))) (mRet 0 (mCst (.bl false))) mSkip)
    (mSeq (mIf (asB (mBin neT (mTold [("BadBearing", "bearing"), ("BadChart", "chart"), ("BadLight", "light"), ("BadTime", "time"), ("Unclear", "unclear"), ("Aground", "aground"), ("NoWay", "no way"), ("TooLarge", "large"), ("BadText", "text")] (mCall 0 0 1 g16 (mCons (mCst (.int 13)) mNil))) (mCst (.str "light")))) (mRet 0 (mCst (.bl false))) mSkip)
    (mSeq (mIf (asB (mBin neT (mTold [("BadBearing", "bearing"), ("BadChart", "chart"), ("BadLight", "light"), ("BadTime", "time"), ("Unclear", "unclear"), ("Aground", "aground"), ("NoWay", "no way"), ("TooLarge", "large"), ("BadText", "text")] (mMake 0 2 "Rhythm" g0 (mCons (mBin mulT (mCst (.str "*")) (mCst (.int 61))) mNil))) (mCst (.str "light")))) (mRet 0 (mCst (.bl false))) mSkip)
    (mRet 0 (mCst (.bl true))))))))
def g28 : FM := runB 0 0 c28
theorem C28 : d28.G pr = g28 := by
  rw [E28]; unfold m28; rw [C0, C16, C18]; rfl
def c13 : Sm := (mSeq (mIf (mOrT (asB (mBin eqT (mVar 0) (mCst (.str "steady")))) (asB (mBin eqT (mVar 0) (mCst (.str "dark"))))) (mRet 0 (mMake 0 2 "Rhythm" g0 (mCons (mIte (asB (mBin eqT (mVar 0) (mCst (.str "steady")))) (mCst (.str "*")) (mCst (.str "."))) mNil))) mSkip)
    (mSeq (mAsg (bTp 3 (bCons (bNm 1) (bCons (bNm 2) (bCons (bNm 3) bNil)))) (mMtD [("str", partT)] (mVar 0) (mCons (mCst (.str " ")) mNil)))
    (mSeq (mSet 4 (mCst (.str "")))
    (mSeq (mFor (mEnum 0 (mMtD [("str", splitT)] (mVar 3) (mCons (mCst (.str ",")) mNil))) (bTp 2 (bCons (bNm 5) (bCons (bNm 6) bNil))) (mSeq (mIf (mOrT (asB (mBin (inA true) (mCB lenT (mCons (mVar 6) mNil)) (mTup 0 (mCons (mCst (.int 1)) (mCons (mCst (.int 2)) mNil))))) (mOrT (mTru (mAny true [7] (mIter 0 (mVar 6)) (bNm 7) mYes (mBin (inA true) (mVar 7) (mCst (.str "0123456789"))))) (asB (mBin eqT (mBin ixA (mVar 6) (mCst (.int 0))) (mCst (.str "0")))))) (mRaise "BadLight") mSkip)
    (fun ρ μ => if liveAt 4 ρ μ = true then mExt 4 0 (mBin mulT (mIte (asB (mBin eqT (mBin modT (mVar 5) (mCst (.int 2))) (mCst (.int 0)))) (mCst (.str "*")) (mCst (.str "."))) (mCB intT (mCons (mVar 6) mNil))) ρ μ else mAug 4 iaddT (mBin mulT (mIte (asB (mBin eqT (mBin modT (mVar 5) (mCst (.int 2))) (mCst (.int 0)))) (mCst (.str "*")) (mCst (.str "."))) (mCB intT (mCons (mVar 6) mNil))) ρ μ)))
    (mSeq (mSet 8 (mMake 0 2 "Rhythm" g0 (mCons (mVar 4) mNil)))
    (mSeq (mIf (asB (mBin neT (mMethD 0 "said" [("Rhythm", ⟨1, 0, 41, g12⟩)] (mVar 8) mNil) (mVar 0))) (mRaise "BadLight") mSkip)
    (mRet 0 (mVar 8))))))))
def g13 : FM := runB 0 9 c13
theorem C13 : d13.G pr = g13 := by
  rw [E13]; unfold m13; rw [C0, C12]; rfl
end Ck01

set_option maxHeartbeats 4000000
namespace Ck01
open PySem PySem.Spec PyProof.Rows L2 TL
abbrev rh (s : List Nat) : T := .ins "Rhythm" [("signs", .str (sl s))]
def binS : Nat → List (List Nat)
  | 0 => [[]]
  | n + 1 => (binS n).map (42 :: ·) ++ (binS n).map (46 :: ·)
def allS : List (List Nat) := binS 1 ++ (binS 2 ++ (binS 3 ++ (binS 4 ++ (binS 5 ++ (binS 6 ++ (binS 7 ++ binS 8))))))
def cycF (s : List Nat) : Nat → Nat → Nat
  | 0, z => z
  | n + 1, z => if s.length % z = 0 ∧ (List.replicate (s.length / z) (s.take z)).flatten = s then z else cycF s n (z + 1)
def cyc (s : List Nat) : Nat := cycF s (s.length - 1) 1
def sh (s : List Nat) : List Nat := s.take (cyc s)
def rots (p : List Nat) : List (List Nat) := (List.range p.length).map fun k => p.drop k ++ p.take k
def lexN : List Nat → List Nat → Bool
  | [], [] => false
  | [], _ => true
  | _, [] => false
  | a :: r, b :: s => if a < b then true else if b < a then false else lexN r s
def minN : List (List Nat) → List Nat
  | [] => []
  | [x] => x
  | x :: y :: r => if lexN (minN (y :: r)) x then minN (y :: r) else x
def fore (p : List Nat) : List Nat := minN (rots p)
def prims : List (List Nat) := allS.filter fun s => cyc s == s.length
def fst46 : Nat → List Nat → Nat → Nat
  | _, [], k => k
  | q, c :: r, k => if q = 46 ∧ c = 42 then k else fst46 c r (k + 1)
/-- begun at the first light -/
def rw1 (p : List Nat) : List Nat := if p.length = 1 then p else p.drop (fst46 (p.getLastD 0) p 0) ++ p.take (fst46 (p.getLastD 0) p 0)
def runF : List Nat → List (Nat × Nat)
  | [] => []
  | c :: r => match runF r with
    | [] => [(c, 1)]
    | (d, n) :: q => if c = d then (d, n + 1) :: q else (c, 1) :: (d, n) :: q
def runL (p : List Nat) : List (Nat × Nat) := runF (rw1 p)
def runT (p : List Nat) : List T := (runL p).map fun x => .tup [.str (sl [x.1]), .int x.2]
def steady : List Nat := [115, 116, 101, 97, 100, 121]
def dark : List Nat := [100, 97, 114, 107]
def even : List Nat := [101, 118, 101, 110]
def flashing : List Nat := [102, 108, 97, 115, 104, 105, 110, 103]
def broken : List Nat := [98, 114, 111, 107, 101, 110]
def kindN (r : List (Nat × Nat)) (lit n : Nat) : List Nat := match r with
  | [x] => if x.1 = 42 then steady else dark
  | [x, y] => if x.2 = y.2 then even else if 2 * lit ≤ n then flashing else broken
  | _ => if 2 * lit ≤ n then flashing else broken
def tailN (r : List (Nat × Nat)) : List Nat := match r with
  | [_] => []
  | _ => 32 :: TL.joinL [44] (r.map fun x => [48 + x.2])
def words (p : List Nat) : List Nat := kindN (runL p) (p.count 42) p.length ++ tailN (runL p)
def rowsL : List (List Nat) := prims.filter fun p => rw1 p == p
theorem chunk {α : Type} {P : α → Prop} {l : List α} (n m : Nat) (hl : l.length ≤ n * m) (h : ∀ i, i < m → ∀ x ∈ (l.drop (n * i)).take n, P x) : ∀ x ∈ l, P x := fun x hx => by
  obtain ⟨k, hk, rfl⟩ := List.getElem_of_mem hx
  have hn : 0 < n := by
    by_cases z : 0 < n
    · exact z
    · have : n = 0 := by omega
      subst this
      omega
  have e1 := Nat.div_add_mod k n
  have e2 := Nat.mod_lt k hn
  refine h (k / n) ?_ _ ?_
  · have : n * (k / n) < n * m := by omega
    exact Nat.lt_of_mul_lt_mul_left this
  · refine List.mem_iff_getElem?.mpr ⟨k % n, ?_⟩
    rw [List.getElem?_take_of_lt e2, List.getElem?_drop, e1]
    exact List.getElem?_eq_getElem hk
end Ck01

set_option maxHeartbeats 4000000
namespace TL
open PySem PySem.Spec PyProof.Rows L2
@[simp] theorem lit_star : (("*" : String) : Str) = sl [42] := by decide +kernel
@[simp] theorem lit_dot : (("." : String) : Str) = sl [46] := by decide +kernel
@[simp] theorem lit_sd : (("*." : String) : Str) = sl [42, 46] := by decide +kernel
@[simp] theorem lit_ds : ((".*" : String) : Str) = sl [46, 42] := by decide +kernel
theorem take_sl {a : List Nat} {i : Int} (h : 0 ≤ i) (hl : a.length ≤ 1000000) : sliceT (.str (sl a)) none (some i) = some (.str (sl (a.take i.toNat))) := by
  show (if (sl a).length ≤ 1000000 then some (T.str (Txt.slice (sl a) none (some i))) else none) = _
  rw [sl_len, if_pos hl, show Txt.slice (sl a) none (some i) = sl (a.take i.toNat) from SX.slice_to h]
theorem drop_sl {a : List Nat} {i : Int} (h : 0 ≤ i) (hl : a.length ≤ 1000000) : sliceT (.str (sl a)) (some i) none = some (.str (sl (a.drop i.toNat))) := by
  show (if (sl a).length ≤ 1000000 then some (T.str (Txt.slice (sl a) (some i) none)) else none) = _
  rw [sl_len, if_pos hl, show Txt.slice (sl a) (some i) none = sl (a.drop i.toNat) from SX.slice_from h]
end TL
namespace Ck01
open PySem PySem.Spec PyProof.Rows L2 TL
section
variable {s p o : List Nat} {μ : Mu} {b k n beat many : Int} {P Q : Nat}
@[simp] theorem r_s : fldC ["Rhythm"] "signs" (rh s) = some (.str (sl s)) := by kernel_rfl
@[simp] theorem r_look : look μ (rh s) = some (rh s) := rfl
@[simp] theorem r_keep : keepT P (rh s) μ = some (.ok (rh s), μ) := rfl
@[simp] theorem r_keepA : keepA Q P (rh s) μ = some (.ok (rh s), μ) := rfl
@[simp] theorem i_li : isI "Rhythm" "lit_at" (some (rh s)) = true := by kernel_rfl
@[simp] theorem i_sf : isI "Rhythm" "shown_from" (some (rh s)) = true := by kernel_rfl
@[simp] theorem i_cy : isI "Rhythm" "cycle" (some (rh s)) = true := by kernel_rfl
@[simp] theorem i_sh : isI "Rhythm" "shortest" (some (rh s)) = true := by kernel_rfl
@[simp] theorem i_be : isI "Rhythm" "begun_at" (some (rh s)) = true := by kernel_rfl
@[simp] theorem i_fo : isI "Rhythm" "foremost" (some (rh s)) = true := by kernel_rfl
@[simp] theorem i_lb : isI "Rhythm" "lit_beats" (some (rh s)) = true := by kernel_rfl
@[simp] theorem i_ru : isI "Rhythm" "runs" (some (rh s)) = true := by kernel_rfl
@[simp] theorem i_ki : isI "Rhythm" "kind" (some (rh s)) = true := by kernel_rfl
@[simp] theorem i_fl : isI "Rhythm" "flashes" (some (rh s)) = true := by kernel_rfl
@[simp] theorem i_tr : isI "Rhythm" "turned_round" (some (rh s)) = true := by kernel_rfl
@[simp] theorem i_sa : isI "Rhythm" "said" (some (rh s)) = true := by kernel_rfl
@[simp] theorem ct60 : CT.t (CT.int 60) = T.int 60 := rfl
/-- signs of a rhythm -/
def okC (s : List Nat) : Prop := ∀ c ∈ s, c = 42 ∨ c = 46
theorem okC_S (h : okC s) : okS s = true := by
  unfold okS
  rw [List.all_eq_true]
  intro c hc
  rcases h c hc with rfl | rfl <;> rfl
theorem okC_app (h : okC s) (h' : okC p) : okC (s ++ p) := fun c hc => by
  rcases List.mem_append.mp hc with hc | hc
  · exact h c hc
  · exact h' c hc
theorem okC_take {n : Nat} (h : okC s) : okC (s.take n) := fun c hc => h c (List.mem_of_mem_take hc)
theorem okC_drop {n : Nat} (h : okC s) : okC (s.drop n) := fun c hc => h c (List.mem_of_mem_drop hc)
/-- Rhythm.__init__ -/
theorem L0 (h0 : 1 ≤ s.length) (h1 : s.length ≤ 60) (hc : okC s) : makeM 2 "Rhythm" (d0.G pr) [.str (sl s)] μ = some (.ok (rh s), μ) := by
  have e : d0.G pr [.sh 0, .str (sl s)] [(.ins "Rhythm" [], true)] = some (.ok .non, [(.ins "Rhythm" [("signs", .str (sl s))], true)]) := by
    rw [E0]
    have e1 : m0 [some (.sh 0), some (.str (sl s)), none] [(.ins "Rhythm" [], true)] = some (.nx [some (.sh 0), some (.str (sl s)), none], [(.ins "Rhythm" [("signs", .str (sl s))], true)]) := by
      unfold m0
      have h2 : (1 : Int) ≤ s.length ∧ (s.length : Int) ≤ 60 := by omega
      refine seq_if0 (or_ff ?_ (tru_of ?_)) ?_
      · simp [len_sl (show s.length ≤ 1000000 by omega), h2.1, h2.2]
      · refine (any0 (st := true) (μ := [(.ins "Rhythm" [], true)]) (ts := s.map fun c => .str (sl [c])) (fun _ => false) rfl fun t ht => ?_).trans ?_
        · obtain ⟨c, hcs, rfl⟩ := List.mem_map.mp ht
          refine ⟨_, rfl, ?_⟩
          have hm : c ∈ [42, 46] := by
            rcases hc c hcs with rfl | rfl <;> simp
          have e3 : inA true (.str (sl [c])) (.str (sl [42, 46])) = some (.bl false) := by
            rw [nin_sl, decide_eq_true hm]
            rfl
          simp [wipeE, e3]
        · simp
      · simp
        rfl
    exact run_non e1 rfl
  simp [e]
/-- a sign by beats -/
def chr (s : List Nat) (b : Int) : Nat := s.getD (b % s.length).toNat 0
def litB (s : List Nat) (b : Int) : Bool := decide (chr s b = 42)
theorem chr_at (h0 : 1 ≤ s.length) : L2.atI s (b % s.length) = some (chr s b) := by
  have m0 := Int.emod_nonneg b (show (s.length : Int) ≠ 0 by omega)
  have m1 := Int.emod_lt_of_pos b (show (0 : Int) < s.length by omega)
  have hl : (b % s.length).toNat < s.length := by omega
  have := at_nat (l := s) (n := (b % s.length).toNat) (List.getElem?_eq_getElem hl)
  rw [show (((b % s.length).toNat : Nat) : Int) = b % s.length by omega] at this
  rw [this]
  unfold chr
  simp [List.getD, List.getElem?_eq_getElem hl]
theorem chr_mem (h0 : 1 ≤ s.length) : chr s b ∈ s := by
  have m0 := Int.emod_nonneg b (show (s.length : Int) ≠ 0 by omega)
  have m1 := Int.emod_lt_of_pos b (show (0 : Int) < s.length by omega)
  have hl : (b % s.length).toNat < s.length := by omega
  unfold chr
  simp only [List.getD, List.getElem?_eq_getElem hl, Option.getD_some]
  exact List.getElem_mem hl
/-- lit_at -/
theorem L1 (h0 : 1 ≤ s.length) (h1 : s.length ≤ 60) (hc : okC s) (hb : 0 ≤ b) : d1.G pr [rh s, .int b] [] = some (.ok (.bl (litB s b)), []) := by
  rw [E1]
  have e : m1 [some (rh s), some (.int b)] [] = some (.rt (.bl (litB s b)), []) := by
    unfold m1
    have a : ¬ b < 0 := by omega
    refine seq_if0 (by simp [a]) ?_
    have e1 : ixA (.str (sl s)) (.int (b % s.length)) = some (.str (sl [chr s b])) := by
      rw [ix_sl (by omega), chr_at h0]
      rfl
    have hcc := hc _ (chr_mem (b := b) h0)
    have e2 : TL.eqT (.str (sl [chr s b])) (.str (sl [42])) = some (.bl (litB s b)) := by
      rw [f_eqS (by rcases hcc with h | h <;> rw [h] <;> decide) (by decide)]
      unfold litB
      simp
    have hlp : (0 : Int) < s.length := by omega
    simp [len_sl (show s.length ≤ 1000000 by omega), f_mod hlp, e1, e2]
  exact run_of e rfl
theorem L1x : d1.G pr [rh s, .int (0 - 1)] [] = some (.ex ⟨"BadLight", []⟩, []) := by
  rw [E1]
  have e : m1 [some (rh s), some (.int (0 - 1))] [] = some (.ex ⟨"BadLight", []⟩, []) := by simp [m1]
  exact run_exc e rfl
/-- shown_from -/
theorem L2 (h0 : 1 ≤ s.length) (h1 : s.length ≤ 60) (hc : okC s) (hb : 0 ≤ b) (hn : 0 ≤ n) (hn1 : n ≤ 1000) : d2.G pr [rh s, .int b, .int n] [] = some (.ok (.str (sl (rm n fun k => chr s (b + k)))), []) := by
  rw [E2]
  have e : m2 [some (rh s), some (.int b), some (.int n), none] [] = some (.rt (.str (sl (rm n fun k => chr s (b + k)))), []) := by
    unfold m2
    have a1 : ¬ b < 0 := by omega
    have a2 : ¬ n < 0 := by omega
    refine seq_if0 (by simp [a1, a2]) ?_
    refine ret_of (μ1 := []) (join_rm (n := n) (by omega) _ (rng1_of (N := n) (by simp) (by omega) (by omega)) fun k k0 k1 => ⟨_, rfl, ?_⟩) rfl
    have e1 := L1 (b := b + k) h0 h1 hc (by omega)
    have e2 : mTru (mMethD 0 "lit_at" [("Rhythm", ⟨2, 0, 9, d1.G pr⟩)] (mVar 0) (mCons (mBin addT (mVar 1) (mVar 3)) mNil)) [some (rh s), some (.int b), some (.int n), some (.int k)] [] = some (.ok (litB s (b + k)), []) := tru_of (meth_of (c := "Rhythm") (x := rh s) (μ1 := []) (xs := [.int (b + k)]) (by simp) i_li (by simp) rfl rfl e1)
    have hcc := hc _ (chr_mem (b := b + k) h0)
    show mIte _ _ _ [some (rh s), some (.int b), some (.int n), some (.int k)] [] = _
    rw [y_ite, x_bind, e2]
    unfold litB
    rcases hcc with h | h <;> rw [h] <;> simp
  exact run_of e rfl
end
end Ck01

set_option maxHeartbeats 4000000
namespace Ck01
open PySem PySem.Spec PyProof.Rows L2 TL
def inv (s : List Nat) : List Nat := s.map fun c => if c = 42 then 46 else 42
theorem binS_mem : ∀ (s : List Nat), okC s → s ∈ binS s.length
  | [], _ => by simp [binS]
  | c :: s, h => by
    have ih := binS_mem s fun d hd => h d (List.mem_cons_of_mem _ hd)
    show c :: s ∈ (binS s.length).map (42 :: ·) ++ (binS s.length).map (46 :: ·)
    rw [List.mem_append, List.mem_map, List.mem_map]
    rcases h c List.mem_cons_self with rfl | rfl
    · exact .inl ⟨s, ih, rfl⟩
    · exact .inr ⟨s, ih, rfl⟩
theorem all_mem {s : List Nat} (h0 : 1 ≤ s.length) (h1 : s.length ≤ 8) (h : okC s) : s ∈ allS := by
  have := binS_mem s h
  unfold allS
  simp only [List.mem_append]
  have hp : s.length = 1 ∨ s.length = 2 ∨ s.length = 3 ∨ s.length = 4 ∨ s.length = 5 ∨ s.length = 6 ∨ s.length = 7 ∨ s.length = 8 := by omega
  rcases hp with e | e | e | e | e | e | e | e <;> rw [e] at this
  · exact .inl this
  · exact .inr (.inl this)
  · exact .inr (.inr (.inl this))
  · exact .inr (.inr (.inr (.inl this)))
  · exact .inr (.inr (.inr (.inr (.inl this))))
  · exact .inr (.inr (.inr (.inr (.inr (.inl this)))))
  · exact .inr (.inr (.inr (.inr (.inr (.inr (.inl this))))))
  · exact .inr (.inr (.inr (.inr (.inr (.inr (.inr this))))))
theorem c_all : allS.all (fun s => (decide (1 ≤ s.length) && decide (s.length ≤ 8)) && (s.all (fun c => c == 42 || c == 46) && ((decide (1 ≤ cyc s) && (decide (cyc s ≤ s.length) && cyc (sh s) == cyc s)) && (sh (inv s)).count 42 + (sh s).count 42 == (sh s).length))) = true := by kernel_rfl
theorem c_prims : prims.all (fun p => ((rots p).all (fun x => fore x == fore p) && ((rots p).contains (fore p) && ((rots (fore p)).all (fun x => (rots p).contains x) && (rots (fore p)).contains p))) && ((rots p).contains (rw1 p) && (rw1 (rw1 p) == rw1 p && (cyc (rw1 p) == p.length && ((rw1 p).count 42 == p.count 42 && (rw1 p).length == p.length)))) && ((runL p).length != 0 && ((runL p).all (fun x => (x.1 == 42 || x.1 == 46) && decide (x.2 ≤ 9)) && ((runL p).length != 1 || p == [((runL p).headD (0, 0)).1])))) = true := by kernel_rfl
theorem t_cnt : allS.map (fun p => T.int (Txt.count (sl p) (sl [42]))) = mp (fun p => T.int ((p.count 42 : Nat) : Int)) allS := by kernel_rfl
structure Sg (s : List Nat) : Prop where
  m : s ∈ allS
  l0 : 1 ≤ s.length
  l1 : s.length ≤ 8
  c : okC s
  c0 : 1 ≤ cyc s
  c1 : cyc s ≤ s.length
  cc : cyc (sh s) = cyc s
  iv : (sh (inv s)).count 42 + (sh s).count 42 = (sh s).length
theorem sg_of {s : List Nat} (h0 : 1 ≤ s.length) (h1 : s.length ≤ 8) (h : okC s) : Sg s := by
  have m := all_mem h0 h1 h
  have := List.all_eq_true.mp c_all _ m
  simp only [Bool.and_eq_true, decide_eq_true_eq, beq_iff_eq] at this
  exact ⟨m, h0, h1, h, this.2.2.1.1, this.2.2.1.2.1, this.2.2.1.2.2, this.2.2.2⟩
theorem Sg.of_mem {s : List Nat} (m : s ∈ allS) : Sg s := by
  have := List.all_eq_true.mp c_all _ m
  simp only [Bool.and_eq_true, decide_eq_true_eq, beq_iff_eq, List.all_eq_true, Bool.or_eq_true] at this
  exact sg_of this.1.1 this.1.2 this.2.1
section
variable {s p o : List Nat} {μ : Mu} {b k n beat many : Int}
theorem sh_len (h : Sg s) : (sh s).length = cyc s := by
  unfold sh
  rw [List.length_take]
  have := h.c1
  omega
theorem Sg.sh (h : Sg s) : Sg (sh s) := sg_of (by rw [sh_len h]; exact h.c0) (by rw [sh_len h]; have := h.c1; have := h.l1; omega) (okC_take h.c)
theorem prim_sh (h : Sg s) : Ck01.sh s ∈ prims := List.mem_filter.mpr ⟨h.sh.m, by rw [beq_iff_eq, h.cc, sh_len h]⟩
structure Pr (p : List Nat) : Prop where
  m : p ∈ prims
  g : Sg p
  cp : cyc p = p.length
  f1 : ∀ x ∈ rots p, fore x = fore p
  f2 : fore p ∈ rots p
  f3 : ∀ x ∈ rots (fore p), x ∈ rots p
  f4 : p ∈ rots (fore p)
  r1 : rw1 p ∈ rots p
  r2 : rw1 (rw1 p) = rw1 p
  r3 : cyc (rw1 p) = p.length
  r4 : (rw1 p).count 42 = p.count 42
  r5 : (rw1 p).length = p.length
  u0 : (runL p).length ≠ 0
  u1 : ∀ x ∈ runL p, (x.1 = 42 ∨ x.1 = 46) ∧ x.2 ≤ 9
  u2 : (runL p).length = 1 → p = [((runL p).headD (0, 0)).1]
theorem pr_of (m : p ∈ prims) : Pr p := by
  have g := Sg.of_mem (List.mem_filter.mp m).1
  have cp : cyc p = p.length := by
    have := (List.mem_filter.mp m).2
    rwa [beq_iff_eq] at this
  have := List.all_eq_true.mp c_prims _ m
  simp only [Bool.and_eq_true, decide_eq_true_eq, beq_iff_eq, List.all_eq_true, Bool.or_eq_true, List.contains_iff_mem, bne_iff_ne, ne_eq] at this
  obtain ⟨⟨⟨a1, a2, a3, a4⟩, b1, b2, b3, b4, b5⟩, c1, c2, c3⟩ := this
  refine ⟨m, g, cp, a1, a2, a3, a4, b1, b2, b3, b4, b5, c1, c2, fun h => ?_⟩
  rcases c3 with c3 | c3
  · exact absurd h c3
  · exact c3
end
theorem c_rl : prims.all (fun p => decide ((runL p).length ≤ 8)) = true := by kernel_rfl
end Ck01

set_option maxHeartbeats 4000000
namespace Ck01
open PySem PySem.Spec PyProof.Rows L2 TL
theorem t3_0 : ((allS.drop (64 * 0)).take 64).map (fun s => g3 [rh s] []) = mp (fun s => some (Res.ok (T.int (cyc s)), [])) ((allS.drop (64 * 0)).take 64) := by kernel_rfl
theorem t3_1 : ((allS.drop (64 * 1)).take 64).map (fun s => g3 [rh s] []) = mp (fun s => some (Res.ok (T.int (cyc s)), [])) ((allS.drop (64 * 1)).take 64) := by kernel_rfl
theorem t3_2 : ((allS.drop (64 * 2)).take 64).map (fun s => g3 [rh s] []) = mp (fun s => some (Res.ok (T.int (cyc s)), [])) ((allS.drop (64 * 2)).take 64) := by kernel_rfl
theorem t3_3 : ((allS.drop (64 * 3)).take 64).map (fun s => g3 [rh s] []) = mp (fun s => some (Res.ok (T.int (cyc s)), [])) ((allS.drop (64 * 3)).take 64) := by kernel_rfl
theorem t3_4 : ((allS.drop (64 * 4)).take 64).map (fun s => g3 [rh s] []) = mp (fun s => some (Res.ok (T.int (cyc s)), [])) ((allS.drop (64 * 4)).take 64) := by kernel_rfl
theorem t3_5 : ((allS.drop (64 * 5)).take 64).map (fun s => g3 [rh s] []) = mp (fun s => some (Res.ok (T.int (cyc s)), [])) ((allS.drop (64 * 5)).take 64) := by kernel_rfl
theorem t3_6 : ((allS.drop (64 * 6)).take 64).map (fun s => g3 [rh s] []) = mp (fun s => some (Res.ok (T.int (cyc s)), [])) ((allS.drop (64 * 6)).take 64) := by kernel_rfl
theorem t3_7 : ((allS.drop (64 * 7)).take 64).map (fun s => g3 [rh s] []) = mp (fun s => some (Res.ok (T.int (cyc s)), [])) ((allS.drop (64 * 7)).take 64) := by kernel_rfl
theorem t3 : ∀ s ∈ allS, (fun s => g3 [rh s] []) s = (fun s => some (Res.ok (T.int (cyc s)), [])) s := by
  refine chunk (l := allS) 64 8 (Nat.le_trans (Nat.le_of_eq (by kernel_rfl : allS.length = 510)) (by decide)) fun i hi => ?_
  have hc : i = 0 ∨ i = 1 ∨ i = 2 ∨ i = 3 ∨ i = 4 ∨ i = 5 ∨ i = 6 ∨ i = 7 := by omega
  rcases hc with rfl | rfl | rfl | rfl | rfl | rfl | rfl | rfl
  · exact of_map t3_0
  · exact of_map t3_1
  · exact of_map t3_2
  · exact of_map t3_3
  · exact of_map t3_4
  · exact of_map t3_5
  · exact of_map t3_6
  · exact of_map t3_7
theorem t25_0 : ((allS.drop (64 * 0)).take 64).map (fun s => g25 [.str (sl s)] []) = mp (fun s => some (Res.ok (T.str (sl (sh s))), [])) ((allS.drop (64 * 0)).take 64) := by kernel_rfl
theorem t25_1 : ((allS.drop (64 * 1)).take 64).map (fun s => g25 [.str (sl s)] []) = mp (fun s => some (Res.ok (T.str (sl (sh s))), [])) ((allS.drop (64 * 1)).take 64) := by kernel_rfl
theorem t25_2 : ((allS.drop (64 * 2)).take 64).map (fun s => g25 [.str (sl s)] []) = mp (fun s => some (Res.ok (T.str (sl (sh s))), [])) ((allS.drop (64 * 2)).take 64) := by kernel_rfl
theorem t25_3 : ((allS.drop (64 * 3)).take 64).map (fun s => g25 [.str (sl s)] []) = mp (fun s => some (Res.ok (T.str (sl (sh s))), [])) ((allS.drop (64 * 3)).take 64) := by kernel_rfl
theorem t25_4 : ((allS.drop (64 * 4)).take 64).map (fun s => g25 [.str (sl s)] []) = mp (fun s => some (Res.ok (T.str (sl (sh s))), [])) ((allS.drop (64 * 4)).take 64) := by kernel_rfl
theorem t25_5 : ((allS.drop (64 * 5)).take 64).map (fun s => g25 [.str (sl s)] []) = mp (fun s => some (Res.ok (T.str (sl (sh s))), [])) ((allS.drop (64 * 5)).take 64) := by kernel_rfl
theorem t25_6 : ((allS.drop (64 * 6)).take 64).map (fun s => g25 [.str (sl s)] []) = mp (fun s => some (Res.ok (T.str (sl (sh s))), [])) ((allS.drop (64 * 6)).take 64) := by kernel_rfl
theorem t25_7 : ((allS.drop (64 * 7)).take 64).map (fun s => g25 [.str (sl s)] []) = mp (fun s => some (Res.ok (T.str (sl (sh s))), [])) ((allS.drop (64 * 7)).take 64) := by kernel_rfl
theorem t25 : ∀ s ∈ allS, (fun s => g25 [.str (sl s)] []) s = (fun s => some (Res.ok (T.str (sl (sh s))), [])) s := by
  refine chunk (l := allS) 64 8 (Nat.le_trans (Nat.le_of_eq (by kernel_rfl : allS.length = 510)) (by decide)) fun i hi => ?_
  have hc : i = 0 ∨ i = 1 ∨ i = 2 ∨ i = 3 ∨ i = 4 ∨ i = 5 ∨ i = 6 ∨ i = 7 := by omega
  rcases hc with rfl | rfl | rfl | rfl | rfl | rfl | rfl | rfl
  · exact of_map t25_0
  · exact of_map t25_1
  · exact of_map t25_2
  · exact of_map t25_3
  · exact of_map t25_4
  · exact of_map t25_5
  · exact of_map t25_6
  · exact of_map t25_7
theorem tmin_0 : ((prims.drop (64 * 0)).take 64).map (fun p => minT [.lst ((rots p).map fun a => .str (sl a))]) = mp (fun p => some (T.str (sl (fore p)))) ((prims.drop (64 * 0)).take 64) := by kernel_rfl
theorem tmin_1 : ((prims.drop (64 * 1)).take 64).map (fun p => minT [.lst ((rots p).map fun a => .str (sl a))]) = mp (fun p => some (T.str (sl (fore p)))) ((prims.drop (64 * 1)).take 64) := by kernel_rfl
theorem tmin_2 : ((prims.drop (64 * 2)).take 64).map (fun p => minT [.lst ((rots p).map fun a => .str (sl a))]) = mp (fun p => some (T.str (sl (fore p)))) ((prims.drop (64 * 2)).take 64) := by kernel_rfl
theorem tmin_3 : ((prims.drop (64 * 3)).take 64).map (fun p => minT [.lst ((rots p).map fun a => .str (sl a))]) = mp (fun p => some (T.str (sl (fore p)))) ((prims.drop (64 * 3)).take 64) := by kernel_rfl
theorem tmin_4 : ((prims.drop (64 * 4)).take 64).map (fun p => minT [.lst ((rots p).map fun a => .str (sl a))]) = mp (fun p => some (T.str (sl (fore p)))) ((prims.drop (64 * 4)).take 64) := by kernel_rfl
theorem tmin_5 : ((prims.drop (64 * 5)).take 64).map (fun p => minT [.lst ((rots p).map fun a => .str (sl a))]) = mp (fun p => some (T.str (sl (fore p)))) ((prims.drop (64 * 5)).take 64) := by kernel_rfl
theorem tmin_6 : ((prims.drop (64 * 6)).take 64).map (fun p => minT [.lst ((rots p).map fun a => .str (sl a))]) = mp (fun p => some (T.str (sl (fore p)))) ((prims.drop (64 * 6)).take 64) := by kernel_rfl
theorem tmin_7 : ((prims.drop (64 * 7)).take 64).map (fun p => minT [.lst ((rots p).map fun a => .str (sl a))]) = mp (fun p => some (T.str (sl (fore p)))) ((prims.drop (64 * 7)).take 64) := by kernel_rfl
theorem tmin : ∀ s ∈ prims, (fun p => minT [.lst ((rots p).map fun a => .str (sl a))]) s = (fun p => some (T.str (sl (fore p)))) s := by
  refine chunk (l := prims) 64 8 (Nat.le_trans (Nat.le_of_eq (by kernel_rfl : prims.length = 472)) (by decide)) fun i hi => ?_
  have hc : i = 0 ∨ i = 1 ∨ i = 2 ∨ i = 3 ∨ i = 4 ∨ i = 5 ∨ i = 6 ∨ i = 7 := by omega
  rcases hc with rfl | rfl | rfl | rfl | rfl | rfl | rfl | rfl
  · exact of_map tmin_0
  · exact of_map tmin_1
  · exact of_map tmin_2
  · exact of_map tmin_3
  · exact of_map tmin_4
  · exact of_map tmin_5
  · exact of_map tmin_6
  · exact of_map tmin_7
end Ck01

set_option maxHeartbeats 4000000
namespace Ck01
open PySem PySem.Spec PyProof.Rows L2 TL
theorem t8_0 : ((allS.drop (32 * 0)).take 32).map (fun s => g8 [rh s] []) = mp (fun s => some (Res.ok (T.tup (runT (sh s))), [])) ((allS.drop (32 * 0)).take 32) := by kernel_rfl
theorem t8_1 : ((allS.drop (32 * 1)).take 32).map (fun s => g8 [rh s] []) = mp (fun s => some (Res.ok (T.tup (runT (sh s))), [])) ((allS.drop (32 * 1)).take 32) := by kernel_rfl
theorem t8_2 : ((allS.drop (32 * 2)).take 32).map (fun s => g8 [rh s] []) = mp (fun s => some (Res.ok (T.tup (runT (sh s))), [])) ((allS.drop (32 * 2)).take 32) := by kernel_rfl
theorem t8_3 : ((allS.drop (32 * 3)).take 32).map (fun s => g8 [rh s] []) = mp (fun s => some (Res.ok (T.tup (runT (sh s))), [])) ((allS.drop (32 * 3)).take 32) := by kernel_rfl
theorem t8_4 : ((allS.drop (32 * 4)).take 32).map (fun s => g8 [rh s] []) = mp (fun s => some (Res.ok (T.tup (runT (sh s))), [])) ((allS.drop (32 * 4)).take 32) := by kernel_rfl
theorem t8_5 : ((allS.drop (32 * 5)).take 32).map (fun s => g8 [rh s] []) = mp (fun s => some (Res.ok (T.tup (runT (sh s))), [])) ((allS.drop (32 * 5)).take 32) := by kernel_rfl
theorem t8_6 : ((allS.drop (32 * 6)).take 32).map (fun s => g8 [rh s] []) = mp (fun s => some (Res.ok (T.tup (runT (sh s))), [])) ((allS.drop (32 * 6)).take 32) := by kernel_rfl
theorem t8_7 : ((allS.drop (32 * 7)).take 32).map (fun s => g8 [rh s] []) = mp (fun s => some (Res.ok (T.tup (runT (sh s))), [])) ((allS.drop (32 * 7)).take 32) := by kernel_rfl
theorem t8_8 : ((allS.drop (32 * 8)).take 32).map (fun s => g8 [rh s] []) = mp (fun s => some (Res.ok (T.tup (runT (sh s))), [])) ((allS.drop (32 * 8)).take 32) := by kernel_rfl
theorem t8_9 : ((allS.drop (32 * 9)).take 32).map (fun s => g8 [rh s] []) = mp (fun s => some (Res.ok (T.tup (runT (sh s))), [])) ((allS.drop (32 * 9)).take 32) := by kernel_rfl
theorem t8_10 : ((allS.drop (32 * 10)).take 32).map (fun s => g8 [rh s] []) = mp (fun s => some (Res.ok (T.tup (runT (sh s))), [])) ((allS.drop (32 * 10)).take 32) := by kernel_rfl
theorem t8_11 : ((allS.drop (32 * 11)).take 32).map (fun s => g8 [rh s] []) = mp (fun s => some (Res.ok (T.tup (runT (sh s))), [])) ((allS.drop (32 * 11)).take 32) := by kernel_rfl
theorem t8_12 : ((allS.drop (32 * 12)).take 32).map (fun s => g8 [rh s] []) = mp (fun s => some (Res.ok (T.tup (runT (sh s))), [])) ((allS.drop (32 * 12)).take 32) := by kernel_rfl
theorem t8_13 : ((allS.drop (32 * 13)).take 32).map (fun s => g8 [rh s] []) = mp (fun s => some (Res.ok (T.tup (runT (sh s))), [])) ((allS.drop (32 * 13)).take 32) := by kernel_rfl
theorem t8_14 : ((allS.drop (32 * 14)).take 32).map (fun s => g8 [rh s] []) = mp (fun s => some (Res.ok (T.tup (runT (sh s))), [])) ((allS.drop (32 * 14)).take 32) := by kernel_rfl
theorem t8_15 : ((allS.drop (32 * 15)).take 32).map (fun s => g8 [rh s] []) = mp (fun s => some (Res.ok (T.tup (runT (sh s))), [])) ((allS.drop (32 * 15)).take 32) := by kernel_rfl
theorem t8 : ∀ s ∈ allS, (fun s => g8 [rh s] []) s = (fun s => some (Res.ok (T.tup (runT (sh s))), [])) s := by
  refine chunk (l := allS) 32 16 (Nat.le_trans (Nat.le_of_eq (by kernel_rfl : allS.length = 510)) (by decide)) fun i hi => ?_
  have hc : i = 0 ∨ i = 1 ∨ i = 2 ∨ i = 3 ∨ i = 4 ∨ i = 5 ∨ i = 6 ∨ i = 7 ∨ i = 8 ∨ i = 9 ∨ i = 10 ∨ i = 11 ∨ i = 12 ∨ i = 13 ∨ i = 14 ∨ i = 15 := by omega
  rcases hc with rfl | rfl | rfl | rfl | rfl | rfl | rfl | rfl | rfl | rfl | rfl | rfl | rfl | rfl | rfl | rfl
  · exact of_map t8_0
  · exact of_map t8_1
  · exact of_map t8_2
  · exact of_map t8_3
  · exact of_map t8_4
  · exact of_map t8_5
  · exact of_map t8_6
  · exact of_map t8_7
  · exact of_map t8_8
  · exact of_map t8_9
  · exact of_map t8_10
  · exact of_map t8_11
  · exact of_map t8_12
  · exact of_map t8_13
  · exact of_map t8_14
  · exact of_map t8_15
end Ck01

set_option maxHeartbeats 4000000
namespace Ck01
open PySem PySem.Spec PyProof.Rows L2 TL
theorem t26_0 : ((prims.drop (32 * 0)).take 32).map (fun p => g26 [.str (sl p)] []) = mp (fun p => some (Res.ok (T.lst (runT p)), [])) ((prims.drop (32 * 0)).take 32) := by kernel_rfl
theorem t26_1 : ((prims.drop (32 * 1)).take 32).map (fun p => g26 [.str (sl p)] []) = mp (fun p => some (Res.ok (T.lst (runT p)), [])) ((prims.drop (32 * 1)).take 32) := by kernel_rfl
theorem t26_2 : ((prims.drop (32 * 2)).take 32).map (fun p => g26 [.str (sl p)] []) = mp (fun p => some (Res.ok (T.lst (runT p)), [])) ((prims.drop (32 * 2)).take 32) := by kernel_rfl
theorem t26_3 : ((prims.drop (32 * 3)).take 32).map (fun p => g26 [.str (sl p)] []) = mp (fun p => some (Res.ok (T.lst (runT p)), [])) ((prims.drop (32 * 3)).take 32) := by kernel_rfl
theorem t26_4 : ((prims.drop (32 * 4)).take 32).map (fun p => g26 [.str (sl p)] []) = mp (fun p => some (Res.ok (T.lst (runT p)), [])) ((prims.drop (32 * 4)).take 32) := by kernel_rfl
theorem t26_5 : ((prims.drop (32 * 5)).take 32).map (fun p => g26 [.str (sl p)] []) = mp (fun p => some (Res.ok (T.lst (runT p)), [])) ((prims.drop (32 * 5)).take 32) := by kernel_rfl
theorem t26_6 : ((prims.drop (32 * 6)).take 32).map (fun p => g26 [.str (sl p)] []) = mp (fun p => some (Res.ok (T.lst (runT p)), [])) ((prims.drop (32 * 6)).take 32) := by kernel_rfl
theorem t26_7 : ((prims.drop (32 * 7)).take 32).map (fun p => g26 [.str (sl p)] []) = mp (fun p => some (Res.ok (T.lst (runT p)), [])) ((prims.drop (32 * 7)).take 32) := by kernel_rfl
theorem t26_8 : ((prims.drop (32 * 8)).take 32).map (fun p => g26 [.str (sl p)] []) = mp (fun p => some (Res.ok (T.lst (runT p)), [])) ((prims.drop (32 * 8)).take 32) := by kernel_rfl
theorem t26_9 : ((prims.drop (32 * 9)).take 32).map (fun p => g26 [.str (sl p)] []) = mp (fun p => some (Res.ok (T.lst (runT p)), [])) ((prims.drop (32 * 9)).take 32) := by kernel_rfl
theorem t26_10 : ((prims.drop (32 * 10)).take 32).map (fun p => g26 [.str (sl p)] []) = mp (fun p => some (Res.ok (T.lst (runT p)), [])) ((prims.drop (32 * 10)).take 32) := by kernel_rfl
theorem t26_11 : ((prims.drop (32 * 11)).take 32).map (fun p => g26 [.str (sl p)] []) = mp (fun p => some (Res.ok (T.lst (runT p)), [])) ((prims.drop (32 * 11)).take 32) := by kernel_rfl
theorem t26_12 : ((prims.drop (32 * 12)).take 32).map (fun p => g26 [.str (sl p)] []) = mp (fun p => some (Res.ok (T.lst (runT p)), [])) ((prims.drop (32 * 12)).take 32) := by kernel_rfl
theorem t26_13 : ((prims.drop (32 * 13)).take 32).map (fun p => g26 [.str (sl p)] []) = mp (fun p => some (Res.ok (T.lst (runT p)), [])) ((prims.drop (32 * 13)).take 32) := by kernel_rfl
theorem t26_14 : ((prims.drop (32 * 14)).take 32).map (fun p => g26 [.str (sl p)] []) = mp (fun p => some (Res.ok (T.lst (runT p)), [])) ((prims.drop (32 * 14)).take 32) := by kernel_rfl
theorem t26 : ∀ s ∈ prims, (fun p => g26 [.str (sl p)] []) s = (fun p => some (Res.ok (T.lst (runT p)), [])) s := by
  refine chunk (l := prims) 32 15 (Nat.le_trans (Nat.le_of_eq (by kernel_rfl : prims.length = 472)) (by decide)) fun i hi => ?_
  have hc : i = 0 ∨ i = 1 ∨ i = 2 ∨ i = 3 ∨ i = 4 ∨ i = 5 ∨ i = 6 ∨ i = 7 ∨ i = 8 ∨ i = 9 ∨ i = 10 ∨ i = 11 ∨ i = 12 ∨ i = 13 ∨ i = 14 := by omega
  rcases hc with rfl | rfl | rfl | rfl | rfl | rfl | rfl | rfl | rfl | rfl | rfl | rfl | rfl | rfl | rfl
  · exact of_map t26_0
  · exact of_map t26_1
  · exact of_map t26_2
  · exact of_map t26_3
  · exact of_map t26_4
  · exact of_map t26_5
  · exact of_map t26_6
  · exact of_map t26_7
  · exact of_map t26_8
  · exact of_map t26_9
  · exact of_map t26_10
  · exact of_map t26_11
  · exact of_map t26_12
  · exact of_map t26_13
  · exact of_map t26_14
end Ck01

set_option maxHeartbeats 4000000
namespace Ck01
open PySem PySem.Spec PyProof.Rows L2 TL
theorem t13_0 : ((rowsL.drop (16 * 0)).take 16).map (fun r => g13 [.str (sl (words r))] []) = mp (fun r => some (Res.ok (rh r), [])) ((rowsL.drop (16 * 0)).take 16) := by kernel_rfl
theorem t13_1 : ((rowsL.drop (16 * 1)).take 16).map (fun r => g13 [.str (sl (words r))] []) = mp (fun r => some (Res.ok (rh r), [])) ((rowsL.drop (16 * 1)).take 16) := by kernel_rfl
theorem t13_2 : ((rowsL.drop (16 * 2)).take 16).map (fun r => g13 [.str (sl (words r))] []) = mp (fun r => some (Res.ok (rh r), [])) ((rowsL.drop (16 * 2)).take 16) := by kernel_rfl
theorem t13_3 : ((rowsL.drop (16 * 3)).take 16).map (fun r => g13 [.str (sl (words r))] []) = mp (fun r => some (Res.ok (rh r), [])) ((rowsL.drop (16 * 3)).take 16) := by kernel_rfl
theorem t13_4 : ((rowsL.drop (16 * 4)).take 16).map (fun r => g13 [.str (sl (words r))] []) = mp (fun r => some (Res.ok (rh r), [])) ((rowsL.drop (16 * 4)).take 16) := by kernel_rfl
theorem t13_5 : ((rowsL.drop (16 * 5)).take 16).map (fun r => g13 [.str (sl (words r))] []) = mp (fun r => some (Res.ok (rh r), [])) ((rowsL.drop (16 * 5)).take 16) := by kernel_rfl
theorem t13_6 : ((rowsL.drop (16 * 6)).take 16).map (fun r => g13 [.str (sl (words r))] []) = mp (fun r => some (Res.ok (rh r), [])) ((rowsL.drop (16 * 6)).take 16) := by kernel_rfl
theorem t13_7 : ((rowsL.drop (16 * 7)).take 16).map (fun r => g13 [.str (sl (words r))] []) = mp (fun r => some (Res.ok (rh r), [])) ((rowsL.drop (16 * 7)).take 16) := by kernel_rfl
theorem t13 : ∀ s ∈ rowsL, (fun r => g13 [.str (sl (words r))] []) s = (fun r => some (Res.ok (rh r), [])) s := by
  refine chunk (l := rowsL) 16 8 (Nat.le_trans (Nat.le_of_eq (by kernel_rfl : rowsL.length = 121)) (by decide)) fun i hi => ?_
  have hc : i = 0 ∨ i = 1 ∨ i = 2 ∨ i = 3 ∨ i = 4 ∨ i = 5 ∨ i = 6 ∨ i = 7 := by omega
  rcases hc with rfl | rfl | rfl | rfl | rfl | rfl | rfl | rfl
  · exact of_map t13_0
  · exact of_map t13_1
  · exact of_map t13_2
  · exact of_map t13_3
  · exact of_map t13_4
  · exact of_map t13_5
  · exact of_map t13_6
  · exact of_map t13_7
end Ck01

set_option maxHeartbeats 4000000
namespace Ck01
open PySem PySem.Spec PyProof.Rows L2 TL
def prs : List (Nat × Nat) := (List.range 64).map fun k => (1 + k / 8, 1 + k % 8)
abbrev lcC : TL.Env → M Bool := (asB (mBin TL.neT (mBin modT (mVar 4) (mVar 3)) (mCst (.int 0))))
abbrev lcB : Sm := (fun ρ μ => if liveAt 4 ρ μ = true then mExt 4 0 (mVar 2) ρ μ else mAug 4 iaddT (mVar 2) ρ μ)
theorem lc_t (r0 r1 r5 : Option T) (μ : Mu) : prs.map (fun x => whileF lcC lcB turns [r0, r1, some (.int x.1), some (.int x.2), some (.int x.1), r5] μ) = mp (fun x => some (SR.nx [r0, r1, some (.int x.1), some (.int x.2), some (.int (Nat.lcm x.1 x.2 : Nat)), r5], μ)) prs := by kernel_rfl
theorem st_t : prs.map (fun x => ((rng 1 61).filter fun t => decide (ival t % (x.1 : Int) = 0) && decide (ival t % (x.2 : Int) = 0)).head?) = mp (fun x => some (T.int (Nat.lcm x.1 x.2 : Nat))) prs := by kernel_rfl
theorem l56 : prs.all (fun x => decide (1 ≤ Nat.lcm x.1 x.2) && decide (Nat.lcm x.1 x.2 ≤ 56)) = true := by kernel_rfl
theorem prs_mem {a b : Nat} (a0 : 1 ≤ a) (a1 : a ≤ 8) (b0 : 1 ≤ b) (b1 : b ≤ 8) : (a, b) ∈ prs := by
  refine List.mem_map.mpr ⟨8 * (a - 1) + (b - 1), List.mem_range.mpr (by omega), ?_⟩
  rw [Prod.mk.injEq]
  omega
def arL : Nat → List (List Nat)
  | 1 => [[42], [46]]
  | 2 => [[42, 46]]
  | 3 => [[42, 42, 46], [42, 46, 46]]
  | 4 => [[42, 42, 42, 46], [42, 42, 46, 46], [42, 46, 46, 46]]
  | 5 => [[42, 42, 42, 42, 46], [42, 42, 42, 46, 46], [42, 42, 46, 42, 46], [42, 42, 46, 46, 46], [42, 46, 42, 46, 46], [42, 46, 46, 46, 46]]
  | _ => []
abbrev sA : Sm := (mIf (mNotT (asB (mChain leT leT (mCst (.int 1)) (mVar 0) (mCst (.int 10))))) (mRaise "BadLight") mSkip)
abbrev sB : Sm := (mSet 1 (mLst 0 (mCons (mCst (.str "")) mNil)))
abbrev sC : Sm := (mFor (mRng1 (mCons (mVar 0) mNil)) (bNm 2) (mSet 1 (mOf (mLc2 0 [3, 4] [4] (mIter 0 (mVar 1)) (bNm 3) mYes (mIter 0 (mCst (.str "*."))) (bNm 4) mYes (mBin addT (mVar 3) (mVar 4))))))
abbrev sD : Sm := (mSet 1 (mOf (mLc 0 [3] (mIter 0 (mVar 1)) (bNm 3) (asB (mBin TL.eqT (mMethD 0 "cycle" [("Rhythm", ⟨1, 0, 9, g3⟩)] (mMake 0 2 "Rhythm" g0 (mCons (mVar 3) mNil)) mNil) (mVar 0))) (mVar 3))))
abbrev sE : TL.Env → M T := (mOf (mLc 0 [3] (mIter 0 (mVar 1)) (bNm 3) (asB (mBin TL.eqT (mUn (fldC ["Rhythm"] "signs") (mMethD 0 "foremost" [("Rhythm", ⟨1, 0, 25, g6⟩)] (mMake 0 2 "Rhythm" g0 (mCons (mVar 3) mNil)) mNil)) (mVar 3))) (mVar 3)))
theorem c18_eq : c18 = mSeq sA (mSeq sB (mSeq sC (mSeq sD (mRet 0 (mCB tupleT (mCons (mCB sortT (mCons sE mNil)) mNil)))))) := rfl
theorem seq_as {f g h : Sm} {ρ : TL.Env} {μ : Mu} : mSeq f (mSeq g h) ρ μ = mSeq (mSeq f g) h ρ μ := by
  simp only [y_seq]
  cases f ρ μ with
  | none => rfl
  | some r =>
    obtain ⟨r, μ'⟩ := r
    cases r <;> rfl
def wkL (k : Nat) : List T := ((binS k).filter fun s => cyc s == k).map fun a => .str (sl a)
def wkE (k : Nat) : TL.Env := [some (.int k), some (.lst (wkL k)), some (.int ((k : Int) - 1)), none, none]
theorem ar1 : [1, 2, 3, 4, 5].map (fun (k : Nat) => (mSeq sA (mSeq sB (mSeq sC sD))) [some (.int k), none, none, none, none] []) = mp (fun (k : Nat) => some (SR.nx (wkE k), [])) [1, 2, 3, 4, 5] := by kernel_rfl
theorem ar2 : [1, 2, 3, 4, 5].map (fun (k : Nat) => sE (wkE k) []) = mp (fun (k : Nat) => some (Res.ok (T.lst ((arL k).map fun a => .str (sl a))), [])) [1, 2, 3, 4, 5] := by kernel_rfl
theorem ar3 : ∀ k ∈ [1, 2, 3, 4, 5], sortT [.lst ((arL k).map fun a => .str (sl a))] = some (T.lst ((arL k).map fun a => .str (sl a))) := by
  intro k hk
  have e : toDs ((arL k).map fun a => T.str (sl a)) = some ((arL k).map fun a => PyData.str (sl a)) := by
    generalize arL k = l
    induction l with
    | nil => rfl
    | cons x r ih => rw [List.map_cons]; unfold toDs; rw [ih]; rfl
  have hc : k = 1 ∨ k = 2 ∨ k = 3 ∨ k = 4 ∨ k = 5 := by simpa using hk
  have s : sortL ((arL k).map fun a => T.str (sl a)) ((arL k).map fun a => PyData.str (sl a)) = (arL k).map fun a => T.str (sl a) := by
    unfold sortL
    rw [List.mergeSort_of_pairwise]
    · rcases hc with rfl | rfl | rfl | rfl | rfl <;> rfl
    · rcases hc with rfl | rfl | rfl | rfl | rfl <;> decide +kernel
  unfold sortT
  simp only [e]
  rw [if_pos (by rcases hc with rfl | rfl | rfl | rfl | rfl <;> decide +kernel), s]
/-- all_rhythms -/
theorem L18 {k : Nat} (hk : k ∈ [1, 2, 3, 4, 5]) : d18.G pr [.int k] [] = some (.ok (.tup ((arL k).map fun a => .str (sl a))), []) := by
  rw [C18]
  show runB 0 5 c18 _ _ = _
  have e1 := of_map ar1 k hk
  have e2 := of_map ar2 k hk
  try dsimp only at e1
  try dsimp only at e2
  have e : c18 [some (.int k), none, none, none, none] [] = some (.rt (.tup ((arL k).map fun a => .str (sl a))), []) := by
    rw [c18_eq, seq_as, seq_as, seq_as]
    rw [seq_as, seq_as] at e1
    refine seq_nx e1 ?_
    refine ret_of (t := .tup ((arL k).map fun a => .str (sl a))) (μ1 := []) (cb_of (xs := [.lst ((arL k).map fun a => .str (sl a))]) (cons_of (μ1 := []) (cb_of (xs := [.lst ((arL k).map fun a => .str (sl a))]) (cons_of (μ1 := []) e2 rfl) rfl (ar3 k hk)) rfl) rfl rfl) rfl
  exact run_of e rfl
theorem hm_t : [1, 2, 3, 4, 5].map (fun (k : Nat) => g16 [.int k] []) = mp (fun (k : Nat) => some (Res.ok (T.int (arL k).length), [])) [1, 2, 3, 4, 5] := by kernel_rfl
abbrev mbE (g : FM) : TL.Env → M T := (mCB sumT (mCons (mOf (mLc 1 [6] (mRng2 (mCons (mCst (.int 1)) (mCons (mBin addT (mVar 5) (mCst (.int 1))) mNil))) (bNm 6) (asB (mBin TL.eqT (mBin modT (mVar 5) (mVar 6)) (mCst (.int 0)))) (mCall 1 0 1 g (mCons (mVar 6) mNil)))) mNil))
theorem mb_t (r0 r1 r2 r3 r4 r6 r7 : Option T) (μ : Mu) : (List.range 30).map (fun k => mbE g17 [r0, r1, r2, r3, r4, some (.int ((1 + k : Nat) : Int)), r6, r7] μ) = mp (fun k => some (Res.ok (T.int (if k = 0 then 1 else 0)), μ)) (List.range 30) := by kernel_rfl
def wrongs : List Str := ["flashing 1", "flashing 0,2", "even 1,2", "x", "flashing 2,1", "broken 1,1", "even 01,1", "steady 1"]
theorem wr_t : wrongs.map (fun w => g13 [.str w] []) = mp (fun _ => some (Res.ex ⟨"BadLight", []⟩, [])) wrongs := by kernel_rfl
theorem x28 : g28 [] [] = some (.ok (.bl true), []) := by kernel_rfl
theorem fa_t : prims.all (fun p => decide (5 < p.length) || (arL p.length).contains (fore p)) = true := by kernel_rfl
end Ck01

set_option maxHeartbeats 4000000
namespace TL
open PySem PySem.Spec PyProof.Rows L2
theorem un_of {h1 : T → Option T} {fa : TL.Env → M T} {ρ : TL.Env} {μ μ1 : Mu} {x z : T} (e1 : fa ρ μ = some (.ok x, μ1)) (e2 : op1 h1 x μ1 = some (.ok z, μ1)) : mUn h1 fa ρ μ = some (.ok z, μ1) := by
  rw [y_un, x_bind, e1]
  exact e2
end TL
namespace Ck01
open PySem PySem.Spec PyProof.Rows L2 TL
section
variable {s p o : List Nat} {μ : Mu} {b k n beat many : Int}
theorem sh_pr (h : Pr p) : Ck01.sh p = p := by
  unfold Ck01.sh
  rw [h.cp, List.take_length]
theorem rot_Sg (h : Sg p) {x : List Nat} (hx : x ∈ rots p) : Sg x := by
  obtain ⟨k, hk, rfl⟩ := List.mem_map.mp hx
  have h0 := h.l0
  have h1 := h.l1
  have e : (p.drop k ++ p.take k).length = p.length := by
    rw [List.length_append, List.length_drop, List.length_take]
    rw [List.mem_range] at hk
    omega
  exact sg_of (by omega) (by omega) (okC_app (okC_drop h.c) (okC_take h.c))
theorem t_cnt' (h : Sg s) : T.int (Txt.count (sl s) (sl [42])) = T.int ((s.count 42 : Nat) : Int) := of_map t_cnt _ h.m
/-- cycle -/
theorem L3 (h : Sg s) : d3.G pr [rh s] [] = some (.ok (.int (cyc s)), []) := by
  have e := t3 _ h.m
  dsimp only at e
  rw [C3]
  exact e
/-- _law_short -/
theorem L25 (h : Sg s) : d25.G pr [.str (sl s)] [] = some (.ok (.str (sl (Ck01.sh s))), []) := by
  have e := t25 _ h.m
  dsimp only at e
  rw [C25]
  exact e
/-- runs -/
theorem L8 (h : Sg s) : d8.G pr [rh s] [] = some (.ok (.tup (runT (Ck01.sh s))), []) := by
  have e := t8 _ h.m
  dsimp only at e
  rw [C8]
  exact e
/-- _law_runs -/
theorem L26 (h : Pr p) : d26.G pr [.str (sl p)] [] = some (.ok (.lst (runT p)), []) := by
  have e := t26 _ h.m
  dsimp only at e
  rw [C26]
  exact e
/-- shortest -/
theorem L4 (h : Sg s) : d4.G pr [rh s] [] = some (.ok (rh (Ck01.sh s)), []) := by
  rw [E4]
  have e : m4 [some (rh s)] [] = some (.rt (rh (Ck01.sh s)), []) := by
    unfold m4
    have h1 := h.sh
    have l0 := h1.l0
    have l1 := h1.l1
    have l2 := h.l1
    refine ret_of (μ1 := []) (make_of (xs := [.str (sl (Ck01.sh s))]) (ys := [.str (sl (Ck01.sh s))]) (μ1 := []) (cons_of (μ1 := []) ?_ rfl) rfl (L0 l0 (by omega) h1.c)) rfl
    have e1 : mMethD 0 "cycle" [("Rhythm", ⟨1, 0, 9, d3.G pr⟩)] (mVar 0) mNil [some (rh s)] [] = some (.ok (.int (cyc s)), []) := meth_of (c := "Rhythm") (x := rh s) (μ1 := []) (xs := []) (by simp) i_cy rfl rfl rfl (L3 h)
    have e2 : sliceT (.str (sl s)) none (some (cyc s : Int)) = some (.str (sl (Ck01.sh s))) := by
      rw [take_sl (by omega) (by omega)]
      rfl
    simp only [z_sl, x_bind, y_un, x_var, List.getElem?_cons_zero, y_op1, r_look, r_s, x_opt1, z_part0, z_part1, e1]
    simp [e2]
  exact run_of e rfl
/-- lit_beats -/
theorem L7 (h : Sg s) : d7.G pr [rh s] [] = some (.ok (.int ((Ck01.sh s).count 42 : Nat)), []) := by
  rw [E7]
  have e : m7 [some (rh s)] [] = some (.rt (.int ((Ck01.sh s).count 42 : Nat)), []) := by
    unfold m7
    have e1 : mMethD 0 "shortest" [("Rhythm", ⟨1, 0, 17, d4.G pr⟩)] (mVar 0) mNil [some (rh s)] [] = some (.ok (rh (Ck01.sh s)), []) := meth_of (c := "Rhythm") (x := rh s) (μ1 := []) (xs := []) (by simp) i_sh rfl rfl rfl (L4 h)
    have ec := of_map t_cnt _ h.sh.m
    try dsimp only at ec
    refine ret_of (t := .int ((Ck01.sh s).count 42 : Nat)) (μ1 := []) ?_ rfl
    rw [z_mtD, x_bind, y_un, x_bind, e1]
    simp only [y_op1, r_look, r_s, x_opt1]
    show M.opt (some (T.int (Txt.count (sl (Ck01.sh s)) ("*" : String)))) [] = _
    rw [lit_star, ec]
    rfl
  exact run_of e rfl
/-- _law_turns -/
theorem L24 (h0 : p.length ≤ 1000) : d24.G pr [.str (sl p)] [] = some (.ok (.lst ((rots p).map fun a => .str (sl a))), []) := by
  rw [E24]
  have e : m24 [some (.str (sl p)), none] [] = some (.rt (.lst ((rots p).map fun a => .str (sl a))), []) := by
    unfold m24
    refine ret_of (t := .lst ((rots p).map fun a => .str (sl a))) (μ1 := []) ((comp_rm (n := p.length) (by omega) (fun k => .str (sl (p.drop k.toNat ++ p.take k.toNat))) (rng1_of (N := p.length) (by simp [len_sl (show p.length ≤ 1000000 by omega)]) (by omega) (by omega)) fun k k0 k1 => ⟨_, rfl, ?_, rfl⟩).trans ?_) rfl
    · have e1 := drop_sl (a := p) (i := k) k0 (by omega)
      have e2 := take_sl (a := p) (i := k) k0 (by omega)
      have e3 := add_sl (a := p.drop k.toNat) (b := p.take k.toNat) (by rw [List.length_drop, List.length_take]; omega)
      simp [wipeE, e1, e2, e3]
    · rw [rm_nat, Int.toNat_natCast]
      unfold rots
      rw [List.map_map]
      rfl
  exact run_of e rfl
/-- foremost -/
theorem L6 (h : Sg s) : d6.G pr [rh s] [] = some (.ok (rh (fore (Ck01.sh s))), []) := by
  rw [E6]
  have hp := pr_of (prim_sh h)
  have hf := rot_Sg hp.g hp.f2
  have f1 := hf.l1
  have e : m6 [some (rh s), none, none] [] = some (.rt (rh (fore (Ck01.sh s))), []) := by
    unfold m6
    refine seq_set (t := .str (sl (Ck01.sh s))) (μ1 := []) ?_ ?_
    · exact un_of (x := rh (Ck01.sh s)) (meth_of (c := "Rhythm") (x := rh s) (μ1 := []) (xs := []) (by simp) i_sh rfl rfl rfl (L4 h)) (by simp)
    dsimp only [List.set]
    have g := h.sh
    generalize Ck01.sh s = p at *
    have l1 := g.l1
    refine ret_of (t := rh (fore p)) (μ1 := []) (make_of (xs := [.str (sl (fore p))]) (ys := [.str (sl (fore p))]) (μ1 := []) (cons_of (x := .str (sl (fore p))) (μ1 := []) (cb_of (xs := [.lst ((rots p).map fun a => .str (sl a))]) (μ1 := []) (cons_of (μ1 := []) ?_ rfl) rfl ?_) rfl) rfl (L0 hf.l0 (by omega) hf.c)) rfl
    · refine (comp_rm (n := p.length) (by omega) (fun k => .str (sl (p.drop k.toNat ++ p.take k.toNat))) (rng1_of (N := p.length) (by simp [len_sl (show p.length ≤ 1000000 by omega)]) (by omega) (by omega)) fun k k0 k1 => ⟨_, rfl, ?_, rfl⟩).trans ?_
      · have e1 := drop_sl (a := p) (i := k) k0 (by omega)
        have e2 := take_sl (a := p) (i := k) k0 (by omega)
        have e3 := add_sl (a := p.drop k.toNat) (b := p.take k.toNat) (by rw [List.length_drop, List.length_take]; omega)
        simp [wipeE, e1, e2, e3]
      · rw [rm_nat, Int.toNat_natCast]
        unfold rots
        rw [List.map_map]
        rfl
    · have em := tmin _ hp.m
      dsimp only at em
      exact em
  exact run_of e rfl
theorem minR (h : Pr p) : minT [.lst ((rots p).map fun a => .str (sl a))] = some (.str (sl (fore p))) := by
  have em := tmin _ h.m
  dsimp only at em
  exact em
/-- are_alike -/
theorem L14 (h : Sg s) (h' : Sg o) : d14.G pr [rh s, rh o] [] = some (.ok (.bl (decide (fore (Ck01.sh s) = fore (Ck01.sh o)))), []) := by
  rw [E14]
  have hp := pr_of (prim_sh h)
  have hf := rot_Sg hp.g hp.f2
  have hp' := pr_of (prim_sh h')
  have hf' := rot_Sg hp'.g hp'.f2
  have e : m14 [some (rh s), some (rh o)] [] = some (.rt (.bl (decide (fore (Ck01.sh s) = fore (Ck01.sh o)))), []) := by
    unfold m14
    refine ret_of (t := .bl (decide (fore (Ck01.sh s) = fore (Ck01.sh o)))) (μ1 := []) (bin_of (x := .str (sl (fore (Ck01.sh s)))) (μ1 := []) ?_ (y := .str (sl (fore (Ck01.sh o)))) (μ2 := []) ?_ ?_) rfl
    · exact un_of (x := rh (fore (Ck01.sh s))) (meth_of (c := "Rhythm") (x := rh s) (μ1 := []) (xs := []) (by simp) i_fo rfl rfl rfl (L6 h)) (by simp)
    · exact un_of (x := rh (fore (Ck01.sh o))) (meth_of (c := "Rhythm") (x := rh o) (μ1 := []) (xs := []) (by simp) i_fo rfl rfl rfl (L6 h')) (by simp)
    · simp [f_eqS (okC_S hf.c) (okC_S hf'.c)]
  exact run_of e rfl
theorem alike_iff (h : Pr p) (h' : Pr o) : fore p = fore o ↔ o ∈ rots p := by
  constructor
  · intro e
    have := h'.f4
    rw [← e] at this
    exact h.f3 _ this
  · intro m
    exact (h.f1 _ m).symm
end
end Ck01

set_option maxHeartbeats 4000000
namespace TL
open PySem PySem.Spec PyProof.Rows L2
@[simp] theorem lit_steady : (("steady" : String) : Str) = sl [115, 116, 101, 97, 100, 121] := by decide +kernel
@[simp] theorem lit_dark : (("dark" : String) : Str) = sl [100, 97, 114, 107] := by decide +kernel
@[simp] theorem lit_even : (("even" : String) : Str) = sl [101, 118, 101, 110] := by decide +kernel
@[simp] theorem lit_flashing : (("flashing" : String) : Str) = sl [102, 108, 97, 115, 104, 105, 110, 103] := by decide +kernel
@[simp] theorem lit_broken : (("broken" : String) : Str) = sl [98, 114, 111, 107, 101, 110] := by decide +kernel
@[simp] theorem lit_sp : ((" " : String) : Str) = sl [32] := by decide +kernel
@[simp] theorem lit_cm : (("," : String) : Str) = sl [44] := by decide +kernel
theorem b2 : B64 2 := by unfold B64; omega
theorem digit_t : (List.range 10).map (fun (k : Nat) => strT [.int k]) = mp (fun (k : Nat) => some (T.str (sl [48 + k]))) (List.range 10) := by kernel_rfl
theorem digit {k : Nat} (h : k ≤ 9) : strT [.int (k : Nat)] = some (.str (sl [48 + k])) := of_map digit_t k (List.mem_range.mpr (by omega))
end TL
namespace Ck01
open PySem PySem.Spec PyProof.Rows L2 TL
section
variable {s p o : List Nat} {μ : Mu} {b k n beat many : Int}
def rT (x : Nat × Nat) : T := .tup [.str (sl [x.1]), .int x.2]
theorem runT_eq : runT p = (runL p).map rT := rfl
theorem eq1 {c : Nat} (h : c = 42 ∨ c = 46) : TL.eqT (.str (sl [c])) (.str (sl [42])) = some (.bl (decide (c = 42))) := by
  rw [f_eqS (by rcases h with rfl | rfl <;> decide) (by decide)]
  simp
@[simp] theorem eq42 : TL.eqT (.str (sl [42])) (.str (sl [42])) = some (.bl true) := eq1 (.inl rfl)
/-- kind -/
theorem L9 (h : Sg s) : d9.G pr [rh s] [] = some (.ok (.str (sl (kindN (runL (Ck01.sh s)) ((Ck01.sh s).count 42) (Ck01.sh s).length))), []) := by
  rw [E9]
  have hp := pr_of (prim_sh h)
  have e7 := L7 h
  have e3 := L3 h
  have hl := sh_len h
  rw [← hl] at e3
  have u0 := hp.u0
  have u1 := hp.u1
  have e : m9 [some (rh s), none] [] = some (.rt (.str (sl (kindN (runL (Ck01.sh s)) ((Ck01.sh s).count 42) (Ck01.sh s).length))), []) := by
    unfold m9
    refine seq_set (t := .tup ((runL (Ck01.sh s)).map rT)) (μ1 := []) (meth_of (c := "Rhythm") (x := rh s) (μ1 := []) (xs := []) (by simp) i_ru rfl rfl rfl (L8 h)) ?_
    dsimp only [List.set]
    generalize Ck01.sh s = p at *
    generalize runL p = r at *
    have elast : ∀ R, (mRet 0 (mIte (asB (mBin leT (mBin mulT (mCst (.int 2)) (mMethD 0 "lit_beats" [("Rhythm", ⟨1, 0, 25, d7.G pr⟩)] (mVar 0) mNil)) (mMethD 0 "cycle" [("Rhythm", ⟨1, 0, 9, d3.G pr⟩)] (mVar 0) mNil))) (mCst (.str "flashing")) (mCst (.str "broken")))) [some (rh s), some (.tup R)] [] = some (.rt (.str (sl (if 2 * p.count 42 ≤ p.length then flashing else broken))), []) := fun R => by
      have x1 : mMethD 0 "lit_beats" [("Rhythm", ⟨1, 0, 25, d7.G pr⟩)] (mVar 0) mNil [some (rh s), some (.tup R)] [] = some (.ok (.int (p.count 42 : Nat)), []) := meth_of (c := "Rhythm") (x := rh s) (μ1 := []) (xs := []) (by simp) i_lb rfl rfl rfl e7
      have x2 : mMethD 0 "cycle" [("Rhythm", ⟨1, 0, 9, d3.G pr⟩)] (mVar 0) mNil [some (rh s), some (.tup R)] [] = some (.ok (.int (p.length : Nat)), []) := meth_of (c := "Rhythm") (x := rh s) (μ1 := []) (xs := []) (by simp) i_cy rfl rfl rfl e3
      have x3 : (asB (mBin leT (mBin mulT (mCst (.int 2)) (mMethD 0 "lit_beats" [("Rhythm", ⟨1, 0, 25, d7.G pr⟩)] (mVar 0) mNil)) (mMethD 0 "cycle" [("Rhythm", ⟨1, 0, 9, d3.G pr⟩)] (mVar 0) mNil))) [some (rh s), some (.tup R)] [] = some (.ok (decide ((2 : Int) * (p.count 42 : Nat) ≤ (p.length : Nat))), []) := asB_of (bin_of (bin_of rfl x1 (o2_mul b2)) x2 o2_le)
      refine ret_of (t := .str (sl (if 2 * p.count 42 ≤ p.length then flashing else broken))) (μ1 := []) ?_ rfl
      rw [y_ite, x_bind, x3]
      have hz : ((2 : Int) * (p.count 42 : Nat) ≤ (p.length : Nat)) ↔ 2 * p.count 42 ≤ p.length := by omega
      by_cases z : 2 * p.count 42 ≤ p.length
      · simp [hz, z, flashing]
      · simp [hz, z, broken]
    match r, u0, u1 with
    | [x], _, u1 =>
      have hx := (u1 x (by simp)).1
      unfold kindN
      simp only
      refine seq_yes (t := .str (sl (if x.1 = 42 then steady else dark))) (by simp) ?_
      by_cases z : x.1 = 42
      · simp [rT, eq1 hx, z, steady]
      · simp [rT, eq1 hx, z, dark]
    | [x, y], _, _ =>
      unfold kindN
      simp only
      refine seq_if0 (by simp) ?_
      have hz : ((x.2 : Int) = y.2) ↔ x.2 = y.2 := by omega
      by_cases z : x.2 = y.2
      · rw [if_pos z]
        refine seq_yes (by simp [rT, z]) ?_
        simp [even]
      · rw [if_neg z]
        exact seq_if0 (by simp [rT, hz, z]) (elast _)
    | x :: y :: w :: r, _, _ =>
      unfold kindN
      simp only
      have z1 : ¬ ((r.length : Int) + 1 + 1 + 1 = 1) := by omega
      have z2 : ¬ ((r.length : Int) + 1 + 1 + 1 = 2) := by omega
      exact seq_if0 (by simp [z1]) (seq_if0 (by simp [z2]) (elast _))
  exact run_of e rfl
/-- _law_kind -/
theorem L27 (h : Pr p) : d27.G pr [.str (sl p)] [] = some (.ok (.str (sl (kindN (runL p) (p.count 42) p.length))), []) := by
  rw [E27]
  have u0 := h.u0
  have u1 := h.u1
  have u2 := h.u2
  have l1 := h.g.l1
  have ec := t_cnt' h.g
  have e : m27 [some (.str (sl p)), none] [] = some (.rt (.str (sl (kindN (runL p) (p.count 42) p.length))), []) := by
    unfold m27
    refine seq_set (t := .lst ((runL p).map rT)) (μ1 := []) (call_of (xs := [.str (sl p)]) (μ1 := []) (by simp) rfl rfl (L26 h)) ?_
    dsimp only [List.set]
    have elast : ∀ R, (mRet 0 (mIte (asB (mBin leT (mBin mulT (mCst (.int 2)) (mMtD [("str", (ss1 fun a b => .int (Txt.count a b))), ("list", lcountT)] (mVar 0) (mCons (mCst (.str "*")) mNil))) (mCB lenT (mCons (mVar 0) mNil)))) (mCst (.str "flashing")) (mCst (.str "broken")))) [some (.str (sl p)), some (.lst R)] [] = some (.rt (.str (sl (if 2 * p.count 42 ≤ p.length then flashing else broken))), []) := fun R => by
      have x1 : (mMtD [("str", (ss1 fun a b => .int (Txt.count a b))), ("list", lcountT)] (mVar 0) (mCons (mCst (.str "*")) mNil)) [some (.str (sl p)), some (.lst R)] [] = some (.ok (.int (p.count 42 : Nat)), []) := by
        show M.opt (some (T.int (Txt.count (sl p) ("*" : String)))) [] = _
        rw [lit_star, ec]
        rfl
      have x3 : (asB (mBin leT (mBin mulT (mCst (.int 2)) (mMtD [("str", (ss1 fun a b => .int (Txt.count a b))), ("list", lcountT)] (mVar 0) (mCons (mCst (.str "*")) mNil))) (mCB lenT (mCons (mVar 0) mNil)))) [some (.str (sl p)), some (.lst R)] [] = some (.ok (decide ((2 : Int) * (p.count 42 : Nat) ≤ (p.length : Nat))), []) := asB_of (bin_of (bin_of rfl x1 (o2_mul b2)) (y := .int p.length) (μ2 := []) (by simp [len_sl (show p.length ≤ 1000000 by omega)]) o2_le)
      refine ret_of (t := .str (sl (if 2 * p.count 42 ≤ p.length then flashing else broken))) (μ1 := []) ?_ rfl
      rw [y_ite, x_bind, x3]
      have hz : ((2 : Int) * (p.count 42 : Nat) ≤ (p.length : Nat)) ↔ 2 * p.count 42 ≤ p.length := by omega
      by_cases z : 2 * p.count 42 ≤ p.length
      · simp [hz, z, flashing]
      · simp [hz, z, broken]
    generalize runL p = r at *
    match r, u0, u1, u2 with
    | [x], _, u1, u2 =>
      have hx := (u1 x (by simp)).1
      have hpx : p = [x.1] := u2 rfl
      unfold kindN
      simp only
      refine seq_yes (t := .str (sl (if x.1 = 42 then steady else dark))) (by simp) ?_
      rw [hpx]
      by_cases z : x.1 = 42
      · simp [rT, eq1 hx, z, steady]
      · simp [rT, eq1 hx, z, dark]
    | [x, y], _, _, _ =>
      unfold kindN
      simp only
      refine seq_if0 (by simp) ?_
      have hz : ((x.2 : Int) = y.2) ↔ x.2 = y.2 := by omega
      by_cases z : x.2 = y.2
      · rw [if_pos z]
        refine seq_yes (by simp [rT, z]) ?_
        simp [even]
      · rw [if_neg z]
        exact seq_if0 (by simp [rT, hz, z]) (elast _)
    | x :: y :: w :: r, _, _, _ =>
      unfold kindN
      simp only
      have z1 : ¬ ((r.length : Int) + 1 + 1 + 1 = 1) := by omega
      have z2 : ¬ ((r.length : Int) + 1 + 1 + 1 = 2) := by omega
      exact seq_if0 (by simp [z1]) (seq_if0 (by simp [z2]) (elast _))
  exact run_of e rfl
/-- flashes -/
theorem L10 (h : Sg s) : d10.G pr [rh s] [] = some (.ok (.int (((runL (Ck01.sh s)).length : Int) / 2)), []) := by
  rw [E10]
  have u0 := (pr_of (prim_sh h)).u0
  have e : m10 [some (rh s), none] [] = some (.rt (.int (((runL (Ck01.sh s)).length : Int) / 2)), []) := by
    unfold m10
    refine seq_set (t := .tup ((runL (Ck01.sh s)).map rT)) (μ1 := []) (meth_of (c := "Rhythm") (x := rh s) (μ1 := []) (xs := []) (by simp) i_ru rfl rfl rfl (L8 h)) ?_
    dsimp only [List.set]
    generalize runL (Ck01.sh s) = r at *
    by_cases z : (1 : Int) < r.length
    · simp [z, f_div (show (0:Int) < 2 ∧ (2:Int) < 1073741824 by omega)]
    · have : r.length = 1 := by omega
      simp [this]
  exact run_of e rfl
/-- begun_at -/
def rotI (s : List Nat) (b : Int) : List Nat := s.drop (b % s.length).toNat ++ s.take (b % s.length).toNat
theorem rotI_len (h : 1 ≤ s.length) : (rotI s b).length = s.length := by
  have m1 := Int.emod_lt_of_pos b (show (0 : Int) < s.length by omega)
  have m0 := Int.emod_nonneg b (show (s.length : Int) ≠ 0 by omega)
  unfold rotI
  rw [List.length_append, List.length_drop, List.length_take]
  omega
theorem rotI_chr (h : 1 ≤ s.length) : chr (rotI s b) k = chr s (b + k) := by
  have m1 := Int.emod_lt_of_pos b (show (0 : Int) < s.length by omega)
  have m0 := Int.emod_nonneg b (show (s.length : Int) ≠ 0 by omega)
  have n1 := Int.emod_lt_of_pos k (show (0 : Int) < s.length by omega)
  have n0 := Int.emod_nonneg k (show (s.length : Int) ≠ 0 by omega)
  unfold chr
  rw [rotI_len h, Int.add_emod]
  unfold rotI
  generalize b % (s.length : Int) = g at *
  generalize k % (s.length : Int) = j at *
  by_cases z : g + j < s.length
  · rw [Int.emod_eq_of_lt (by omega) z]
    simp only [List.getD]
    rw [List.getElem?_append_left (by rw [List.length_drop]; omega), List.getElem?_drop, show g.toNat + j.toNat = (g + j).toNat by omega]
  · have e : (g + j) % (s.length : Int) = g + j - s.length := by
      rw [← Int.sub_emod_right, Int.emod_eq_of_lt (by omega) (by omega)]
    rw [e]
    simp only [List.getD]
    rw [List.getElem?_append_right (by rw [List.length_drop]; omega), List.length_drop, List.getElem?_take_of_lt (by omega), show j.toNat - (s.length - g.toNat) = (g + j - s.length).toNat by omega]
theorem rotI_Sg (h : Sg s) : Sg (rotI s b) := sg_of (by rw [rotI_len h.l0]; exact h.l0) (by rw [rotI_len h.l0]; exact h.l1) (okC_app (okC_drop h.c) (okC_take h.c))
theorem L5 (h : Sg s) : d5.G pr [rh s, .int b] [] = some (.ok (rh (rotI s b)), []) := by
  rw [E5]
  have l0 := h.l0
  have l1 := h.l1
  have hr := rotI_Sg (b := b) h
  have r1 := hr.l1
  have m1 := Int.emod_lt_of_pos b (show (0 : Int) < s.length by omega)
  have m0 := Int.emod_nonneg b (show (s.length : Int) ≠ 0 by omega)
  have e : m5 [some (rh s), some (.int b), none] [] = some (.rt (rh (rotI s b)), []) := by
    unfold m5
    have hlp : (0 : Int) < s.length := by omega
    refine seq_set (t := .int (b % s.length)) (μ1 := []) (by simp [len_sl (show s.length ≤ 1000000 by omega), f_mod hlp]) ?_
    dsimp only [List.set]
    refine ret_of (t := rh (rotI s b)) (μ1 := []) (make_of (xs := [.str (sl (rotI s b))]) (ys := [.str (sl (rotI s b))]) (μ1 := []) (cons_of (μ1 := []) ?_ rfl) rfl (L0 hr.l0 (by omega) hr.c)) rfl
    unfold rotI
    have e1 := drop_sl (a := s) (i := b % s.length) m0 (by omega)
    have e2 := take_sl (a := s) (i := b % s.length) m0 (by omega)
    have e3 := add_sl (a := s.drop (b % s.length).toNat) (b := s.take (b % s.length).toNat) (by rw [List.length_drop, List.length_take]; omega)
    simp [e1, e2, e3]
  exact run_of e rfl
/-- turned_round -/
theorem inv_c (h : okC s) : okC (inv s) := fun c hc => by
  obtain ⟨d, hd, rfl⟩ := List.mem_map.mp hc
  split <;> simp
theorem inv_Sg (h : Sg s) : Sg (inv s) := sg_of (by unfold inv; rw [List.length_map]; exact h.l0) (by unfold inv; rw [List.length_map]; exact h.l1) (inv_c h.c)
theorem inv_inv (h : okC s) : inv (inv s) = s := by
  unfold inv
  rw [List.map_map]
  refine (List.map_congr_left fun c hc => ?_).trans (List.map_id _)
  rcases h c hc with rfl | rfl <;> rfl
theorem L11 (h : Sg s) : d11.G pr [rh s] [] = some (.ok (rh (inv s)), []) := by
  rw [E11]
  have hr := inv_Sg h
  have r1 := hr.l1
  have l1 := h.l1
  have e : m11 [some (rh s), none] [] = some (.rt (rh (inv s)), []) := by
    unfold m11
    refine ret_of (t := rh (inv s)) (μ1 := []) (make_of (xs := [.str (sl (inv s))]) (ys := [.str (sl (inv s))]) (μ1 := []) (cons_of (x := .str (sl (inv s))) (μ1 := []) (joinM_of (s := sl []) (μ1 := []) (ts := (inv s).map fun c => .str (sl [c])) (by rw [x_cst, lit_0]) (cons_of (μ1 := []) ?_ rfl) (join_one (by omega))) rfl) rfl (L0 hr.l0 (by omega) hr.c)) rfl
    refine (comp_l (μ' := []) (ts := s.map fun c => .str (sl [c])) (fun _ => true) (fun t => if dec (t = .str (sl [42])) then .str (sl [46]) else .str (sl [42])) (by simp; rfl) (by simp; omega) fun t ht => ?_).trans ?_
    · obtain ⟨c, hc, rfl⟩ := List.mem_map.mp ht
      refine ⟨_, rfl, rfl, fun _ => ?_⟩
      have hcc := h.c c hc
      rcases hcc with rfl | rfl
      · have : TL.eqT (.str (sl [42])) (.str (sl [42])) = some (.bl true) := eq1 (.inl rfl)
        refine ⟨by simp [wipeE, this], by simp⟩
      · have : TL.eqT (.str (sl [46])) (.str (sl [42])) = some (.bl false) := eq1 (.inr rfl)
        refine ⟨by simp [wipeE, this], by simp⟩
    · rw [List.filter_eq_self.mpr fun _ _ => rfl, List.map_map]
      unfold inv
      rw [List.map_map]
      congr 4
      refine List.map_congr_left fun c hc => ?_
      rcases h.c c hc with rfl | rfl <;> simp
  exact run_of e rfl
end
end Ck01

set_option maxHeartbeats 4000000
namespace TL
open PySem PySem.Spec PyProof.Rows L2
theorem sum_le (n : Nat) : ∀ xs : List (List Nat), (∀ x ∈ xs, x.length ≤ n) → (xs.map fun x => x.length).sum ≤ n * xs.length
  | [], _ => by simp
  | x :: xs, h => by
    have := sum_le n xs fun y hy => h y (List.mem_cons_of_mem _ hy)
    have := h x List.mem_cons_self
    rw [List.map_cons, List.sum_cons, List.length_cons, Nat.mul_succ]
    omega
theorem join_sep {a : List Nat} {xs : List (List Nat)} (n : Nat) (h : ∀ x ∈ xs, x.length ≤ n) (hl : n * xs.length + xs.length * a.length ≤ 1000000) : joinT (.str (sl a)) [.lst (xs.map fun a => .str (sl a))] = some (.str (sl (TL.joinL a xs))) := by
  show jnT (sl a) _ = _
  unfold jnT
  rw [strs_sl]
  simp only
  rw [if_pos, show sl a = SX.S a from rfl, SX.join_S]
  · rfl
  · rw [SX.lens, sl_len, List.length_map]
    have := sum_le n xs h
    omega
end TL
namespace Ck01
open PySem PySem.Spec PyProof.Rows L2 TL
section
variable {s p o : List Nat} {μ : Mu} {b k n beat many : Int}
def szT : T → T
  | .tup [_, .int i] => .str (sl [48 + i.toNat])
  | _ => .non
theorem joinR {r : List (Nat × Nat)} (u1 : ∀ x ∈ r, (x.1 = 42 ∨ x.1 = 46) ∧ x.2 ≤ 9) (hl : r.length ≤ 1000) {ρ : TL.Env} {fi : TL.Env → M (List T)} {i j : Nat} (hi : fi ρ μ = some (.ok (r.map rT), μ)) (hij : ∀ x y : T, ∃ ρ1, bTp 2 (bCons (bNm i) (bCons (bNm j) bNil)) (.tup [x, y]) (wipeE ρ [i, j]) = some ρ1 ∧ ρ1[j]? = some (some y)) : mMtD [("str", joinT)] (mCst (.str ",")) (mCons (mOf (mLc 0 [i, j] fi (bTp 2 (bCons (bNm i) (bCons (bNm j) bNil))) mYes (mCB strT (mCons (mVar j) mNil)))) mNil) ρ μ = some (.ok (.str (sl (TL.joinL [44] (r.map fun x => [48 + x.2])))), μ) := by
  refine joinM_of (s := sl [44]) (μ1 := μ) (ts := (r.map fun x => [48 + x.2]).map fun a => .str (sl a)) (by rw [x_cst, lit_cm]) (cons_of (μ1 := μ) ?_ rfl) (join_sep 1 (fun x hx => by
    obtain ⟨y, _, rfl⟩ := List.mem_map.mp hx
    simp) (by rw [List.length_map]; simp; omega))
  refine (comp_l (μ' := μ) (ts := r.map rT) (fun _ => true) szT hi (by simp; omega) fun t ht => ?_).trans ?_
  · obtain ⟨x, hx, rfl⟩ := List.mem_map.mp ht
    obtain ⟨ρ1, e1, e2⟩ := hij (.str (sl [x.1])) (.int x.2)
    refine ⟨ρ1, e1, rfl, fun _ => ⟨?_, by unfold rT szT; rfl⟩⟩
    have ed := digit (u1 x hx).2
    unfold rT szT
    simp [e2, ed]
  · rw [List.filter_eq_self.mpr fun _ _ => rfl, List.map_map, List.map_map]
    congr 4
theorem runL_len (h : Pr p) : (runL p).length ≤ 8 := by
  have := List.all_eq_true.mp c_rl _ h.m
  simpa using this
theorem kind_in {r : List (Nat × Nat)} {a b : Nat} (u0 : r.length ≠ 0) : (kindN r a b = steady ∨ kindN r a b = dark) ↔ r.length = 1 := by
  match r, u0 with
  | [x], _ =>
    unfold kindN
    simp only
    split <;> simp
  | [x, y], _ =>
    unfold kindN
    simp only
    split
    · simp [even, steady, dark]
    · split <;> simp [flashing, broken, steady, dark]
  | x :: y :: z :: r, _ =>
    unfold kindN
    simp only
    split <;> simp [flashing, broken, steady, dark]
theorem kind_ok {r : List (Nat × Nat)} {a b : Nat} : okS (kindN r a b) = true ∧ (kindN r a b).length ≤ 8 := by
  unfold kindN
  split <;> (repeat' split) <;> exact ⟨by decide, by decide⟩
theorem tail_1 {r : List (Nat × Nat)} (h : r.length = 1) : tailN r = [] := by
  match r, h with
  | [x], _ => rfl
theorem tail_2 {r : List (Nat × Nat)} (h : r.length ≠ 1) : tailN r = 32 :: TL.joinL [44] (r.map fun x => [48 + x.2]) := by
  unfold tailN
  split
  · simp at h
  · rfl
theorem joinL_len : ∀ xs : List (List Nat), (∀ x ∈ xs, x.length ≤ 1) → (TL.joinL [44] xs).length ≤ 2 * xs.length
  | [], _ => by simp [TL.joinL]
  | [x], h => by
    have := h x List.mem_cons_self
    show x.length ≤ _
    simp
    omega
  | x :: y :: r, h => by
    have ih := joinL_len (y :: r) fun z hz => h z (List.mem_cons_of_mem _ hz)
    have := h x List.mem_cons_self
    show (x ++ ([44] ++ TL.joinL [44] (y :: r))).length ≤ _
    rw [List.length_append, List.length_append]
    simp only [List.length_cons, List.length_nil] at ih ⊢
    omega
theorem jR_len {r : List (Nat × Nat)} : (TL.joinL [44] (r.map fun x => [48 + x.2])).length ≤ 2 * r.length := by
  have := joinL_len (r.map fun x => [48 + x.2]) fun x hx => by
    obtain ⟨y, _, rfl⟩ := List.mem_map.mp hx
    simp
  rwa [List.length_map] at this
/-- said -/
theorem L12 (h : Sg s) : d12.G pr [rh s] [] = some (.ok (.str (sl (words (Ck01.sh s)))), []) := by
  rw [E12]
  have hp := pr_of (prim_sh h)
  have e9 := L9 h
  have hl := runL_len hp
  have u0 := hp.u0
  have u1 := hp.u1
  have e : m12 [some (rh s), none, none] [] = some (.rt (.str (sl (words (Ck01.sh s)))), []) := by
    unfold m12 words
    have xk : mMethD 0 "kind" [("Rhythm", ⟨1, 0, 33, d9.G pr⟩)] (mVar 0) mNil [some (rh s), none, none] [] = some (.ok (.str (sl (kindN (runL (Ck01.sh s)) ((Ck01.sh s).count 42) (Ck01.sh s).length))), []) := meth_of (c := "Rhythm") (x := rh s) (μ1 := []) (xs := []) (by simp) i_ki rfl rfl rfl e9
    have xr : mIter 0 (mMethD 0 "runs" [("Rhythm", ⟨1, 0, 25, d8.G pr⟩)] (mVar 0) mNil) [some (rh s), none, none] [] = some (.ok ((runL (Ck01.sh s)).map rT), []) := iter_of (meth_of (c := "Rhythm") (x := rh s) (μ1 := []) (xs := []) (by simp) i_ru rfl rfl rfl (L8 h)) rfl rfl
    generalize Ck01.sh s = p at *
    have hk := kind_in (r := runL p) (a := p.count 42) (b := p.length) u0
    have hko := kind_ok (r := runL p) (a := p.count 42) (b := p.length)
    have hin : inA false (.str (sl (kindN (runL p) (p.count 42) p.length))) (.tup [.str (sl steady), .str (sl dark)]) = some (.bl (decide ((runL p).length = 1))) := by
      rw [f_inT (by rw [pl_str, sl_ok]; exact hko.1) (by simp; decide)]
      congr 2
      rw [Bool.eq_iff_iff, dec_iff, decide_eq_true_eq, ← hk]
      simp
    generalize kindN (runL p) (p.count 42) p.length = K at *
    have ec : asB (mBin (inA false) (mMethD 0 "kind" [("Rhythm", ⟨1, 0, 33, d9.G pr⟩)] (mVar 0) mNil) (mTup 0 (mCons (mCst (.str "steady")) (mCons (mCst (.str "dark")) mNil)))) [some (rh s), none, none] [] = some (.ok (decide ((runL p).length = 1)), []) := by
      refine asB_of (bin_of xk (y := .tup [.str (sl steady), .str (sl dark)]) (μ2 := []) (by simp [steady, dark]) ?_)
      rw [y_op2]
      simp [hin]
    by_cases z : (runL p).length = 1
    · rw [tail_1 z, List.append_nil]
      rw [decide_eq_true z] at ec
      exact seq_yes ec (ret_of xk rfl)
    · rw [tail_2 z]
      rw [decide_eq_false z] at ec
      refine seq_if0 ec ?_
      have jl := jR_len (r := runL p)
      have k8 := hko.2
      refine ret_of (t := .str (sl (K ++ 32 :: TL.joinL [44] ((runL p).map fun x => [48 + x.2])))) (μ1 := []) (bin_of (x := .str (sl (K ++ [32]))) (μ1 := []) (bin_of xk (y := .str (sl [32])) (μ2 := []) (by simp) ?_) (joinR u1 (by omega) xr fun x y => ⟨_, rfl, rfl⟩) ?_) rfl
      · simp [add_sl (a := K) (b := [32]) (by simp; omega)]
      · have := add_sl (a := K ++ [32]) (b := TL.joinL [44] ((runL p).map fun x => [48 + x.2])) (by simp; omega)
        rw [List.append_assoc] at this
        simp [this]
  exact run_of e rfl
/-- read_rhythm -/
theorem rw_pr (h : Pr p) : rw1 p ∈ rowsL := by
  have g := rot_Sg h.g h.r1
  refine List.mem_filter.mpr ⟨List.mem_filter.mpr ⟨g.m, ?_⟩, ?_⟩
  · rw [beq_iff_eq, h.r3, h.r5]
  · rw [beq_iff_eq, h.r2]
theorem words_rw (h : Pr p) : words (rw1 p) = words p := by
  unfold words runL
  rw [h.r2, h.r4, h.r5]
theorem L13 (h : Pr p) : d13.G pr [.str (sl (words p))] [] = some (.ok (rh (rw1 p)), []) := by
  have e := t13 _ (rw_pr h)
  dsimp only at e
  rw [C13, ← words_rw h]
  exact e
end
end Ck01

set_option maxHeartbeats 4000000
namespace TL
open PySem PySem.Spec PyProof.Rows L2
theorem neB' {fa fb : TL.Env → TL.M T} {ρ : TL.Env} {μ μ1 μ2 : Mu} {a b : Bool} (e1 : fa ρ μ = some (.ok (.bl a), μ1)) (e2 : fb ρ μ1 = some (.ok (.bl b), μ2)) (h : a = b) : asB (mBin TL.neT fa fb) ρ μ = some (.ok false, μ2) := by
  subst h
  exact neB_ff e1 e2
theorem neI' {fa fb : TL.Env → TL.M T} {ρ : TL.Env} {μ μ1 μ2 : Mu} {a b : List Nat} (e1 : fa ρ μ = some (.ok (.str (sl a)), μ1)) (e2 : fb ρ μ1 = some (.ok (.str (sl b)), μ2)) (h : a = b) (ho : okS a = true) : asB (mBin TL.neT fa fb) ρ μ = some (.ok false, μ2) := by
  subst h
  exact neS_ff e1 e2 rfl (by rw [sl_ok]; exact ho)
end TL
namespace Ck01
open PySem PySem.Spec PyProof.Rows L2 TL
abbrev Dm (x y z : Int) : Mu := [(.lst [.int x, .int y, .int z], true)]
section
variable {s p o : List Nat} {μ : Mu} {b k n beat many : Int}
theorem rl {i q : Nat} {ρ : TL.Env} (hi : ρ[i]? = some (some (.sh 0))) (many : Int) (x y z : Int) (w : Mu) (h0 : 0 < many := by omega) (h1 : many < 1073741824 := by omega) : ∃ r x' y' z' : Int, 0 ≤ r ∧ r < many ∧ mCall q 1 2 (d20.G pr) (mCons (mVar i) (mCons (mCst (.int many)) mNil)) ρ ((.lst [.int x, .int y, .int z], true) :: w) = some (.ok (.int r), (.lst [.int x', .int y', .int z'], true) :: w) :=
  rollE (g := d20.G pr) E20 hi many h0 h1 x y z w
theorem rollV {q i j : Nat} {ρ : TL.Env} (hi : ρ[i]? = some (some (.sh 0))) (many : Int) (hj : ρ[j]? = some (some (.int many))) (h0 : 0 < many) (h1 : many < 1073741824) (a b c : Int) : ∃ r a' b' c' : Int, 0 ≤ r ∧ r < many ∧ mCall q 1 2 (d20.G pr) (mCons (mVar i) (mCons (mVar j) mNil)) ρ (Dm a b c) = some (.ok (.int r), Dm a' b' c') := by
  obtain ⟨r, a', b', c', r0, r1, e2⟩ := roll_ok a b c many h0 h1
  refine ⟨r, a', b', c', r0, r1, ?_⟩
  rw [← E20] at e2
  simp [hi, hj, e2]
theorem signs_f {r1 : Option T} : ∀ (ts : List T) (x y z : Int), ∃ (s : List Nat) (x' y' z' : Int), okC s ∧ s.length = ts.length ∧ lcE 1 [2] (bNm 2) mYes (mBin ixA (mCst (.str ".*")) (mCall 1 1 2 (d20.G pr) (mCons (mVar 0) (mCons (mCst (.int 2)) mNil)))) [some (.sh 0), r1, none] ts (Dm x y z) = some (s.map fun c => .str (sl [c]), Dm x' y' z')
  | [], x, y, z => ⟨[], x, y, z, (fun _ h => nomatch h), rfl, rfl⟩
  | t :: ts, x, y, z => by
    obtain ⟨u, x1, y1, z1, u0, u1, e⟩ := rl (q := 1) (i := 0) (ρ := [some (.sh 0), r1, some t]) rfl 2 x y z []
    obtain ⟨s, x2, y2, z2, hs, hl, e2⟩ := signs_f (r1 := r1) ts x1 y1 z1
    obtain ⟨c, hc, ec⟩ : ∃ c : Nat, (c = 42 ∨ c = 46) ∧ ixA (.str (sl [46, 42])) (.int u) = some (.str (sl [c])) := by
      have : u = 0 ∨ u = 1 := by omega
      rcases this with rfl | rfl
      · exact ⟨46, .inr rfl, by rw [ix_sl (by simp)]; rfl⟩
      · exact ⟨42, .inl rfl, by rw [ix_sl (by simp)]; rfl⟩
    refine ⟨c :: s, x2, y2, z2, fun d hd => ?_, by simp [hl], ?_⟩
    · rcases List.mem_cons.mp hd with rfl | hd
      · exact hc
      · exact hs d hd
    · rw [z_lcE1]
      have eb : bNm 2 t (wipeE [some (.sh 0), r1, none] [2]) = some [some (.sh 0), r1, some t] := rfl
      rw [eb]
      have ei : mBin ixA (mCst (.str ".*")) (mCall 1 1 2 (d20.G pr) (mCons (mVar 0) (mCons (mCst (.int 2)) mNil))) [some (.sh 0), r1, some t] (Dm x y z) = some (.ok (.str (sl [c])), Dm x1 y1 z1) := bin_of (x := .str (sl [46, 42])) (μ1 := Dm x y z) (by rw [x_cst, lit_ds]) e (by simp [ec])
      simp only [z_yes, x_bind, ei, k_str, e2]
      rfl
/-- _law_signs -/
theorem L23 {most : Int} (h0 : 0 < most) (h1 : most ≤ 8) (x y z : Int) : ∃ (s : List Nat) (x' y' z' : Int), Sg s ∧ (s.length : Int) ≤ most ∧ d23.G pr [.sh 0, .int most] (Dm x y z) = some (.ok (.str (sl s)), Dm x' y' z') := by
  rw [E23]
  obtain ⟨u, x1, y1, z1, u0, u1, e1⟩ := rollV (q := 1) (i := 0) (j := 1) (ρ := [some (.sh 0), some (.int most), none]) rfl most rfl h0 (by omega) x y z
  obtain ⟨s, x2, y2, z2, hs, hl, e2⟩ := signs_f (r1 := some (.int most)) (rng 0 (1 + u)) x1 y1 z1
  rw [rng_len] at hl
  refine ⟨s, x2, y2, z2, sg_of (by omega) (by omega) hs, by omega, ?_⟩
  have e : m23 [some (.sh 0), some (.int most), none] (Dm x y z) = some (.rt (.str (sl s)), Dm x2 y2 z2) := by
    unfold m23
    refine ret_of (μ1 := Dm x2 y2 z2) (joinM_of (s := sl []) (μ1 := Dm x y z) (ts := s.map fun c => .str (sl [c])) (by rw [x_cst, lit_0]) (cons_of (μ1 := Dm x2 y2 z2) ?_ rfl) (join_one (by omega))) rfl
    rw [y_of, z_lc, x_bind, rng1_of (N := 1 + u) (μ1 := Dm x1 y1 z1) (cons_of (bin_of rfl e1 o2_add) rfl) (by omega) (by omega)]
    dsimp only
    rw [if_pos (by rw [rng_len]; omega), e2]
    rfl
  exact run_of e rfl
def bothS (s o : List Nat) : List Nat := rm (Nat.lcm (cyc s) (cyc o) : Nat) fun k => if (litB s k || litB o k) = true then 42 else 46
theorem lcm_b (h : Sg s) (h' : Sg o) : 1 ≤ Nat.lcm (cyc s) (cyc o) ∧ Nat.lcm (cyc s) (cyc o) ≤ 56 ∧ (cyc s, cyc o) ∈ prs := by
  have a0 := h.c0
  have a1 := h.c1
  have a2 := h.l1
  have b0 := h'.c0
  have b1 := h'.c1
  have b2 := h'.l1
  have m := prs_mem (a := cyc s) (b := cyc o) a0 (by omega) b0 (by omega)
  have := List.all_eq_true.mp l56 _ m
  simp only [Bool.and_eq_true, decide_eq_true_eq] at this
  exact ⟨this.1, this.2, m⟩
theorem both_len : (bothS s o).length = Nat.lcm (cyc s) (cyc o) := by
  unfold bothS
  rw [rm_lenN, Int.toNat_natCast]
theorem both_c : okC (bothS s o) := fun c hc => by
  obtain ⟨k, _, _, rfl⟩ := rm_mem.mp hc
  split <;> simp
/-- together -/
theorem L15 (h : Sg s) (h' : Sg o) : d15.G pr [rh s, rh o] [] = some (.ok (rh (bothS s o)), []) := by
  rw [E15]
  obtain ⟨l0, l1, m⟩ := lcm_b h h'
  have s1 := h.l1
  have o1 := h'.l1
  have bl := both_len (s := s) (o := o)
  have e : m15 [some (rh s), some (rh o), none, none, none, none] [] = some (.rt (rh (bothS s o)), []) := by
    unfold m15
    refine seq_par (μ1 := []) (ts := [.int (cyc s), .int (cyc o)]) (cons_of (x := .int (cyc s)) (μ1 := []) (meth_of (c := "Rhythm") (x := rh s) (μ1 := []) (xs := []) (by simp) i_cy rfl rfl rfl (L3 h)) (cons_of (x := .int (cyc o)) (μ1 := []) (meth_of (c := "Rhythm") (x := rh o) (μ1 := []) (xs := []) (by simp) i_cy rfl rfl rfl (L3 h')) rfl)) rfl ?_
    dsimp only [List.set]
    refine seq_set (t := .int (cyc s)) (μ1 := []) (by simp) ?_
    dsimp only [List.set]
    have ew := of_map (lc_t (some (rh s)) (some (rh o)) none []) _ m
    dsimp only at ew
    refine seq_nx ew ?_
    have hl : ¬ (60 : Int) < (Nat.lcm (cyc s) (cyc o) : Nat) := by omega
    unfold bothS at bl ⊢
    have hbc := both_c (s := s) (o := o)
    unfold bothS at hbc
    generalize Nat.lcm (cyc s) (cyc o) = N at *
    refine seq_if0 (by simp [hl]) ?_
    refine ret_of (t := rh (rm (N : Int) fun k => if (litB s k || litB o k) = true then 42 else 46)) (μ1 := []) (make_of (xs := [.str (sl (rm (N : Int) fun k => if (litB s k || litB o k) = true then 42 else 46))]) (ys := [.str (sl (rm (N : Int) fun k => if (litB s k || litB o k) = true then 42 else 46))]) (μ1 := []) (cons_of (μ1 := []) (join_rm (n := N) (by omega) _ (rng1_of (N := N) (by simp) (by omega) (by omega)) fun k k0 k1 => ⟨_, rfl, ?_⟩) rfl) rfl (L0 (by omega) (by omega) hbc)) rfl
    have e1 : mTru (mMethD 0 "lit_at" [("Rhythm", ⟨2, 0, 9, d1.G pr⟩)] (mVar 0) (mCons (mVar 5) mNil)) [some (rh s), some (rh o), some (.int (cyc s)), some (.int (cyc o)), some (.int N), some (.int k)] [] = some (.ok (litB s k), []) := tru_of (meth_of (c := "Rhythm") (x := rh s) (μ1 := []) (xs := [.int k]) (by simp) i_li (by simp) rfl rfl (L1 h.l0 (by omega) h.c k0))
    have e2 : mTru (mMethD 0 "lit_at" [("Rhythm", ⟨2, 0, 9, d1.G pr⟩)] (mVar 1) (mCons (mVar 5) mNil)) [some (rh s), some (rh o), some (.int (cyc s)), some (.int (cyc o)), some (.int N), some (.int k)] [] = some (.ok (litB o k), []) := tru_of (meth_of (c := "Rhythm") (x := rh o) (μ1 := []) (xs := [.int k]) (by simp) i_li (by simp) rfl rfl (L1 h'.l0 (by omega) h'.c k0))
    show mIte _ _ _ [some (rh s), some (rh o), some (.int (cyc s)), some (.int (cyc o)), some (.int N), some (.int k)] [] = _
    rw [y_ite, x_bind]
    cases hs : litB s k with
    | true => rw [hs] at e1; rw [or_t e1]; simp
    | false =>
      rw [hs] at e1
      rw [or_f e1 e2]
      cases litB o k <;> simp
  exact run_of e rfl
theorem wr_loop {r0 r1 r2 r3 r4 r5 r6 : Option T} : ∀ (ws : List Str) (r7 : Option T), (∀ w ∈ ws, w ∈ wrongs) → ∃ q7, forL (bNm 7) (mIf (asB (mBin TL.neT (mTold [("BadBearing", "bearing"), ("BadChart", "chart"), ("BadLight", "light"), ("BadTime", "time"), ("Unclear", "unclear"), ("Aground", "aground"), ("NoWay", "no way"), ("TooLarge", "large"), ("BadText", "text")] (mCall 1 0 1 (d13.G pr) (mCons (mVar 7) mNil))) (mCst (.str "light")))) (mRet 1 (mCst (.bl false))) mSkip) (ws.map T.str) [r0, r1, r2, r3, r4, r5, r6, r7] μ = some (.nx [r0, r1, r2, r3, r4, r5, r6, q7], μ)
  | [], r7, _ => ⟨r7, rfl⟩
  | w :: ws, r7, h => by
    obtain ⟨q7, e⟩ := wr_loop (r0 := r0) (r1 := r1) (r2 := r2) (r3 := r3) (r4 := r4) (r5 := r5) (r6 := r6) ws (some (.str w)) fun v hv => h v (List.mem_cons_of_mem _ hv)
    refine ⟨q7, ?_⟩
    rw [List.map_cons]
    refine for_s (ρ1 := [r0, r1, r2, r3, r4, r5, r6, some (.str w)]) (ρ2 := [r0, r1, r2, r3, r4, r5, r6, some (.str w)]) (μ2 := μ) rfl ?_ e
    have ew := of_map wr_t w (h w List.mem_cons_self)
    have ec : d13.G pr [.str w] [] = some (.ex ⟨"BadLight", []⟩, []) := by rw [C13]; exact ew
    have li : PyData.strOk "light" = true := by decide +kernel
    exact if_f (neS_ff (a := "light") (μ1 := μ) (t_ex (c := "BadLight") (call_of (xs := [.str w]) (μ1 := μ) rfl rfl rfl ec) rfl) rfl rfl li) rfl
/-- _law_rest1 -/
theorem L29 (h : Sg s) (hp : Pr p) (x y z : Int) : ∃ x1 y1 z1, d29.G pr [.sh 0, rh s, .str (sl p)] (Dm x y z) = some (.ok (.bl true), Dm x1 y1 z1) := by
  rw [E29]
  suffices hG : Goes m29 [some (.sh 0), some (rh s), some (.str (sl p)), none, none, none, none, none] (Dm x y z) (fun r μ' => r = .rt (.bl true) ∧ ∃ x1 y1 z1, μ' = Dm x1 y1 z1) by
    obtain ⟨r, μ', e, rfl, x1, y1, z1, rfl⟩ := hG
    exact ⟨x1, y1, z1, by simp [e]⟩
  unfold m29
  have pl0 := hp.g.l0
  have pl1 := hp.g.l1
  obtain ⟨u, x1, y1, z1, u0, u1, e1⟩ := rl (q := 1) (i := 0) (ρ := [some (.sh 0), some (rh s), some (.str (sl p)), none, none, none, none, none]) rfl 5 x y z []
  obtain ⟨k, hk, hku⟩ : ∃ k : Nat, k ∈ [1, 2, 3, 4, 5] ∧ 1 + u = k := ⟨(1 + u).toNat, by simp; omega, by omega⟩
  refine go_set' (t := .int k) (bin_of rfl e1 (by rw [← hku]; exact o2_add)) ?_
  dsimp only [List.set]
  refine go_set (t := .tup ((arL k).map fun a => .str (sl a))) (call_of (xs := [.int k]) (μ1 := Dm x1 y1 z1) (by simp) rfl rfl (L18 hk)) ?_
  dsimp only [List.set]
  have hm : d16.G pr [.int k] [] = some (.ok (.int (arL k).length), []) := by
    have := of_map hm_t k hk
    try dsimp only at this
    rw [C16]
    exact this
  have hcnt : L2.atI [T.int 2, .int 1, .int 2, .int 3, .int 6] ((k : Int) - 1) = some (.int (arL k).length) := by
    have hc : k = 1 ∨ k = 2 ∨ k = 3 ∨ k = 4 ∨ k = 5 := by simpa using hk
    rcases hc with rfl | rfl | rfl | rfl | rfl <;> rfl
  have apl : plainN 60 (.lst ((arL k).map fun a => .str (sl a))) = true := by
    have hc : k = 1 ∨ k = 2 ∨ k = 3 ∨ k = 4 ∨ k = 5 := by simpa using hk
    rcases hc with rfl | rfl | rfl | rfl | rfl <;> simp [arL] <;> decide
  refine go_if (or_ff (neI_ff (a := (arL k).length) (μ1 := Dm x1 y1 z1) (call_of (xs := [.int k]) (μ1 := Dm x1 y1 z1) (by simp) rfl rfl hm) (by simp) rfl) (or_ff (neI_ff (a := (arL k).length) (μ1 := Dm x1 y1 z1) (by simp) (by simp [hcnt]) rfl) (ne_ff (x := .lst ((arL k).map fun a => .str (sl a))) (μ1 := Dm x1 y1 z1) (by simp) (cb_of (xs := [.tup ((arL k).map fun a => .str (sl a))]) (cons_of rfl rfl) rfl ?_) apl))) ?_
  · exact ar3 k hk
  refine go_if ?_ ?_
  · by_cases z5 : p.length ≤ 5
    · have hkp : p.length ∈ [1, 2, 3, 4, 5] := by simp; omega
      have hf : fore p ∈ arL p.length := by
        have := List.all_eq_true.mp fa_t _ hp.m
        simp only [Bool.or_eq_true, decide_eq_true_eq, List.contains_iff_mem] at this
        rcases this with h | h
        · omega
        · exact h
      have z5' : (p.length : Int) ≤ 5 := by omega
      have okf := okC_S (rot_Sg hp.g hp.f2).c
      have okA : ∀ t ∈ (arL p.length).map (fun a => T.str (sl a)), plainN 59 t = true := by
        have hc : p.length = 1 ∨ p.length = 2 ∨ p.length = 3 ∨ p.length = 4 ∨ p.length = 5 := by omega
        intro t ht
        obtain ⟨a, ha, rfl⟩ := List.mem_map.mp ht
        rw [pl_str, sl_ok]
        rcases hc with e | e | e | e | e <;> rw [e] at ha <;> simp only [arL, List.mem_cons, List.not_mem_nil, or_false] at ha
        · rcases ha with rfl | rfl <;> decide
        · rcases ha with rfl <;> decide
        · rcases ha with rfl | rfl <;> decide
        · rcases ha with rfl | rfl | rfl <;> decide
        · rcases ha with rfl | rfl | rfl | rfl | rfl | rfl <;> decide
      have e3 : inA true (.str (sl (fore p))) (.tup ((arL p.length).map fun a => .str (sl a))) = some (.bl false) := by
        rw [f_ninT (by rw [pl_str, sl_ok]; exact okf) (List.all_eq_true.mpr okA), dec_true (List.mem_map.mpr ⟨_, hf, rfl⟩)]
        rfl
      refine and_t (μ1 := Dm x1 y1 z1) (by simp [len_sl (show p.length ≤ 1000000 by omega), z5']) (asB_of (bin_of (x := .str (sl (fore p))) (μ1 := Dm x1 y1 z1) (cb_of (xs := [.lst ((rots p).map fun a => .str (sl a))]) (μ1 := Dm x1 y1 z1) (cons_of (μ1 := Dm x1 y1 z1) (call_of (xs := [.str (sl p)]) (μ1 := Dm x1 y1 z1) (by simp) rfl rfl (L24 (by omega))) rfl) rfl (minR hp)) (y := .tup ((arL p.length).map fun a => .str (sl a))) (μ2 := Dm x1 y1 z1) (call_of (xs := [.int p.length]) (μ1 := Dm x1 y1 z1) (by simp [len_sl (show p.length ≤ 1000000 by omega)]) rfl rfl (L18 hkp)) ?_))
      simp [e3]
    · have z5' : ¬ (p.length : Int) ≤ 5 := by omega
      exact and_f (by simp [len_sl (show p.length ≤ 1000000 by omega), z5'])
  obtain ⟨v, x2, y2, z2, v0, v1, e2⟩ := rl (q := 1) (i := 0) (ρ := [some (.sh 0), some (rh s), some (.str (sl p)), some (.int k), some (.tup ((arL k).map fun a => .str (sl a))), none, none, none]) rfl 30 x1 y1 z1 []
  obtain ⟨j, hj, hjv⟩ : ∃ j : Nat, j ∈ List.range 30 ∧ 1 + v = ((1 + j : Nat) : Int) := ⟨v.toNat, List.mem_range.mpr (by omega), by omega⟩
  refine go_set' (t := .int ((1 + j : Nat) : Int)) (bin_of rfl e2 (by rw [← hjv]; exact o2_add)) ?_
  dsimp only [List.set]
  refine go_if (neI_ff (a := if j = 0 then 1 else 0) (μ1 := Dm x2 y2 z2) ?_ (b := if j = 0 then 1 else 0) ?_ rfl) ?_
  · have := of_map (mb_t (some (.sh 0)) (some (rh s)) (some (.str (sl p))) (some (.int k)) (some (.tup ((arL k).map fun a => .str (sl a)))) none none (Dm x2 y2 z2)) j hj
    try dsimp only at this
    rw [C17]
    exact this
  · by_cases z : j = 0
    · simp [z]
    · have hn : ¬ (1 + (j : Int)) = 1 := by omega
      simp [z, hn]
  obtain ⟨q7, ew⟩ := wr_loop (μ := Dm x2 y2 z2) (r0 := some (.sh 0)) (r1 := some (rh s)) (r2 := some (.str (sl p))) (r3 := some (.int k)) (r4 := some (.tup ((arL k).map fun a => .str (sl a)))) (r5 := some (.int ((1 + j : Nat) : Int))) (r6 := none) wrongs none fun _ h => h
  refine go (for_of0 (ts := wrongs.map T.str) rfl ew) ?_
  have x28' : d28.G pr [] [] = some (.ok (.bl true), []) := by rw [C28]; exact x28
  refine go_if (not_t (tru_of (call_of rfl rfl rfl x28'))) ?_
  have li : PyData.strOk "light" = true := by decide +kernel
  refine go_if (neS_ff (a := "light") (μ1 := Dm x2 y2 z2) (t_ex (c := "BadLight") (meth_of (c := "Rhythm") (x := rh s) (μ1 := Dm x2 y2 z2) (xs := [.int (0 - 1)]) (by simp) i_li (by simp) rfl rfl L1x) rfl) rfl rfl li) ?_
  exact go_ret (t := .bl true) rfl rfl ⟨rfl, x2, y2, z2, rfl⟩
end
end Ck01

set_option maxHeartbeats 4000000
namespace Ck01
open PySem PySem.Spec PyProof.Rows L2 TL
section
variable {s p o : List Nat} {μ : Mu} {b k n beat many : Int}
theorem runT_pl (h : Pr p) : (runT p).all (plainN 59) = true := by
  rw [List.all_eq_true]
  intro t ht
  obtain ⟨x, hx, rfl⟩ := List.mem_map.mp ht
  have := (h.u1 x hx).1
  have ok : okS [x.1] = true := by rcases this with h | h <;> rw [h] <;> decide
  simp [ok]
theorem cntE (h : Sg p) {ρ : TL.Env} {i : Nat} (hi : ρ[i]? = some (some (.str (sl p)))) : (mMtD [("str", (ss1 fun a b => .int (Txt.count a b))), ("list", lcountT)] (mVar i) (mCons (mCst (.str "*")) mNil)) ρ μ = some (.ok (.int (p.count 42 : Nat)), μ) := by
  have ec := t_cnt' h
  rw [z_mtD, x_bind, x_var, hi]
  show M.opt (some (T.int (Txt.count (sl p) ("*" : String)))) μ = _
  rw [lit_star, ec]
  rfl
theorem signE {ρ : TL.Env} (hi : ρ[1]? = some (some (.sh 0))) {most : Int} (h0 : 0 < most) (h1 : most ≤ 8) (x y z : Int) : ∃ (s : List Nat) (x' y' z' : Int), Sg s ∧ (s.length : Int) ≤ most ∧ mCall 0 1 2 (d23.G pr) (mCons (mVar 1) (mCons (mCst (.int most)) mNil)) ρ (Dm x y z) = some (.ok (.str (sl s)), Dm x' y' z') := by
  obtain ⟨s, x', y', z', a, b, e⟩ := L23 h0 h1 x y z
  exact ⟨s, x', y', z', a, b, by simp [hi, e]⟩
theorem both_lit (h : Sg s) (h' : Sg o) (k0 : 0 ≤ k) (k1 : k < (Nat.lcm (cyc s) (cyc o) : Nat)) : litB (bothS s o) k = (litB s k || litB o k) := by
  have bl := both_len (s := s) (o := o)
  have e : L2.atI (bothS s o) (k % (bothS s o).length) = some (if (litB s k || litB o k) = true then 42 else 46) := by
    rw [bl, Int.emod_eq_of_lt k0 k1]
    exact rm_at k0 k1
  have l0 := (lcm_b h h').1
  rw [chr_at (by omega)] at e
  have e2 := Option.some.inj e
  unfold litB at e2 ⊢
  rw [e2]
  cases hc : (decide (chr s k = 42) || decide (chr o k = 42)) <;> simp
theorem hb : HB := fun x y z => by
  rw [Elaw]
  show ∃ ρ' μ', mlaw [none, some (.sh 0), none, none, none, none, none, none, none, none, none, none, none, none, none, none, none] (Dm x y z) = some (.nx ρ', μ')
  suffices hG : Goes mlaw [none, some (.sh 0), none, none, none, none, none, none, none, none, none, none, none, none, none, none, none] (Dm x y z) (fun r _ => ∃ ρ', r = .nx ρ') by
    obtain ⟨r, μ', e, ρ', rfl⟩ := hG
    exact ⟨ρ', μ', e⟩
  unfold mlaw
  obtain ⟨s, x1, y1, z1, hs, _, e1⟩ := signE (ρ := [none, some (.sh 0), none, none, none, none, none, none, none, none, none, none, none, none, none, none, none]) rfl (most := 8) (by omega) (by omega) x y z
  obtain ⟨o, x2, y2, z2, ho, _, e2⟩ := signE (ρ := [none, some (.sh 0), none, none, none, none, none, none, none, none, none, none, none, none, none, none, none]) rfl (most := 6) (by omega) (by omega) x1 y1 z1
  refine go_par (μ1 := Dm x2 y2 z2) (ts := [.str (sl s), .str (sl o)]) (cons_of e1 (cons_of e2 rfl)) rfl ?_
  dsimp only [List.set]
  obtain ⟨beat, x3, y3, z3, b0, b1, e3⟩ := rl (q := 0) (i := 1) (ρ := [none, some (.sh 0), some (.str (sl s)), some (.str (sl o)), none, none, none, none, none, none, none, none, none, none, none, none, none]) rfl 20 x2 y2 z2 []
  obtain ⟨many, x4, y4, z4, c0, c1, e4⟩ := rl (q := 0) (i := 1) (ρ := [none, some (.sh 0), some (.str (sl s)), some (.str (sl o)), none, none, none, none, none, none, none, none, none, none, none, none, none]) rfl 12 x3 y3 z3 []
  have l0 := hs.l0
  have l1 := hs.l1
  have ol0 := ho.l0
  have ol1 := ho.l1
  refine go_par (μ1 := Dm x4 y4 z4) (ts := [rh s, rh o, .int beat, .int many]) (cons_of (make_of (xs := [.str (sl s)]) (ys := [.str (sl s)]) (μ1 := Dm x2 y2 z2) rfl rfl (L0 l0 (by omega) hs.c)) (cons_of (make_of (xs := [.str (sl o)]) (ys := [.str (sl o)]) (μ1 := Dm x2 y2 z2) rfl rfl (L0 ol0 (by omega) ho.c)) (cons_of e3 (cons_of e4 rfl)))) rfl ?_
  dsimp only [List.set]
  have hp := pr_of (prim_sh hs)
  have hq := pr_of (prim_sh ho)
  have hpl := sh_len hs
  have e7 := L7 hs
  have e6 := L6 hs
  have e8 := L8 hs
  have e9 := L9 hs
  have e10 := L10 hs
  have e12 := L12 hs
  have e4' := L4 hs
  have e25 := L25 hs
  have e25' := L25 ho
  have e14 := L14 hs ho
  have e14' := L14 (rot_Sg hp.g hp.r1) hs
  have shr : Ck01.sh (rw1 (Ck01.sh s)) = rw1 (Ck01.sh s) := by
    unfold Ck01.sh at hp ⊢
    rw [hp.r3, ← hp.r5, List.take_length]
  rw [shr, hp.f1 _ hp.r1] at e14'
  have iv := hs.iv
  refine go_set (t := .str (sl (Ck01.sh s))) (call_of (xs := [.str (sl s)]) (μ1 := Dm x4 y4 z4) rfl rfl rfl e25) ?_
  dsimp only [List.set]
  generalize hpp : Ck01.sh s = p at *
  generalize hqq : Ck01.sh o = q at *
  have pl0 := hp.g.l0
  have pl1 := hp.g.l1
  have lenp : lenT [.str (sl p)] = some (.int p.length) := len_sl (by omega)
  have lens : lenT [.str (sl s)] = some (.int s.length) := len_sl (by omega)
  refine go_if (or_ff (neI_ff (a := cyc s) (μ1 := Dm x4 y4 z4) (meth_of (c := "Rhythm") (x := rh s) (μ1 := Dm x4 y4 z4) (xs := []) (by simp) i_cy rfl rfl rfl (L3 hs)) (b := p.length) (by simp [lenp]) (by omega)) (or_ff (neI' (a := p) (μ1 := Dm x4 y4 z4) (un_of (x := rh p) (meth_of (c := "Rhythm") (x := rh s) (μ1 := Dm x4 y4 z4) (xs := []) (by simp) i_sh rfl rfl rfl e4') (by simp)) rfl rfl (okC_S hp.g.c)) (neI_ff (a := (p.count 42 : Nat)) (μ1 := Dm x4 y4 z4) (meth_of (c := "Rhythm") (x := rh s) (μ1 := Dm x4 y4 z4) (xs := []) (by simp) i_lb rfl rfl rfl e7) (cntE hp.g rfl) rfl))) ?_
  have hsl : (0 : Int) < s.length := by omega
  have ixs : ∀ k : Int, ixA (.str (sl s)) (.int (k % s.length)) = some (.str (sl [chr s k])) := fun k => by
    rw [ix_sl (by omega), chr_at l0]
    rfl
  refine go_set (t := .str (sl (rm many fun k => chr s (beat + k)))) ?_ ?_
  · refine join_rm (n := many) (by omega) (fun k => chr s (beat + k)) (rng1_of (N := many) (by simp) (by omega) (by omega)) fun k k0 k1 => ⟨_, rfl, ?_⟩
    simp [wipeE, lens, f_mod hsl, ixs]
  dsimp only [List.set]
  have okr : okS (rm many fun k => chr s (beat + k)) = true := rm_okS fun k _ _ => by
    rcases hs.c _ (chr_mem (b := beat + k) l0) with h | h <;> rw [h] <;> decide
  refine go_if (or_ff (neI' (μ1 := Dm x4 y4 z4) (meth_of (c := "Rhythm") (x := rh s) (μ1 := Dm x4 y4 z4) (xs := [.int beat, .int many]) (by simp) i_sf (by simp) rfl rfl (L2 l0 (by omega) hs.c b0 c0 (by omega))) rfl rfl okr) (neB' (μ1 := Dm x4 y4 z4) (meth_of (c := "Rhythm") (x := rh s) (μ1 := Dm x4 y4 z4) (xs := [.int beat]) (by simp) i_li (by simp) rfl rfl (L1 l0 (by omega) hs.c b0)) (b := litB s beat) ?_ rfl)) ?_
  · have hcc := hs.c _ (chr_mem (b := beat) l0)
    simp [lens, f_mod hsl, ixs, eq1 hcc, litB]
  have hr := rotI_Sg (b := beat) hs
  have hf := rot_Sg hp.g hp.f2
  refine go_if (or_ff (neI' (a := rm many fun k => chr s (beat + k)) (μ1 := Dm x4 y4 z4) ?_ rfl rfl okr) (neI' (a := fore p) (μ1 := Dm x4 y4 z4) (un_of (x := rh (fore p)) (meth_of (c := "Rhythm") (x := rh s) (μ1 := Dm x4 y4 z4) (xs := []) (by simp) i_fo rfl rfl rfl e6) (by simp)) (cb_of (xs := [.lst ((rots p).map fun a => .str (sl a))]) (μ1 := Dm x4 y4 z4) (cons_of (μ1 := Dm x4 y4 z4) (call_of (xs := [.str (sl p)]) (μ1 := Dm x4 y4 z4) (by simp) rfl rfl (L24 (by omega))) rfl) rfl (minR hp)) rfl (okC_S hf.c))) ?_
  · have e := L2 (b := 0) (n := many) hr.l0 (by have := hr.l1; omega) hr.c (by omega) c0 (by omega)
    have ec : (rm many fun k => chr (rotI s beat) (0 + k)) = rm many fun k => chr s (beat + k) := rm_congr fun k _ _ => by rw [rotI_chr l0, Int.zero_add]
    rw [ec] at e
    exact meth_of (c := "Rhythm") (x := rh (rotI s beat)) (μ1 := Dm x4 y4 z4) (xs := [.int 0, .int many]) (meth_of (c := "Rhythm") (x := rh s) (μ1 := Dm x4 y4 z4) (xs := [.int beat]) (by simp) i_be (by simp) rfl rfl (L5 hs)) i_sf (by simp) rfl rfl e
  refine go_set (t := .lst (runT p)) (call_of (xs := [.str (sl p)]) (μ1 := Dm x4 y4 z4) (by simp) rfl rfl (L26 hp)) ?_
  dsimp only [List.set]
  have rl8 := runL_len hp
  have rlen : (runT p).length = (runL p).length := by unfold runT; rw [List.length_map]
  have kok := kind_ok (r := runL p) (a := p.count 42) (b := p.length)
  refine go_if (or_ff (ne_ff (x := .lst (runT p)) (μ1 := Dm x4 y4 z4) (cb_of (xs := [.tup (runT p)]) (cons_of (μ1 := Dm x4 y4 z4) (meth_of (c := "Rhythm") (x := rh s) (μ1 := Dm x4 y4 z4) (xs := []) (by simp) i_ru rfl rfl rfl e8) rfl) rfl rfl) rfl (runT_pl hp)) (or_ff (neI' (μ1 := Dm x4 y4 z4) (meth_of (c := "Rhythm") (x := rh s) (μ1 := Dm x4 y4 z4) (xs := []) (by simp) i_ki rfl rfl rfl e9) (call_of (xs := [.str (sl p)]) (μ1 := Dm x4 y4 z4) (by simp) rfl rfl (L27 hp)) rfl kok.1) (neI_ff (a := ((runL p).length : Int) / 2) (μ1 := Dm x4 y4 z4) (meth_of (c := "Rhythm") (x := rh s) (μ1 := Dm x4 y4 z4) (xs := []) (by simp) i_fl rfl rfl rfl e10) (b := ((runL p).length : Int) / 2) (by simp [rlen, f_div (show (0:Int) < 2 ∧ (2:Int) < 1073741824 by omega)]) rfl))) ?_
  have jl := jR_len (r := runL p)
  have tl : (tailN (runL p)).length ≤ 20 := by
    by_cases zz : (runL p).length = 1
    · rw [tail_1 zz]; simp
    · rw [tail_2 zz, List.length_cons]; omega
  refine go_set (t := .str (sl (words p))) ?_ ?_
  · refine bin_of (x := .str (sl (kindN (runL p) (p.count 42) p.length))) (μ1 := Dm x4 y4 z4) (call_of (xs := [.str (sl p)]) (μ1 := Dm x4 y4 z4) (by simp) rfl rfl (L27 hp)) (y := .str (sl (tailN (runL p)))) (μ2 := Dm x4 y4 z4) ?_ ?_
    · have u0 := hp.u0
      by_cases zz : (runL p).length = 1
      · rw [tail_1 zz]
        have : ¬ (1 : Int) < (runL p).length := by omega
        simp [rlen, zz]
      · rw [tail_2 zz]
        have h1 : (1 : Int) < (runL p).length := by omega
        have ec : asB (mBin gtT (mCB lenT (mCons (mVar 11) mNil)) (mCst (.int 1))) [none, some (.sh 0), some (.str (sl s)), some (.str (sl o)), some (rh s), some (rh o), some (.int beat), some (.int many), some (.str (sl p)), some (.str (sl (rm many fun k => chr s (beat + k)))), none, some (.lst (runT p)), none, none, none, none, none] (Dm x4 y4 z4) = some (.ok true, Dm x4 y4 z4) := by simp [rlen, h1]
        rw [y_ite, x_bind, ec]
        dsimp only
        rw [if_pos rfl]
        refine bin_of (x := .str (sl [32])) (μ1 := Dm x4 y4 z4) (by rw [x_cst, lit_sp]) (joinR hp.u1 (by omega) rfl fun x y => ⟨_, rfl, rfl⟩) ?_
        have := add_sl (a := [32]) (b := TL.joinL [44] ((runL p).map fun x => [48 + x.2])) (by simp; omega)
        simp [this]
    · have k8 := kok.2
      simp [words, add_sl (a := kindN (runL p) (p.count 42) p.length) (b := tailN (runL p)) (by omega)]
  dsimp only [List.set]
  have wok : okS (words p) = true := by
    have : ∀ a b : List Nat, okS a = true → okS b = true → okS (a ++ b) = true := fun a b h1 h2 => by
      unfold okS at *
      rw [List.all_append, h1, h2]
      rfl
    refine this _ _ kok.1 ?_
    by_cases zz : (runL p).length = 1
    · rw [tail_1 zz]; rfl
    · rw [tail_2 zz]
      have j : ∀ xs : List (List Nat), (∀ x ∈ xs, okS x = true) → okS (TL.joinL [44] xs) = true := fun xs => by
        induction xs with
        | nil => intro _; rfl
        | cons x r ih =>
          intro h
          cases r with
          | nil => exact h x (by simp)
          | cons y r =>
            show okS (x ++ ([44] ++ TL.joinL [44] (y :: r))) = true
            exact this _ _ (h x (by simp)) (this _ _ (by decide) (ih fun w hw => h w (List.mem_cons_of_mem _ hw)))
      refine this [32] _ (by decide) (j _ fun x hx => ?_)
      obtain ⟨w, hw, rfl⟩ := List.mem_map.mp hx
      have := (hp.u1 w hw).2
      unfold okS
      simp
      omega
  refine go_if (or_ff (neI' (μ1 := Dm x4 y4 z4) (meth_of (c := "Rhythm") (x := rh s) (μ1 := Dm x4 y4 z4) (xs := []) (by simp) i_sa rfl rfl rfl e12) rfl rfl wok) (not_t (tru_of (call_of (xs := [rh (rw1 p), rh s]) (μ1 := Dm x4 y4 z4) (cons_of (x := rh (rw1 p)) (μ1 := Dm x4 y4 z4) (call_of (xs := [.str (sl (words p))]) (μ1 := Dm x4 y4 z4) (by simp) rfl rfl (L13 hp)) (by simp)) rfl rfl (e14'.trans (by rw [decide_eq_true rfl])))))) ?_
  refine go_if (neI' (a := s) (μ1 := Dm x4 y4 z4) (un_of (x := rh (inv (inv s))) (meth_of (c := "Rhythm") (x := rh (inv s)) (μ1 := Dm x4 y4 z4) (xs := []) (meth_of (c := "Rhythm") (x := rh s) (μ1 := Dm x4 y4 z4) (xs := []) (by simp) i_tr rfl rfl rfl (L11 hs)) i_tr rfl rfl rfl (L11 (inv_Sg hs))) (by simp [inv_inv hs.c])) rfl rfl (okC_S hs.c)) ?_
  refine go_if (neI_ff (μ1 := Dm x4 y4 z4) (meth_of (c := "Rhythm") (x := rh (inv s)) (μ1 := Dm x4 y4 z4) (xs := []) (meth_of (c := "Rhythm") (x := rh s) (μ1 := Dm x4 y4 z4) (xs := []) (by simp) i_tr rfl rfl rfl (L11 hs)) i_lb rfl rfl rfl (L7 (inv_Sg hs))) (bin_of (x := .int p.length) (μ1 := Dm x4 y4 z4) (by simp [lenp]) (cntE hp.g rfl) o2_sub) (by omega)) ?_
  refine go_if (neB' (μ1 := Dm x4 y4 z4) (call_of (xs := [rh s, rh o]) (μ1 := Dm x4 y4 z4) (by simp) rfl rfl e14) (b := decide (q ∈ rots p)) (bin_of (x := .str (sl q)) (μ1 := Dm x4 y4 z4) (call_of (xs := [.str (sl o)]) (μ1 := Dm x4 y4 z4) (by simp) rfl rfl e25') (y := .lst ((rots p).map fun a => .str (sl a))) (μ2 := Dm x4 y4 z4) (call_of (xs := [.str (sl p)]) (μ1 := Dm x4 y4 z4) (by simp) rfl rfl (L24 (by omega))) ?_) ?_) ?_
  · have ein : inA false (.str (sl q)) (.lst ((rots p).map fun a => .str (sl a))) = some (.bl (decide (q ∈ rots p))) := by
      rw [f_inL (by rw [pl_str, sl_ok]; exact okC_S hq.g.c) (by
        rw [List.all_eq_true]
        intro t ht
        obtain ⟨a, ha, rfl⟩ := List.mem_map.mp ht
        rw [pl_str, sl_ok]
        exact okC_S (rot_Sg hp.g ha).c)]
      congr 2
      rw [Bool.eq_iff_iff, dec_iff, decide_eq_true_eq, List.mem_map]
      constructor
      · rintro ⟨a, ha, e⟩
        rw [T.str.injEq, sl_inj] at e
        rw [← e]
        exact ha
      · intro h
        exact ⟨q, h, rfl⟩
    simp [ein]
  · rw [Bool.eq_iff_iff, decide_eq_true_eq, decide_eq_true_eq]
    exact alike_iff hp hq
  obtain ⟨n0, n1, nm⟩ := lcm_b hs ho
  refine go_set (t := rh (bothS s o)) (t_ok (call_of (xs := [rh s, rh o]) (μ1 := Dm x4 y4 z4) (by simp) rfl rfl (L15 hs ho))) ?_
  dsimp only [List.set]
  have hst := of_map st_t _ nm
  dsimp only at hst
  refine go_set (t := .lst ((rng 1 61).filter fun t => decide (ival t % (cyc s : Int) = 0) && decide (ival t % (cyc o : Int) = 0))) ?_ ?_
  · have pp : (0 : Int) < p.length := by omega
    have oc := ho.c0
    have po : (0 : Int) < cyc o := by omega
    refine (comp (μ := Dm x4 y4 z4) 1 61 (by omega) (fun k => decide (k % (cyc s : Int) = 0) && decide (k % (cyc o : Int) = 0)) (fun k => .int k) (rng2_of (by simp) (by omega) (by omega) (by omega) (by omega)) fun k k0 k1 => ⟨_, rfl, ?_, fun _ => ⟨by simp [wipeE], rfl⟩⟩).trans (by rw [rng_self])
    have ey : asB (mBin TL.eqT (mBin modT (mVar 10) (mMethD 0 "cycle" [("Rhythm", ⟨1, 0, 9, d3.G pr⟩)] (mVar 5) mNil)) (mCst (.int 0))) [none, some (.sh 0), some (.str (sl s)), some (.str (sl o)), some (rh s), some (rh o), some (.int beat), some (.int many), some (.str (sl p)), some (.str (sl (rm many fun k => chr s (beat + k)))), some (.int k), some (.lst (runT p)), some (.str (sl (words p))), none, none, some (rh (bothS s o)), none] (Dm x4 y4 z4) = some (.ok (decide (k % (cyc o : Int) = 0)), Dm x4 y4 z4) := by
      refine asB_of (bin_of (bin_of (x := .int k) (μ1 := Dm x4 y4 z4) (by simp) (meth_of (c := "Rhythm") (x := rh o) (μ1 := Dm x4 y4 z4) (xs := []) (by simp) i_cy rfl rfl rfl (L3 ho)) (o2_mod po)) (y := .int 0) (μ2 := Dm x4 y4 z4) rfl ?_)
      simp
    have ex : asB (mBin TL.eqT (mBin modT (mVar 10) (mCB lenT (mCons (mVar 8) mNil))) (mCst (.int 0))) [none, some (.sh 0), some (.str (sl s)), some (.str (sl o)), some (rh s), some (rh o), some (.int beat), some (.int many), some (.str (sl p)), some (.str (sl (rm many fun k => chr s (beat + k)))), some (.int k), some (.lst (runT p)), some (.str (sl (words p))), none, none, some (rh (bothS s o)), none] (Dm x4 y4 z4) = some (.ok (decide (k % (cyc s : Int) = 0)), Dm x4 y4 z4) := by
      rw [← hpl]
      simp [lenp, f_mod pp]
    cases hd : decide (k % (cyc s : Int) = 0) with
    | true => rw [hd] at ex; rw [Bool.true_and]; exact and_t ex ey
    | false => rw [hd] at ex; rw [Bool.false_and]; exact and_f ex
  dsimp only [List.set]
  have npl : plainN 60 (.lst ((rng 1 61).filter fun t => decide (ival t % (cyc s : Int) = 0) && decide (ival t % (cyc o : Int) = 0))) = true := rng_pl
  generalize hS : ((rng 1 61).filter fun t => decide (ival t % (cyc s : Int) = 0) && decide (ival t % (cyc o : Int) = 0)) = S at *
  obtain ⟨r, rfl⟩ : ∃ r, S = .int (Nat.lcm (cyc s) (cyc o) : Nat) :: r := by
    cases S with
    | nil => simp at hst
    | cons a r =>
      rw [List.head?_cons, Option.some.injEq] at hst
      exact ⟨r, by rw [hst]⟩
  have eI : ∀ w : List Nat, TL.eqT (rh w) (.str "light") = some (.bl false) := fun _ => rfl
  have nI : ∀ w : List Nat, TL.neT (rh w) (.str "light") = some (.bl true) := fun _ => rfl
  refine go_if (neB' (a := false) (μ1 := Dm x4 y4 z4) (bin_of (x := rh (bothS s o)) (μ1 := Dm x4 y4 z4) rfl (y := .str "light") (μ2 := Dm x4 y4 z4) rfl (by rw [y_op2, r_look, l_str]; dsimp only; rw [eI]; rfl)) (b := false) ?_ rfl) ?_
  · have : TL.eqT (.lst (.int (Nat.lcm (cyc s) (cyc o) : Nat) :: r)) (.lst []) = some (.bl false) := by
      rw [f_eq npl rfl, dec_false (by simp)]
    simp [this]
  refine go_if (and_t (μ1 := Dm x4 y4 z4) (asB_of (bin_of (x := rh (bothS s o)) (μ1 := Dm x4 y4 z4) rfl (y := .str "light") (μ2 := Dm x4 y4 z4) rfl (by rw [y_op2, r_look, l_str]; dsimp only; rw [nI]; rfl))) (ne_ff (x := .lst []) (μ1 := Dm x4 y4 z4) ?_ rfl rfl)) ?_
  · refine (comp (μ := Dm x4 y4 z4) 0 (Nat.lcm (cyc s) (cyc o) : Nat) (by omega) (fun _ => false) (fun k => .int k) (rng1_of (by simp) (by omega) (by omega)) fun k k0 k1 => ⟨_, rfl, ?_, fun z => by cases z⟩).trans (by rw [rng_false]; rfl)
    have eb := both_lit hs ho k0 k1
    have blen := both_len (s := s) (o := o)
    refine neB' (μ1 := Dm x4 y4 z4) (meth_of (c := "Rhythm") (x := rh (bothS s o)) (μ1 := Dm x4 y4 z4) (xs := [.int k]) (by simp [wipeE]) i_li (by simp [wipeE]) rfl rfl (L1 (by omega) (by omega) both_c k0)) (b := litB s k || litB o k) ?_ eb
    have eA : mMethD 0 "lit_at" [("Rhythm", ⟨2, 0, 9, d1.G pr⟩)] (mVar 4) (mCons (mVar 10) mNil) [none, some (.sh 0), some (.str (sl s)), some (.str (sl o)), some (rh s), some (rh o), some (.int beat), some (.int many), some (.str (sl p)), some (.str (sl (rm many fun k => chr s (beat + k)))), some (.int k), some (.lst (runT p)), some (.str (sl (words p))), none, none, some (rh (bothS s o)), some (.lst (.int (Nat.lcm (cyc s) (cyc o) : Nat) :: r))] (Dm x4 y4 z4) = some (.ok (.bl (litB s k)), Dm x4 y4 z4) := meth_of (c := "Rhythm") (x := rh s) (μ1 := Dm x4 y4 z4) (xs := [.int k]) (by simp) i_li (by simp) rfl rfl (L1 l0 (by omega) hs.c k0)
    have eB : mMethD 0 "lit_at" [("Rhythm", ⟨2, 0, 9, d1.G pr⟩)] (mVar 5) (mCons (mVar 10) mNil) [none, some (.sh 0), some (.str (sl s)), some (.str (sl o)), some (rh s), some (rh o), some (.int beat), some (.int many), some (.str (sl p)), some (.str (sl (rm many fun k => chr s (beat + k)))), some (.int k), some (.lst (runT p)), some (.str (sl (words p))), none, none, some (rh (bothS s o)), some (.lst (.int (Nat.lcm (cyc s) (cyc o) : Nat) :: r))] (Dm x4 y4 z4) = some (.ok (.bl (litB o k)), Dm x4 y4 z4) := meth_of (c := "Rhythm") (x := rh o) (μ1 := Dm x4 y4 z4) (xs := [.int k]) (by simp) i_li (by simp) rfl rfl (L1 ol0 (by omega) ho.c k0)
    show mOr _ _ [none, some (.sh 0), some (.str (sl s)), some (.str (sl o)), some (rh s), some (rh o), some (.int beat), some (.int many), some (.str (sl p)), some (.str (sl (rm many fun k => chr s (beat + k)))), some (.int k), some (.lst (runT p)), some (.str (sl (words p))), none, none, some (rh (bothS s o)), some (.lst (.int (Nat.lcm (cyc s) (cyc o) : Nat) :: r))] (Dm x4 y4 z4) = _
    rw [y_or, x_bind, eA]
    cases litB s k with
    | true => rfl
    | false => exact eB
  obtain ⟨x5, y5, z5, e29⟩ := L29 hs hp x4 y4 z4
  refine go_last (μ1 := Dm x5 y5 z5) (not_t (tru_of ?_)) ⟨_, rfl⟩
  simp [e29]
end
end Ck01

set_option maxHeartbeats 0
namespace Ck01
open PySem PySem.Spec PyProof.Rows L2 TL
theorem ltx : LawTx pr d30 d21 "dice" "_law_rounds" "script" "cells" "script" "most" lbody rrest ["dice", "signs", "more", "one", "other", "beat", "many", "short", "row", "k", "runs", "words", "sign", "size", "both", "steps"] ["cell"] 1 where
  ml := by unfold pr; simp
  mr := by unfold pr; simp
  al := rfl
  ar := rfl
  okl := by decide +kernel
  okr := by decide +kernel
  Pl := rfl
  Pr_ := rfl
  npl := rfl
  npr := rfl
  bl := ⟨_, _, _, _, _, _, _, _, _, _, rfl⟩
  br := ⟨_, _, _, _, _, _, rfl⟩
  Nl_ := rfl
  Nr_ := rfl
  ni := rfl
  vl := by decide +kernel
  vr := by decide +kernel
  nl := by decide +kernel
  nr := by decide +kernel
  hh := by decide +kernel
  gl := fun _ => by rfl
theorem good : pr.good = true := by decide +kernel
theorem hP : ∀ t ∈ pr.defs, ∀ x, t.at_ = (x, some initN) → t.P = 1 := fun t ht x hx => by
  have g := good
  unfold ProgT.good at g
  simp only [Bool.and_eq_true, List.all_eq_true] at g
  have q := g.1.1.1.1.2 t ht
  rw [hx] at q
  simp at q
  exact q.2
theorem hpg : progB pr (PySem.W.OpenLaw.prog PySem.Challenge.rw_coasthall_k01_rhythms) = true := by decide +kernel
/-! ### the head -/
abbrev R0 : PySem.W.OpenRow := PySem.W.OpenLaw.row PySem.Challenge.rw_coasthall_k01_rhythms
abbrev hk : PySem.W.Hook := TL.hookY 5 pr.fa (pr.defs.map DefT.dd) [] pr.tf pr.ex
def ob (s : PySem.W.SharedT) : He.AlX := TL.obsY 5 pr.fa (pr.defs.map DefT.dd) [] pr.tf pr.ex (HandSHeadRun.getT s)
theorem ob_eq (s : PySem.W.SharedT) : ob s = hk.obs s.abs := TL.obsY_eq (HandSHeadRun.getT_eq s)
def loose : List Str := (["CoastFault", "BadLight", "BadBearing", "BadChart", "BadTime", "Unclear", "Aground", "NoWay", "TooLarge", "BadText", "LONGEST", "Rhythm", "read_rhythm", "are_alike", "together", "how_many_rhythms", "mobius", "all_rhythms", "_law_dice", "_law_roll", "_law_rounds", "_law_told", "_law_signs", "_law_turns"] : List Str) ++ (["_law_short", "_law_runs", "_law_kind", "_law_cases1", "_law_rest1"] : List Str)
theorem run (w : World) : HandSHeadRun.RunEq R0 (PySem.W.view R0.prog [32]) hk ob 6000 loose w := by
  intro os
  kernel_rfl
end Ck01
open PySem PySem.W PySem.Calls PyProof.Rows
set_option maxRecDepth 100000 in
set_option maxHeartbeats 0 in
theorem PySem.Challenge.cw_coasthall_k01_rhythms_holds : PySem.Challenge.rw_coasthall_k01_rhythms.Holds := by
  w_on; o_law
  refine HandSHeadRun.head_any (r := OpenLaw.row PySem.Challenge.rw_coasthall_k01_rhythms) (q := view (OpenLaw.row PySem.Challenge.rw_coasthall_k01_rhythms).prog [32]) (H := Ck01.hk) (ob := Ck01.ob) (M := 6000) (loose := Ck01.loose) (d := HandSHeadRun.topDef (OpenLaw.row PySem.Challenge.rw_coasthall_k01_rhythms).prog 32) (kwd := []) Ck01.ob_eq
    (by kernel_rfl) (fun s => by kernel_rfl) Ck01.run (by kernel_rfl) (by kernel_rfl) (by kernel_rfl) (by rfl) (by first | assumption | decide +kernel) (by decide +kernel) ⟨rfl, rfl, rfl, rfl, rfl, by decide +kernel⟩ ?hw ?hc
  case hw => w_witness2
  case hc =>
    refine LamX.walk_ofTsE (l := PySem.Challenge.rw_coasthall_k01_rhythms) (n := 63) (k := TL.lev Ck01.d30.h + 1) (x := "script") (CX := fun w => L2.CX (PySem.Challenge.rw_coasthall_k01_rhythms).prog w) rfl (by decide) (by kernel_rfl) ⟨rfl, by decide, by decide⟩ ?F (fun w H s e s' z => by
      obtain ⟨_, _, _, _, _, _, _, _, _, _, _, _, z⟩ := z
      exact z.elim)
    intro w mg fa h Y G hmg0
    have e : (HandSHeadRun.topDef (OpenLaw.row PySem.Challenge.rw_coasthall_k01_rhythms).prog 32).name = ("law" : PySem.Str) := by kernel_rfl
    rw [e] at hmg0
    exact TL.law_says Ck01.hpg Ck01.good Ck01.hP Ck01.ltx Ck01.hr Ck01.hb w mg fa h Y G hmg0

