import PyProof.Rows.All
import HandS.Lambda
import HandS.ForMost
import HandS.Walk
import HandS.Conv
import HandS.Deep
import HandS.ExcInit
import HandS.ForExc
import HandS.Style
import HandS.TupAny
import HandS.TupMul
import HandS.TupLe
import HandS.Zip
import KE.GoesEnum
import KE.GoesMore
import KE.GoesZip
import HandS.CallSlots
import HandS.Defaults
import HandS.Small
import HandS.TupLen
import HandS.IsInst
import HandS.SortInts
import HandS.Strs
import PyProof.DictUpdate
import HandS.DictComp
import HandS.SortRule
import HandS.NamedTupSort
import PyProof.ReprRoads
import HandS.RaiseMore
import HandS.HeadEnd
import HandS.TryMany
import HandS.ExcField
import PyProof.SumWalkG
import HandS.ExcValue
import HandS.ExcIs
import KE.KExcIs
import PySem.Challenge.RW_tenpoints_k00_errors
import HandS.Head0
import HandS.Head1
import HandS.Head2
import HandS.HeadHook1
import HandS.HeadHook2
import HandS.HeadHook3
import HandS.HeadHook4
import Wide.All
import OpenK.AllK
import Wide.FinOn
set_option Elab.async false
set_option linter.all false
set_option maxRecDepth 100000
set_option maxHeartbeats 4000000
namespace Dl
open PySem PySem.Spec PyProof.Rows L2

inductive DK where
  | k (x : Key)
  | t (xs : List Key)
  deriving DecidableEq
/-- a Python value as a tree -/
inductive D where
  | non | bl (b : Bool) | int (i : Int) | str (x : Str)
  | tup (l : List D) | lst (l : List D)
  | fz (l : List D)
  | tz (l : List D)
  | dct (t : Bool) (ks : List DK) (vs : List D)
  | ins (c : Str) (ns : List Str) (vs : List D)
  | exn (c : Str) (ns : List Str) (vs : List D)
  deriving Inhabited
/-- an object that is written -/
inductive Me where
  | l (l : List D)
  | d (t : Bool) (ks : List DK) (vs : List D)
  | i (c : Str) (ns : List Str) (vs : List D)
  deriving Inhabited
def Me.D : Me → D
  | .l xs => .lst xs
  | .d t ks vs => .dct t ks vs
  | .i c ns vs => .ins c ns vs
/-- what a local holds: nothing, a shared value, or a value that nobody else holds (me: at a known address) -/
inductive Slot where
  | un
  | sh (d : D)
  | ol (l : List D)
  | od (t : Bool) (ks : List DK) (vs : List D)
  | oo (ll : List (List D))
  | oi (c : Str) (ns : List Str) (vs : List D)
  | me (a : Addr) (m : Me)
  deriving Inhabited
def Slot.d : Slot → D
  | .un => .non
  | .sh d => d
  | .ol l => .lst l
  | .od t ks vs => .dct t ks vs
  | .oo ll => .lst (ll.map .lst)
  | .oi c ns vs => .ins c ns vs
  | .me _ m => m.D

structure Gx where
  K : PySem.W.Frag
  cl : Str → Option Addr
  T : List (Addr × Str) := []

/-! ### heaps -/
def notTbl : HO → Bool
  | .tbl _ => false
  | _ => true
def Ex (H H' : Hp) : Prop := ∀ a o, H a = some o → (notTbl o = true → H' a = some o) ∧ ∃ o', H' a = some o'
/-- the tables of code objects: each bears lambdas of one name -/
abbrev TbOk (G : Gx) (H : Hp) : Prop := LamX.Tabs G.T H
theorem TbOk.new {G : Gx} {H : Hp} {p : Addr} {o : HO} (t : TbOk G H) (hp : H p = none) (ho : notTbl o = true) : TbOk G (upd H p o) :=
  LamX.Tabs.ext t fun b u hb => by rw [upd_ne (ne_of_none hb hp)]; exact hb
theorem TbOk.mut {G : Gx} {H : Hp} {p : Addr} {o o0 : HO} (t : TbOk G H) (h0 : H p = some o0) (n0 : notTbl o0 = true) (c0 : ∀ q, o0 ≠ LamX.CodeO p q) (ho : notTbl o = true) : TbOk G (upd H p o) :=
  fun r hr => by
    obtain ⟨ps, h1, h2, h3⟩ := t r hr
    have z : r.1 ≠ p := fun z => by rw [z, h0] at h1; cases h1; cases n0
    refine ⟨ps, by rw [upd_ne z]; exact h1, h2, fun pos cv hc => ?_⟩
    obtain ⟨c, e1, e2⟩ := h3 pos cv hc
    have y : c ≠ p := fun y => by subst y; rw [h0] at e2; cases e2; exact c0 _ rfl
    exact ⟨c, e1, by rw [upd_ne y]; exact e2⟩
/-- a heap without its tables -/
def strip (H : Hp) : Hp := fun a => match H a with
  | some o => if notTbl o = true then some o else none
  | none => none
theorem strip_some {H : Hp} {a : Addr} {o : HO} (h : strip H a = some o) : H a = some o ∧ notTbl o = true := by
  unfold strip at h
  split at h
  · rename_i u hu
    split at h
    · cases h; exact ⟨hu, by assumption⟩
    · cases h
  · cases h
theorem strip_of {H : Hp} {a : Addr} {o : HO} (h : H a = some o) (n : notTbl o = true) : strip H a = some o := by
  unfold strip
  rw [h]
  exact if_pos n
theorem strip_none {H : Hp} {a : Addr} (h : H a = none) : strip H a = none := by
  unfold strip
  rw [h]
theorem Ex.refl (H : Hp) : Ex H H := fun _ o h => ⟨fun _ => h, o, h⟩
theorem Ex.trans {H H1 H2 : Hp} (a : Ex H H1) (b : Ex H1 H2) : Ex H H2 := fun x o h => by
  obtain ⟨h1, o', h2⟩ := a x o h
  refine ⟨fun n => (b x o (h1 n)).1 n, (b x o' h2).2⟩
theorem Ex.get {H H' : Hp} (e : Ex H H') {a : Addr} {o : HO} (h : H a = some o) (n : notTbl o = true := by rfl) : H' a = some o := (e a o h).1 n
theorem Ex.new {H : Hp} {p : Addr} {o : HO} (h : H p = none) : Ex H (upd H p o) := fun a u e => by
  have : upd H p o a = some u := by rw [upd_ne (ne_of_none e h)]; exact e
  exact ⟨fun _ => this, u, this⟩
/-- an object that H does not know may change -/
theorem Ex.mut {H H' : Hp} {p : Addr} {o : HO} (e : Ex H H') (h : H p = none) : Ex H (upd H' p o) := fun a u ha => by
  rw [upd_ne (ne_of_none ha h)]
  exact e a u ha
theorem Ex.free {H H' : Hp} (e : Ex H H') {a : Addr} (h : H' a = Option.none) : H a = Option.none := by
  cases q : H a with
  | none => rfl
  | some o =>
    obtain ⟨_, o', z⟩ := e a o q
    rw [h] at z; cases z
theorem strip_ex (H : Hp) : Ex (strip H) H := fun a o h => ⟨fun _ => (strip_some h).1, o, (strip_some h).1⟩
theorem strip_nt (H : Hp) : ∀ a o, strip H a = some o → notTbl o = true := fun _ _ h => (strip_some h).2
theorem Ex.strip {B H H' : Hp} (e : Ex B H) (nb : ∀ a o, B a = some o → notTbl o = true) (e2 : Ex (Dl.strip H) H') : Ex B H' := fun a o h => by
  have n := nb a o h
  have h1 := e2.get (strip_of (e.get h n) n) n
  exact ⟨fun _ => h1, o, h1⟩
theorem Ex.sub {H H' : Hp} {p : Addr} {o : HO} (e : Ex H H') (h : H' p = some o) (hn : H p = none) : Ex (upd H p o) H' := fun a u ha => by
  by_cases z : a = p
  · subst z; rw [upd_same] at ha; cases ha; exact ⟨fun _ => h, o, h⟩
  · rw [upd_ne z] at ha; exact e a u ha
theorem rd_ex {H H' : Hp} {a : Addr} {u : HO} (e : Ex H H') (hu : notTbl u = true) (h : Rd H a u) : Rd H' a u := by
  rcases h with h | ⟨o, h⟩
  · exact .inl (e.get h hu)
  · exact .inr ⟨o, e.get h rfl⟩
theorem sqL_ex {K : PySem.W.Frag} {H H' : Hp} {a : Addr} {xs : List V} (e : Ex H H') (h : SqL K H a xs) : SqL K H' a xs := by
  rcases h with h | h
  · exact .inl (rd_ex e rfl h)
  · exact .inr h
theorem sqT_ex {K : PySem.W.Frag} {H H' : Hp} {a : Addr} {xs : List V} (e : Ex H H') (h : SqT K H a xs) : SqT K H' a xs := by
  rcases h with h | h
  · exact .inl (rd_ex e rfl h)
  · exact .inr h

/-! ### what a value stands for -/
def DctAt (H : Hp) (a : Addr) : Bool → List DK → List V → Prop
  | false, ks, vs => ∃ kvs : List (Key × V), H a = some (.dK kvs) ∧ ks = kvs.map (fun p => DK.k p.1) ∧ vs = kvs.map (·.2)
  | true, ks, vs => ∃ kvs : List (List Key × V), H a = some (.dT kvs) ∧ ks = kvs.map (fun p => DK.t p.1) ∧ vs = kvs.map (·.2)
/-- a tuple that has no dict -/
def TzAt (H : Hp) (a : Addr) (vs : List V) : Prop := ∃ o : Obj, H a = some (.frz o (.tup vs)) ∧ o.cls = .type "tuple" ∧ o.dict = none
theorem tz_ex {H H' : Hp} {a : Addr} {vs : List V} (e : Ex H H') (h : TzAt H a vs) : TzAt H' a vs := by
  obtain ⟨o, h1, h2⟩ := h
  exact ⟨o, e.get h1, h2⟩
theorem tz_sq {K : PySem.W.Frag} {H : Hp} {a : Addr} {vs : List V} (h : TzAt H a vs) : SqT K H a vs := by
  obtain ⟨o, h1, _⟩ := h
  exact .inl (.inr ⟨o, h1⟩)
/-- an exception of the class at C that has these fields -/
def ExnAt (H : Hp) (a C : Addr) (ns : List Str) (vs : List V) : Prop := (ns = [] ∧ H a = some (L2.exo a C none)) ∨ ∃ dx, H a = some (L2.exo a C (some dx)) ∧ H dx = some (L2.exd dx (ns.zip vs))
theorem exnAt_ex {H H' : Hp} {a C : Addr} {ns : List Str} {vs : List V} (e : Ex H H') (h : ExnAt H a C ns vs) : ExnAt H' a C ns vs := by
  rcases h with ⟨h1, h2⟩ | ⟨dx, h1, h2⟩
  · exact .inl ⟨h1, e.get h2⟩
  · exact .inr ⟨dx, e.get h1, e.get h2⟩
mutual
def Rep (G : Gx) (H : Hp) : D → V → Prop
  | .non, v => v = .non
  | .bl b, v => v = .bl b
  | .int i, v => v = .int i
  | .str x, v => v = .str x
  | .tup l, v => ∃ a vs, v = .ref a ∧ H a = some (.tup vs) ∧ RepL G H l vs
  | .lst l, v => ∃ a vs, v = .ref a ∧ H a = some (.lst vs) ∧ RepL G H l vs
  | .fz l, v => ∃ a vs, v = .ref a ∧ SqL G.K H a vs ∧ RepL G H l vs
  | .tz l, v => ∃ a vs, v = .ref a ∧ TzAt H a vs ∧ RepL G H l vs
  | .dct t ks l, v => ∃ a vs, v = .ref a ∧ DctAt H a t ks vs ∧ RepL G H l vs
  | .ins c ns l, v => ∃ a C dx vs, v = .ref a ∧ G.cl c = some C ∧ H a = some (.ins C dx (ns.zip vs)) ∧ ns.length = vs.length ∧ RepL G H l vs
  | .exn c ns l, v => ∃ a C vs, v = .ref a ∧ G.cl c = some C ∧ ExnAt H a C ns vs ∧ ns.length = vs.length ∧ RepL G H l vs
def RepL (G : Gx) (H : Hp) : List D → List V → Prop
  | [], vs => vs = []
  | d :: ds, vs => ∃ v r, vs = v :: r ∧ Rep G H d v ∧ RepL G H ds r
end
theorem dctAt_ex {H H' : Hp} {a : Addr} {t : Bool} {ks : List DK} {vs : List V} (e : Ex H H') (h : DctAt H a t ks vs) : DctAt H' a t ks vs := by
  cases t with
  | false => obtain ⟨kvs, h, r⟩ := h; exact ⟨kvs, e.get h, r⟩
  | true => obtain ⟨kvs, h, r⟩ := h; exact ⟨kvs, e.get h, r⟩
mutual
theorem Rep.ex {G : Gx} {H H' : Hp} (e : Ex H H') : ∀ (d : D) {v : V}, Rep G H d v → Rep G H' d v
  | .non, _, h => h
  | .bl _, _, h => h
  | .int _, _, h => h
  | .str _, _, h => h
  | .tup l, _, ⟨a, vs, h1, h2, h3⟩ => ⟨a, vs, h1, e.get h2, RepL.ex e l h3⟩
  | .lst l, _, ⟨a, vs, h1, h2, h3⟩ => ⟨a, vs, h1, e.get h2, RepL.ex e l h3⟩
  | .fz l, _, ⟨a, vs, h1, h2, h3⟩ => ⟨a, vs, h1, sqL_ex e h2, RepL.ex e l h3⟩
  | .tz l, _, ⟨a, vs, h1, h2, h3⟩ => ⟨a, vs, h1, tz_ex e h2, RepL.ex e l h3⟩
  | .dct t ks l, _, ⟨a, vs, h1, h2, h3⟩ => ⟨a, vs, h1, dctAt_ex e h2, RepL.ex e l h3⟩
  | .ins c ns l, _, ⟨a, C, dx, vs, h1, h2, h3, h4, h5⟩ => ⟨a, C, dx, vs, h1, h2, e.get h3, h4, RepL.ex e l h5⟩
  | .exn c ns l, _, ⟨a, C, vs, h1, h2, h3, h4, h5⟩ => ⟨a, C, vs, h1, h2, exnAt_ex e h3, h4, RepL.ex e l h5⟩
theorem RepL.ex {G : Gx} {H H' : Hp} (e : Ex H H') : ∀ (l : List D) {vs : List V}, RepL G H l vs → RepL G H' l vs
  | [], _, h => h
  | d :: ds, _, ⟨v, r, h1, h2, h3⟩ => ⟨v, r, h1, Rep.ex e d h2, RepL.ex e ds h3⟩
end
section
variable {G : Gx} {H H' : Hp}
theorem RepL.length : ∀ {l : List D} {vs : List V}, RepL G H l vs → l.length = vs.length
  | [], vs, h => by rw [show vs = [] from h]; rfl
  | d :: ds, _, ⟨v, r, h1, h2, h3⟩ => by rw [h1, List.length_cons, List.length_cons, RepL.length h3]
theorem RepL.get : ∀ {l : List D} {vs : List V} {i : Nat} {d : D}, RepL G H l vs → l[i]? = some d → ∃ v, vs[i]? = some v ∧ Rep G H d v
  | [], _, _, _, _, e => by simp at e
  | d :: ds, _, 0, d', ⟨v, r, h1, h2, h3⟩, e => by
    have : d = d' := by simpa using e
    subst this; subst h1
    exact ⟨v, rfl, h2⟩
  | d :: ds, _, i + 1, d', ⟨v, r, h1, h2, h3⟩, e => by
    subst h1
    obtain ⟨u, q1, q2⟩ := RepL.get (i := i) h3 (by simpa using e)
    exact ⟨u, by simpa using q1, q2⟩
theorem RepL.get' : ∀ {l : List D} {vs : List V} {i : Nat} {v : V}, RepL G H l vs → vs[i]? = some v → ∃ d, l[i]? = some d ∧ Rep G H d v
  | [], _, _, _, h, e => by rw [show _ = [] from h] at e; simp at e
  | d :: ds, _, 0, v', ⟨v, r, h1, h2, h3⟩, e => by
    subst h1
    have : v = v' := by simpa using e
    subst this
    exact ⟨d, rfl, h2⟩
  | d :: ds, _, i + 1, v', ⟨v, r, h1, h2, h3⟩, e => by
    subst h1
    obtain ⟨u, q1, q2⟩ := RepL.get' (i := i) h3 (by simpa using e)
    exact ⟨u, by simpa using q1, q2⟩
theorem RepL.of_get : ∀ {l : List D} {vs : List V}, l.length = vs.length → (∀ (i : Nat) (d : D) (v : V), l[i]? = some d → vs[i]? = some v → Rep G H d v) → RepL G H l vs
  | [], [], _, _ => rfl
  | [], _ :: _, h, _ => by simp at h
  | _ :: _, [], h, _ => by simp at h
  | d :: ds, v :: vs, h, q => ⟨v, vs, rfl, q 0 d v rfl rfl, RepL.of_get (by simpa using h) fun i d' v' e1 e2 => q (i + 1) d' v' (by simpa using e1) (by simpa using e2)⟩
theorem RepL.nil : RepL G H [] [] := rfl
theorem RepL.cons {d : D} {ds : List D} {v : V} {vs : List V} (h : Rep G H d v) (hs : RepL G H ds vs) : RepL G H (d :: ds) (v :: vs) := ⟨v, vs, rfl, h, hs⟩
theorem RepL.append : ∀ {l m : List D} {vs ws : List V}, RepL G H l vs → RepL G H m ws → RepL G H (l ++ m) (vs ++ ws)
  | [], _, _, _, h, k => by rw [show _ = [] from h]; exact k
  | d :: ds, _, _, _, ⟨v, r, h1, h2, h3⟩, k => by subst h1; exact ⟨v, r ++ _, rfl, h2, RepL.append h3 k⟩
theorem RepL.set {l : List D} {vs : List V} {i : Nat} {d : D} {v : V} (h : RepL G H l vs) (r : Rep G H d v) : RepL G H (l.set i d) (vs.set i v) := by
  refine RepL.of_get (by simpa using h.length) fun j d' v' e1 e2 => ?_
  by_cases z : i = j
  · subst z
    rw [List.getElem?_set] at e1 e2
    simp only [if_true] at e1 e2
    split at e1
    · split at e2
      · cases e1; cases e2; exact r
      · cases e2
    · cases e1
  · rw [List.getElem?_set_ne z] at e1 e2
    obtain ⟨u, q1, q2⟩ := h.get e1
    rw [e2] at q1; cases q1; exact q2
theorem RepL.take {l : List D} {vs : List V} (n : Nat) (h : RepL G H l vs) : RepL G H (l.take n) (vs.take n) := by
  refine RepL.of_get (by simp [h.length]) fun j d' v' e1 e2 => ?_
  rw [List.getElem?_take] at e1 e2
  split at e1
  · rename_i z; rw [if_pos z] at e2
    obtain ⟨u, q1, q2⟩ := h.get e1
    rw [e2] at q1; cases q1; exact q2
  · cases e1
theorem RepL.drop {l : List D} {vs : List V} (n : Nat) (h : RepL G H l vs) : RepL G H (l.drop n) (vs.drop n) := by
  refine RepL.of_get (by simp [h.length]) fun j d' v' e1 e2 => ?_
  rw [List.getElem?_drop] at e1 e2
  obtain ⟨u, q1, q2⟩ := h.get e1
  rw [e2] at q1; cases q1; exact q2
theorem RepL.ints : ∀ {ns : List Int} {vs : List V}, RepL G H (ns.map D.int) vs → vs = ns.map V.int
  | [], _, h => h
  | n :: r, _, ⟨v, vs, h1, h2, h3⟩ => by rw [h1, RepL.ints h3, show v = V.int n from h2]; rfl
theorem RepL.of_ints : ∀ (ns : List Int), RepL G H (ns.map D.int) (ns.map V.int)
  | [] => rfl
  | n :: r => ⟨_, _, rfl, rfl, RepL.of_ints r⟩
end

/-! ### one local -/
def OoRel (G : Gx) (Hs H : Hp) (P : Addr → Prop) : List (List D) → List Addr → Prop
  | [], as => as = []
  | l :: ll, as => ∃ b r vs, as = b :: r ∧ P b ∧ H b = some (.lst vs) ∧ RepL G Hs l vs ∧ OoRel G Hs H P ll r
def MeR (G : Gx) (Hs H : Hp) (a : Addr) : Me → Prop
  | .l l => ∃ vs, H a = some (.lst vs) ∧ RepL G Hs l vs
  | .d false ks l => ∃ kvs : List (Key × V), H a = some (.dK kvs) ∧ ks = kvs.map (fun p => DK.k p.1) ∧ RepL G Hs l (kvs.map (·.2))
  | .d true ks l => ∃ kvs : List (List Key × V), H a = some (.dT kvs) ∧ ks = kvs.map (fun p => DK.t p.1) ∧ RepL G Hs l (kvs.map (·.2))
  | .i c ns l => ∃ C dx vs, G.cl c = some C ∧ H a = some (.ins C dx (ns.zip vs)) ∧ ns.length = vs.length ∧ RepL G Hs l vs
def OneRel (G : Gx) (Hs H : Hp) (x : Option V) (P : Addr → Prop) : Slot → Prop
  | .un => True
  | .sh d => ∃ v, x = some v ∧ Rep G Hs d v
  | .ol l => ∃ a vs, x = some (.ref a) ∧ P a ∧ H a = some (.lst vs) ∧ RepL G Hs l vs
  | .od false ks l => ∃ a, ∃ kvs : List (Key × V), x = some (.ref a) ∧ P a ∧ H a = some (.dK kvs) ∧ ks = kvs.map (fun p => DK.k p.1) ∧ RepL G Hs l (kvs.map (·.2))
  | .od true ks l => ∃ a, ∃ kvs : List (List Key × V), x = some (.ref a) ∧ P a ∧ H a = some (.dT kvs) ∧ ks = kvs.map (fun p => DK.t p.1) ∧ RepL G Hs l (kvs.map (·.2))
  | .oo ll => ∃ a as, x = some (.ref a) ∧ P a ∧ H a = some (.lst (as.map V.ref)) ∧ as.Nodup ∧ a ∉ as ∧ OoRel G Hs H P ll as
  | .oi c ns l => ∃ a C dx vs, x = some (.ref a) ∧ P a ∧ G.cl c = some C ∧ H a = some (.ins C dx (ns.zip vs)) ∧ ns.length = vs.length ∧ RepL G Hs l vs
  | .me a m => x = some (.ref a) ∧ P a ∧ MeR G Hs H a m
theorem MeR.mono {G : Gx} {Hs Hs' H H' : Hp} {a : Addr} {m : Me} (e : Ex Hs Hs') (k : ∀ o, H a = some o → H' a = some o) (h : MeR G Hs H a m) : MeR G Hs' H' a m := by
  cases m with
  | l l => obtain ⟨vs, h1, h2⟩ := h; exact ⟨vs, k _ h1, h2.ex e⟩
  | d t ks l =>
    cases t with
    | false => obtain ⟨vs, h1, h2, h3⟩ := h; exact ⟨vs, k _ h1, h2, h3.ex e⟩
    | true => obtain ⟨vs, h1, h2, h3⟩ := h; exact ⟨vs, k _ h1, h2, h3.ex e⟩
  | i c ns l => obtain ⟨C, dx, vs, h1, h2, h3, h4⟩ := h; exact ⟨C, dx, vs, h1, k _ h2, h3, h4.ex e⟩
theorem MeR.ob {G : Gx} {Hs H : Hp} {a : Addr} {m : Me} (h : MeR G Hs H a m) : ∃ o, H a = some o ∧ notTbl o = true := by
  cases m with
  | l l => obtain ⟨vs, h1, h2⟩ := h; exact ⟨_, h1, rfl⟩
  | d t ks l =>
    cases t with
    | false => obtain ⟨vs, h1, h2, h3⟩ := h; exact ⟨_, h1, rfl⟩
    | true => obtain ⟨vs, h1, h2, h3⟩ := h; exact ⟨_, h1, rfl⟩
  | i c ns l => obtain ⟨C, dx, vs, h1, h2, h3, h4⟩ := h; exact ⟨_, h2, rfl⟩
theorem nc_lst {a : Addr} {vs : List V} (q : Str) : HO.lst vs ≠ LamX.CodeO a q := fun z => by
  have z' : HO.lst vs = HO.ext _ := z
  cases z'
theorem MeR.nc {G : Gx} {Hs H : Hp} {a : Addr} {m : Me} (h : MeR G Hs H a m) : ∀ o0, H a = some o0 → notTbl o0 = true ∧ ∀ q, o0 ≠ LamX.CodeO a q := fun o0 h0 => by
  cases m with
  | l l =>
    obtain ⟨vs, h1, h2⟩ := h
    rw [h1] at h0; cases h0
    exact ⟨rfl, nc_lst⟩
  | d t ks l =>
    cases t with
    | false =>
      obtain ⟨vs, h1, h2, h3⟩ := h
      rw [h1] at h0; cases h0
      exact ⟨rfl, fun q z => by
        have z' : HO.dK vs = HO.ext _ := z
        cases z'⟩
    | true =>
      obtain ⟨vs, h1, h2, h3⟩ := h
      rw [h1] at h0; cases h0
      exact ⟨rfl, fun q z => by
        have z' : HO.dT vs = HO.ext _ := z
        cases z'⟩
  | i c ns l =>
    obtain ⟨C, dx, vs, h1, h2, h3, h4⟩ := h
    rw [h2] at h0; cases h0
    exact ⟨rfl, fun q z => by
      have z' : HO.ins C dx (ns.zip vs) = HO.ext _ := z
      cases z'⟩
theorem MeR.rep {G : Gx} {Hs Hs' H : Hp} {a : Addr} {m : Me} (e : Ex Hs Hs') (k : ∀ o, H a = some o → Hs' a = some o) (h : MeR G Hs H a m) : Rep G Hs' m.D (.ref a) := by
  cases m with
  | l l => obtain ⟨vs, h1, h2⟩ := h; exact ⟨a, vs, rfl, k _ h1, h2.ex e⟩
  | d t ks l =>
    cases t with
    | false => obtain ⟨kvs, h1, h2, h3⟩ := h; exact ⟨a, _, rfl, ⟨kvs, k _ h1, h2, rfl⟩, h3.ex e⟩
    | true => obtain ⟨kvs, h1, h2, h3⟩ := h; exact ⟨a, _, rfl, ⟨kvs, k _ h1, h2, rfl⟩, h3.ex e⟩
  | i c ns l => obtain ⟨C, dx, vs, h1, h2, h3, h4⟩ := h; exact ⟨a, C, dx, vs, rfl, h1, k _ h2, h3, h4.ex e⟩
abbrev Ent := Option V × Slot
/-- the state: B stays as it is, Hs is what is shared -/
structure StR (G : Gx) (B Hs0 Hs H : Hp) (L : List Ent) : Prop where
  eB : Ex B H
  eS : Ex Hs H
  e0 : Ex Hs0 Hs
  nt : ∀ a o, Hs a = some o → notTbl o = true
  nw : ∀ a o, Hs a = some o → (∃ o', Hs0 a = some o') ∨ B a = none
  tb : TbOk G H
  nb : ∀ a o, B a = some o → notTbl o = true
  own : ∃ A : Nat → Addr → Prop, (∀ i j a, A i a → A j a → i = j) ∧ (∀ i a, A i a → Hs a = none ∧ B a = none ∧ ∃ o, H a = some o) ∧ ∀ i x s, L[i]? = some (x, s) → OneRel G Hs H x (A i) s
section
variable {G : Gx} {B Hs0 Hs Hs' H H' : Hp} {L : List Ent} {x : Option V} {P P' : Addr → Prop} {s : Slot}
theorem OoRel.mono (e : Ex Hs Hs') (k : ∀ a o, P a → H a = some o → H' a = some o) (kp : ∀ a, P a → P' a) : ∀ {ll : List (List D)} {as : List Addr}, OoRel G Hs H P ll as → OoRel G Hs' H' P' ll as
  | [], _, h => h
  | l :: ll, _, ⟨b, r, vs, h1, h2, h3, h4, h5⟩ => ⟨b, r, vs, h1, kp _ h2, k _ _ h2 h3, RepL.ex e l h4, OoRel.mono e k kp h5⟩
theorem OneRel.mono (e : Ex Hs Hs') (k : ∀ a o, P a → H a = some o → H' a = some o) (kp : ∀ a, P a → P' a) (h : OneRel G Hs H x P s) : OneRel G Hs' H' x P' s := by
  cases s with
  | un => trivial
  | sh d => obtain ⟨v, h1, h2⟩ := h; exact ⟨v, h1, h2.ex e⟩
  | ol l => obtain ⟨a, vs, h1, h2, h3, h4⟩ := h; exact ⟨a, vs, h1, kp _ h2, k _ _ h2 h3, h4.ex e⟩
  | od t ks l =>
    cases t with
    | false => obtain ⟨a, vs, h1, h2, h3, h4, h5⟩ := h; exact ⟨a, vs, h1, kp _ h2, k _ _ h2 h3, h4, h5.ex e⟩
    | true => obtain ⟨a, vs, h1, h2, h3, h4, h5⟩ := h; exact ⟨a, vs, h1, kp _ h2, k _ _ h2 h3, h4, h5.ex e⟩
  | oo ll => obtain ⟨a, as, h1, h2, h3, h4, h5, h6⟩ := h; exact ⟨a, as, h1, kp _ h2, k _ _ h2 h3, h4, h5, h6.mono e k kp⟩
  | oi c ns l => obtain ⟨a, C, dx, vs, h1, h2, h3, h4, h5, h6⟩ := h; exact ⟨a, C, dx, vs, h1, kp _ h2, h3, k _ _ h2 h4, h5, h6.ex e⟩
  | me a m => obtain ⟨h1, h2, h3⟩ := h; exact ⟨h1, kp _ h2, h3.mono e fun o => k _ o h2⟩
/-- all that is known stays, new objects may come -/
theorem StR.grow (S : StR G B Hs0 Hs H L) (k : Ex H H') (ks : ∀ a o, H a = some o → Hs a = none → B a = none → H' a = some o) (tb : TbOk G H') : StR G B Hs0 Hs H' L := by
  obtain ⟨A, a1, a2, a3⟩ := S.own
  refine ⟨S.eB.trans k, S.eS.trans k, S.e0, S.nt, S.nw, tb, S.nb, A, a1, fun i a h => ?_, fun i x s h => ?_⟩
  · obtain ⟨q1, q2, o, q3⟩ := a2 i a h
    exact ⟨q1, q2, o, ks _ _ q3 q1 q2⟩
  · exact (a3 i x s h).mono (Ex.refl Hs) (fun a o pa q => by
      obtain ⟨q1, q2, _⟩ := a2 i a pa
      exact ks _ _ q q1 q2) fun _ z => z
theorem StR.alloc {p : Addr} {o : HO} (S : StR G B Hs0 Hs H L) (hp : H p = none) (ho : notTbl o = true := by rfl) : StR G B Hs0 Hs (upd H p o) L :=
  S.grow (Ex.new hp) (fun a o h _ _ => by rw [upd_ne (ne_of_none h hp)]; exact h) (S.tb.new hp ho)
/-- a new object p is laid and shared -/
theorem StR.allocSh {p : Addr} {o : HO} (S : StR G B Hs0 Hs H L) (hp : H p = none) (ho : notTbl o = true) : StR G B Hs0 (upd Hs p o) (upd H p o) L := by
  have hs : Hs p = none := S.eS.free hp
  obtain ⟨A, a1, a2, a3⟩ := S.own
  refine ⟨S.eB.trans (Ex.new hp), (S.eS.trans (Ex.new hp)).sub upd_same hs, S.e0.trans (Ex.new hs), fun a u h => ?_, fun a u h => ?_, S.tb.new hp ho, S.nb, A, a1, fun i a h => ?_, fun i x s h => ?_⟩
  · by_cases z : a = p
    · subst z; rw [upd_same] at h; cases h; exact ho
    · rw [upd_ne z] at h; exact S.nt a u h
  · by_cases z : a = p
    · subst z; exact .inr (S.eB.free hp)
    · rw [upd_ne z] at h; exact S.nw a u h
  · obtain ⟨q1, q2, u, q3⟩ := a2 i a h
    have z : a ≠ p := ne_of_none q3 hp
    exact ⟨by rw [upd_ne z]; exact q1, q2, u, by rw [upd_ne z]; exact q3⟩
  · exact (a3 i x s h).mono (Ex.new hs) (fun a u pa q => by rw [upd_ne (ne_of_none q hp)]; exact q) fun _ z => z
theorem StR.shEx {p : Addr} {o : HO} (S : StR G B Hs0 Hs H L) (hp : H p = none) : Ex Hs (upd Hs p o) := Ex.new (S.eS.free hp)
/-- a temp comes -/
theorem StR.pushSh {v : V} {d : D} (S : StR G B Hs0 Hs H L) (r : Rep G Hs d v) : StR G B Hs0 Hs H (L ++ [(some v, .sh d)]) := by
  obtain ⟨A, a1, a2, a3⟩ := S.own
  refine ⟨S.eB, S.eS, S.e0, S.nt, S.nw, S.tb, S.nb, A, a1, a2, fun i x s h => ?_⟩
  by_cases hi : i < L.length
  · rw [List.getElem?_append_left hi] at h; exact a3 i x s h
  · rw [List.getElem?_append_right (by omega)] at h
    have : i - L.length = 0 := by
      by_cases z : i - L.length = 0
      · exact z
      · rw [List.getElem?_eq_none (by simp; omega)] at h; cases h
    rw [this] at h
    cases h
    exact ⟨v, rfl, r⟩
theorem StR.pushUn {x : Option V} (S : StR G B Hs0 Hs H L) : StR G B Hs0 Hs H (L ++ [(x, .un)]) := by
  obtain ⟨A, a1, a2, a3⟩ := S.own
  refine ⟨S.eB, S.eS, S.e0, S.nt, S.nw, S.tb, S.nb, A, a1, a2, fun i x s h => ?_⟩
  by_cases hi : i < L.length
  · rw [List.getElem?_append_left hi] at h; exact a3 i x s h
  · rw [List.getElem?_append_right (by omega)] at h
    have : i - L.length = 0 := by
      by_cases z : i - L.length = 0
      · exact z
      · rw [List.getElem?_eq_none (by simp; omega)] at h; cases h
    rw [this] at h
    cases h
    trivial
/-- new objects that nobody else holds come with a temp -/
theorem StR.pushOwn {v : V} {s : Slot} {N : Addr → Prop} (S : StR G B Hs0 Hs H L) (k : Ex H H') (ks : ∀ a o, H a = some o → Hs a = none → B a = none → H' a = some o)
    (hN : ∀ a, N a → H a = none ∧ ∃ o, H' a = some o) (r : OneRel G Hs H' (some v) N s) (tb : TbOk G H') : StR G B Hs0 Hs H' (L ++ [(some v, s)]) := by
  obtain ⟨A, a1, a2, a3⟩ := S.own
  have S' := S.grow k ks tb
  have old : ∀ i a, A i a → ¬ N a := fun i a h z => by
    obtain ⟨_, _, o, q⟩ := a2 i a h
    rw [(hN a z).1] at q; cases q
  refine ⟨S'.eB, S'.eS, S'.e0, S'.nt, S'.nw, S'.tb, S'.nb, fun i a => (i < L.length ∧ A i a) ∨ (i = L.length ∧ N a), fun i j a h1 h2 => ?_, fun i a h => ?_, fun i x s h => ?_⟩
  · rcases h1 with ⟨l1, h1⟩ | ⟨e1, h1⟩ <;> rcases h2 with ⟨l2, h2⟩ | ⟨e2, h2⟩
    · exact a1 i j a h1 h2
    · exact absurd h2 (old i a h1)
    · exact absurd h1 (old j a h2)
    · omega
  · rcases h with ⟨l1, h⟩ | ⟨e1, h⟩
    · obtain ⟨q1, q2, o, q3⟩ := a2 i a h
      exact ⟨q1, q2, o, ks _ _ q3 q1 q2⟩
    · obtain ⟨q1, q2⟩ := hN a h
      exact ⟨S.eS.free q1, S.eB.free q1, q2⟩
  · by_cases hi : i < L.length
    · rw [List.getElem?_append_left hi] at h
      refine (a3 i x s h).mono (Ex.refl Hs) (fun a o pa q => ?_) fun _ z => .inl ⟨hi, z⟩
      obtain ⟨q1, q2, _⟩ := a2 i a pa
      exact ks _ _ q q1 q2
    · rw [List.getElem?_append_right (by omega)] at h
      have e : i - L.length = 0 := by
        by_cases z : i - L.length = 0
        · exact z
        · rw [List.getElem?_eq_none (by simp; omega)] at h; cases h
      rw [e] at h
      cases h
      exact r.mono (Ex.refl Hs) (fun _ _ _ q => q) fun _ z => .inr ⟨by omega, z⟩
theorem StR.pushList {p : Addr} {vs : List V} {l : List D} (S : StR G B Hs0 Hs H L) (hp : H p = none) (r : RepL G Hs l vs) : StR G B Hs0 Hs (upd H p (.lst vs)) (L ++ [(some (.ref p), .ol l)]) :=
  S.pushOwn (N := fun a => a = p) (Ex.new hp) (fun a o h _ _ => by rw [upd_ne (ne_of_none h hp)]; exact h) (fun a z => by subst z; exact ⟨hp, _, upd_same⟩) ⟨p, vs, rfl, rfl, upd_same, r⟩ (S.tb.new hp rfl)
/-- fewer are looked at -/
theorem StR.pick {M : List Ent} (S : StR G B Hs0 Hs H L) (f : Nat → Nat) (inj : ∀ i j, i < M.length → j < M.length → f i = f j → i = j) (h : ∀ i e, M[i]? = some e → L[f i]? = some e) : StR G B Hs0 Hs H M := by
  obtain ⟨A, a1, a2, a3⟩ := S.own
  refine ⟨S.eB, S.eS, S.e0, S.nt, S.nw, S.tb, S.nb, fun i a => i < M.length ∧ A (f i) a, fun i j a h1 h2 => inj i j h1.1 h2.1 (a1 _ _ a h1.2 h2.2), fun i a h => a2 _ a h.2, fun i x s q => ?_⟩
  exact (a3 (f i) x s (h i _ q)).mono (Ex.refl Hs) (fun _ _ _ q => q) fun _ z => ⟨(List.getElem?_eq_some_iff.mp q).1, z⟩
theorem StR.pop {e : Ent} (S : StR G B Hs0 Hs H (L ++ [e])) : StR G B Hs0 Hs H L :=
  S.pick (fun i => i) (fun _ _ _ _ h => h) fun i e h => by rw [List.getElem?_append_left (List.getElem?_eq_some_iff.mp h).1]; exact h
/-- a temp goes into a place -/
theorem StR.move {e : Ent} {i : Nat} (S : StR G B Hs0 Hs H (L ++ [e])) (hi : i < L.length) : StR G B Hs0 Hs H (L.set i e) :=
  S.pick (fun j => if j = i then L.length else j) (fun a b h1 h2 h => by
    simp only [List.length_set] at h1 h2
    by_cases z1 : a = i <;> by_cases z2 : b = i <;> simp only [z1, z2, if_true, if_false] at h <;> first | omega | (simp only [z1, z2] at *; omega)) fun j e' h => by
    by_cases z : j = i
    · subst z
      rw [List.getElem?_set_self hi] at h
      simp only [if_true]
      rw [List.getElem?_append_right (Nat.le_refl _), Nat.sub_self]
      exact h
    · rw [List.getElem?_set_ne (Ne.symm z)] at h
      simp only [z, if_false]
      rw [List.getElem?_append_left (List.getElem?_eq_some_iff.mp h).1]
      exact h
theorem StR.drop {i : Nat} {x : Option V} (S : StR G B Hs0 Hs H L) : StR G B Hs0 Hs H (L.set i (x, .un)) := by
  obtain ⟨A, a1, a2, a3⟩ := S.own
  refine ⟨S.eB, S.eS, S.e0, S.nt, S.nw, S.tb, S.nb, A, a1, a2, fun j y s h => ?_⟩
  by_cases z : i = j
  · subst z
    rw [List.getElem?_set] at h
    simp only [if_true] at h
    split at h
    · cases h; trivial
    · cases h
  · rw [List.getElem?_set_ne z] at h
    exact a3 j y s h
/-- one place's object is written: a is its own -/
theorem StR.write {i : Nat} {s s' : Slot} {x x' : Option V} (S : StR G B Hs0 Hs H L) (hi : L[i]? = some (x, s))
    (w : ∀ P : Addr → Prop, OneRel G Hs H x P s → ∃ a o, P a ∧ H' = upd H a o ∧ OneRel G Hs (upd H a o) x' P s' ∧ (notTbl o = true ∧ ∀ o0, H a = some o0 → notTbl o0 = true ∧ ∀ q, o0 ≠ LamX.CodeO a q)) : StR G B Hs0 Hs H' (L.set i (x', s')) := by
  obtain ⟨A, a1, a2, a3⟩ := S.own
  obtain ⟨a, o, pa, rfl, r, nt1, nt2⟩ := w (A i) (a3 i x s hi)
  obtain ⟨n1, n2, o0, ho⟩ := a2 i a pa
  refine ⟨S.eB.mut n2, S.eS.mut n1, S.e0, S.nt, S.nw, S.tb.mut ho (nt2 o0 ho).1 (nt2 o0 ho).2 nt1, S.nb, A, a1, fun j b h => ?_, fun j y t h => ?_⟩
  · obtain ⟨q1, q2, u, q3⟩ := a2 j b h
    refine ⟨q1, q2, ?_⟩
    by_cases z : b = a
    · subst z; exact ⟨_, upd_same⟩
    · exact ⟨u, by rw [upd_ne z]; exact q3⟩
  · by_cases z : i = j
    · subst z
      rw [List.getElem?_set_self (List.getElem?_eq_some_iff.mp hi).1] at h
      cases h
      exact r
    · rw [List.getElem?_set_ne z] at h
      refine (a3 j y t h).mono (Ex.refl Hs) (fun b u pb q => ?_) fun _ z => z
      have : b ≠ a := fun e => by subst e; exact z (a1 i j b pa pb)
      rw [upd_ne this]; exact q
theorem ooRel_rep (e : Ex Hs Hs') (k : ∀ b o, P b → H b = some o → Hs' b = some o) : ∀ {ll : List (List D)} {as : List Addr}, OoRel G Hs H P ll as → RepL G Hs' (ll.map D.lst) (as.map V.ref)
  | [], as, h => by rw [show as = [] from h]; exact rfl
  | l :: ll, _, ⟨b, r, vs, h1, h2, h3, h4, h5⟩ => by
    subst h1
    exact ⟨.ref b, _, rfl, ⟨b, vs, rfl, k b _ h2 h3, h4.ex e⟩, ooRel_rep e k h5⟩
theorem ooRel_get : ∀ {ll : List (List D)} {as : List Addr} {b : Addr}, OoRel G Hs H P ll as → b ∈ as → P b ∧ ∃ vs, H b = some (.lst vs)
  | [], as, _, h, hb => by rw [show as = [] from h] at hb; simp at hb
  | l :: ll, _, c, ⟨b, r, vs, h1, h2, h3, h4, h5⟩, hb => by
    subst h1
    rcases List.mem_cons.mp hb with z | z
    · subst z; exact ⟨h2, vs, h3⟩
    · exact ooRel_get h5 z
open Classical in
/-- what a place holds is shared from now on -/
theorem StR.freeze {i : Nat} (S : StR G B Hs0 Hs H L) (hi : L[i]? = some (x, s)) (hs : s ≠ .un) : ∃ Hs', Ex Hs Hs' ∧ StR G B Hs0 Hs' H (L.set i (x, .sh s.d)) := by
  obtain ⟨A, a1, a2, a3⟩ := S.own
  have r := a3 i x s hi
  have il := (List.getElem?_eq_some_iff.mp hi).1
  -- the nodes
  obtain ⟨N, hN, hn, hr⟩ : ∃ N : Addr → Prop, (∀ a, N a → A i a) ∧ (∀ a o, N a → H a = some o → notTbl o = true) ∧ ∀ Hs', Ex Hs Hs' → (∀ a o, N a → H a = some o → Hs' a = some o) → ∃ v, x = some v ∧ Rep G Hs' s.d v := by
    cases s with
    | un => exact absurd rfl hs
    | sh d =>
      obtain ⟨v, h1, h2⟩ := r
      exact ⟨fun _ => False, fun _ z => z.elim, fun _ _ z => z.elim, fun Hs' e _ => ⟨v, h1, h2.ex e⟩⟩
    | ol l =>
      obtain ⟨a, vs, h1, h2, h3, h4⟩ := r
      refine ⟨fun b => b = a, fun b z => by subst z; exact h2, fun b o z q => by subst z; rw [h3] at q; cases q; rfl, fun Hs' e k => ⟨_, h1, a, vs, rfl, k a _ rfl h3, h4.ex e⟩⟩
    | od t ks l =>
      cases t with
      | false =>
        obtain ⟨a, kvs, h1, h2, h3, h4, h5⟩ := r
        exact ⟨fun b => b = a, fun b z => by subst z; exact h2, fun b o z q => by subst z; rw [h3] at q; cases q; rfl, fun Hs' e k => ⟨_, h1, a, _, rfl, ⟨kvs, k a _ rfl h3, h4, rfl⟩, h5.ex e⟩⟩
      | true =>
        obtain ⟨a, kvs, h1, h2, h3, h4, h5⟩ := r
        exact ⟨fun b => b = a, fun b z => by subst z; exact h2, fun b o z q => by subst z; rw [h3] at q; cases q; rfl, fun Hs' e k => ⟨_, h1, a, _, rfl, ⟨kvs, k a _ rfl h3, h4, rfl⟩, h5.ex e⟩⟩
    | oo ll =>
      obtain ⟨a, as, h1, h2, h3, h4, h5, h6⟩ := r
      refine ⟨fun b => b = a ∨ b ∈ as, fun b z => ?_, fun b o z q => ?_, fun Hs' e k => ⟨_, h1, a, _, rfl, k a _ (.inl rfl) h3, ?_⟩⟩
      · rcases z with z | z
        · subst z; exact h2
        · exact (ooRel_get h6 z).1
      · rcases z with z | z
        · subst z; rw [h3] at q; cases q; rfl
        · obtain ⟨_, vs, z⟩ := ooRel_get h6 z
          rw [z] at q; cases q; rfl
      · clear h1 h3 h4 h5
        have key : ∀ {ll : List (List D)} {bs : List Addr}, (∀ b ∈ bs, b ∈ as) → OoRel G Hs H (A i) ll bs → RepL G Hs' (ll.map D.lst) (bs.map V.ref) := by
          intro ll
          induction ll with
          | nil => intro bs _ h; rw [show bs = [] from h]; exact rfl
          | cons l ll ih =>
            rintro bs hb ⟨b, r, vs, q1, q2, q3, q4, q5⟩
            subst q1
            exact ⟨.ref b, _, rfl, ⟨b, vs, rfl, k b _ (.inr (hb b (by simp))) q3, q4.ex e⟩, ih (fun c hc => hb c (by simp [hc])) q5⟩
        exact key (fun _ z => z) h6
    | oi c ns l =>
      obtain ⟨a, C, dx, vs, h1, h2, h3, h4, h5, h6⟩ := r
      exact ⟨fun b => b = a, fun b z => by subst z; exact h2, fun b o z q => by subst z; rw [h4] at q; cases q; rfl, fun Hs' e k => ⟨_, h1, a, C, dx, vs, rfl, h3, k a _ rfl h4, h5, h6.ex e⟩⟩
    | me a m =>
      obtain ⟨h1, h2, h3⟩ := r
      obtain ⟨o0, q1, q2⟩ := h3.ob
      exact ⟨fun b => b = a, fun b z => by subst z; exact h2, fun b o z q => by subst z; rw [q1] at q; cases q; exact q2, fun Hs' e k => ⟨_, h1, h3.rep e fun o => k a o rfl⟩⟩
  let Hs' : Hp := fun a => if N a then H a else Hs a
  have e1 : Ex Hs Hs' := fun a o h => by
    have nN : ¬ N a := fun z => by rw [(a2 i a (hN a z)).1] at h; cases h
    have q : Hs' a = some o := by show (if N a then H a else Hs a) = _; rw [if_neg nN]; exact h
    exact ⟨fun _ => q, o, q⟩
  have e2 : Ex Hs' H := fun a o h => by
    by_cases z : N a
    · have q : H a = some o := by rw [← h]; show _ = (if N a then H a else Hs a); rw [if_pos z]
      exact ⟨fun _ => q, o, q⟩
    · have q : Hs a = some o := by rw [← h]; show _ = (if N a then H a else Hs a); rw [if_neg z]
      exact S.eS a o q
  obtain ⟨v, hv, rv⟩ := hr Hs' e1 fun a o z q => by show (if N a then H a else Hs a) = _; rw [if_pos z]; exact q
  refine ⟨Hs', e1, S.eB, e2, S.e0.trans e1, fun a o h => ?_, fun a o h => ?_, S.tb, S.nb, fun j a => j ≠ i ∧ A j a, fun j j' a z z' => a1 j j' a z.2 z'.2, fun j a z => ?_, fun j y t h => ?_⟩
  · by_cases z : N a
    · exact hn a o z (by rw [← h]; show _ = (if N a then H a else Hs a); rw [if_pos z])
    · exact S.nt a o (by rw [← h]; show _ = (if N a then H a else Hs a); rw [if_neg z])
  · by_cases z : N a
    · exact .inr (a2 i a (hN a z)).2.1
    · exact S.nw a o (by rw [← h]; show _ = (if N a then H a else Hs a); rw [if_neg z])
  · obtain ⟨q1, q2, q3⟩ := a2 j a z.2
    refine ⟨?_, q2, q3⟩
    have : ¬ N a := fun y => z.1 (a1 j i a z.2 (hN a y))
    show (if N a then H a else Hs a) = _
    rw [if_neg this]; exact q1
  · by_cases z : i = j
    · subst z
      rw [List.getElem?_set_self il] at h
      cases h
      exact ⟨v, hv, rv⟩
    · rw [List.getElem?_set_ne z] at h
      exact (a3 j y t h).mono e1 (fun _ _ _ q => q) fun _ q => ⟨fun e => z e.symm, q⟩
theorem StR.sh {i : Nat} {d : D} (S : StR G B Hs0 Hs H L) (hi : L[i]? = some (x, .sh d)) : ∃ v, x = some v ∧ Rep G Hs d v := by
  obtain ⟨A, a1, a2, a3⟩ := S.own
  exact a3 i x _ hi
theorem StR.rel {i : Nat} (S : StR G B Hs0 Hs H L) (hi : L[i]? = some (x, s)) : ∃ P, OneRel G Hs H x P s := by
  obtain ⟨A, a1, a2, a3⟩ := S.own
  exact ⟨_, a3 i x s hi⟩
/-- a value that may be read now: what it holds is shared, itself it may be one's own -/
def RB (G : Gx) (Hs H : Hp) : D → V → Prop
  | .lst l, v => ∃ a vs, v = .ref a ∧ H a = some (.lst vs) ∧ RepL G Hs l vs
  | .dct t ks l, v => ∃ a vs, v = .ref a ∧ DctAt H a t ks vs ∧ RepL G Hs l vs
  | .ins c ns l, v => ∃ a C dx vs, v = .ref a ∧ G.cl c = some C ∧ H a = some (.ins C dx (ns.zip vs)) ∧ ns.length = vs.length ∧ RepL G Hs l vs
  | d, v => Rep G Hs d v
theorem Rep.rb {d : D} {v : V} (e : Ex Hs H) (h : Rep G Hs d v) : RB G Hs H d v := by
  cases d with
  | lst l => obtain ⟨a, vs, h1, h2, h3⟩ := h; exact ⟨a, vs, h1, e.get h2, h3⟩
  | dct t ks l => obtain ⟨a, vs, h1, h2, h3⟩ := h; exact ⟨a, vs, h1, dctAt_ex e h2, h3⟩
  | ins c ns l => obtain ⟨a, C, dx, vs, h1, h2, h3, h4⟩ := h; exact ⟨a, C, dx, vs, h1, h2, e.get h3, h4⟩
  | _ => exact h
theorem RB.rep {d : D} {v : V} (e : Ex Hs H) (h : RB G Hs H d v) : Rep G H d v := by
  cases d with
  | lst l => obtain ⟨a, vs, h1, h2, h3⟩ := h; exact ⟨a, vs, h1, h2, h3.ex e⟩
  | dct t ks l => obtain ⟨a, vs, h1, h2, h3⟩ := h; exact ⟨a, vs, h1, h2, h3.ex e⟩
  | ins c ns l => obtain ⟨a, C, dx, vs, h1, h2, h3, h4, h5⟩ := h; exact ⟨a, C, dx, vs, h1, h2, h3, h4, h5.ex e⟩
  | _ => exact Rep.ex e _ h
/-- what may be read of a place without giving it away -/
def Slot.rd : Slot → Option D
  | .sh d => some d
  | .ol l => some (.lst l)
  | .od t ks l => some (.dct t ks l)
  | .oi c ns l => some (.ins c ns l)
  | .me _ m => some m.D
  | _ => none
theorem MeR.rb {a : Addr} {m : Me} (h : MeR G Hs H a m) : RB G Hs H m.D (.ref a) := by
  cases m with
  | l l => obtain ⟨vs, h1, h2⟩ := h; exact ⟨a, vs, rfl, h1, h2⟩
  | d t ks l =>
    cases t with
    | false => obtain ⟨kvs, h1, h2, h3⟩ := h; exact ⟨a, _, rfl, ⟨kvs, h1, h2, rfl⟩, h3⟩
    | true => obtain ⟨kvs, h1, h2, h3⟩ := h; exact ⟨a, _, rfl, ⟨kvs, h1, h2, rfl⟩, h3⟩
  | i c ns l => obtain ⟨C, dx, vs, h1, h2, h3, h4⟩ := h; exact ⟨a, C, dx, vs, rfl, h1, h2, h3, h4⟩
theorem OneRel.rb {d : D} (e : Ex Hs H) (h : OneRel G Hs H x P s) (hd : s.rd = some d) : ∃ v, x = some v ∧ RB G Hs H d v := by
  cases s with
  | un => cases hd
  | sh d' => cases hd; obtain ⟨v, h1, h2⟩ := h; exact ⟨v, h1, h2.rb e⟩
  | ol l => cases hd; obtain ⟨a, vs, h1, h2, h3, h4⟩ := h; exact ⟨_, h1, a, vs, rfl, h3, h4⟩
  | od t ks l =>
    cases hd
    cases t with
    | false => obtain ⟨a, kvs, h1, h2, h3, h4, h5⟩ := h; exact ⟨_, h1, a, _, rfl, ⟨kvs, h3, h4, rfl⟩, h5⟩
    | true => obtain ⟨a, kvs, h1, h2, h3, h4, h5⟩ := h; exact ⟨_, h1, a, _, rfl, ⟨kvs, h3, h4, rfl⟩, h5⟩
  | oo ll => cases hd
  | oi c ns l => cases hd; obtain ⟨a, C, dx, vs, h1, h2, h3, h4, h5, h6⟩ := h; exact ⟨_, h1, a, C, dx, vs, rfl, h3, h4, h5, h6⟩
  | me a m => cases hd; obtain ⟨h1, h2, h3⟩ := h; exact ⟨_, h1, h3.rb⟩
end
end Dl
set_option Elab.async false
set_option linter.all false
set_option maxRecDepth 100000
set_option maxHeartbeats 4000000
namespace Dl
open PySem PySem.Spec PyProof.Rows L2

structure Exn where
  c : Str
  ns : List Str
  fs : List D
abbrev Env := List Slot
inductive Out (α : Type) where
  | ok (a : α) (e : Env)
  | exc (x : Exn) (e : Env)
  | stuck
abbrev M (α : Type) := Env → Out α
def Out.bind {α β : Type} (r : Out α) (k : α → M β) : Out β := match r with
  | .ok a e => k a e
  | .exc x e => .exc x e
  | .stuck => .stuck
def M.bind {α β : Type} (m : M α) (k : α → M β) : M β := fun e => (m e).bind k
def M.ok {α : Type} (a : α) : M α := fun e => .ok a e
def M.no {α : Type} : M α := fun _ => .stuck
/-- of an option: none is out of what is served -/
def M.get {α : Type} : Option α → M α
  | some a => fun e => .ok a e
  | none => fun _ => .stuck

/-- an exception as it flies -/
def ExcAt (G : Gx) (Hs H : Hp) (x : Exn) (cls : Value) (d : Option Addr) : Prop := ∃ C, cls = .ref C ∧ G.cl x.c = some C ∧
  ((x.ns = [] ∧ x.fs = [] ∧ d = none) ∨ ∃ dx vs, d = some dx ∧ Hs dx = some (.xd (x.ns.zip vs)) ∧ x.ns.length = vs.length ∧ RepL G Hs x.fs vs)
structure Frm where
  G : Gx
  B : Hp
  Hs0 : Hp
  W : WX
abbrev Frm.St (F : Frm) (Hs H : Hp) (L : List Ent) : Prop := StR F.G F.B F.Hs0 Hs H L
def Frm.End (F : Frm) {α β : Type} (σ : L2.St) (Hs : Hp) (T : List Ent) (post : β → α → Hp → Hp → List Ent → Prop) (r : Out α) (Q : β → Hp → Prop) : Prop := match r with
  | .ok a env' => ∀ (b : β) (Hs' H' : Hp) (E' : List Ent), Ex Hs Hs' → E'.map Prod.fst = σ → E'.map Prod.snd = env' → post b a Hs' H' E' → Q b H'
  | .exc x env' => ∀ (cls : Value) (d : Option Addr) (Hs' H' : Hp) (E' : List Ent), Ex Hs Hs' → E'.map Prod.fst = σ → E'.map Prod.snd = env' → F.St Hs' H' (E' ++ T) → ExcAt F.G Hs' H' x cls d → F.W cls d σ H'
  | .stuck => False
/-- a reading by what the tree world says -/
def Frm.tM (F : Frm) {α β : Type} (post : List Ent → β → α → Hp → Hp → List Ent → Prop) (m : M α) : L2.St → Hp → (β → Hp → Prop) → Prop := fun σ H Q =>
  ∃ (Hs : Hp) (E T : List Ent), F.St Hs H (E ++ T) ∧ E.map Prod.fst = σ ∧ F.End σ Hs T (post T) (m (E.map Prod.snd)) Q
/-- a value with what is its own -/
def Frm.pD (F : Frm) (T : List Ent) (v : V) (s : Slot) (Hs H : Hp) (E : List Ent) : Prop := F.St Hs H (E ++ T ++ [(some v, s)])
/-- something to be read: a local, or a value -/
inductive Opd where
  | at (i : Nat)
  | val (d : D)
def OpdR (G : Gx) (Hs : Hp) (E : List Ent) (v : V) : Opd → Prop
  | .at i => ∃ s, E[i]? = some (some v, s)
  | .val d => Rep G Hs d v
def Frm.pO (F : Frm) (T : List Ent) (v : V) (o : Opd) (Hs H : Hp) (E : List Ent) : Prop := F.St Hs H (E ++ T) ∧ OpdR F.G Hs E v o
def Frm.pT (F : Frm) (T : List Ent) (v b : Bool) (Hs H : Hp) (E : List Ent) : Prop := F.St Hs H (E ++ T) ∧ v = b
def OpdsR (G : Gx) (Hs : Hp) (E : List Ent) : List V → List Opd → Prop
  | [], os => os = []
  | v :: vs, os => ∃ o r, os = o :: r ∧ OpdR G Hs E v o ∧ OpdsR G Hs E vs r
def Frm.pA (F : Frm) (T : List Ent) (vs : List V) (os : List Opd) (Hs H : Hp) (E : List Ent) : Prop := F.St Hs H (E ++ T) ∧ OpdsR F.G Hs E vs os
structure DE (X : Cx) (F : Frm) (e : Expr) (f : M Slot) : Prop where
  pe : PE X e (F.tM F.pD f)
structure DO (X : Cx) (F : Frm) (e : Expr) (f : M Opd) : Prop where
  pe : PE X e (F.tM F.pO f)
structure DT (X : Cx) (F : Frm) (e : Expr) (f : M Bool) : Prop where
  pt : PT X e (F.tM F.pT f)
structure DA (X : Cx) (F : Frm) (es : List Expr) (f : M (List Opd)) : Prop where
  pa : PA X es (F.tM F.pA f)
/-! weakening -/
theorem PE.weak {X : Cx} {e : Expr} {t t' : TE} (h : PE X e t) (w : ∀ σ H Q, t' σ H Q → t σ H Q) : PE X e t' := ⟨fun pins s σ H Q I q => h.run pins s σ H Q I (w σ H Q q)⟩
theorem PT.weak {X : Cx} {e : Expr} {t t' : TT} (h : PT X e t) (w : ∀ σ H Q, t' σ H Q → t σ H Q) : PT X e t' := ⟨fun pins s σ H Q I q => h.run pins s σ H Q I (w σ H Q q)⟩
theorem PA.weak {X : Cx} {e : List Expr} {t t' : TA} (h : PA X e t) (w : ∀ σ H Q, t' σ H Q → t σ H Q) : PA X e t' := ⟨fun pos pins s σ H Q I q => h.run pos pins s σ H Q I (w σ H Q q)⟩
theorem PS.weak {X : Cx} {e : Stmt} {t t' : TS} (h : PS X e t) (w : ∀ D σ H, t' D σ H → t D σ H) : PS X e t' := ⟨fun pins s σ H D I q => h.run pins s σ H D I (w D σ H q)⟩
section
variable {F : Frm} {α β α' β' : Type} {σ : L2.St} {Hs Hs' H : Hp} {T : List Ent} {post : β → α → Hp → Hp → List Ent → Prop} {post' : β' → α' → Hp → Hp → List Ent → Prop} {Q : β → Hp → Prop} {Q' : β' → Hp → Prop}
theorem Frm.End.later {r : Out α} (h : F.End σ Hs T post r Q) (e : Ex Hs Hs') : F.End σ Hs' T post r Q := by
  cases r with
  | ok a env' => exact fun b Hs2 H' E' e2 => h b Hs2 H' E' (e.trans e2)
  | exc x env' => exact fun c d Hs2 H' E' e2 => h c d Hs2 H' E' (e.trans e2)
  | stuck => exact h
/-- the first of two -/
theorem Frm.End.bind {r : Out α'} {k : α' → M α} (h : F.End σ Hs T post (r.bind k) Q)
    (step : ∀ (b : β') (a : α') (env' : Env) (Hs' H' : Hp) (E' : List Ent), Ex Hs Hs' → E'.map Prod.fst = σ → E'.map Prod.snd = env' → post' b a Hs' H' E' → F.End σ Hs' T post (k a env') Q → Q' b H') : F.End σ Hs T post' r Q' := by
  cases r with
  | ok a env' => exact fun b Hs' H' E' e m1 m2 p => step b a env' Hs' H' E' e m1 m2 p (Frm.End.later (show F.End σ Hs T post (k a env') Q from h) e)
  | exc x env' => exact h
  | stuck => exact h
end
theorem len_of {E : List Ent} {σ : L2.St} (h : E.map Prod.fst = σ) : E.length = σ.length := by rw [← h, List.length_map]
theorem ent_of {E : List Ent} {i : Nat} {s : Slot} (h : (E.map Prod.snd)[i]? = some s) : ∃ x, E[i]? = some (x, s) ∧ (E.map Prod.fst)[i]? = some x := by
  rw [List.getElem?_map] at h
  cases q : E[i]? with
  | none => rw [q] at h; cases h
  | some e =>
    obtain ⟨x, t⟩ := e
    rw [q] at h
    cases h
    exact ⟨x, rfl, by rw [List.getElem?_map, q]; rfl⟩
theorem app_get {E T : List Ent} {i : Nat} {e : Ent} (h : E[i]? = some e) : (E ++ T)[i]? = some e := by
  rw [List.getElem?_append_left (List.getElem?_eq_some_iff.mp h).1]; exact h
theorem app_set {E T : List Ent} {i : Nat} {e : Ent} (h : i < E.length) : (E ++ T).set i e = E.set i e ++ T := by
  rw [List.set_append_left _ _ h]
theorem map_fst_set {E : List Ent} {i : Nat} {x : Option V} {s : Slot} (h : (E.map Prod.fst)[i]? = some x) : (E.set i (x, s)).map Prod.fst = E.map Prod.fst := by
  rw [List.map_set]
  apply List.ext_getElem?
  intro j
  by_cases z : i = j
  · subst z
    rw [List.getElem?_set_self (List.getElem?_eq_some_iff.mp h).1, h]
  · rw [List.getElem?_set_ne z]
theorem map_snd_set {E : List Ent} {i : Nat} {x : Option V} {s : Slot} : (E.set i (x, s)).map Prod.snd = (E.map Prod.snd).set i s := by rw [List.map_set]

/-! ### names and constants -/
def dName (i : Nat) : M Opd := fun e => match e[i]? with
  | some .un => .stuck
  | some _ => .ok (.at i) e
  | none => .stuck
/-- a name's value goes elsewhere: from now on it is shared -/
def dTake (i : Nat) : M Slot := fun e => match e[i]? with
  | some .un => .stuck
  | some (.sh d) => .ok (.sh d) e
  | some s => .ok (.sh s.d) (e.set i (.sh s.d))
  | none => .stuck
def Opd.get (o : Opd) (e : Env) : Option D := match o with
  | .at i => (match e[i]? with
    | some s => s.rd
    | none => none)
  | .val d => some d
section
variable {X : Cx} {F : Frm}
theorem StR.some_of {G : Gx} {B Hs0 Hs H : Hp} {L : List Ent} {i : Nat} {x : Option V} {s : Slot} (S : StR G B Hs0 Hs H L) (h : L[i]? = some (x, s)) (hs : s ≠ .un) : ∃ v, x = some v := by
  obtain ⟨P, r⟩ := S.rel h
  cases s with
  | un => exact absurd rfl hs
  | sh d => obtain ⟨v, h1, _⟩ := r; exact ⟨v, h1⟩
  | ol l => obtain ⟨a, vs, h1, _⟩ := r; exact ⟨_, h1⟩
  | od t ks l =>
    cases t with
    | false => obtain ⟨a, vs, h1, _⟩ := r; exact ⟨_, h1⟩
    | true => obtain ⟨a, vs, h1, _⟩ := r; exact ⟨_, h1⟩
  | oo ll => obtain ⟨a, as, h1, _⟩ := r; exact ⟨_, h1⟩
  | oi c ns l => obtain ⟨a, C, dx, vs, h1, _⟩ := r; exact ⟨_, h1⟩
  | me a m => exact ⟨_, r.1⟩
theorem do_name {i : Nat} {x : Str} {pos : Pos} (h : PE X (.Name x pos) (tVar i)) : DO X F (.Name x pos) (dName i) := ⟨PE.weak h fun σ H Q ⟨Hs, E, T, S, e1, q⟩ => by
  unfold dName at q
  cases hi : (E.map Prod.snd)[i]? with
  | none => rw [hi] at q; exact q.elim
  | some s =>
    rw [hi] at q
    obtain ⟨y, h1, h2⟩ := ent_of hi
    have hs : s ≠ .un := fun z => by subst z; exact q.elim
    have q2 : F.End σ Hs T (F.pO T) (.ok (.at i) (E.map Prod.snd)) Q := by
      cases s <;> first | exact q | exact absurd rfl hs
    obtain ⟨v, rfl⟩ := S.some_of (app_get h1) hs
    refine ⟨v, by rw [← e1, h2], q2 v Hs H E (Ex.refl Hs) e1 rfl ⟨S, s, h1⟩⟩⟩
theorem de_take {i : Nat} {x : Str} {pos : Pos} (h : PE X (.Name x pos) (tVar i)) : DE X F (.Name x pos) (dTake i) := ⟨PE.weak h fun σ H Q ⟨Hs, E, T, S, e1, q⟩ => by
  unfold dTake at q
  cases hi : (E.map Prod.snd)[i]? with
  | none => rw [hi] at q; exact q.elim
  | some s =>
    rw [hi] at q
    obtain ⟨y, h1, h2⟩ := ent_of hi
    have hs : s ≠ .un := fun z => by subst z; exact q.elim
    obtain ⟨v, rfl⟩ := S.some_of (app_get h1) hs
    refine ⟨v, by rw [← e1, h2], ?_⟩
    have il : i < E.length := (List.getElem?_eq_some_iff.mp h1).1
    have gen : F.End σ Hs T (F.pD T) (.ok (.sh s.d) ((E.map Prod.snd).set i (.sh s.d))) Q → Q v H := fun q2 => by
      obtain ⟨Hs', e2, S2⟩ := S.freeze (app_get h1) hs
      have h3 : (E.map Prod.fst)[i]? = some (some v) := h2
      refine q2 v Hs' H (E.set i (some v, .sh s.d)) e2 (by rw [map_fst_set h3]; exact e1) map_snd_set ?_
      rw [app_set il] at S2
      have S3 : F.St Hs' H (E.set i (some v, .sh s.d) ++ T) := S2
      obtain ⟨v', z, r⟩ := S3.sh (i := i) (d := s.d) (app_get (List.getElem?_set_self il))
      cases z
      exact S3.pushSh r
    cases s with
    | un => exact absurd rfl hs
    | sh d =>
      obtain ⟨v', z, r⟩ := S.sh (app_get h1)
      cases z
      exact q v Hs H E (Ex.refl Hs) e1 rfl (S.pushSh r)
    | ol l => exact gen q
    | od t ks l => exact gen q
    | oo ll => exact gen q
    | oi c ns l => exact gen q
    | me a m => exact gen q⟩
def dVal (d : D) : M Opd := fun e => .ok (.val d) e
def dSh (d : D) : M Slot := fun e => .ok (.sh d) e
theorem do_c {e : Expr} {d : D} {v : V} (h : PE X e (tC v)) (r : ∀ Hs, Rep F.G Hs d v) : DO X F e (dVal d) := ⟨PE.weak h fun σ H Q ⟨Hs, E, T, S, e1, q⟩ => q v Hs H E (Ex.refl Hs) e1 rfl ⟨S, r Hs⟩⟩
theorem de_c {e : Expr} {d : D} {v : V} (h : PE X e (tC v)) (r : ∀ Hs, Rep F.G Hs d v) : DE X F e (dSh d) := ⟨PE.weak h fun σ H Q ⟨Hs, E, T, S, e1, q⟩ => q v Hs H E (Ex.refl Hs) e1 rfl (S.pushSh (r Hs))⟩
/-- a value as something to be read: what was its own is shared -/
def dFix (f : M Slot) : M Opd := M.bind f fun s e => match s with
  | .un => .stuck
  | s => .ok (.val s.d) e
theorem do_of {e : Expr} {f : M Slot} (h : DE X F e f) : DO X F e (dFix f) := ⟨PE.weak h.pe fun σ H Q ⟨Hs, E, T, S, e1, q⟩ => by
  refine ⟨Hs, E, T, S, e1, q.bind fun v s env' Hs' H' E' ex m1 m2 p q => ?_⟩
  have p' : F.St Hs' H' ((E' ++ T) ++ [(some v, s)]) := p
  have hs : s ≠ .un := fun z => by subst z; exact q.elim
  have q2 : F.End σ Hs' T (F.pO T) (.ok (.val s.d) env') Q := by
    cases s <;> first | exact q | exact absurd rfl hs
  have hi : ((E' ++ T) ++ [(some v, s)])[(E' ++ T).length]? = some (some v, s) := by rw [List.getElem?_append_right (Nat.le_refl _), Nat.sub_self]; rfl
  obtain ⟨Hs2, e2, S2⟩ := p'.freeze hi hs
  have e3 : ((E' ++ T) ++ [(some v, s)]).set (E' ++ T).length (some v, .sh s.d) = (E' ++ T) ++ [(some v, .sh s.d)] := by
    rw [List.set_append_right _ _ (Nat.le_refl _), Nat.sub_self]; rfl
  rw [e3] at S2
  obtain ⟨v', z, r⟩ := S2.sh (i := (E' ++ T).length) (d := s.d) (by rw [List.getElem?_append_right (Nat.le_refl _), Nat.sub_self]; rfl)
  cases z
  exact q2 v Hs2 H' E' e2 m1 m2 ⟨S2.pop, r⟩⟩
theorem OpdR.rb {G : Gx} {B Hs0 Hs H : Hp} {E T : List Ent} {v : V} {o : Opd} {d : D} (S : StR G B Hs0 Hs H (E ++ T)) (h : OpdR G Hs E v o) (hd : o.get (E.map Prod.snd) = some d) : RB G Hs H d v := by
  cases o with
  | val d' => cases hd; exact Rep.rb S.eS h
  | «at» i =>
    obtain ⟨s, hs⟩ := h
    have e : (E.map Prod.snd)[i]? = some s := by rw [List.getElem?_map, hs]; rfl
    have hd : (match (E.map Prod.snd)[i]? with | some s => s.rd | none => none) = some d := hd
    rw [e] at hd
    obtain ⟨P, r⟩ := S.rel (app_get hs)
    obtain ⟨v', z, q⟩ := r.rb S.eS hd
    cases z
    exact q
theorem OpdR.later {G : Gx} {Hs Hs' : Hp} {E E' : List Ent} {v : V} {o : Opd} (e : Ex Hs Hs') (m : E.map Prod.fst = E'.map Prod.fst) (h : OpdR G Hs E v o) : OpdR G Hs' E' v o := by
  cases o with
  | val d => exact Rep.ex e d h
  | «at» i =>
    obtain ⟨s, hs⟩ := h
    have e1 : (E.map Prod.fst)[i]? = some (some v) := by rw [List.getElem?_map, hs]; rfl
    rw [m, List.getElem?_map] at e1
    cases q : E'[i]? with
    | none => rw [q] at e1; cases e1
    | some p =>
      obtain ⟨x, t⟩ := p
      rw [q] at e1
      have : x = some v := Option.some.inj e1
      subst this
      exact ⟨t, q⟩
/-! ### two-place operations -/
/-- an operation on values that may be read: r by the rules, g on trees -/
def Op2 (F : Frm) (r : R2) (g : D → D → Option Slot) : Prop := ∀ (Hs H : Hp) (L : List Ent) (x y : V) (dx dy : D) (s : Slot) (Q : VK), F.St Hs H L → RB F.G Hs H dx x → RB F.G Hs H dy y → g dx dy = some s →
  (∀ v Hs' H', Ex Hs Hs' → F.St Hs' H' (L ++ [(some v, s)]) → Q v H') → r x y H Q
def dOp2 (g : D → D → Option Slot) (fa fb : M Opd) : M Slot := M.bind fa fun oa => M.bind fb fun ob e => match oa.get e, ob.get e with
  | some x, some y => (match g x y with
    | some s => .ok s e
    | none => .stuck)
  | _, _ => .stuck
theorem end_op2 {g : D → D → Option Slot} {r : R2} (ho : Op2 F r g) {σ : L2.St} {Hs H : Hp} {E T : List Ent} {x y : V} {oa ob : Opd} {Q : VK} (S : F.St Hs H (E ++ T)) (e1 : E.map Prod.fst = σ) (ra : OpdR F.G Hs E x oa) (rb : OpdR F.G Hs E y ob)
    (q : F.End σ Hs T (F.pD T) ((fun e => match oa.get e, ob.get e with
  | some x, some y => (match g x y with
    | some s => .ok s e
    | none => .stuck)
  | _, _ => .stuck : M Slot) (E.map Prod.snd)) Q) : r x y H Q := by
  simp only at q
  cases qa : oa.get (E.map Prod.snd) with
  | none => rw [qa] at q; exact q.elim
  | some dx =>
    cases qb : ob.get (E.map Prod.snd) with
    | none => rw [qa, qb] at q; exact q.elim
    | some dy =>
      rw [qa, qb] at q
      simp only at q
      cases qg : g dx dy with
      | none => rw [qg] at q; exact q.elim
      | some s =>
        rw [qg] at q
        exact ho Hs H (E ++ T) x y dx dy s Q S (ra.rb S qa) (rb.rb S qb) qg fun v Hs' H' ex S' => by
          refine q v Hs' H' E ex e1 rfl ?_
          exact S'
theorem op2_weak {g : D → D → Option Slot} {r : R2} (ho : Op2 F r g) {fa fb : M Opd} {ta tb : TE} (wa : ∀ σ H Q, F.tM F.pO fa σ H Q → ta σ H Q) (wb : ∀ σ H Q, F.tM F.pO fb σ H Q → tb σ H Q) : ∀ σ H Q, F.tM F.pD (dOp2 g fa fb) σ H Q → tOp r ta tb σ H Q := fun σ H Q ⟨Hs, E, T, S, e1, q⟩ => by
  refine wa _ _ _ ⟨Hs, E, T, S, e1, q.bind fun x oa env' Hs1 H1 E1 ex1 m1 m2 p1 q1 => ?_⟩
  subst m2
  refine wb _ _ _ ⟨Hs1, E1, T, p1.1, m1, q1.bind fun y ob env' Hs2 H2 E2 ex2 n1 n2 p2 q2 => ?_⟩
  subst n2
  exact end_op2 ho p2.1 n1 (p1.2.later ex2 (m1.trans n1.symm)) p2.2 q2
theorem de_bin {op : Operator} {r : R2} {g : D → D → Option Slot} {a b : Expr} {fa fb : M Opd} {pos : Pos} (ho : OpR X (binaryOp op) r) (hg : Op2 F r g) (ha : DO X F a fa) (hb : DO X F b fb) : DE X F (.BinOp a op b pos) (dOp2 g fa fb) :=
  ⟨PE.weak (pe_op ho ha.pe hb.pe) (op2_weak hg (fun _ _ _ h => h) (fun _ _ _ h => h))⟩
theorem de_cmp {op : CmpOp} {r : R2} {g : D → D → Option Slot} {a b : Expr} {fa fb : M Opd} {pos : Pos} (ho : OpR X (compareOp op) r) (hg : Op2 F r g) (ha : DO X F a fa) (hb : DO X F b fb) (hm : behindInMarks op b = false) : DE X F (.Compare a [op] [b] pos) (dOp2 g fa fb) :=
  ⟨PE.weak (pe_cmpR ho ha.pe hb.pe hm) (op2_weak hg (fun _ _ _ h => h) (fun _ _ _ h => h))⟩
theorem de_ix {r : R2} {g : D → D → Option Slot} {a b : Expr} {fa fb : M Opd} {pos : Pos} (hr : IxR X r) (hg : Op2 F r g) (ha : DO X F a fa) (hb : DO X F b fb) (hs : PlainIx b) : DE X F (.Subscript a b pos) (dOp2 g fa fb) :=
  ⟨PE.weak (pe_ix hr ha.pe hb.pe hs) (op2_weak hg (fun _ _ _ h => h) (fun _ _ _ h => h))⟩
end
end Dl
set_option Elab.async false
set_option linter.all false
set_option maxRecDepth 100000
set_option maxHeartbeats 4000000
namespace Dl
open PySem PySem.Spec PyProof.Rows L2
section
variable {F : Frm} {Hs H : Hp} {L : List Ent} {Q : VK}
/-- a flat value comes -/
theorem fin_sh {v : V} {d : D} (S : F.St Hs H L) (r : Rep F.G Hs d v) (k : ∀ v Hs' H', Ex Hs Hs' → F.St Hs' H' (L ++ [(some v, .sh d)]) → Q v H') : Q v H := k v Hs H (Ex.refl Hs) (S.pushSh r)
theorem fin_ol {l : List D} {vs : List V} (S : F.St Hs H L) (r : RepL F.G Hs l vs) (k : ∀ v Hs' H', Ex Hs Hs' → F.St Hs' H' (L ++ [(some v, .ol l)]) → Q v H') (p : Addr) (hp : H p = none) : Q (.ref p) (upd H p (.lst vs)) := k _ Hs _ (Ex.refl Hs) (S.pushList hp r)
theorem fin_tup {l : List D} {vs : List V} (S : F.St Hs H L) (r : RepL F.G Hs l vs) (k : ∀ v Hs' H', Ex Hs Hs' → F.St Hs' H' (L ++ [(some v, .sh (.tup l))]) → Q v H') (p : Addr) (hp : H p = none) : Q (.ref p) (upd H p (.tup vs)) := by
  have S' := S.allocSh (o := .tup vs) hp rfl
  have e : Ex Hs (upd Hs p (.tup vs)) := S.shEx hp
  exact k _ _ _ e (S'.pushSh ⟨p, vs, rfl, upd_same, r.ex e⟩)
end
theorem Op2.or {F : Frm} {r r' : R2} {g : D → D → Option Slot} (h : ∀ Hs H L x y dx dy s (Q : VK), F.St Hs H L → RB F.G Hs H dx x → RB F.G Hs H dy y → g dx dy = some s →
  (∀ v Hs' H', Ex Hs Hs' → F.St Hs' H' (L ++ [(some v, s)]) → Q v H') → r x y H Q ∨ r' x y H Q) : Op2 F (fun x y H Q => r x y H Q ∨ r' x y H Q) g := h
/-! ### arithmetic -/
def lenOk (n : Nat) : Bool := Nat.ble n 16777216
theorem lenOk_le {n : Nat} (h : lenOk n = true) : n ≤ sizeLine := by rw [sizeLine_eq]; exact Nat.le_of_ble_eq_true h
def wOk : Int → Bool
  | .ofNat n => Nat.ble n 18446744073709551615
  | .negSucc n => Nat.ble n 18446744073709551614
theorem wOk_of {i : Int} (h : wOk i = true) : -(2 ^ 64) < i ∧ i < 2 ^ 64 := by
  cases i with
  | ofNat n => have := Nat.le_of_ble_eq_true h; exact ⟨by have : (0 : Int) ≤ Int.ofNat n := Int.natCast_nonneg n; omega, by show ((n : Nat) : Int) < _; omega⟩
  | negSucc n => have := Nat.le_of_ble_eq_true h; exact ⟨by omega, by omega⟩
def catT : List D → List D → Option Slot
  | x :: a, y :: b => if lenOk ((x :: a).length + (y :: b).length) = true then some (.sh (.tup (x :: a ++ y :: b))) else none
  | _, _ => none
def gAdd : D → D → Option Slot
  | .int a, .int b => some (.sh (.int (a + b)))
  | .lst a, .lst b => if lenOk (a.length + b.length) = true then some (.ol (a ++ b)) else none
  | .tup a, .tup b => if lenOk (a.length + b.length) = true then some (.sh (.tup (a ++ b))) else none
  | .str a, .str b => if lenOk (a.length + b.length) = true then some (.sh (.str (a ++ b))) else none
  | .tz a, .tup b => catT a b
  | .tup a, .tz b => catT a b
  | .tz a, .tz b => catT a b
  | _, _ => none
theorem cat_tz {F : Frm} {Hs H : Hp} {L : List Ent} {x y : V} {xs ys : List V} {a b : List D} {p q : Addr} {s : Slot} {Q : VK} (S : F.St Hs H L) (ex : x = .ref p) (ey : y = .ref q) (h1 : SqT F.G.K H p xs) (h3 : SqT F.G.K H q ys) (h2 : RepL F.G Hs a xs) (h4 : RepL F.G Hs b ys) (hg : catT a b = some s)
    (k : ∀ v Hs' H', Ex Hs Hs' → F.St Hs' H' (L ++ [(some v, s)]) → Q v H') : rCatA F.G.K x y H Q := by
  subst ex ey
  cases a with
  | nil => cases hg
  | cons u a =>
    cases b with
    | nil => cases hg
    | cons w b =>
      have hg : (if lenOk ((u :: a).length + (w :: b).length) = true then some (Slot.sh (.tup (u :: a ++ w :: b))) else none) = some s := hg
      by_cases ho : lenOk ((u :: a).length + (w :: b).length) = true
      · rw [if_pos ho] at hg
        cases hg
        have l1 := h2.length
        have l2 := h4.length
        refine ⟨_, _, xs, ys, rfl, rfl, h1, h3, by rw [← l1, ← l2]; exact lenOk_le ho, ?_, ?_, ?_⟩
        · rintro z; subst z; simp at l1
        · rintro _ z; subst z; simp at l2
        · rintro _ _ r hr
          exact fin_tup S (h2.append h4) k r hr
      · rw [if_neg ho] at hg; cases hg
def rAddG (K : PySem.W.Frag) : R2 := fun x y H Q => rI0 (fun i j => .int (i + j)) x y H Q ∨ (rCat x y H Q ∨ (rCatA K x y H Q ∨ ∃ i j, x = .str i ∧ y = .str j ∧ i.length + j.length ≤ sizeLine ∧ Q (.str (i ++ j)) H))
theorem opr_add {X : Cx} : OpR X (binaryOp .Add) (rAddG X.K) := op_add.or (op_cat.or (op_catA.or op_add_str))
theorem op2_add {F : Frm} {K : PySem.W.Frag} (hK : F.G.K = K) : Op2 F (rAddG K) gAdd := by
  subst hK
  intro Hs H L x y dx dy s Q S rx ry hg k
  unfold gAdd at hg
  split at hg
  · cases hg
    exact .inl ⟨_, _, rx, ry, fin_sh S (by exact rfl) k⟩
  · split at hg
    · rename_i a b ho
      cases hg
      obtain ⟨a, vs, rfl, h1, h2⟩ := rx
      obtain ⟨b, ws, rfl, h3, h4⟩ := ry
      exact .inr (.inl ⟨_, _, _, _, rfl, rfl, h1, h3, by rw [← h2.length, ← h4.length]; exact lenOk_le ho, fin_ol S (h2.append h4) k⟩)
    · cases hg
  · split at hg
    · rename_i a b ho
      cases hg
      obtain ⟨a, vs, rfl, h1, h2⟩ := rx
      obtain ⟨b, ws, rfl, h3, h4⟩ := ry
      have e := S.eS
      refine .inr (.inr (.inl ⟨_, _, _, _, rfl, rfl, SqT.of (e.get h1), SqT.of (e.get h3), by rw [← h2.length, ← h4.length]; exact lenOk_le ho, ?_, ?_, ?_⟩))
      · rintro z
        subst z
        have := h2.length
        have : (_ : List D) = [] := List.length_eq_zero_iff.mp this
        subst this
        exact k _ Hs H (Ex.refl Hs) (S.pushSh ⟨b, ws, rfl, h3, h4⟩)
      · rintro _ z
        subst z
        have := h4.length
        have : (_ : List D) = [] := List.length_eq_zero_iff.mp this
        subst this
        rw [List.append_nil] at k
        exact k _ Hs H (Ex.refl Hs) (S.pushSh ⟨a, vs, rfl, h1, h2⟩)
      · rintro _ _ p hp
        exact fin_tup S (h2.append h4) k p hp
    · cases hg
  · split at hg
    · rename_i ho
      cases hg
      exact .inr (.inr (.inr ⟨_, _, rx, ry, lenOk_le ho, fin_sh S (by exact rfl) k⟩))
    · cases hg
  · obtain ⟨a, vs, e1, h1, h2⟩ := rx
    obtain ⟨b, ws, e2, h3, h4⟩ := ry
    exact .inr (.inr (.inl (cat_tz S e1 e2 (tz_sq (tz_ex S.eS h1)) (SqT.of (S.eS.get h3)) h2 h4 hg k)))
  · obtain ⟨a, vs, e1, h1, h2⟩ := rx
    obtain ⟨b, ws, e2, h3, h4⟩ := ry
    exact .inr (.inr (.inl (cat_tz S e1 e2 (SqT.of (S.eS.get h1)) (tz_sq (tz_ex S.eS h3)) h2 h4 hg k)))
  · obtain ⟨a, vs, e1, h1, h2⟩ := rx
    obtain ⟨b, ws, e2, h3, h4⟩ := ry
    exact .inr (.inr (.inl (cat_tz S e1 e2 (tz_sq (tz_ex S.eS h1)) (tz_sq (tz_ex S.eS h3)) h2 h4 hg k)))
  · cases hg
def gSub : D → D → Option Slot
  | .int a, .int b => some (.sh (.int (a - b)))
  | _, _ => none
theorem op2_sub {F : Frm} : Op2 F (rI0 fun i j => .int (i - j)) gSub := by
  intro Hs H L x y dx dy s Q S rx ry hg k
  unfold gSub at hg
  split at hg
  · cases hg; exact ⟨_, _, rx, ry, fin_sh S (by exact rfl) k⟩
  · cases hg
def repL (l : List D) (k : Nat) : List D := (List.replicate k l).flatten
theorem repL_rep {G : Gx} {H : Hp} {l : List D} {vs : List V} (h : RepL G H l vs) : ∀ k, RepL G H (repL l k) (List.replicate k vs).flatten
  | 0 => rfl
  | k + 1 => by
    unfold repL
    rw [List.replicate_succ, List.replicate_succ, List.flatten_cons, List.flatten_cons]
    exact h.append (repL_rep h k)
def gMul : D → D → Option Slot
  | .int a, .int b => if (wOk a || wOk b) = true then some (.sh (.int (a * b))) else none
  | .lst l, .int k => if (decide (-4611686018427387904 < k) && decide (k < 16777216) && lenOk (l.length * k.toNat)) = true then some (.ol (repL l k.toNat)) else none
  | .tup l, .int k => if (!l.isEmpty && decide (2 ≤ k) && decide (k ≤ 1000) && decide (l.length ≤ 1000)) = true then some (.sh (.tup (repL l k.toNat))) else none
  | _, _ => none
def rMulG (K : PySem.W.Frag) : R2 := fun x y H Q => rI CMul (fun i j => .int (i * j)) x y H Q ∨ (rRep x y H Q ∨ rRepT K x y H Q)
theorem opr_mul {X : Cx} : OpR X (binaryOp .Mult) (rMulG X.K) := op_mul.or (op_rep.or op_repT)
theorem op2_mul {F : Frm} {K : PySem.W.Frag} (hK : F.G.K = K) : Op2 F (rMulG K) gMul := by
  subst hK
  intro Hs H L x y dx dy s Q S rx ry hg k
  unfold gMul at hg
  split at hg
  · split at hg
    · rename_i ho
      cases hg
      refine .inl ⟨_, _, rx, ry, ?_, fin_sh S (by exact rfl) k⟩
      rcases Bool.or_eq_true_iff.mp ho with z | z
      · exact .inl (wOk_of z)
      · exact .inr (wOk_of z)
    · cases hg
  · split at hg
    · rename_i l kk ho
      cases hg
      obtain ⟨a, vs, rfl, h1, h2⟩ := rx
      obtain ⟨ho, h3⟩ := Bool.and_eq_true_iff.mp ho
      obtain ⟨h4, h5⟩ := Bool.and_eq_true_iff.mp ho
      have h4 := of_decide_eq_true h4
      have h5 := of_decide_eq_true h5
      exact .inr (.inl ⟨_, kk, _, rfl, ry, h1, by omega, by omega, by rw [← h2.length]; exact lenOk_le h3, fin_ol S (repL_rep h2 _) k⟩)
    · cases hg
  · split at hg
    · rename_i l kk ho
      cases hg
      obtain ⟨a, vs, rfl, h1, h2⟩ := rx
      obtain ⟨ho, h3⟩ := Bool.and_eq_true_iff.mp ho
      obtain ⟨ho, h4⟩ := Bool.and_eq_true_iff.mp ho
      obtain ⟨h6, h5⟩ := Bool.and_eq_true_iff.mp ho
      have h3 := of_decide_eq_true h3
      have h4 := of_decide_eq_true h4
      have h5 := of_decide_eq_true h5
      refine .inr (.inr ⟨_, kk, _, rfl, ry, SqT.of (S.eS.get h1), ?_, h5, h4, by rw [← h2.length]; exact h3, fin_tup S (repL_rep h2 _) k⟩)
      rintro rfl
      have := h2.length
      have z : l = [] := List.length_eq_zero_iff.mp this
      subst z
      simp at h6
    · cases hg
  · cases hg
def gMod : D → D → Option Slot
  | .int a, .int b => if 0 < b then some (.sh (.int (a % b))) else none
  | _, _ => none
theorem op2_mod {F : Frm} : Op2 F (rI (fun _ j => 0 < j) fun i j => .int (i % j)) gMod := by
  intro Hs H L x y dx dy s Q S rx ry hg k
  unfold gMod at hg
  split at hg
  · split at hg
    · rename_i ho
      cases hg; exact ⟨_, _, rx, ry, ho, fin_sh S (by exact rfl) k⟩
    · cases hg
  · cases hg
def gFdiv : D → D → Option Slot
  | .int a, .int b => if 0 < b ∧ b < 1073741824 then some (.sh (.int (a / b))) else none
  | _, _ => none
theorem op2_fdiv {F : Frm} : Op2 F (rI CDiv fun i j => .int (i / j)) gFdiv := by
  intro Hs H L x y dx dy s Q S rx ry hg k
  unfold gFdiv at hg
  split at hg
  · split at hg
    · rename_i ho
      cases hg; exact ⟨_, _, rx, ry, ho, fin_sh S (by exact rfl) k⟩
    · cases hg
  · cases hg
def gPow : D → D → Option Slot
  | .int a, .int b => if 0 ≤ b ∧ b ≤ 1000000 ∧ wOk a = true then some (.sh (.int (a ^ b.toNat))) else none
  | _, _ => none
theorem op2_pow {F : Frm} : Op2 F (rI CPow fun i j => .int (i ^ j.toNat)) gPow := by
  intro Hs H L x y dx dy s Q S rx ry hg k
  unfold gPow at hg
  split at hg
  · split at hg
    · rename_i ho
      cases hg
      refine ⟨_, _, rx, ry, ⟨ho.1, ho.2.1, ?_⟩, fin_sh S (by exact rfl) k⟩
      have := wOk_of ho.2.2
      omega
    · cases hg
  · cases hg
def gShl : D → D → Option Slot
  | .int a, .int b => if 0 ≤ b ∧ b ≤ 1000000 ∧ wOk a = true then some (.sh (.int (a * 2 ^ b.toNat))) else none
  | _, _ => none
theorem op2_shl {F : Frm} : Op2 F (rI CPow fun i j => .int (i * 2 ^ j.toNat)) gShl := by
  intro Hs H L x y dx dy s Q S rx ry hg k
  unfold gShl at hg
  split at hg
  · split at hg
    · rename_i ho
      cases hg
      refine ⟨_, _, rx, ry, ⟨ho.1, ho.2.1, ?_⟩, fin_sh S (by exact rfl) k⟩
      have := wOk_of ho.2.2
      omega
    · cases hg
  · cases hg
def gXor : D → D → Option Slot
  | .int a, .int b => some (.sh (.int (Builtin.bitXor a b)))
  | _, _ => none
theorem op2_xor {F : Frm} : Op2 F (rI0 fun i j => .int (Builtin.bitXor i j)) gXor := by
  intro Hs H L x y dx dy s Q S rx ry hg k
  unfold gXor at hg
  split at hg
  · cases hg; exact ⟨_, _, rx, ry, fin_sh S (by exact rfl) k⟩
  · cases hg
/-! ### order -/
def gCmp (p : Int → Int → Bool) : D → D → Option Slot
  | .int a, .int b => some (.sh (.bl (p a b)))
  | _, _ => none
theorem op2_cmp {F : Frm} (p : Int → Int → Bool) : Op2 F (rI0 fun i j => .bl (p i j)) (gCmp p) := by
  intro Hs H L x y dx dy s Q S rx ry hg k
  unfold gCmp at hg
  split at hg
  · cases hg; exact ⟨_, _, rx, ry, fin_sh S (by exact rfl) k⟩
  · cases hg
def intsOf : List D → Option (List Int)
  | [] => some []
  | .int i :: r => (intsOf r).map (i :: ·)
  | _ :: _ => none
theorem intsOf_eq : ∀ {l : List D} {ns : List Int}, intsOf l = some ns → l = ns.map D.int
  | [], ns, h => by cases h; rfl
  | d :: r, ns, h => by
    cases d with
    | int i =>
      have h : (intsOf r).map (i :: ·) = some ns := h
      cases e : intsOf r with
      | none => rw [e] at h; cases h
      | some ms => rw [e] at h; cases h; rw [List.map_cons, ← intsOf_eq e]
    | _ => cases h
theorem intsOf_map : ∀ ns : List Int, intsOf (ns.map D.int) = some ns
  | [] => rfl
  | n :: r => by show (intsOf (r.map D.int)).map (n :: ·) = _; rw [intsOf_map r]; rfl
def tupOf : D → Option (List D)
  | .tup l => some l
  | .tz l => some l
  | _ => none
theorem tupOf_sq {F : Frm} {Hs H : Hp} {L : List Ent} {d : D} {v : V} {l : List D} (S : F.St Hs H L) (r : RB F.G Hs H d v) (h : tupOf d = some l) : ∃ a vs, v = .ref a ∧ SqT F.G.K H a vs ∧ RepL F.G Hs l vs := by
  cases d with
  | tup l' => cases h; obtain ⟨a, vs, h0, h1, h2⟩ := r; exact ⟨a, vs, h0, SqT.of (S.eS.get h1), h2⟩
  | tz l' => cases h; obtain ⟨a, vs, h0, h1, h2⟩ := r; exact ⟨a, vs, h0, tz_sq (tz_ex S.eS h1), h2⟩
  | _ => cases h
def gLt : D → D → Option Slot
  | .int a, .int b => some (.sh (.bl (decide (a < b))))
  | x, y => match tupOf x, tupOf y with
    | some a, some b => (match intsOf a, intsOf b with
      | some ns, some ms => some (.sh (.bl (HT.lexLt ns ms)))
      | _, _ => none)
    | _, _ => none
def rLtG (K : PySem.W.Frag) : R2 := fun x y H Q => rI0 (fun i j => .bl (decide (i < j))) x y H Q ∨ rLtT K x y H Q
theorem opr_lt {X : Cx} (hu : X.A.units < cLine) : OpR X (compareOp .Lt) (rLtG X.K) := op_lt.or (op_ltT hu)
theorem op2_lt {F : Frm} {K : PySem.W.Frag} (hK : F.G.K = K) : Op2 F (rLtG K) gLt := by
  subst hK
  intro Hs H L x y dx dy s Q S rx ry hg k
  unfold gLt at hg
  split at hg
  · cases hg
    exact .inl ⟨_, _, rx, ry, fin_sh S (by exact rfl) k⟩
  · cases t1 : tupOf dx with
    | none => rw [t1] at hg; cases hg
    | some a =>
      cases t2 : tupOf dy with
      | none => rw [t1, t2] at hg; cases hg
      | some b =>
        rw [t1, t2] at hg
        simp only at hg
        cases e1 : intsOf a with
        | none => rw [e1] at hg; cases hg
        | some ns =>
          cases e2 : intsOf b with
          | none => rw [e1, e2] at hg; cases hg
          | some ms =>
            rw [e1, e2] at hg
            cases hg
            obtain ⟨a, vs, rfl, h1, h2⟩ := tupOf_sq S rx t1
            obtain ⟨b, ws, rfl, h3, h4⟩ := tupOf_sq S ry t2
            rw [intsOf_eq e1] at h2
            rw [intsOf_eq e2] at h4
            rw [h2.ints] at h1
            rw [h4.ints] at h3
            exact .inr ⟨a, b, ns, ms, rfl, rfl, h1, h3, fin_sh S (by exact rfl) k⟩
/-! ### equality -/
mutual
def D.eqv : D → D → Bool
  | .non, .non => true
  | .bl a, .bl b => a == b
  | .bl a, .int j => (if a then 1 else 0) == j
  | .int i, .bl b => i == (if b then 1 else 0)
  | .int i, .int j => i == j
  | .str x, .str y => x == y
  | .lst xs, .lst ys => eqvL xs ys
  | .lst xs, .fz ys => eqvL xs ys
  | .fz xs, .lst ys => eqvL xs ys
  | .fz xs, .fz ys => eqvL xs ys
  | .tup xs, .tup ys => eqvL xs ys
  | .tup xs, .tz ys => eqvL xs ys
  | .tz xs, .tup ys => eqvL xs ys
  | .tz xs, .tz ys => eqvL xs ys
  | _, _ => false
def eqvL : List D → List D → Bool
  | [], [] => true
  | x :: xs, y :: ys => D.eqv x y && eqvL xs ys
  | _, _ => false
end
-- none but flat things, lists and tuples, at most n deep
mutual
def D.plain : Nat → D → Bool
  | _, .non | _, .bl _ | _, .int _ => true
  | _, .str x => PyData.strOk x
  | 0, _ => false
  | n + 1, .lst xs => plainL n xs
  | n + 1, .fz xs => plainL n xs
  | n + 1, .tup xs => plainL n xs
  | n + 1, .tz xs => plainL n xs
  | _, _ => false
def plainL : Nat → List D → Bool
  | _, [] => true
  | n, x :: xs => D.plain n x && plainL n xs
end
mutual
def D.py : D → PyData
  | .non => .none
  | .bl b => .bool b
  | .int i => .int i
  | .str x => .str x
  | .lst xs => .list (pyL xs)
  | .fz xs => .list (pyL xs)
  | .tup xs => .tuple (pyL xs)
  | .tz xs => .tuple (pyL xs)
  | _ => .dict []
def pyL : List D → List PyData
  | [] => []
  | x :: xs => D.py x :: pyL xs
end
mutual
theorem eqv_py : ∀ (n m : Nat) (x y : D), D.plain n x = true → D.plain m y = true → PyData.eqv (D.py x) (D.py y) = D.eqv x y
  | n, m, x, y, hx, hy => by
    cases x with
    | non => cases y <;> simp [D.py, D.eqv, PyData.eqv]
    | bl b => cases y <;> simp [D.py, D.eqv, PyData.eqv]
    | int b => cases y <;> simp [D.py, D.eqv, PyData.eqv]
    | str b => cases y <;> simp [D.py, D.eqv, PyData.eqv]
    | dct t ks vs => cases n <;> simp [D.plain] at hx
    | ins c ns vs => cases n <;> simp [D.plain] at hx
    | exn c ns vs => cases n <;> simp [D.plain] at hx
    | lst xs =>
      cases n with
      | zero => simp [D.plain] at hx
      | succ n =>
        cases y with
        | lst ys =>
          cases m with
          | zero => simp [D.plain] at hy
          | succ m =>
            simp only [D.py, D.eqv, PyData.eqv]
            exact eqv_pyL n m xs ys (by simpa [D.plain] using hx) (by simpa [D.plain] using hy)
        | fz ys =>
          cases m with
          | zero => simp [D.plain] at hy
          | succ m =>
            simp only [D.py, D.eqv, PyData.eqv]
            exact eqv_pyL n m xs ys (by simpa [D.plain] using hx) (by simpa [D.plain] using hy)
        | _ => simp [D.py, D.eqv, PyData.eqv]
    | fz xs =>
      cases n with
      | zero => simp [D.plain] at hx
      | succ n =>
        cases y with
        | lst ys =>
          cases m with
          | zero => simp [D.plain] at hy
          | succ m =>
            simp only [D.py, D.eqv, PyData.eqv]
            exact eqv_pyL n m xs ys (by simpa [D.plain] using hx) (by simpa [D.plain] using hy)
        | fz ys =>
          cases m with
          | zero => simp [D.plain] at hy
          | succ m =>
            simp only [D.py, D.eqv, PyData.eqv]
            exact eqv_pyL n m xs ys (by simpa [D.plain] using hx) (by simpa [D.plain] using hy)
        | _ => simp [D.py, D.eqv, PyData.eqv]
    | tup xs =>
      cases n with
      | zero => simp [D.plain] at hx
      | succ n =>
        cases y with
        | tup ys =>
          cases m with
          | zero => simp [D.plain] at hy
          | succ m =>
            simp only [D.py, D.eqv, PyData.eqv]
            exact eqv_pyL n m xs ys (by simpa [D.plain] using hx) (by simpa [D.plain] using hy)
        | tz ys =>
          cases m with
          | zero => simp [D.plain] at hy
          | succ m =>
            simp only [D.py, D.eqv, PyData.eqv]
            exact eqv_pyL n m xs ys (by simpa [D.plain] using hx) (by simpa [D.plain] using hy)
        | _ => simp [D.py, D.eqv, PyData.eqv]
    | tz xs =>
      cases n with
      | zero => simp [D.plain] at hx
      | succ n =>
        cases y with
        | tup ys =>
          cases m with
          | zero => simp [D.plain] at hy
          | succ m =>
            simp only [D.py, D.eqv, PyData.eqv]
            exact eqv_pyL n m xs ys (by simpa [D.plain] using hx) (by simpa [D.plain] using hy)
        | tz ys =>
          cases m with
          | zero => simp [D.plain] at hy
          | succ m =>
            simp only [D.py, D.eqv, PyData.eqv]
            exact eqv_pyL n m xs ys (by simpa [D.plain] using hx) (by simpa [D.plain] using hy)
        | _ => simp [D.py, D.eqv, PyData.eqv]
theorem eqv_pyL : ∀ (n m : Nat) (xs ys : List D), plainL n xs = true → plainL m ys = true → PyData.eqvAll (pyL xs) (pyL ys) = eqvL xs ys
  | n, m, [], [], _, _ => by simp [pyL, eqvL, PyData.eqvAll]
  | n, m, [], y :: ys, _, _ => by simp [pyL, eqvL, PyData.eqvAll]
  | n, m, x :: xs, [], _, _ => by simp [pyL, eqvL, PyData.eqvAll]
  | n, m, x :: xs, y :: ys, hx, hy => by
    obtain ⟨h1, h2⟩ := Bool.and_eq_true_iff.mp (show (D.plain n x && plainL n xs) = true by simpa [plainL] using hx)
    obtain ⟨h3, h4⟩ := Bool.and_eq_true_iff.mp (show (D.plain m y && plainL m ys) = true by simpa [plainL] using hy)
    simp only [pyL, eqvL, PyData.eqvAll]
    rw [eqv_py n m x y h1 h3, eqv_pyL n m xs ys h2 h4]
end
mutual
theorem shaped_py : ∀ (n : Nat) (x : D), D.plain n x = true → (D.py x).canLay0 = true ∧ (D.py x).depth ≤ n
  | n, x, h => by
    cases x with
    | non => simp [D.py, PyData.canLay0, PyData.depth]
    | bl b => simp [D.py, PyData.canLay0, PyData.depth]
    | int b => simp [D.py, PyData.canLay0, PyData.depth]
    | str b => cases n <;> simpa [D.py, PyData.canLay0, PyData.depth, D.plain] using h
    | dct t ks vs => cases n <;> simp [D.plain] at h
    | ins c ns vs => cases n <;> simp [D.plain] at h
    | exn c ns vs => cases n <;> simp [D.plain] at h
    | lst xs =>
      cases n with
      | zero => simp [D.plain] at h
      | succ n =>
        obtain ⟨h1, h2⟩ := shaped_pyL n xs (by simpa [D.plain] using h)
        exact ⟨by simpa [D.py, PyData.canLay0] using h1, by simp only [D.py, PyData.depth]; omega⟩
    | fz xs =>
      cases n with
      | zero => simp [D.plain] at h
      | succ n =>
        obtain ⟨h1, h2⟩ := shaped_pyL n xs (by simpa [D.plain] using h)
        exact ⟨by simpa [D.py, PyData.canLay0] using h1, by simp only [D.py, PyData.depth]; omega⟩
    | tup xs =>
      cases n with
      | zero => simp [D.plain] at h
      | succ n =>
        obtain ⟨h1, h2⟩ := shaped_pyL n xs (by simpa [D.plain] using h)
        exact ⟨by simpa [D.py, PyData.canLay0] using h1, by simp only [D.py, PyData.depth]; omega⟩
    | tz xs =>
      cases n with
      | zero => simp [D.plain] at h
      | succ n =>
        obtain ⟨h1, h2⟩ := shaped_pyL n xs (by simpa [D.plain] using h)
        exact ⟨by simpa [D.py, PyData.canLay0] using h1, by simp only [D.py, PyData.depth]; omega⟩
theorem shaped_pyL : ∀ (n : Nat) (xs : List D), plainL n xs = true → PyData.canLayAll0 (pyL xs) = true ∧ PyData.depthAll (pyL xs) ≤ n
  | n, [], _ => by simp [pyL, PyData.canLayAll0, PyData.depthAll]
  | n, x :: xs, h => by
    obtain ⟨h1, h2⟩ := Bool.and_eq_true_iff.mp (show (D.plain n x && plainL n xs) = true by simpa [plainL] using h)
    obtain ⟨a1, a2⟩ := shaped_py n x h1
    obtain ⟨b1, b2⟩ := shaped_pyL n xs h2
    exact ⟨by simp [pyL, PyData.canLayAll0, a1, b1], by simp only [pyL, PyData.depthAll]; omega⟩
end
theorem shaped_of_plain {x : D} (h : D.plain 64 x = true) : SeqAt.shaped (D.py x) = true := by
  obtain ⟨h1, h2⟩ := shaped_py 64 x h
  unfold SeqAt.shaped
  rw [h1, decide_eq_true h2]; rfl
mutual
theorem dp_of {G : Gx} {H : Hp} : ∀ (n : Nat) (x : D) (v : V), D.plain n x = true → Rep G H x v → Dp G.K H v (D.py x)
  | n, x, v, h, r => by
    cases x with
    | non => rw [show v = .non from r]; exact .non
    | bl b => rw [show v = .bl b from r]; exact .bl b
    | int b => rw [show v = .int b from r]; exact .int b
    | str b => rw [show v = .str b from r]; exact .str b
    | dct t ks vs => cases n <;> simp [D.plain] at h
    | ins c ns vs => cases n <;> simp [D.plain] at h
    | exn c ns vs => cases n <;> simp [D.plain] at h
    | lst xs =>
      cases n with
      | zero => simp [D.plain] at h
      | succ n =>
        obtain ⟨a, vs, rfl, h1, h2⟩ := r
        exact Dp.lst (SqL.of h1) (dp_ofL n xs vs (by simpa [D.plain] using h) h2)
    | fz xs =>
      cases n with
      | zero => simp [D.plain] at h
      | succ n =>
        obtain ⟨a, vs, rfl, h1, h2⟩ := r
        exact Dp.lst h1 (dp_ofL n xs vs (by simpa [D.plain] using h) h2)
    | tup xs =>
      cases n with
      | zero => simp [D.plain] at h
      | succ n =>
        obtain ⟨a, vs, rfl, h1, h2⟩ := r
        exact Dp.tup (SqT.of h1) (dp_ofL n xs vs (by simpa [D.plain] using h) h2)
    | tz xs =>
      cases n with
      | zero => simp [D.plain] at h
      | succ n =>
        obtain ⟨a, vs, rfl, h1, h2⟩ := r
        exact Dp.tup (tz_sq h1) (dp_ofL n xs vs (by simpa [D.plain] using h) h2)
theorem dp_ofL {G : Gx} {H : Hp} : ∀ (n : Nat) (xs : List D) (vs : List V), plainL n xs = true → RepL G H xs vs → DpAll G.K H vs (pyL xs)
  | n, [], vs, _, r => by rw [show vs = [] from r]; exact DpAll.nil
  | n, x :: xs, _, h, ⟨v, r, h1, h2, h3⟩ => by
    obtain ⟨k1, k2⟩ := Bool.and_eq_true_iff.mp (show (D.plain n x && plainL n xs) = true by simpa [plainL] using h)
    subst h1
    exact DpAll.cons (dp_of n x v k1 h2) (dp_ofL n xs r k2 h3)
end
def gEq : D → D → Option Slot
  | .int a, .int b => some (.sh (.bl (a == b)))
  | x, y => if (D.plain 64 x && D.plain 64 y) = true then some (.sh (.bl (D.eqv x y))) else none
def gNe : D → D → Option Slot
  | .int a, .int b => some (.sh (.bl (!(a == b))))
  | x, y => if (D.plain 64 x && D.plain 64 y) = true then some (.sh (.bl (!D.eqv x y))) else none
theorem gEq_shape {x y : D} {s : Slot} (h : gEq x y = some s) : D.plain 64 x = true ∧ D.plain 64 y = true ∧ s = .sh (.bl (D.eqv x y)) := by
  unfold gEq at h
  split at h
  · cases h; exact ⟨by simp [D.plain], by simp [D.plain], by simp [D.eqv]⟩
  · split at h
    · rename_i z
      obtain ⟨h1, h2⟩ := Bool.and_eq_true_iff.mp z
      cases h; exact ⟨h1, h2, rfl⟩
    · cases h
theorem gNe_shape {x y : D} {s : Slot} (h : gNe x y = some s) : D.plain 64 x = true ∧ D.plain 64 y = true ∧ s = .sh (.bl (!D.eqv x y)) := by
  unfold gNe at h
  split at h
  · cases h; exact ⟨by simp [D.plain], by simp [D.plain], by simp [D.eqv]⟩
  · split at h
    · rename_i z
      obtain ⟨h1, h2⟩ := Bool.and_eq_true_iff.mp z
      cases h; exact ⟨h1, h2, rfl⟩
    · cases h
theorem op2_eq {F : Frm} {K : PySem.W.Frag} (hK : F.G.K = K) : Op2 F (rEqD K) gEq := by
  subst hK
  intro Hs H L x y dx dy s Q S rx ry hg k
  obtain ⟨h1, h2, rfl⟩ := gEq_shape hg
  refine ⟨D.py dx, D.py dy, dp_of 64 dx x h1 (rx.rep S.eS), dp_of 64 dy y h2 (ry.rep S.eS), shaped_of_plain h1, shaped_of_plain h2, ?_⟩
  rw [eqv_py 64 64 dx dy h1 h2]
  exact fin_sh S (by exact rfl) k
theorem op2_ne {F : Frm} {K : PySem.W.Frag} (hK : F.G.K = K) : Op2 F (rNeD K) gNe := by
  subst hK
  intro Hs H L x y dx dy s Q S rx ry hg k
  obtain ⟨h1, h2, rfl⟩ := gNe_shape hg
  refine ⟨D.py dx, D.py dy, dp_of 64 dx x h1 (rx.rep S.eS), dp_of 64 dy y h2 (ry.rep S.eS), shaped_of_plain h1, shaped_of_plain h2, ?_⟩
  rw [eqv_py 64 64 dx dy h1 h2]
  exact fin_sh S (by exact rfl) k
/-! ### is -/
def D.isNon : D → Bool
  | .non => true
  | _ => false
theorem isNon_rep {G : Gx} {Hs H : Hp} {d : D} {v : V} (r : RB G Hs H d v) : decide (v = .non) = d.isNon := by
  cases d with
  | non => rw [show v = .non from r]; rfl
  | bl b => rw [show v = .bl b from r]; rfl
  | int b => rw [show v = .int b from r]; rfl
  | str b => rw [show v = .str b from r]; rfl
  | tup l => obtain ⟨a, vs, rfl, _⟩ := r; rfl
  | tz l => obtain ⟨a, vs, rfl, _⟩ := r; rfl
  | lst l => obtain ⟨a, vs, rfl, _⟩ := r; rfl
  | fz l => obtain ⟨a, vs, rfl, _⟩ := r; rfl
  | dct t ks l => obtain ⟨a, vs, rfl, _⟩ := r; rfl
  | ins c ns l => obtain ⟨a, C, dx, vs, rfl, _⟩ := r; rfl
  | exn c ns l => obtain ⟨a, C, vs, rfl, _⟩ := r; rfl
def gIs : D → D → Option Slot
  | x, .non => some (.sh (.bl x.isNon))
  | .bl a, .bl b => some (.sh (.bl (decide (a = b))))
  | _, _ => none
def gIsNot : D → D → Option Slot
  | x, .non => some (.sh (.bl (!x.isNon)))
  | .bl a, .bl b => some (.sh (.bl (!decide (a = b))))
  | _, _ => none
def rIsG : R2 := fun x y H Q => (y = .non ∧ Q (.bl (decide (x = .non))) H) ∨ rIsB x y H Q
def rIsNotG : R2 := fun x y H Q => (y = .non ∧ Q (.bl (!decide (x = .non))) H) ∨ rNotB x y H Q
theorem opr_is {X : Cx} : OpR X (compareOp .Is) rIsG := op_isN.or op_isBl
theorem opr_isnot {X : Cx} : OpR X (compareOp .IsNot) rIsNotG := op_notN.or op_notBl
theorem op2_is {F : Frm} : Op2 F rIsG gIs := by
  intro Hs H L x y dx dy s Q S rx ry hg k
  unfold gIs at hg
  split at hg
  · cases hg
    refine .inl ⟨ry, ?_⟩
    rw [isNon_rep rx]
    exact fin_sh S (by exact rfl) k
  · cases hg
    exact .inr ⟨_, _, rx, ry, fin_sh S (by exact rfl) k⟩
  · cases hg
theorem op2_isnot {F : Frm} : Op2 F rIsNotG gIsNot := by
  intro Hs H L x y dx dy s Q S rx ry hg k
  unfold gIsNot at hg
  split at hg
  · cases hg
    refine .inl ⟨ry, ?_⟩
    rw [isNon_rep rx]
    exact fin_sh S (by exact rfl) k
  · cases hg
    exact .inr ⟨_, _, rx, ry, fin_sh S (by exact rfl) k⟩
  · cases hg
end Dl
set_option Elab.async false
set_option linter.all false
set_option maxRecDepth 100000
set_option maxHeartbeats 4000000
namespace Dl
open PySem PySem.Spec PyProof.Rows L2
/-! ### keys -/
def keyOf : D → Option Key
  | .int i => some (.inl i)
  | .str x => some (.inr x)
  | _ => none
def keysOf : List D → Option (List Key)
  | [] => some []
  | d :: r => match keyOf d, keysOf r with
    | some k, some ks => some (k :: ks)
    | _, _ => none
def D.key : D → Option DK
  | .int i => some (.k (.inl i))
  | .str x => some (.k (.inr x))
  | .tup l => (keysOf l).map .t
  | _ => none
theorem keyOf_rep {G : Gx} {H : Hp} {d : D} {v : V} {k : Key} (h : keyOf d = some k) (r : Rep G H d v) : v = kV k := by
  cases d <;> first | (cases h; exact r) | cases h
theorem keysOf_rep {G : Gx} {H : Hp} : ∀ {l : List D} {vs : List V} {ks : List Key}, keysOf l = some ks → RepL G H l vs → vs = ks.map kV
  | [], vs, ks, h, r => by cases h; exact r
  | d :: l, _, ks, h, ⟨v, r, h1, h2, h3⟩ => by
    unfold keysOf at h
    cases e1 : keyOf d with
    | none => rw [e1] at h; cases h
    | some k =>
      cases e2 : keysOf l with
      | none => rw [e1, e2] at h; cases h
      | some ks' =>
        rw [e1, e2] at h
        cases h
        rw [h1, keyOf_rep e1 h2, keysOf_rep e2 h3]; rfl
/-- a look in a dict -/
def lookD : List DK → List D → DK → Option D
  | k :: ks, v :: vs, x => if k = x then some v else lookD ks vs x
  | _, _, _ => none
def kindK : DK → Bool
  | .k _ => false
  | .t _ => true
theorem look_k {G : Gx} {H : Hp} {x : Key} : ∀ {kvs : List (Key × V)} {l : List D}, RepL G H l (kvs.map (·.2)) → match lookD (kvs.map fun p => DK.k p.1) l (.k x) with
    | some d => ∃ v, valV kvs x = some v ∧ Rep G H d v
    | none => valV kvs x = none
  | [], l, h => by
    cases l with
    | nil => rfl
    | cons d r => obtain ⟨v, r', e, _⟩ := h; cases e
  | (k, v) :: kvs, [], h => by cases (show (_ :: _ : List V) = [] from h)
  | (k, v) :: kvs, d :: l, ⟨v', r', e, h1, h2⟩ => by
    have e1 : v = v' := (List.cons.inj e).1
    have e2 : kvs.map (·.2) = r' := (List.cons.inj e).2
    subst e1 e2
    show match (if DK.k k = DK.k x then some d else lookD (kvs.map fun p => DK.k p.1) l (.k x)) with
      | some d => _
      | none => _
    by_cases z : k = x
    · subst z
      rw [if_pos rfl]
      exact ⟨v, valV_pos rfl, h1⟩
    · rw [if_neg (fun q => z (DK.k.inj q))]
      have ih := look_k (x := x) h2
      cases q : lookD (kvs.map fun p => DK.k p.1) l (.k x) with
      | none => rw [q] at ih; show valV _ _ = none; rw [valV_neg z]; exact ih
      | some d' => rw [q] at ih; obtain ⟨w, i1, i2⟩ := ih; exact ⟨w, by rw [valV_neg z]; exact i1, i2⟩
theorem look_t {G : Gx} {H : Hp} {x : List Key} : ∀ {kvs : List (List Key × V)} {l : List D}, RepL G H l (kvs.map (·.2)) → match lookD (kvs.map fun p => DK.t p.1) l (.t x) with
    | some d => ∃ v, valV kvs x = some v ∧ Rep G H d v
    | none => valV kvs x = none
  | [], l, h => by
    cases l with
    | nil => rfl
    | cons d r => obtain ⟨v, r', e, _⟩ := h; cases e
  | (k, v) :: kvs, [], h => by cases (show (_ :: _ : List V) = [] from h)
  | (k, v) :: kvs, d :: l, ⟨v', r', e, h1, h2⟩ => by
    have e1 : v = v' := (List.cons.inj e).1
    have e2 : kvs.map (·.2) = r' := (List.cons.inj e).2
    subst e1 e2
    show match (if DK.t k = DK.t x then some d else lookD (kvs.map fun p => DK.t p.1) l (.t x)) with
      | some d => _
      | none => _
    by_cases z : k = x
    · subst z
      rw [if_pos rfl]
      exact ⟨v, valV_pos rfl, h1⟩
    · rw [if_neg (fun q => z (DK.t.inj q))]
      have ih := look_t (x := x) h2
      cases q : lookD (kvs.map fun p => DK.t p.1) l (.t x) with
      | none => rw [q] at ih; show valV _ _ = none; rw [valV_neg z]; exact ih
      | some d' => rw [q] at ih; obtain ⟨w, i1, i2⟩ := ih; exact ⟨w, by rw [valV_neg z]; exact i1, i2⟩
/-- what a dict answers to a key -/
theorem dget_of {G : Gx} {Hs H : Hp} {t : Bool} {ks : List DK} {l : List D} {a : Addr} {vs : List V} {dk : D} {y : V} {x : DK} (e : Ex Hs H) (h : DctAt H a t ks vs) (r : RepL G Hs l vs) (hk : dk.key = some x) (ry : Rep G H dk y) (sk : kindK x = t) :
    ∃ o, DGet H a y o ∧ match lookD ks l x with
      | some d => ∃ v, o = some v ∧ Rep G Hs d v
      | none => o = none := by
  have ky : ∀ k, x = .k k → y = kV k := fun k z => by
    subst z
    cases dk with
    | int i => cases hk; exact ry
    | str i => cases hk; exact ry
    | tup l =>
      have hk : (keysOf l).map DK.t = some (DK.k k) := hk
      cases q : keysOf l with
      | none => rw [q] at hk; cases hk
      | some w => rw [q] at hk; cases hk
    | _ => cases hk
  have kt : ∀ k, x = .t k → ∃ b, y = .ref b ∧ H b = some (.tup (k.map kV)) := fun k z => by
    subst z
    cases dk with
    | int i => cases hk
    | str i => cases hk
    | tup l =>
      have hk : (keysOf l).map DK.t = some (DK.t k) := hk
      cases q : keysOf l with
      | none => rw [q] at hk; cases hk
      | some w =>
        rw [q] at hk; cases hk
        obtain ⟨b, ws, rfl, h1, h2⟩ := ry
        rw [keysOf_rep q h2] at h1
        exact ⟨b, rfl, h1⟩
    | _ => cases hk
  cases x with
  | k k =>
    have : t = false := sk.symm
    subst this
    obtain ⟨kvs, h1, rfl, rfl⟩ := h
    have q := look_k (x := k) r
    have := ky k rfl
    subst this
    refine ⟨_, DGet.k h1, ?_⟩
    cases z : lookD (kvs.map fun p => DK.k p.1) l (.k k) with
    | none => rw [z] at q; exact q
    | some d => rw [z] at q; exact q
  | t k =>
    have : t = true := sk.symm
    subst this
    obtain ⟨kvs, h1, rfl, rfl⟩ := h
    have q := look_t (x := k) r
    obtain ⟨b, rfl, hb⟩ := kt k rfl
    refine ⟨_, DGet.t h1 hb, ?_⟩
    cases z : lookD (kvs.map fun p => DK.t p.1) l (.t k) with
    | none => rw [z] at q; exact q
    | some d => rw [z] at q; exact q
/-! ### in -/
section
variable {X : Cx}
def rDIn (K : PySem.W.Frag) : R2 := fun y x H Q => ∃ a o, x = .ref a ∧ DGet H a y o ∧ Q (.bl o.isSome) H
def rDNotIn (K : PySem.W.Frag) : R2 := fun y x H Q => ∃ a o, x = .ref a ∧ DGet H a y o ∧ Q (.bl (!o.isSome)) H
theorem op_din (hu : X.A.units + 1 < cLine) : OpR X (compareOp .In) (rDIn X.K) := by
  intro pins s σ H y x v u Q I ry rx h
  obtain ⟨a, o, rfl, g, q⟩ := h
  obtain rfl : u = Value.ref a := rx
  exact d_in hu I g ry fun s3 I3 => ⟨.bl o.isSome, H, I3, rfl, q⟩
theorem op_dnotin (hu : X.A.units + 1 < cLine) : OpR X (compareOp .NotIn) (rDNotIn X.K) := by
  intro pins s σ H y x v u Q I ry rx h
  obtain ⟨a, o, rfl, g, q⟩ := h
  obtain rfl : u = Value.ref a := rx
  exact d_notIn hu I g ry fun s3 I3 => ⟨.bl (!o.isSome), H, I3, rfl, q⟩
def rInT (K : PySem.W.Frag) : R2 := fun x y H Q => ∃ d ds, Dp K H x d ∧ Dp K H y (.tuple ds) ∧ SeqAt.shaped d = true ∧ SeqAt.shaped (.tuple ds) = true ∧ Q (.bl (ds.any fun z => PyData.eqv z d)) H
def rNotInT (K : PySem.W.Frag) : R2 := fun x y H Q => ∃ d ds, Dp K H x d ∧ Dp K H y (.tuple ds) ∧ SeqAt.shaped d = true ∧ SeqAt.shaped (.tuple ds) = true ∧ Q (.bl (!ds.any fun z => PyData.eqv z d)) H
theorem op_inT (hu : X.A.units + 65 < cLine) : OpR X (compareOp .In) (rInT X.K) := by
  intro pins s σ H x y v u Q I rx ry h
  obtain ⟨d, ds, hd, he, sd, se, q⟩ := h
  obtain ⟨as, r1⟩ := Dp.reads I d x v hd rx
  obtain ⟨bs, r2⟩ := Dp.reads I (.tuple ds) y u he ry
  exact SeqAt.in_tuple_reads r2 r1 (SeqAt.canLay_of_shaped se) (SeqAt.canLay_of_shaped sd) (room_in_shaped sd hu) ⟨.bl _, H, I, rfl, q⟩
theorem op_notInT (hu : X.A.units + 65 < cLine) : OpR X (compareOp .NotIn) (rNotInT X.K) := by
  intro pins s σ H x y v u Q I rx ry h
  obtain ⟨d, ds, hd, he, sd, se, q⟩ := h
  obtain ⟨as, r1⟩ := Dp.reads I d x v hd rx
  obtain ⟨bs, r2⟩ := Dp.reads I (.tuple ds) y u he ry
  exact SeqAt.notIn_tuple_reads r2 r1 (SeqAt.canLay_of_shaped se) (SeqAt.canLay_of_shaped sd) (room_in_shaped sd hu) ⟨.bl _, H, I, rfl, q⟩
def rInG (K : PySem.W.Frag) : R2 := fun x y H Q => rInD K x y H Q ∨ (rInT K x y H Q ∨ (rDIn K x y H Q ∨ ∃ i j, x = .str i ∧ y = .str j ∧ Q (.bl (!(Builtin.Str.occurrences j i 0 j.length 1).isEmpty)) H))
def rNotInG (K : PySem.W.Frag) : R2 := fun x y H Q => rNotInD K x y H Q ∨ (rNotInT K x y H Q ∨ (rDNotIn K x y H Q ∨ ∃ i j, x = .str i ∧ y = .str j ∧ Q (.bl (!(!(Builtin.Str.occurrences j i 0 j.length 1).isEmpty))) H))
theorem opr_in (hu : X.A.units + 65 < cLine) : OpR X (compareOp .In) (rInG X.K) := (op_inD hu).or ((op_inT hu).or ((op_din (by omega)).or op_in_str))
theorem opr_notin (hu : X.A.units + 65 < cLine) : OpR X (compareOp .NotIn) (rNotInG X.K) := (op_notInD hu).or ((op_notInT hu).or ((op_dnotin (by omega)).or op_notin_str))
end
def anyEq (x : D) : List D → Bool
  | [] => false
  | y :: ys => D.eqv y x || anyEq x ys
theorem anyEq_py {x : D} (hx : D.plain 64 x = true) : ∀ {l : List D}, plainL 63 l = true → ((pyL l).any fun z => PyData.eqv z (D.py x)) = anyEq x l
  | [], _ => rfl
  | y :: ys, h => by
    obtain ⟨h1, h2⟩ := Bool.and_eq_true_iff.mp (show (D.plain 63 y && plainL 63 ys) = true by simpa [plainL] using h)
    simp only [pyL, List.any_cons, anyEq]
    rw [eqv_py 63 64 y x h1 hx, anyEq_py hx h2]
/-- x in y -/
def isIn (x y : D) : Option Bool := match y with
  | .lst l => if (D.plain 64 x && plainL 63 l) = true then some (anyEq x l) else none
  | .fz l => if (D.plain 64 x && plainL 63 l) = true then some (anyEq x l) else none
  | .tup l => if (D.plain 64 x && plainL 63 l) = true then some (anyEq x l) else none
  | .tz l => if (D.plain 64 x && plainL 63 l) = true then some (anyEq x l) else none
  | .dct t ks l => (match x.key with
    | some k => if kindK k = t then some (lookD ks l k).isSome else none
    | none => none)
  | .str j => (match x with
    | .str i => some (!(Builtin.Str.occurrences j i 0 j.length 1).isEmpty)
    | _ => none)
  | _ => none
def gIn (x y : D) : Option Slot := (isIn x y).map fun b => .sh (.bl b)
def gNotIn (x y : D) : Option Slot := (isIn x y).map fun b => .sh (.bl (!b))
theorem isIn_ok {F : Frm} {Hs H : Hp} {L : List Ent} {x y : V} {dx dy : D} {b : Bool} (S : F.St Hs H L) (rx : RB F.G Hs H dx x) (ry : RB F.G Hs H dy y) (h : isIn dx dy = some b) :
    (∀ Q, Q (.bl b) H → rInG F.G.K x y H Q) ∧ ∀ Q, Q (.bl (!b)) H → rNotInG F.G.K x y H Q := by
  have px : ∀ {l : List D}, (D.plain 64 dx && plainL 63 l) = true → D.plain 64 dx = true ∧ plainL 63 l = true := fun z => Bool.and_eq_true_iff.mp z
  have lst : ∀ {l : List D} {e : D}, (e = .lst l ∨ e = .fz l) → RB F.G Hs H e y → (if (D.plain 64 dx && plainL 63 l) = true then some (anyEq dx l) else none) = some b →
      (∀ Q, Q (.bl b) H → rInG F.G.K x y H Q) ∧ ∀ Q, Q (.bl (!b)) H → rNotInG F.G.K x y H Q := fun {l e} he re h => by
    split at h
    · rename_i z
      obtain ⟨h1, h2⟩ := px z
      cases h
      have pl : D.plain 64 e = true := by rcases he with rfl | rfl <;> simpa [D.plain] using h2
      have epy : D.py e = .list (pyL l) := by rcases he with rfl | rfl <;> simp [D.py]
      have dy' := dp_of 64 e y pl (re.rep S.eS)
      have sh := shaped_of_plain pl
      rw [epy] at dy' sh
      refine ⟨fun Q q => .inl ⟨D.py dx, pyL l, dp_of 64 dx x h1 (rx.rep S.eS), dy', shaped_of_plain h1, sh, ?_⟩, fun Q q => .inl ⟨D.py dx, pyL l, dp_of 64 dx x h1 (rx.rep S.eS), dy', shaped_of_plain h1, sh, ?_⟩⟩ <;> (rw [anyEq_py h1 h2]; exact q)
    · cases h
  cases dy with
  | lst l => exact lst (.inl rfl) ry h
  | fz l => exact lst (.inr rfl) ry h
  | tup l =>
    have h : (if (D.plain 64 dx && plainL 63 l) = true then some (anyEq dx l) else none) = some b := h
    split at h
    · rename_i z
      obtain ⟨h1, h2⟩ := px z
      cases h
      have pl : D.plain 64 (.tup l) = true := by simpa [D.plain] using h2
      have dy' := dp_of 64 (.tup l) y pl (ry.rep S.eS)
      have sh := shaped_of_plain pl
      have epy : D.py (.tup l) = .tuple (pyL l) := by simp [D.py]
      rw [epy] at dy' sh
      refine ⟨fun Q q => .inr (.inl ⟨D.py dx, pyL l, dp_of 64 dx x h1 (rx.rep S.eS), dy', shaped_of_plain h1, sh, ?_⟩), fun Q q => .inr (.inl ⟨D.py dx, pyL l, dp_of 64 dx x h1 (rx.rep S.eS), dy', shaped_of_plain h1, sh, ?_⟩)⟩ <;> (rw [anyEq_py h1 h2]; exact q)
    · cases h
  | tz l =>
    have h : (if (D.plain 64 dx && plainL 63 l) = true then some (anyEq dx l) else none) = some b := h
    split at h
    · rename_i z
      obtain ⟨h1, h2⟩ := px z
      cases h
      have pl : D.plain 64 (.tz l) = true := by simpa [D.plain] using h2
      have dy' := dp_of 64 (.tz l) y pl (ry.rep S.eS)
      have sh := shaped_of_plain pl
      have epy : D.py (.tz l) = .tuple (pyL l) := by simp [D.py]
      rw [epy] at dy' sh
      refine ⟨fun Q q => .inr (.inl ⟨D.py dx, pyL l, dp_of 64 dx x h1 (rx.rep S.eS), dy', shaped_of_plain h1, sh, ?_⟩), fun Q q => .inr (.inl ⟨D.py dx, pyL l, dp_of 64 dx x h1 (rx.rep S.eS), dy', shaped_of_plain h1, sh, ?_⟩)⟩ <;> (rw [anyEq_py h1 h2]; exact q)
    · cases h
  | dct t ks l =>
    obtain ⟨a, vs, rfl, h1, h2⟩ := ry
    have h : (match dx.key with
      | some k => if kindK k = t then some (lookD ks l k).isSome else none
      | none => none) = some b := h
    cases hk : dx.key with
    | none => rw [hk] at h; cases h
    | some k =>
      rw [hk] at h
      simp only at h
      split at h
      · rename_i sk
        cases h
        obtain ⟨o, g, m⟩ := dget_of S.eS h1 h2 hk (rx.rep S.eS) sk
        have e : o.isSome = (lookD ks l k).isSome := by
          cases q : lookD ks l k with
          | none =>
            rw [q] at m
            have m : o = none := m
            rw [m]; rfl
          | some d => rw [q] at m; obtain ⟨v, m, _⟩ := m; rw [m]; rfl
        exact ⟨fun Q q => .inr (.inr (.inl ⟨a, o, rfl, g, by rw [e]; exact q⟩)), fun Q q => .inr (.inr (.inl ⟨a, o, rfl, g, by rw [e]; exact q⟩))⟩
      · cases h
  | str j =>
    cases dx with
    | str i =>
      cases h
      exact ⟨fun Q q => .inr (.inr (.inr ⟨i, j, rx, ry, q⟩)), fun Q q => .inr (.inr (.inr ⟨i, j, rx, ry, q⟩))⟩
    | _ => cases h
  | _ => cases h
theorem op2_in {F : Frm} {K : PySem.W.Frag} (hK : F.G.K = K) : Op2 F (rInG K) gIn := by
  subst hK
  intro Hs H L x y dx dy s Q S rx ry hg k
  unfold gIn at hg
  cases e : isIn dx dy with
  | none => rw [e] at hg; cases hg
  | some b =>
    rw [e] at hg; cases hg
    exact (isIn_ok S rx ry e).1 Q (fin_sh S (by exact rfl) k)
theorem op2_notin {F : Frm} {K : PySem.W.Frag} (hK : F.G.K = K) : Op2 F (rNotInG K) gNotIn := by
  subst hK
  intro Hs H L x y dx dy s Q S rx ry hg k
  unfold gNotIn at hg
  cases e : isIn dx dy with
  | none => rw [e] at hg; cases hg
  | some b =>
    rw [e] at hg; cases hg
    exact (isIn_ok S rx ry e).2 Q (fin_sh S (by exact rfl) k)
/-! ### subscripts -/
section
variable {X : Cx}
def rDIx : R2 := fun x y H Q => ∃ a v, x = .ref a ∧ DGet H a y (some v) ∧ Q v H
theorem ix_dict (hu : X.A.units + 1 < cLine) : IxR X rDIx := by
  intro value slice pins s σ H x y v u Q I rx ry h hs
  obtain ⟨a, z, rfl, g, q⟩ := h
  obtain rfl : v = Value.ref a := rx
  have hT := dict_typeIs I g
  unfold subscriptTail
  refine wpAny_bind ?_
  rw [getitemInPython_of_ne hT.not_modules]
  refine wpAny_bind (wpAny_specialOf hT PySem.F.slot_dict_getitem.lookup ?_)
  have fin : wpAny (model X.prog X.w) X.A (subscripted slice false (.ref a) u) (fun r s₃ => wpAny (model X.prog X.w) X.A (letTemporaryGo value (.ref a) r >>= fun _ => pure r) (EP X pins σ Q) X.xe s₃) X.xe s := by
    rw [hs]
    exact wpAny_operating (d_getItem hu I g ry fun w' s3 I3 rw' => wpAny_bind (wpAny_letTemporaryGo (wpAny_pure ⟨z, H, I3, rw', q⟩)))
  first
    | exact wpAny_pure (wpAny_bind fin)
    | exact wpAny_bind (wpAny_pure (wpAny_bind fin))
    | exact wpAny_bind fin
def rIxG (K : PySem.W.Frag) : R2 := fun x y H Q => rIxL K x y H Q ∨ (rIxT K x y H Q ∨ (rIxS x y H Q ∨ rDIx x y H Q))
theorem ixr_all (hu : X.A.units + 1 < cLine) : IxR X (rIxG X.K) := ix_list.or (ix_tup.or (ix_str.or (ix_dict hu)))
end
def gIx : D → D → Option Slot
  | .lst l, .int i => (atI l i).map .sh
  | .tup l, .int i => (atI l i).map .sh
  | .tz l, .int i => (atI l i).map .sh
  | .fz l, .int i => (atI l i).map .sh
  | .str z, .int i => if lenOk z.length = true then (atI z.cps.toList i).map fun c => .sh (.str ⟨#[c]⟩) else none
  | .dct t ks l, x => (match x.key with
    | some k => if kindK k = t then (lookD ks l k).map .sh else none
    | none => none)
  | _, _ => none
theorem atI_rep {G : Gx} {H : Hp} {l : List D} {vs : List V} {i : Int} {d : D} (r : RepL G H l vs) (h : atI l i = some d) : ∃ v, atI vs i = some v ∧ Rep G H d v := by
  unfold atI at h ⊢
  rw [r.length] at h
  cases e : ixN vs.length i with
  | none => rw [e] at h; cases h
  | some j =>
    rw [e] at h
    exact r.get h
theorem op2_ix {F : Frm} {K : PySem.W.Frag} (hK : F.G.K = K) : Op2 F (rIxG K) gIx := by
  subst hK
  intro Hs H L x y dx dy s Q S rx ry hg k
  unfold gIx at hg
  split at hg
  · rename_i l i
    cases e : atI l i with
    | none => rw [e] at hg; cases hg
    | some d =>
      rw [e] at hg; cases hg
      obtain ⟨a, vs, rfl, h1, h2⟩ := rx
      obtain ⟨v, h3, h4⟩ := atI_rep h2 e
      exact .inl ⟨a, vs, i, v, rfl, ry, SqL.of h1, h3, k v Hs H (Ex.refl Hs) (S.pushSh h4)⟩
  · rename_i l i
    cases e : atI l i with
    | none => rw [e] at hg; cases hg
    | some d =>
      rw [e] at hg; cases hg
      obtain ⟨a, vs, rfl, h1, h2⟩ := rx
      obtain ⟨v, h3, h4⟩ := atI_rep h2 e
      exact .inr (.inl ⟨a, vs, i, v, rfl, ry, SqT.of (S.eS.get h1), h3, k v Hs H (Ex.refl Hs) (S.pushSh h4)⟩)
  · rename_i l i
    cases e : atI l i with
    | none => rw [e] at hg; cases hg
    | some d =>
      rw [e] at hg; cases hg
      obtain ⟨a, vs, rfl, h1, h2⟩ := rx
      obtain ⟨v, h3, h4⟩ := atI_rep h2 e
      exact .inr (.inl ⟨a, vs, i, v, rfl, ry, tz_sq (tz_ex S.eS h1), h3, k v Hs H (Ex.refl Hs) (S.pushSh h4)⟩)
  · rename_i l i
    cases e : atI l i with
    | none => rw [e] at hg; cases hg
    | some d =>
      rw [e] at hg; cases hg
      obtain ⟨a, vs, rfl, h1, h2⟩ := rx
      obtain ⟨v, h3, h4⟩ := atI_rep h2 e
      exact .inl ⟨a, vs, i, v, rfl, ry, sqL_ex S.eS h1, h3, k v Hs H (Ex.refl Hs) (S.pushSh h4)⟩
  · rename_i z i
    split at hg
    · rename_i ho
      cases e : atI z.cps.toList i with
      | none => rw [e] at hg; cases hg
      | some c =>
        rw [e] at hg; cases hg
        exact .inr (.inr (.inl ⟨z, i, c, rx, ry, lenOk_le ho, e, fin_sh S (by exact rfl) k⟩))
    · cases hg
  · rename_i t ks l
    cases hk : D.key dy with
    | none => rw [hk] at hg; cases hg
    | some q =>
      rw [hk] at hg
      simp only at hg
      split at hg
      · rename_i sk
        obtain ⟨a, vs, rfl, h1, h2⟩ := rx
        obtain ⟨o, g, m⟩ := dget_of S.eS h1 h2 hk (ry.rep S.eS) sk
        cases e : lookD ks l q with
        | none => rw [e] at hg; cases hg
        | some d =>
          rw [e] at hg m; cases hg
          obtain ⟨v, rfl, rv⟩ := m
          exact .inr (.inr (.inr ⟨a, v, rfl, g, k v Hs H (Ex.refl Hs) (S.pushSh rv)⟩))
      · cases hg
  · cases hg
end Dl
set_option Elab.async false
set_option linter.all false
set_option maxRecDepth 100000
set_option maxHeartbeats 4000000
namespace Dl
open PySem PySem.Spec PyProof.Rows L2
section
variable {X : Cx} {F : Frm}
/-! ### slices -/
def Frm.pP (F : Frm) (T : List Ent) (v a : Option Int) (Hs H : Hp) (E : List Ent) : Prop := F.St Hs H (E ++ T) ∧ v = a
structure DP (X : Cx) (F : Frm) (e : Option Expr) (f : M (Option Int)) : Prop where
  po : PO X e (F.tM F.pP f)
theorem PO.weak {e : Option Expr} {t t' : TO} (h : PO X e t) (w : ∀ σ H Q, t' σ H Q → t σ H Q) : PO X e t' := ⟨fun pins s σ H Q I q => h.run pins s σ H Q I (w σ H Q q)⟩
def dNo : M (Option Int) := fun e => .ok none e
def Opd.int (o : Opd) (e : Env) : Option Int := match o.get e with
  | some (.int i) => some i
  | _ => none
def dPart (f : M Opd) : M (Option Int) := M.bind f fun o e => match o.int e with
  | some i => .ok (some i) e
  | none => .stuck
theorem dp_none : DP X F none dNo := ⟨PO.weak po_none fun σ H Q ⟨Hs, E, T, S, e1, q⟩ => q none Hs H E (Ex.refl Hs) e1 rfl ⟨S, rfl⟩⟩
theorem int_of {Hs H : Hp} {E T : List Ent} {v : V} {o : Opd} {i : Int} (S : F.St Hs H (E ++ T)) (h : OpdR F.G Hs E v o) (hi : o.int (E.map Prod.snd) = some i) : v = .int i := by
  unfold Opd.int at hi
  cases e : o.get (E.map Prod.snd) with
  | none => rw [e] at hi; cases hi
  | some d =>
    rw [e] at hi
    cases d with
    | int j => cases hi; exact h.rb S e
    | _ => cases hi
theorem dp_some {e : Expr} {f : M Opd} (h : DO X F e f) : DP X F (some e) (dPart f) := ⟨PO.weak (po_some h.pe) fun σ H Q ⟨Hs, E, T, S, e1, q⟩ => by
  refine ⟨Hs, E, T, S, e1, q.bind fun v o env' Hs' H' E' ex m1 m2 p q => ?_⟩
  subst m2
  cases e : o.int (E'.map Prod.snd) with
  | none =>
    have q : F.End σ Hs' T (F.pP T) (match o.int (E'.map Prod.snd) with
      | some i => Out.ok (some i) (E'.map Prod.snd)
      | none => .stuck) Q := q
    rw [e] at q; exact q.elim
  | some i =>
    have q : F.End σ Hs' T (F.pP T) (match o.int (E'.map Prod.snd) with
      | some i => Out.ok (some i) (E'.map Prod.snd)
      | none => .stuck) Q := q
    rw [e] at q
    exact ⟨i, int_of p.1 p.2 e, q (some i) Hs' H' E' (Ex.refl _) m1 rfl ⟨p.1, rfl⟩⟩⟩
def cutD (l : List D) (lo hi : Option Int) : List D := (l.drop (HT.sIx l.length 0 lo)).take (HT.sIx l.length l.length hi - HT.sIx l.length 0 lo)
theorem cut_rep {G : Gx} {H : Hp} {l : List D} {vs : List V} (r : RepL G H l vs) (lo hi : Option Int) : RepL G H (cutD l lo hi) (cutV vs lo hi) := by
  unfold cutD cutV
  rw [r.length]
  exact (r.drop _).take _
def gSl (d : D) (lo hi : Option Int) : Option Slot := match d with
  | .lst l => some (.ol (cutD l lo hi))
  | .fz l => some (.ol (cutD l lo hi))
  | .tup l => some (.sh (.tup (cutD l lo hi)))
  | .tz l => (match Nat.beq (HT.sIx l.length 0 lo) 0 && Nat.beq (HT.sIx l.length l.length hi) l.length with
    | true => some (.sh (.tz l))
    | false => some (.sh (.tup (cutD l lo hi))))
  | _ => none
def dSl (fa : M Opd) (fl fh : M (Option Int)) : M Slot := M.bind fa fun o => M.bind fl fun lo => M.bind fh fun hi e => match o.get e with
  | some d => (match gSl d lo hi with
    | some s => .ok s e
    | none => .stuck)
  | none => .stuck
theorem sl_all : SlR X (fun x lo hi H Q => rSlL X.K x lo hi H Q ∨ rSlA X.K x lo hi H Q) := sl_list.or sl_tupA
theorem de_slice {e : Expr} {lo hi : Option Expr} {pos p2 : Pos} {fa : M Opd} {fl fh : M (Option Int)} (hK : F.G.K = X.K) (ha : DO X F e fa) (hl : DP X F lo fl) (hh : DP X F hi fh) : DE X F (.Subscript e (.Slice lo hi none p2) pos) (dSl fa fl fh) :=
  ⟨PE.weak (pe_slice sl_all ha.pe hl.po hh.po) fun σ H Q ⟨Hs, E, T, S, e1, q⟩ => by
  refine ⟨Hs, E, T, S, e1, q.bind fun x o env' Hs1 H1 E1 ex1 m1 m2 p1 q1 => ?_⟩
  subst m2
  refine ⟨Hs1, E1, T, p1.1, m1, q1.bind fun l lo' env' Hs2 H2 E2 ex2 n1 n2 p2 q2 => ?_⟩
  subst n2
  obtain ⟨p2, rfl⟩ := p2
  refine ⟨Hs2, E2, T, p2, n1, q2.bind fun u hi' env' Hs3 H3 E3 ex3 k1 k2 p3 q3 => ?_⟩
  subst k2
  obtain ⟨p3, rfl⟩ := p3
  have ra : OpdR F.G Hs3 E3 x o := (p1.2.later ex2 (m1.trans n1.symm)).later ex3 (n1.trans k1.symm)
  try simp only at q3
  cases qa : o.get (E3.map Prod.snd) with
  | none => rw [qa] at q3; exact q3.elim
  | some d =>
    rw [qa] at q3
    have rb := ra.rb p3 qa
    cases d with
    | lst ll =>
      obtain ⟨a, vs, rfl, h1, h2⟩ := rb
      exact .inl ⟨a, vs, rfl, SqL.of h1, fin_ol p3 (cut_rep h2 _ _) fun v Hs' H' ex S' => q3 v Hs' H' E3 ex k1 rfl S'⟩
    | fz ll =>
      obtain ⟨a, vs, rfl, h1, h2⟩ := rb
      refine .inl ⟨a, vs, rfl, ?_, fin_ol p3 (cut_rep h2 _ _) fun v Hs' H' ex S' => q3 v Hs' H' E3 ex k1 rfl S'⟩
      rw [← hK]
      exact sqL_ex p3.eS h1
    | tup ll =>
      obtain ⟨a, vs, rfl, h1, h2⟩ := rb
      refine .inr ⟨a, vs, rfl, SqT.of (p3.eS.get h1), fun z => ?_, fun _ => fin_tup p3 (cut_rep h2 _ _) fun v Hs' H' ex S' => q3 v Hs' H' E3 ex k1 rfl S'⟩
      refine q3 _ Hs3 H3 E3 (Ex.refl _) k1 rfl ?_
      have e : cutD ll l u = ll := by
        unfold cutD
        rw [h2.length, z.1, z.2, List.drop_zero, Nat.sub_zero, ← h2.length, List.take_length]
      rw [e]
      exact p3.pushSh ⟨a, vs, rfl, h1, h2⟩
    | tz ll =>
      obtain ⟨a, vs, rfl, h1, h2⟩ := id rb
      have q3 : F.End σ Hs3 T (F.pD T) (match (match Nat.beq (HT.sIx ll.length 0 l) 0 && Nat.beq (HT.sIx ll.length ll.length u) ll.length with
        | true => some (Slot.sh (.tz ll))
        | false => some (.sh (.tup (cutD ll l u)))) with
        | some s => .ok s (E3.map Prod.snd)
        | none => .stuck) Q := q3
      refine .inr ⟨a, vs, rfl, tz_sq (tz_ex p3.eS h1), fun z => ?_, fun nz => ?_⟩
      · have e : (Nat.beq (HT.sIx ll.length 0 l) 0 && Nat.beq (HT.sIx ll.length ll.length u) ll.length) = true := by
          rw [h2.length, z.1, z.2]
          simp
        rw [e] at q3
        exact q3 _ Hs3 H3 E3 (Ex.refl _) k1 rfl (p3.pushSh rb)
      · cases e : (Nat.beq (HT.sIx ll.length 0 l) 0 && Nat.beq (HT.sIx ll.length ll.length u) ll.length) with
        | true =>
          rw [h2.length, Bool.and_eq_true] at e
          exact absurd ⟨Nat.eq_of_beq_eq_true e.1, Nat.eq_of_beq_eq_true e.2⟩ nz
        | false =>
          rw [e] at q3
          exact fin_tup p3 (cut_rep h2 _ _) fun v Hs' H' ex S' => q3 v Hs' H' E3 ex k1 rfl S'
    | _ => exact q3.elim⟩
def gRev (d : D) : Option Slot := match d with
  | .lst l => some (.ol l.reverse)
  | .fz l => some (.ol l.reverse)
  | _ => none
theorem rev_rep {G : Gx} {H : Hp} {l : List D} {vs : List V} (r : RepL G H l vs) : RepL G H l.reverse vs.reverse := by
  refine RepL.of_get (by simp [r.length]) fun j d' v' e1 e2 => ?_
  have hl := r.length
  obtain ⟨h1, _⟩ := List.getElem?_eq_some_iff.mp e1
  rw [List.length_reverse] at h1
  rw [List.getElem?_reverse (by omega)] at e1 e2
  rw [hl] at e1
  obtain ⟨u, q1, q2⟩ := r.get e1
  rw [e2] at q1; cases q1; exact q2
/-- an operation on one value that may be read -/
def dOp1 (g : D → Option Slot) (fa : M Opd) : M Slot := M.bind fa fun o e => match o.get e with
  | some d => (match g d with
    | some s => .ok s e
    | none => .stuck)
  | none => .stuck
def Op1 (F : Frm) (r : V → Hp → VK → Prop) (g : D → Option Slot) : Prop := ∀ (Hs H : Hp) (L : List Ent) (x : V) (dx : D) (s : Slot) (Q : VK), F.St Hs H L → RB F.G Hs H dx x → g dx = some s →
  (∀ v Hs' H', Ex Hs Hs' → F.St Hs' H' (L ++ [(some v, s)]) → Q v H') → r x H Q
theorem op1_weak {g : D → Option Slot} {r : V → Hp → VK → Prop} (ho : Op1 F r g) {fa : M Opd} {ta : TE} (wa : ∀ σ H Q, F.tM F.pO fa σ H Q → ta σ H Q) : ∀ σ H Q, F.tM F.pD (dOp1 g fa) σ H Q → ta σ H (fun x H1 => r x H1 Q) := fun σ H Q ⟨Hs, E, T, S, e1, q⟩ => by
  refine wa _ _ _ ⟨Hs, E, T, S, e1, q.bind fun x o env' Hs1 H1 E1 ex1 m1 m2 p1 q1 => ?_⟩
  subst m2
  try simp only at q1
  cases qa : o.get (E1.map Prod.snd) with
  | none => rw [qa] at q1; exact q1.elim
  | some d =>
    rw [qa] at q1
    try simp only at q1
    cases qg : g d with
    | none => rw [qg] at q1; exact q1.elim
    | some s =>
      rw [qg] at q1
      exact ho Hs1 H1 (E1 ++ T) x d s Q p1.1 (p1.2.rb p1.1 qa) qg fun v Hs' H' ex S' => q1 v Hs' H' E1 ex m1 rfl S'
theorem de_rev {e : Expr} {fa : M Opd} {k : Nat} {p1 p2 p3 pos : Pos} (hK : F.G.K = X.K) (ha : DO X F e fa) : DE X F (.Subscript e (.Slice none none (some (.UnaryOp .USub (.Constant (.int 1) k p1) p2)) p3) pos) (dOp1 gRev fa) :=
  ⟨PE.weak (pe_revL ha.pe) (op1_weak (r := fun x H1 Q => ∃ a xs, x = .ref a ∧ SqL X.K H1 a xs ∧ ∀ p, H1 p = none → Q (.ref p) (upd H1 p (.lst xs.reverse))) (fun Hs H L x dx s Q S rx hg k => by
    cases dx with
    | lst l =>
      cases hg
      obtain ⟨a, vs, rfl, h1, h2⟩ := rx
      exact ⟨a, vs, rfl, SqL.of h1, fin_ol S (rev_rep h2) k⟩
    | fz l =>
      cases hg
      obtain ⟨a, vs, rfl, h1, h2⟩ := rx
      exact ⟨a, vs, rfl, by rw [← hK]; exact sqL_ex S.eS h1, fin_ol S (rev_rep h2) k⟩
    | _ => cases hg) (fun _ _ _ h => h))⟩
def gNeg : D → Option Slot
  | .int i => some (.sh (.int (-i)))
  | _ => none
theorem de_neg {e : Expr} {fa : M Opd} {pos : Pos} (ha : DO X F e fa) : DE X F (.UnaryOp .USub e pos) (dOp1 gNeg fa) :=
  ⟨PE.weak (pe_un un_neg ha.pe) (op1_weak (r := rU fun i => .int (-i)) (fun Hs H L x dx s Q S rx hg k => by
    cases dx with
    | int i => cases hg; exact ⟨i, rx, fin_sh S (by exact rfl) k⟩
    | _ => cases hg) (fun _ _ _ h => h))⟩
/-! ### tests -/
def D.truth : D → Option Bool
  | .non => some false
  | .bl b => some b
  | .int i => some (i != 0)
  | .str x => if lenOk x.length = true then some ((x.length : Int) != 0) else none
  | .lst l => some (!l.isEmpty)
  | .fz l => some (!l.isEmpty)
  | .tup l => some (!l.isEmpty)
  | .tz l => some (!l.isEmpty)
  | .dct false ks _ => some (!ks.isEmpty)
  | _ => none
theorem isEmpty_len {α β : Type} {l : List α} {m : List β} (h : l.length = m.length) : l.isEmpty = m.isEmpty := by
  cases l <;> cases m <;> first | rfl | cases h
theorem truth_ok {Hs H : Hp} {L : List Ent} {x : V} {d : D} {b : Bool} (hK : F.G.K = X.K) (S : F.St Hs H L) (r : RB F.G Hs H d x) (h : d.truth = some b) : TruV X.K x H b := by
  cases d with
  | non => cases h; rw [show x = .non from r]; rfl
  | bl c =>
    have : c = b := Option.some.inj h
    subst this; rw [show x = .bl c from r]; rfl
  | int i => cases h; rw [show x = .int i from r]; rfl
  | str z =>
    have h : (if lenOk z.length = true then some ((z.length : Int) != 0) else none) = some b := h
    split at h
    · rename_i ho
      cases h; rw [show x = .str z from r]; exact ⟨lenOk_le ho, rfl⟩
    · cases h
  | lst l => cases h; obtain ⟨a, vs, rfl, h1, h2⟩ := r; exact .inl ⟨vs, SqL.of h1, by rw [isEmpty_len h2.length]⟩
  | fz l => cases h; obtain ⟨a, vs, rfl, h1, h2⟩ := r; exact .inl ⟨vs, by rw [← hK]; exact sqL_ex S.eS h1, by rw [isEmpty_len h2.length]⟩
  | tup l => cases h; obtain ⟨a, vs, rfl, h1, h2⟩ := r; exact .inr (.inl ⟨vs, SqT.of (S.eS.get h1), by rw [isEmpty_len h2.length]⟩)
  | tz l => cases h; obtain ⟨a, vs, rfl, h1, h2⟩ := r; exact .inr (.inl ⟨vs, tz_sq (tz_ex S.eS h1), by rw [isEmpty_len h2.length]⟩)
  | dct t ks l =>
    cases t with
    | false => cases h; obtain ⟨a, vs, rfl, ⟨kvs, h1, rfl, rfl⟩, h2⟩ := r; exact .inr (.inr ⟨kvs, h1, by rw [isEmpty_len (List.length_map (as := kvs) _)]⟩)
    | true => cases h
  | ins c ns l => cases h
  | exn c ns l => cases h
def dTruth (f : M Opd) : M Bool := M.bind f fun o e => match o.get e with
  | some d => (match d.truth with
    | some b => .ok b e
    | none => .stuck)
  | none => .stuck
theorem dt_of {a : Expr} {f : M Opd} (hK : F.G.K = X.K) (ha : DO X F a f) (he : ∀ whole, isTrue a X.env whole = (do let v ← whole; standAt a.pos; holding [v] (truthy v))) : DT X F a (dTruth f) :=
  ⟨PT.weak (pt_truth ha.pe he) fun σ H Q ⟨Hs, E, T, S, e1, q⟩ => by
  refine ⟨Hs, E, T, S, e1, q.bind fun x o env' Hs1 H1 E1 ex1 m1 m2 p1 q1 => ?_⟩
  subst m2
  try simp only at q1
  cases qa : o.get (E1.map Prod.snd) with
  | none => rw [qa] at q1; exact q1.elim
  | some d =>
    rw [qa] at q1
    try simp only at q1
    cases qt : d.truth with
    | none => rw [qt] at q1; exact q1.elim
    | some b =>
      rw [qt] at q1
      exact ⟨b, truth_ok hK p1.1 (p1.2.rb p1.1 qa) qt, q1 b Hs1 H1 E1 (Ex.refl _) m1 rfl ⟨p1.1, rfl⟩⟩⟩
/-- a value that is a bool -/
def dBool (f : M Slot) : M Bool := M.bind f fun s e => match s with
  | .sh (.bl b) => .ok b e
  | _ => .stuck
theorem bool_of {Hs H : Hp} {L : List Ent} {v : V} {b : Bool} (S : F.St Hs H (L ++ [(some v, .sh (.bl b))])) : v = .bl b := by
  obtain ⟨v', z, r⟩ := S.sh (i := L.length) (d := .bl b) (by rw [List.getElem?_append_right (Nat.le_refl _), Nat.sub_self]; rfl)
  cases z
  exact r
theorem end_bool {σ : L2.St} {Hs : Hp} {T : List Ent} {r : Out Slot} {Q : Bool → Hp → Prop} (q : F.End σ Hs T (F.pT T) (r.bind fun s e => match s with
  | .sh (.bl b) => .ok b e
  | _ => .stuck) Q) : F.End σ Hs T (F.pD T) r (fun x H' => ∃ k, x = .bl k ∧ Q k H') := by
  refine q.bind fun x s env' Hs1 H1 E1 ex1 m1 m2 p1 q1 => ?_
  subst m2
  cases s with
  | sh d =>
    cases d with
    | bl b =>
      have p1 : F.St Hs1 H1 ((E1 ++ T) ++ [(some x, .sh (.bl b))]) := p1
      exact ⟨b, bool_of p1, q1 b Hs1 H1 E1 (Ex.refl _) m1 rfl ⟨p1.pop, rfl⟩⟩
    | _ => exact q1.elim
  | _ => exact q1.elim
theorem dt_cmp {op : CmpOp} {r : R2} {g : D → D → Option Slot} {a b : Expr} {fa fb : M Opd} {pos : Pos} (ho : OpR X (compareOp op) r) (hg : Op2 F r g) (ha : DO X F a fa) (hb : DO X F b fb) (hm : behindInMarks op b = false) : DT X F (.Compare a [op] [b] pos) (dBool (dOp2 g fa fb)) :=
  ⟨PT.weak (pt_cmpR ho ha.pe hb.pe hm) fun σ H Q ⟨Hs, E, T, S, e1, q⟩ => op2_weak hg (fun _ _ _ h => h) (fun _ _ _ h => h) σ H _ ⟨Hs, E, T, S, e1, end_bool q⟩⟩
def dNot (f : M Bool) : M Bool := M.bind f fun b e => .ok (!b) e
theorem dt_not {a : Expr} {f : M Bool} {pos : Pos} (h : DT X F a f) : DT X F (.UnaryOp .Not a pos) (dNot f) := ⟨PT.weak (pt_not h.pt) fun σ H Q ⟨Hs, E, T, S, e1, q⟩ =>
  ⟨Hs, E, T, S, e1, q.bind fun x b env' Hs1 H1 E1 ex1 m1 m2 p1 q1 => by
    obtain ⟨p1, rfl⟩ := p1
    subst m2
    exact q1 (!x) Hs1 H1 E1 (Ex.refl _) m1 rfl ⟨p1, rfl⟩⟩⟩
structure DW (X : Cx) (F : Frm) (e : Expr) (f : M Bool) : Prop where
  pw : PW X e (F.tM F.pT f)
theorem PW.weak {e : Expr} {t t' : TT} (h : PW X e t) (w : ∀ σ H Q, t' σ H Q → t σ H Q) : PW X e t' := ⟨fun wh pins s σ H Q I q => h.run wh pins s σ H Q I (w σ H Q q)⟩
theorem dt_w {e : Expr} {f : M Bool} (h : DW X F e f) : DT X F e f := ⟨h.pw.pt⟩
theorem dw_and1 {a : Expr} {f : M Bool} {pos : Pos} (h : DT X F a f) : DW X F (.BoolOp .And [a] pos) f := ⟨pw_and1 h.pt⟩
theorem dw_or1 {a : Expr} {f : M Bool} {pos : Pos} (h : DT X F a f) : DW X F (.BoolOp .Or [a] pos) f := ⟨pw_or1 h.pt⟩
def dAnd (f g : M Bool) : M Bool := M.bind f fun b e => match b with
  | true => g e
  | false => .ok false e
def dOr (f g : M Bool) : M Bool := M.bind f fun b e => match b with
  | true => .ok true e
  | false => g e
theorem dw_and {a b : Expr} {rest : List Expr} {f g : M Bool} {pos : Pos} (h : DT X F a f) (h2 : DW X F (.BoolOp .And (b :: rest) pos) g) : DW X F (.BoolOp .And (a :: b :: rest) pos) (dAnd f g) := ⟨PW.weak (pw_and h.pt h2.pw) fun σ H Q ⟨Hs, E, T, S, e1, q⟩ =>
  ⟨Hs, E, T, S, e1, q.bind fun x b env' Hs1 H1 E1 ex1 m1 m2 p1 q1 => by
    obtain ⟨p1, rfl⟩ := p1
    subst m2
    cases x with
    | true => exact iteT ⟨Hs1, E1, T, p1, m1, q1⟩
    | false => exact iteF (q1 false Hs1 H1 E1 (Ex.refl _) m1 rfl ⟨p1, rfl⟩)⟩⟩
theorem dw_or {a b : Expr} {rest : List Expr} {f g : M Bool} {pos : Pos} (h : DT X F a f) (h2 : DW X F (.BoolOp .Or (b :: rest) pos) g) : DW X F (.BoolOp .Or (a :: b :: rest) pos) (dOr f g) := ⟨PW.weak (pw_or h.pt h2.pw) fun σ H Q ⟨Hs, E, T, S, e1, q⟩ =>
  ⟨Hs, E, T, S, e1, q.bind fun x b env' Hs1 H1 E1 ex1 m1 m2 p1 q1 => by
    obtain ⟨p1, rfl⟩ := p1
    subst m2
    cases x with
    | false => exact iteF ⟨Hs1, E1, T, p1, m1, q1⟩
    | true => exact iteT (q1 true Hs1 H1 E1 (Ex.refl _) m1 rfl ⟨p1, rfl⟩)⟩⟩
/-! ### the same as values -/
def dAndV (f g : M Slot) : M Slot := M.bind f fun s e => match s with
  | .sh (.bl true) => g e
  | .sh (.bl false) => .ok (.sh (.bl false)) e
  | _ => .stuck
def dOrV (f g : M Slot) : M Slot := M.bind f fun s e => match s with
  | .sh (.bl false) => g e
  | .sh (.bl true) => .ok (.sh (.bl true)) e
  | _ => .stuck
def dNotV (f : M Slot) : M Slot := M.bind f fun s e => match s with
  | .sh (.bl b) => .ok (.sh (.bl (!b))) e
  | _ => .stuck
theorem de_one {op} {a : Expr} {f : M Slot} {pos : Pos} (h : DE X F a f) : DE X F (.BoolOp op [a] pos) f := ⟨pe_one h.pe⟩
theorem de_and {a b : Expr} {rest : List Expr} {f g : M Slot} {pos : Pos} (h : DE X F a f) (h2 : DE X F (.BoolOp .And (b :: rest) pos) g) : DE X F (.BoolOp .And (a :: b :: rest) pos) (dAndV f g) := ⟨PE.weak (pe_and h.pe h2.pe) fun σ H Q ⟨Hs, E, T, S, e1, q⟩ =>
  ⟨Hs, E, T, S, e1, q.bind fun x s env' Hs1 H1 E1 ex1 m1 m2 p1 q1 => by
    subst m2
    have p1 : F.St Hs1 H1 ((E1 ++ T) ++ [(some x, s)]) := p1
    cases s with
    | sh d =>
      cases d with
      | bl b =>
        refine ⟨b, bool_of p1, ?_⟩
        cases b with
        | true => exact iteT ⟨Hs1, E1, T, p1.pop, m1, q1⟩
        | false => exact iteF (q1 _ Hs1 H1 E1 (Ex.refl _) m1 rfl (p1.pop.pushSh rfl))
      | _ => exact q1.elim
    | _ => exact q1.elim⟩⟩
theorem de_or {a b : Expr} {rest : List Expr} {f g : M Slot} {pos : Pos} (h : DE X F a f) (h2 : DE X F (.BoolOp .Or (b :: rest) pos) g) : DE X F (.BoolOp .Or (a :: b :: rest) pos) (dOrV f g) := ⟨PE.weak (pe_or h.pe h2.pe) fun σ H Q ⟨Hs, E, T, S, e1, q⟩ =>
  ⟨Hs, E, T, S, e1, q.bind fun x s env' Hs1 H1 E1 ex1 m1 m2 p1 q1 => by
    subst m2
    have p1 : F.St Hs1 H1 ((E1 ++ T) ++ [(some x, s)]) := p1
    cases s with
    | sh d =>
      cases d with
      | bl b =>
        refine ⟨b, bool_of p1, ?_⟩
        cases b with
        | false => exact iteF ⟨Hs1, E1, T, p1.pop, m1, q1⟩
        | true => exact iteT (q1 _ Hs1 H1 E1 (Ex.refl _) m1 rfl (p1.pop.pushSh rfl))
      | _ => exact q1.elim
    | _ => exact q1.elim⟩⟩
theorem de_not {a : Expr} {f : M Slot} {pos : Pos} (h : DE X F a f) : DE X F (.UnaryOp .Not a pos) (dNotV f) := ⟨PE.weak (pe_not h.pe) fun σ H Q ⟨Hs, E, T, S, e1, q⟩ =>
  ⟨Hs, E, T, S, e1, q.bind fun x s env' Hs1 H1 E1 ex1 m1 m2 p1 q1 => by
    subst m2
    have p1 : F.St Hs1 H1 ((E1 ++ T) ++ [(some x, s)]) := p1
    cases s with
    | sh d =>
      cases d with
      | bl b => exact ⟨b, bool_of p1, q1 _ Hs1 H1 E1 (Ex.refl _) m1 rfl (p1.pop.pushSh rfl)⟩
      | _ => exact q1.elim
    | _ => exact q1.elim⟩⟩
def dIf {α : Type} (c : M Bool) (f g : M α) : M α := M.bind c fun b e => match b with
  | true => f e
  | false => g e
theorem de_if {c a b : Expr} {fc : M Bool} {f g : M Slot} {pos : Pos} (hc : DT X F c fc) (ha : DE X F a f) (hb : DE X F b g) : DE X F (.IfExp c a b pos) (dIf fc f g) := ⟨PE.weak (pe_ifExp hc.pt ha.pe hb.pe) fun σ H Q ⟨Hs, E, T, S, e1, q⟩ =>
  ⟨Hs, E, T, S, e1, q.bind fun x b env' Hs1 H1 E1 ex1 m1 m2 p1 q1 => by
    obtain ⟨p1, rfl⟩ := p1
    subst m2
    cases x with
    | true => exact iteT ⟨Hs1, E1, T, p1, m1, q1⟩
    | false => exact iteF ⟨Hs1, E1, T, p1, m1, q1⟩⟩⟩
/-! ### arguments, displays -/
def dNil : M (List Opd) := fun e => .ok [] e
def dCons (f : M Opd) (g : M (List Opd)) : M (List Opd) := M.bind f fun o => M.bind g fun os e => .ok (o :: os) e
theorem OpdsR.later {G : Gx} {Hs Hs' : Hp} {E E' : List Ent} (e : Ex Hs Hs') (m : E.map Prod.fst = E'.map Prod.fst) : ∀ {vs : List V} {os : List Opd}, OpdsR G Hs E vs os → OpdsR G Hs' E' vs os
  | [], _, h => h
  | v :: vs, _, ⟨o, r, h1, h2, h3⟩ => ⟨o, r, h1, h2.later e m, OpdsR.later e m h3⟩
theorem da_nil : DA X F [] dNil := ⟨PA.weak pa_nil fun σ H Q ⟨Hs, E, T, S, e1, q⟩ => q [] Hs H E (Ex.refl _) e1 rfl ⟨S, rfl⟩⟩
theorem da_cons {e : Expr} {es : List Expr} {f : M Opd} {g : M (List Opd)} (h : DO X F e f) (h2 : DA X F es g) (hs : starEach (e :: es) X.env = (false, eval e X.env) :: starEach es X.env := by rfl) : DA X F (e :: es) (dCons f g) := ⟨PA.weak (pa_cons h.pe h2.pa hs) fun σ H Q ⟨Hs, E, T, S, e1, q⟩ =>
  ⟨Hs, E, T, S, e1, q.bind fun x o env' Hs1 H1 E1 ex1 m1 m2 p1 q1 => by
    subst m2
    exact ⟨Hs1, E1, T, p1.1, m1, q1.bind fun xs os env' Hs2 H2 E2 ex2 n1 n2 p2 q2 => by
      subst n2
      exact q2 (x :: xs) Hs2 H2 E2 (Ex.refl _) n1 rfl ⟨p2.1, o, os, rfl, p1.2.later ex2 (m1.trans n1.symm), p2.2⟩⟩⟩⟩
def vals : List Opd → Option (List D)
  | [] => some []
  | .val d :: r => (vals r).map (d :: ·)
  | .at _ :: _ => none
theorem vals_rep {G : Gx} {Hs : Hp} {E : List Ent} : ∀ {vs : List V} {os : List Opd} {ds : List D}, OpdsR G Hs E vs os → vals os = some ds → RepL G Hs ds vs
  | [], os, ds, h, e => by rw [show os = [] from h] at e; cases e; exact rfl
  | v :: vs, _, ds, ⟨o, r, h1, h2, h3⟩, e => by
    subst h1
    cases o with
    | val d =>
      have e : (vals r).map (d :: ·) = some ds := e
      cases q : vals r with
      | none => rw [q] at e; cases e
      | some ds' => rw [q] at e; cases e; exact ⟨v, vs, rfl, h2, vals_rep h3 q⟩
    | «at» i => cases e
def dTup (f : M (List Opd)) : M Slot := M.bind f fun os e => match vals os with
  | some ds => if lenOk ds.length = true then .ok (.sh (.tup ds)) e else .stuck
  | none => .stuck
def dLst (f : M (List Opd)) : M Slot := M.bind f fun os e => match vals os with
  | some ds => if lenOk ds.length = true then .ok (.ol ds) e else .stuck
  | none => .stuck
theorem de_tup {es : List Expr} {f : M (List Opd)} {x1} {pos : Pos} (h : DA X F es f) : DE X F (.Tuple es x1 pos) (dTup f) := ⟨PE.weak (pe_tup h.pa) fun σ H Q ⟨Hs, E, T, S, e1, q⟩ =>
  ⟨Hs, E, T, S, e1, q.bind fun vs os env' Hs1 H1 E1 ex1 m1 m2 p1 q1 => by
    subst m2
    try simp only at q1
    cases qv : vals os with
    | none => rw [qv] at q1; exact q1.elim
    | some ds =>
      rw [qv] at q1
      try simp only at q1
      have r := vals_rep p1.2 qv
      split at q1
      · rename_i ho
        exact ⟨by rw [← r.length]; exact lenOk_le ho, fin_tup p1.1 r fun v Hs' H' ex S' => q1 v Hs' H' E1 ex m1 rfl S'⟩
      · exact q1.elim⟩⟩
theorem de_lst {es : List Expr} {f : M (List Opd)} {pos : Pos} (h : DA X F es f) : DE X F (.List es pos) (dLst f) := ⟨PE.weak (pe_lst h.pa) fun σ H Q ⟨Hs, E, T, S, e1, q⟩ =>
  ⟨Hs, E, T, S, e1, q.bind fun vs os env' Hs1 H1 E1 ex1 m1 m2 p1 q1 => by
    subst m2
    try simp only at q1
    cases qv : vals os with
    | none => rw [qv] at q1; exact q1.elim
    | some ds =>
      rw [qv] at q1
      try simp only at q1
      have r := vals_rep p1.2 qv
      split at q1
      · rename_i ho
        exact ⟨by rw [← r.length]; exact lenOk_le ho, fin_ol p1.1 r fun v Hs' H' ex S' => q1 v Hs' H' E1 ex m1 rfl S'⟩
      · exact q1.elim⟩⟩
/-! ### chains of two comparisons -/
def dChain (g g' : D → D → Option Slot) (fa fb fc : M Opd) : M Slot := M.bind fa fun oa => M.bind fb fun ob e => match oa.get e, ob.get e with
  | some x, some y => (match g x y with
    | some (.sh (.bl true)) => M.bind fc (fun oc e => match ob.get e, oc.get e with
      | some y, some z => (match g' y z with
        | some s => .ok s e
        | none => .stuck)
      | _, _ => .stuck) e
    | some (.sh (.bl false)) => .ok (.sh (.bl false)) e
    | _ => .stuck)
  | _, _ => .stuck
theorem chain_weak {r r' : R2} {g g' : D → D → Option Slot} (hg : Op2 F r g) (hg' : Op2 F r' g') {fa fb fc : M Opd} : ∀ σ H Q, F.tM F.pD (dChain g g' fa fb fc) σ H Q → tChain r r' (F.tM F.pO fa) (F.tM F.pO fb) (F.tM F.pO fc) σ H Q := fun σ H Q ⟨Hs, E, T, S, e1, q⟩ => by
  refine ⟨Hs, E, T, S, e1, q.bind fun x oa env' Hs1 H1 E1 ex1 m1 m2 p1 q1 => ?_⟩
  subst m2
  refine ⟨Hs1, E1, T, p1.1, m1, q1.bind fun y ob env' Hs2 H2 E2 ex2 n1 n2 p2 q2 => ?_⟩
  subst n2
  have ra := p1.2.later ex2 (m1.trans n1.symm)
  try simp only at q2
  cases qa : oa.get (E2.map Prod.snd) with
  | none => rw [qa] at q2; exact q2.elim
  | some dx =>
    cases qb : ob.get (E2.map Prod.snd) with
    | none => rw [qa, qb] at q2; exact q2.elim
    | some dy =>
      rw [qa, qb] at q2
      try simp only at q2
      cases qg : g dx dy with
      | none => rw [qg] at q2; exact q2.elim
      | some s =>
        rw [qg] at q2
        refine hg Hs2 H2 (E2 ++ T) x y dx dy s _ p2.1 (ra.rb p2.1 qa) (p2.2.rb p2.1 qb) qg fun v Hs3 H3 ex3 S3 => ?_
        cases s with
        | sh d =>
          cases d with
          | bl b =>
            refine ⟨b, bool_of S3, ?_⟩
            cases b with
            | false => exact iteF (q2 (.bl false) Hs3 H3 E2 ex3 n1 rfl (S3.pop.pushSh rfl))
            | true =>
              have q2 := q2.later ex3
              refine iteT ⟨Hs3, E2, T, S3.pop, n1, q2.bind fun z oc env' Hs4 H4 E4 ex4 k1 k2 p4 q4 => ?_⟩
              subst k2
              exact end_op2 hg' p4.1 k1 ((p2.2.later ex3 rfl).later ex4 (n1.trans k1.symm)) p4.2 q4
          | _ => exact q2.elim
        | _ => exact q2.elim
theorem de_chain {op op' : CmpOp} {r r' : R2} {g g' : D → D → Option Slot} {a b c : Expr} {fa fb fc : M Opd} {pos : Pos} (ho : OpR X (compareOp op) r) (ho' : OpR X (compareOp op') r') (hg : Op2 F r g) (hg' : Op2 F r' g') (ha : DO X F a fa) (hb : DO X F b fb) (hc : DO X F c fc)
    (hm : lastMarks [op, op'] [b, c] = false := by with_unfolding_all rfl) : DE X F (.Compare a [op, op'] [b, c] pos) (dChain g g' fa fb fc) := ⟨PE.weak (pe_chain ho ho' ha.pe hb.pe hc.pe hm) (chain_weak hg hg')⟩
theorem dt_chain {op op' : CmpOp} {r r' : R2} {g g' : D → D → Option Slot} {a b c : Expr} {fa fb fc : M Opd} {pos : Pos} (ho : OpR X (compareOp op) r) (ho' : OpR X (compareOp op') r') (hg : Op2 F r g) (hg' : Op2 F r' g') (ha : DO X F a fa) (hb : DO X F b fb) (hc : DO X F c fc)
    (hm : lastMarks [op, op'] [b, c] = false := by with_unfolding_all rfl) : DT X F (.Compare a [op, op'] [b, c] pos) (dBool (dChain g g' fa fb fc)) := ⟨PT.weak (pt_chain ho ho' ha.pe hb.pe hc.pe hm) fun σ H Q ⟨Hs, E, T, S, e1, q⟩ => chain_weak hg hg' σ H _ ⟨Hs, E, T, S, e1, end_bool q⟩⟩
end
end Dl
set_option Elab.async false
set_option linter.all false
set_option maxRecDepth 100000
set_option maxHeartbeats 4000000
namespace Dl
open PySem PySem.Spec PyProof.Rows L2
inductive Fl where
  | nx (e : Env)
  | rt (s : Slot) (e : Env)
  | bk (e : Env)
  | ct (e : Env)
  | exc (x : Exn) (e : Env)
  | stuck
abbrev Sm := Env → Fl
def Frm.EndS (F : Frm) (Hs : Hp) (r : Fl) (D : Ends) : Prop := match r with
  | .nx e => ∀ (Hs' H' : Hp) (E' : List Ent), Ex Hs Hs' → E'.map Prod.snd = e → F.St Hs' H' E' → D.nx (E'.map Prod.fst) H'
  | .rt s e => ∀ (v : V) (Hs' H' : Hp) (E' : List Ent), Ex Hs Hs' → E'.map Prod.snd = e → F.St Hs' H' (E' ++ [(some v, s)]) → D.rt v H'
  | .bk e => ∀ (Hs' H' : Hp) (E' : List Ent), Ex Hs Hs' → E'.map Prod.snd = e → F.St Hs' H' E' → D.bk (E'.map Prod.fst) H'
  | .ct e => ∀ (Hs' H' : Hp) (E' : List Ent), Ex Hs Hs' → E'.map Prod.snd = e → F.St Hs' H' E' → D.ct (E'.map Prod.fst) H'
  | .exc x e => ∀ (cls : Value) (d : Option Addr) (Hs' H' : Hp) (E' : List Ent), Ex Hs Hs' → E'.map Prod.snd = e → F.St Hs' H' E' → ExcAt F.G Hs' H' x cls d → F.W cls d (E'.map Prod.fst) H'
  | .stuck => False
def Frm.tS (F : Frm) (f : Sm) : TS := fun D σ H => ∃ (Hs : Hp) (E : List Ent), F.St Hs H E ∧ E.map Prod.fst = σ ∧ F.EndS Hs (f (E.map Prod.snd)) D
structure DS (X : Cx) (F : Frm) (st : Stmt) (f : Sm) : Prop where
  ps : PS X st (F.tS f)
structure DSs (X : Cx) (F : Frm) (st : List Stmt) (f : Sm) : Prop where
  pss : PSs X st (F.tS f)
theorem PSs.weak {X : Cx} {e : List Stmt} {t t' : TS} (h : PSs X e t) (w : ∀ D σ H, t' D σ H → t D σ H) : PSs X e t' := ⟨fun pins s σ H D I q => h.run pins s σ H D I (w D σ H q)⟩
theorem Frm.EndS.later {F : Frm} {Hs Hs' : Hp} {r : Fl} {D : Ends} (h : F.EndS Hs r D) (e : Ex Hs Hs') : F.EndS Hs' r D := by
  cases r with
  | nx _ => exact fun a b c e2 => h a b c (e.trans e2)
  | rt _ _ => exact fun v a b c e2 => h v a b c (e.trans e2)
  | bk _ => exact fun a b c e2 => h a b c (e.trans e2)
  | ct _ => exact fun a b c e2 => h a b c (e.trans e2)
  | exc _ _ => exact fun cl d a b c e2 => h cl d a b c (e.trans e2)
  | stuck => exact h
def Sm.seq (f g : Sm) : Sm := fun e => match f e with
  | .nx e => g e
  | r => r
def sNext : Sm := fun e => .nx e
/-- an expression, then -/
def Out.fl {α : Type} (r : Out α) (k : α → Sm) : Fl := match r with
  | .ok a e => k a e
  | .exc x e => .exc x e
  | .stuck => .stuck
section
variable {X : Cx} {F : Frm}
/-- an expression's reading at a statement -/
theorem EndS.bind {α β : Type} {r : Out α} {k : α → Sm} {Hs : Hp} {D : Ends} {σ : L2.St} {post : List Ent → β → α → Hp → Hp → List Ent → Prop} {R : β → Hp → Prop} (h : F.EndS Hs (r.fl k) D)
    (step : ∀ (b : β) (a : α) (env' : Env) (Hs' H' : Hp) (E' : List Ent), Ex Hs Hs' → E'.map Prod.fst = σ → E'.map Prod.snd = env' → post [] b a Hs' H' E' → F.EndS Hs' (k a env') D → R b H') : F.End σ Hs [] (post []) r R := by
  cases r with
  | ok a env' => exact fun b Hs' H' E' e m1 m2 p => step b a env' Hs' H' E' e m1 m2 p (Frm.EndS.later (show F.EndS Hs (k a env') D from h) e)
  | exc x env' =>
    intro cls d Hs' H' E' e m1 m2 S xx
    have h : F.EndS Hs (.exc x env') D := h
    have := h cls d Hs' H' E' e m2 (by simpa using S) xx
    rw [← m1]; exact this
  | stuck => exact h
theorem st_nil {Hs H : Hp} {E : List Ent} (S : F.St Hs H E) : F.St Hs H (E ++ []) := by rw [List.append_nil]; exact S
theorem nil_st {Hs H : Hp} {E : List Ent} (S : F.St Hs H (E ++ [])) : F.St Hs H E := by rw [List.append_nil] at S; exact S
theorem ss_nil : DSs X F [] sNext := ⟨PSs.weak pss_nil fun D σ H ⟨Hs, E, S, e1, q⟩ => by
  subst e1
  exact q Hs H E (Ex.refl _) rfl S⟩
theorem seq_end {Hs : Hp} {f g : Sm} {e : Env} {D : Ends} (h : F.EndS Hs (Sm.seq f g e) D) : F.EndS Hs (f e) { D with nx := F.tS g D } := by
  unfold Sm.seq at h
  cases q : f e with
  | nx e' =>
    rw [q] at h
    exact fun Hs' H' E' ex m S => ⟨Hs', E', S, rfl, by rw [m]; exact h.later ex⟩
  | rt s e' => rw [q] at h; exact h
  | bk e' => rw [q] at h; exact h
  | ct e' => rw [q] at h; exact h
  | exc x e' => rw [q] at h; exact h
  | stuck => rw [q] at h; exact h
theorem ss_cons {s : Stmt} {r : List Stmt} {f g : Sm} (h : DS X F s f) (h2 : DSs X F r g) : DSs X F (s :: r) (f.seq g) := ⟨PSs.weak (pss_cons h.ps h2.pss) fun D σ H ⟨Hs, E, S, e1, q⟩ => ⟨Hs, E, S, e1, seq_end q⟩⟩
theorem ss_one {s : Stmt} {f : Sm} (h : DS X F s f) : DSs X F [s] f := ⟨pss_one h.ps⟩
theorem s_pass {pos : Pos} : DS X F (.Pass pos) sNext := ⟨PS.weak ps_pass fun D σ H ⟨Hs, E, S, e1, q⟩ => by
  subst e1
  exact q Hs H E (Ex.refl _) rfl S⟩
theorem s_break {pos : Pos} : DS X F (.Break pos) (fun e => .bk e) := ⟨PS.weak ps_break fun D σ H ⟨Hs, E, S, e1, q⟩ => by
  subst e1
  exact q Hs H E (Ex.refl _) rfl S⟩
theorem s_cont {pos : Pos} : DS X F (.Continue pos) (fun e => .ct e) := ⟨PS.weak ps_continue fun D σ H ⟨Hs, E, S, e1, q⟩ => by
  subst e1
  exact q Hs H E (Ex.refl _) rfl S⟩
/-- what is never come to -/
theorem s_never {st : Stmt} : DS X F st (fun _ => .stuck) := ⟨PS.weak ps_never fun D σ H ⟨Hs, E, S, e1, q⟩ => q⟩
def sExpr (f : M Slot) : Sm := fun e => (f e).fl fun _ e => .nx e
theorem s_expr {e : Expr} {f : M Slot} {pos : Pos} (h : DE X F e f) (hs : swapsWith e none pos.line X.env = pure false := by rfl) : DS X F (.Expr e pos) (sExpr f) := ⟨PS.weak (ps_expr h.pe hs) fun D σ H ⟨Hs, E, S, e1, q⟩ => by
  refine ⟨Hs, E, [], st_nil S, e1, EndS.bind q fun v s env' Hs1 H1 E1 ex m1 m2 p q => ?_⟩
  have p : F.St Hs1 H1 ((E1 ++ []) ++ [(some v, s)]) := p
  rw [← m1]
  exact q Hs1 H1 E1 (Ex.refl _) m2 (nil_st p.pop)⟩
def sRet (f : M Slot) : Sm := fun e => (f e).fl fun s e => .rt s e
theorem s_ret {e : Expr} {f : M Slot} {pos : Pos} (h : DE X F e f) : DS X F (.Return (some e) pos) (sRet f) := ⟨PS.weak (ps_ret h.pe) fun D σ H ⟨Hs, E, S, e1, q⟩ => by
  refine ⟨Hs, E, [], st_nil S, e1, EndS.bind q fun v s env' Hs1 H1 E1 ex m1 m2 p q => ?_⟩
  have p : F.St Hs1 H1 ((E1 ++ []) ++ [(some v, s)]) := p
  rw [List.append_nil] at p
  exact q v Hs1 H1 E1 (Ex.refl _) m2 p⟩
/-- return x: what x holds goes along -/
def sRetN (i : Nat) : Sm := fun e => match e[i]? with
  | some .un => .stuck
  | some s => .rt s (e.set i .un)
  | none => .stuck
theorem StR.take {G : Gx} {B Hs0 Hs H : Hp} {L : List Ent} {i : Nat} {x : Option V} {s : Slot} (S : StR G B Hs0 Hs H L) (h : L[i]? = some (x, s)) : StR G B Hs0 Hs H (L.set i (x, .un) ++ [(x, s)]) := by
  obtain ⟨A, a1, a2, a3⟩ := S.own
  have il := (List.getElem?_eq_some_iff.mp h).1
  refine ⟨S.eB, S.eS, S.e0, S.nt, S.nw, S.tb, S.nb, fun j a => (j < L.length ∧ j ≠ i ∧ A j a) ∨ (j = L.length ∧ A i a), fun j k a h1 h2 => ?_, fun j a z => ?_, fun j y t q => ?_⟩
  · rcases h1 with ⟨l1, n1, h1⟩ | ⟨f1, h1⟩ <;> rcases h2 with ⟨l2, n2, h2⟩ | ⟨f2, h2⟩
    · exact a1 j k a h1 h2
    · exact absurd (a1 j i a h1 h2) n1
    · exact absurd (a1 k i a h2 h1) n2
    · omega
  · rcases z with ⟨_, _, z⟩ | ⟨_, z⟩
    · exact a2 j a z
    · exact a2 i a z
  · by_cases hj : j < L.length
    · rw [List.getElem?_append_left (by simpa using hj)] at q
      by_cases z : i = j
      · subst z
        rw [List.getElem?_set_self il] at q
        cases q; trivial
      · rw [List.getElem?_set_ne z] at q
        exact (a3 j y t q).mono (Ex.refl _) (fun _ _ _ k => k) fun _ k => .inl ⟨hj, Ne.symm z, k⟩
    · rw [List.getElem?_append_right (by simp; omega)] at q
      rw [List.length_set] at q
      have e : j - L.length = 0 := by
        by_cases z : j - L.length = 0
        · exact z
        · rw [List.getElem?_eq_none (by simp; omega)] at q; cases q
      rw [e] at q
      cases q
      exact (a3 i _ _ h).mono (Ex.refl _) (fun _ _ _ k => k) fun _ k => .inr ⟨by omega, k⟩
theorem s_retN {i : Nat} {x : Str} {p pos : Pos} (h : PE X (.Name x p) (tVar i)) : DS X F (.Return (some (.Name x p)) pos) (sRetN i) := ⟨PS.weak (ps_ret h) fun D σ H ⟨Hs, E, S, e1, q⟩ => by
  unfold sRetN at q
  cases hi : (E.map Prod.snd)[i]? with
  | none => rw [hi] at q; exact q.elim
  | some s =>
    rw [hi] at q
    obtain ⟨y, h1, h2⟩ := ent_of hi
    have hs : s ≠ .un := fun z => by subst z; exact q.elim
    have q2 : F.EndS Hs (.rt s ((E.map Prod.snd).set i .un)) D := by
      cases s <;> first | exact q | exact absurd rfl hs
    obtain ⟨v, rfl⟩ := S.some_of h1 hs
    refine ⟨v, by rw [← e1, h2], q2 v Hs H (E.set i (some v, .un)) (Ex.refl _) map_snd_set (S.take h1)⟩⟩
def sRet0 : Sm := fun e => .rt (.sh .non) e
theorem s_ret0 {pos : Pos} : DS X F (.Return none pos) sRet0 := ⟨PS.weak ps_retN fun D σ H ⟨Hs, E, S, e1, q⟩ => q .non Hs H E (Ex.refl _) rfl (S.pushSh rfl)⟩
def sIf (c : M Bool) (f g : Sm) : Sm := fun e => (c e).fl fun b => match b with
  | true => f
  | false => g
theorem s_if {c : Expr} {a b : List Stmt} {fc : M Bool} {f g : Sm} {pos : Pos} (hc : DT X F c fc) (ha : DSs X F a f) (hb : DSs X F b g) : DS X F (.If c a b pos) (sIf fc f g) := ⟨PS.weak (ps_if hc.pt ha.pss hb.pss) fun D σ H ⟨Hs, E, S, e1, q⟩ => by
  refine ⟨Hs, E, [], st_nil S, e1, EndS.bind q fun v b env' Hs1 H1 E1 ex m1 m2 p q => ?_⟩
  obtain ⟨p, rfl⟩ := p
  subst m2
  cases v with
  | true => exact iteT ⟨Hs1, E1, nil_st p, m1, q⟩
  | false => exact iteF ⟨Hs1, E1, nil_st p, m1, q⟩⟩
/-! ### targets: what a value given to a target makes of the slots (shared values alone); ws: the slots that are written -/
abbrev Tg := D → Env → Option Env
def Off (ws : List Nat) (a b : L2.St) : Prop := a.length = b.length ∧ ∀ j, j ∉ ws → a[j]? = b[j]?
theorem Off.refl (ws : List Nat) (a : L2.St) : Off ws a a := ⟨rfl, fun _ _ => rfl⟩
theorem Off.trans {ws ws' : List Nat} {a b c : L2.St} (h : Off ws a b) (h' : Off ws' b c) : Off (ws ++ ws') a c :=
  ⟨h.1.trans h'.1, fun j hj => (h.2 j fun z => hj (List.mem_append_left _ z)).trans (h'.2 j fun z => hj (List.mem_append_right _ z))⟩
def Frm.tG (F : Frm) (g : Tg) (ws : List Nat) : TG := fun v σ H Q => ∃ (Hs : Hp) (E T : List Ent) (d : D) (env' : Env), F.St Hs H (E ++ T) ∧ E.map Prod.fst = σ ∧ Rep F.G Hs d v ∧ g d (E.map Prod.snd) = some env' ∧
  ∀ E', E'.map Prod.snd = env' → F.St Hs H (E' ++ T) → Off ws (E'.map Prod.fst) σ → Q (E'.map Prod.fst) H
structure DG (X : Cx) (F : Frm) (tg : Expr) (g : Tg) (ws : List Nat) : Prop where
  pg : PG X tg (F.tG g ws)
theorem PG.weak {e : Expr} {t t' : TG} (h : PG X e t) (w : ∀ v σ H Q, t' v σ H Q → t v σ H Q) : PG X e t' := ⟨fun pins s σ H v u Q I r q => h.run pins s σ H v u Q I r (w v σ H Q q)⟩
def gSet (i : Nat) : Tg := fun d e => if i < e.length then some (e.set i (.sh d)) else none
theorem map_fst_set' {E : List Ent} {i : Nat} {x : Option V} {s : Slot} : (E.set i (x, s)).map Prod.fst = (E.map Prod.fst).set i x := by rw [List.map_set]
theorem st_set {Hs H : Hp} {E T : List Ent} {i : Nat} {v : V} {d : D} (S : F.St Hs H (E ++ T)) (hi : i < E.length) (r : Rep F.G Hs d v) : F.St Hs H (E.set i (some v, .sh d) ++ T) := by
  have S2 := StR.move (i := i) (S.pushSh r) (by rw [List.length_append]; omega)
  rw [app_set hi] at S2
  exact S2
theorem off_set {a : L2.St} {i : Nat} {x : Option V} : Off [i] (a.set i x) a := ⟨List.length_set, fun j hj => List.getElem?_set_ne fun z => hj (by simp [z])⟩
theorem g_name {i : Nat} {x : Str} {pos : Pos} (h : PG X (.Name x pos) (gName i)) : DG X F (.Name x pos) (gSet i) [i] := ⟨PG.weak h fun v σ H Q ⟨Hs, E, T, d, env', S, e1, r, hg, q⟩ => by
  unfold gSet at hg
  split at hg
  · rename_i hi
    rw [List.length_map] at hi
    cases hg
    have := q (E.set i (some v, .sh d)) map_snd_set (st_set S hi r) (by rw [map_fst_set', e1]; exact off_set)
    rw [map_fst_set', e1] at this
    exact this
  · cases hg⟩
def gsNil : List D → Env → Option Env := fun ds e => match ds with
  | [] => some e
  | _ => none
def gsCons (g : Tg) (k : List D → Env → Option Env) : List D → Env → Option Env := fun ds e => match ds with
  | [] => none
  | d :: r => match g d e with
    | some e' => k r e'
    | none => none
def Frm.tGs (F : Frm) (g : List D → Env → Option Env) (ws : List Nat) : TGs := fun vs σ H Q => ∃ (Hs : Hp) (E T : List Ent) (ds : List D) (env' : Env), F.St Hs H (E ++ T) ∧ E.map Prod.fst = σ ∧ RepL F.G Hs ds vs ∧ g ds (E.map Prod.snd) = some env' ∧
  ∀ E', E'.map Prod.snd = env' → F.St Hs H (E' ++ T) → Off ws (E'.map Prod.fst) σ → Q (E'.map Prod.fst) H
structure DGs (X : Cx) (F : Frm) (tgs : List Expr) (g : List D → Env → Option Env) (ws : List Nat) : Prop where
  pgs : PGs X tgs (F.tGs g ws)
theorem PGs.weak {e : List Expr} {t t' : TGs} (h : PGs X e t) (w : ∀ v σ H Q, t' v σ H Q → t v σ H Q) : PGs X e t' := ⟨fun pins s σ H v u Q I r q => h.run pins s σ H v u Q I r (w v σ H Q q)⟩
theorem gs_nil : DGs X F [] gsNil [] := ⟨PGs.weak pgs_nil fun vs σ H Q ⟨Hs, E, T, ds, env', S, e1, r, hg, q⟩ => by
  cases ds with
  | nil =>
    cases hg
    have := q E rfl S (by rw [e1]; exact Off.refl _ _)
    rw [e1] at this
    exact ⟨r, this⟩
  | cons d ds => cases hg⟩
theorem gs_cons {e : Expr} {es : List Expr} {g : Tg} {k : List D → Env → Option Env} {ws ws' : List Nat} (h : DG X F e g ws) (h2 : DGs X F es k ws') (hs : (assignEach (e :: es) X.env).map (·.2) = assign e X.env :: (assignEach es X.env).map (·.2) := by rfl) : DGs X F (e :: es) (gsCons g k) (ws' ++ ws) :=
  ⟨PGs.weak (pgs_cons h.pg h2.pgs hs) fun vs σ H Q ⟨Hs, E, T, ds, env', S, e1, r, hg, q⟩ => by
  cases ds with
  | nil => cases hg
  | cons d ds =>
    obtain ⟨v, vr, rfl, r1, r2⟩ := r
    refine ⟨v, vr, rfl, ?_⟩
    have hg : (match g d (E.map Prod.snd) with
      | some e' => k ds e'
      | none => none) = some env' := hg
    cases q1 : g d (E.map Prod.snd) with
    | none => rw [q1] at hg; cases hg
    | some e' =>
      rw [q1] at hg
      exact ⟨Hs, E, T, d, e', S, e1, r1, q1, fun E1 m1 S1 o1 => ⟨Hs, E1, T, ds, env', S1, rfl, r2, by rw [m1]; exact hg, fun E2 m2 S2 o2 => q E2 m2 S2 (o2.trans o1)⟩⟩⟩
def gTupD (n : Nat) (k : List D → Env → Option Env) : Tg := fun d e => match d with
  | .tup ds => if ds.length = n then k ds e else none
  | .tz ds => if ds.length = n then k ds e else none
  | _ => none
theorem g_tup {es : List Expr} {kk : Nat} {pos : Pos} {n : Nat} {k : List D → Env → Option Env} {ws : List Nat} (hc : X.calm = true) (h : DGs X F es k ws) (hn : (assignEach es X.env).length = n := by rfl) (hst : (assignEach es X.env).findIdx? (·.1) = none := by rfl) :
    DG X F (.Tuple es kk pos) (gTupD n k) ws := ⟨PG.weak (pg_tup hc h.pgs hn hst) fun v σ H Q ⟨Hs, E, T, d, env', S, e1, r, hg, q⟩ => by
  cases d with
  | tup ds =>
    have hg : (if ds.length = n then k ds (E.map Prod.snd) else none) = some env' := hg
    split at hg
    · rename_i hl
      obtain ⟨a, vs, rfl, h1, h2⟩ := r
      exact ⟨a, vs, rfl, SqT.of (S.eS.get h1), by rw [← h2.length]; exact hl, Hs, E, T, ds, env', S, e1, h2, hg, q⟩
    · cases hg
  | tz ds =>
    have hg : (if ds.length = n then k ds (E.map Prod.snd) else none) = some env' := hg
    split at hg
    · rename_i hl
      obtain ⟨a, vs, rfl, h1, h2⟩ := r
      exact ⟨a, vs, rfl, tz_sq (tz_ex S.eS h1), by rw [← h2.length]; exact hl, Hs, E, T, ds, env', S, e1, h2, hg, q⟩
    · cases hg
  | _ => cases hg⟩
/-! ### assignments -/
def sPut (i : Nat) (s : Slot) : Sm := fun e => match s with
  | .un => .stuck
  | s => if i < e.length then .nx (e.set i s) else .stuck
def sSet (i : Nat) (f : M Slot) : Sm := fun e => (f e).fl fun s => sPut i s
theorem sSet_end {Hs1 H1 : Hp} {E1 : List Ent} {i : Nat} {v : V} {s : Slot} {D : Ends} {σ : L2.St} (p : F.St Hs1 H1 (E1 ++ [] ++ [(some v, s)])) (m1 : E1.map Prod.fst = σ) (q : F.EndS Hs1 (sPut i s (E1.map Prod.snd)) D) : D.nx (σ.set i (some v)) H1 := by
  rw [List.append_nil] at p
  have hs : s ≠ .un := fun z => by subst z; exact q.elim
  have q2 : F.EndS Hs1 (if i < (E1.map Prod.snd).length then .nx ((E1.map Prod.snd).set i s) else .stuck) D := by
    cases s <;> first | exact q | exact absurd rfl hs
  split at q2
  · rename_i hi
    rw [List.length_map] at hi
    have := q2 Hs1 H1 (E1.set i (some v, s)) (Ex.refl _) map_snd_set (p.move hi)
    rw [map_fst_set', m1] at this
    exact this
  · exact q2.elim
theorem s_set {i : Nat} {x : Str} {e : Expr} {f : M Slot} {pos pos' : Pos} (hN : X.N.Nodup) (hi : X.N[i]? = some x) (hx : Loc X.env.scope x) (he : DE X F e f) (hs : swapsWith e (some (.Name x pos')) pos.line X.env = pure false := by rfl) (hf : X.fn x = true ∨ X.env.scope.names.lookup x = some .local := by first | exact .inl rfl | exact .inr rfl | assumption) :
    DS X F (.Assign [.Name x pos'] e pos) (sSet i f) := ⟨PS.weak (ps_set hN hi hx he.pe hs hf) fun D σ H ⟨Hs, E, S, e1, q⟩ => by
  refine ⟨Hs, E, [], st_nil S, e1, EndS.bind q fun v s env' Hs1 H1 E1 ex m1 m2 p q => ?_⟩
  subst m2
  exact sSet_end p m1 q⟩
/-- a target of any form, a value that is shared -/
def sTo (g : Tg) (f : M Opd) : Sm := fun e => (f e).fl fun o e => match o with
  | .val d => (match g d e with
    | some e => .nx e
    | none => .stuck)
  | _ => .stuck
theorem s_to {tg e : Expr} {g : Tg} {ws : List Nat} {f : M Opd} {pos : Pos} (he : DO X F e f) (hg : DG X F tg g ws) (hs : swapsWithSole [tg] e pos.line X.env = pure false := by rfl) (hw : swappedStores [tg] e X.env = pure none := by rfl)
    (h1 : (assignEach [tg] X.env).map (·.2) = [assign tg X.env] := by rfl) : DS X F (.Assign [tg] e pos) (sTo g f) := ⟨PS.weak (ps_asg he.pe hg.pg hs hw h1) fun D σ H ⟨Hs, E, S, e1, q⟩ => by
  refine ⟨Hs, E, [], st_nil S, e1, EndS.bind q fun v o env' Hs1 H1 E1 ex m1 m2 p q => ?_⟩
  subst m2
  cases o with
  | «at» i => exact q.elim
  | val d =>
    try simp only at q
    cases qg : g d (E1.map Prod.snd) with
    | none => rw [qg] at q; exact q.elim
    | some e' =>
      rw [qg] at q
      exact ⟨Hs1, E1, [], d, e', p.1, m1, p.2, qg, fun E' m S' _ => q Hs1 H1 E' (Ex.refl _) m (nil_st S')⟩⟩
/-- name op= e, of ints and texts -/
def sAug (i : Nat) (g : D → D → Option Slot) (f : M Opd) : Sm := fun e => match e[i]? with
  | some (.sh x) => (f e).fl fun o e => match o.get e with
    | some y => (match g x y with
      | some (.sh z) => if i < e.length then .nx (e.set i (.sh z)) else .stuck
      | _ => .stuck)
    | none => .stuck
  | _ => .stuck
theorem s_aug {i : Nat} {x : Str} {e : Expr} {f : M Opd} {op : Operator} {r : R2} {g : D → D → Option Slot} {pos pos' : Pos} (hN : X.N.Nodup) (hi : X.N[i]? = some x) (hx : Loc X.env.scope x) (ho : OpR X (inplaceOp op) r) (hg : Op2 F r g) (he : DO X F e f)
    (hf : X.fn x = true ∨ X.env.scope.names.lookup x = some .local := by first | exact .inl rfl | exact .inr rfl | assumption) : DS X F (.AugAssign (.Name x pos') op e pos) (sAug i g f) :=
  ⟨PS.weak (ps_aug (ti := r) hN hi hx he.pe (fun pins s σ H x y v u Q I rx ry h => ho pins s σ H x y v u Q I rx ry h) hf) fun D σ H ⟨Hs, E, S, e1, q⟩ => by
  unfold sAug at q
  cases hi' : (E.map Prod.snd)[i]? with
  | none => rw [hi'] at q; exact q.elim
  | some s =>
    rw [hi'] at q
    cases s with
    | sh dx =>
      obtain ⟨y, h1, h2⟩ := ent_of hi'
      obtain ⟨v, rfl, rv⟩ := S.sh h1
      refine ⟨v, by rw [← e1, h2], Hs, E, [], st_nil S, e1, EndS.bind q fun w o env' Hs1 H1 E1 ex m1 m2 p q => ?_⟩
      subst m2
      try simp only at q
      cases qo : o.get (E1.map Prod.snd) with
      | none => rw [qo] at q; exact q.elim
      | some dy =>
        rw [qo] at q
        try simp only at q
        cases qg : g dx dy with
        | none => rw [qg] at q; exact q.elim
        | some sz =>
          rw [qg] at q
          refine hg Hs1 H1 (E1 ++ []) v w dx dy sz _ p.1 ((rv.ex ex).rb p.1.eS) (p.2.rb p.1 qo) qg fun z Hs2 H2 ex2 S2 => ?_
          cases sz with
          | sh dz =>
            try simp only at q
            split at q
            · rename_i hi3
              rw [List.length_map] at hi3
              rw [List.append_nil] at S2
              have := q Hs2 H2 (E1.set i (some z, .sh dz)) ex2 map_snd_set (StR.move S2 hi3)
              rw [map_fst_set', m1] at this
              exact this
            · exact q.elim
          | _ => exact q.elim
    | _ => exact q.elim⟩
end
end Dl
set_option Elab.async false
set_option linter.all false
set_option maxRecDepth 100000
set_option maxHeartbeats 4000000
namespace Dl
open PySem PySem.Spec PyProof.Rows L2
/-! ### what is walked -/
structure ItR (G : Gx) (Hs : Hp) (J : It) (items : List D) : Prop where
  goes : ∀ i H, i < items.length → Ex Hs H → J.go i H
  stops : ∀ H, Ex Hs H → J.stop items.length H
  yields : ∀ i H x H', i < items.length → Ex Hs H → J.yld i H x H' → ∃ d, items[i]? = some d ∧
    ((H' = H ∧ Rep G Hs d x) ∨ ∃ T xs ds, x = .ref T ∧ H T = none ∧ H' = upd H T (.tup xs) ∧ d = .tup ds ∧ RepL G Hs ds xs)
theorem ItR.later {G : Gx} {Hs Hs' : Hp} {J : It} {items : List D} (h : ItR G Hs J items) (e : Ex Hs Hs') : ItR G Hs' J items :=
  ⟨fun i H hi x => h.goes i H hi (e.trans x), fun H x => h.stops H (e.trans x), fun i H x H' hi ex y => by
    obtain ⟨d, h1, h2⟩ := h.yields i H x H' hi (e.trans ex) y
    refine ⟨d, h1, ?_⟩
    rcases h2 with ⟨q1, q2⟩ | ⟨T, xs, ds, q1, q2, q3, q4, q5⟩
    · exact .inl ⟨q1, q2.ex e⟩
    · exact .inr ⟨T, xs, ds, q1, q2, q3, q4, q5.ex e⟩⟩
def Frm.pI (F : Frm) (T : List Ent) (J : It) (items : List D) (Hs H : Hp) (E : List Ent) : Prop := F.St Hs H (E ++ T) ∧ ItR F.G Hs J items
structure DI (X : Cx) (F : Frm) (tg iter : Expr) (f : M (List D)) : Prop where
  pi : PI X tg iter (F.tM F.pI f)
theorem PI.weak {X : Cx} {tg e : Expr} {t t' : TI} (h : PI X tg e t) (w : ∀ σ H R, t' σ H R → t σ H R) : PI X tg e t' := ⟨fun pins s σ H R I q => h.run pins s σ H R I (w σ H R q)⟩
theorem PI.or {X : Cx} {tg e : Expr} {t t' : TI} (h : PI X tg e t) (h' : PI X tg e t') : PI X tg e (fun σ H R => t σ H R ∨ t' σ H R) := ⟨fun pins s σ H R I q => by
  rcases q with q | q
  · exact h.run pins s σ H R I q
  · exact h'.run pins s σ H R I q⟩
section
variable {X : Cx} {F : Frm}
/-- the item of a turn comes -/
theorem item_comes {Hs H H' : Hp} {L : List Ent} {J : It} {items : List D} {i : Nat} {x : V} (S : F.St Hs H L) (h : ItR F.G Hs J items) (hi : i < items.length) (y : J.yld i H x H') :
    ∃ d Hs', items[i]? = some d ∧ Ex Hs Hs' ∧ F.St Hs' H' L ∧ Rep F.G Hs' d x := by
  obtain ⟨d, h1, h2⟩ := h.yields i H x H' hi S.eS y
  rcases h2 with ⟨rfl, r⟩ | ⟨T, xs, ds, rfl, hT, rfl, rfl, r⟩
  · exact ⟨d, Hs, h1, Ex.refl _, S, r⟩
  · have e : Ex Hs (upd Hs T (.tup xs)) := S.shEx hT
    exact ⟨_, _, h1, e, S.allocSh hT rfl, T, xs, rfl, upd_same, r.ex e⟩
def forL (g : Tg) (body : Sm) : List D → Sm
  | [] => fun e => .nx e
  | d :: r => fun e => match g d e with
    | none => .stuck
    | some e1 => match body e1 with
      | .nx e2 => forL g body r e2
      | .ct e2 => forL g body r e2
      | .bk e2 => .nx e2
      | o => o
def sFor (f : M (List D)) (g : Tg) (body : Sm) : Sm := fun e => (f e).fl fun items => forL g body items
theorem s_for {tg iter : Expr} {bd : List Stmt} {f : M (List D)} {g : Tg} {ws : List Nat} {body : Sm} {pos : Pos} (hp : PassesOwn (model X.prog X.w) X.A X.env X.xe) (hc : X.calm = true) (hi : DI X F tg iter f) (hg : DG X F tg g ws) (hb : DSs X F bd body)
    (hs : ∀ x, foldedSetIterable iter X.env x = pure x := by intro _; rfl) : DS X F (.For tg iter bd [] pos) (sFor f g body) := ⟨PS.weak (ps_for hp hc hi.pi hg.pg hb.pss hs) fun D σ H ⟨Hs, E, S, e1, q⟩ => by
  refine ⟨Hs, E, [], st_nil S, e1, EndS.bind q fun J items env' Hs1 H1 E1 ex m1 m2 p q => ?_⟩
  refine ⟨fun i m σ H => m = items.length - i ∧ i ≤ items.length ∧ ∃ Hs2 E2, F.St Hs2 H E2 ∧ E2.map Prod.fst = σ ∧ Ex Hs1 Hs2 ∧ F.EndS Hs2 (forL g body (items.drop i) (E2.map Prod.snd)) D,
    ⟨items.length, by simp, Nat.zero_le _, Hs1, E1, nil_st p.1, m1, Ex.refl _, by rw [m2]; exact q⟩, ?_⟩
  rintro i m σ2 H2 ⟨rfl, hi, Hs2, E2, S2, k1, ex2, q2⟩
  by_cases hlt : i < items.length
  · refine .inr ⟨p.2.goes i H2 hlt (ex2.trans S2.eS), fun σ' H' => ∃ Hs3 E3, F.St Hs3 H' E3 ∧ E3.map Prod.fst = σ' ∧ Ex Hs1 Hs3 ∧ F.EndS Hs3 (forL g body (items.drop (i + 1)) (E3.map Prod.snd)) D,
      fun σ' H' h => ⟨items.length - (i + 1), by omega, rfl, hlt, h⟩, fun x H' y => ?_⟩
    obtain ⟨d, Hs3, h1, ex3, S3, r⟩ := item_comes S2 (p.2.later ex2) hlt y
    have ed : items.drop i = d :: items.drop (i + 1) := by
      rw [List.drop_eq_getElem_cons hlt]
      rw [List.getElem?_eq_getElem hlt] at h1
      rw [Option.some.inj h1]
    rw [ed] at q2
    have q2 := q2.later ex3
    have q2 : F.EndS Hs3 (match g d (E2.map Prod.snd) with
      | none => .stuck
      | some e1 => match body e1 with
        | .nx e2 => forL g body (items.drop (i + 1)) e2
        | .ct e2 => forL g body (items.drop (i + 1)) e2
        | .bk e2 => .nx e2
        | o => o) D := q2
    cases qg : g d (E2.map Prod.snd) with
    | none => rw [qg] at q2; exact q2.elim
    | some e2 =>
      rw [qg] at q2
      refine ⟨Hs3, E2, [], d, e2, st_nil S3, k1, r, qg, fun E3 m3 S4 _ => ⟨Hs3, E3, nil_st S4, rfl, ?_⟩⟩
      rw [m3]
      try simp only at q2
      cases qb : body e2 with
      | nx e3 => rw [qb] at q2; exact fun Hs' H' E' ex m S => ⟨Hs', E', S, rfl, (ex2.trans ex3).trans ex, by rw [m]; exact q2.later ex⟩
      | ct e3 => rw [qb] at q2; exact fun Hs' H' E' ex m S => ⟨Hs', E', S, rfl, (ex2.trans ex3).trans ex, by rw [m]; exact q2.later ex⟩
      | bk e3 => rw [qb] at q2; exact q2
      | rt s e3 => rw [qb] at q2; exact q2
      | exc x e3 => rw [qb] at q2; exact q2
      | stuck => rw [qb] at q2; exact q2
  · have e : i = items.length := by omega
    subst e
    rw [List.drop_length] at q2
    refine .inl ⟨p.2.stops H2 (ex2.trans S2.eS), ?_⟩
    have := q2 Hs2 H2 E2 (Ex.refl _) rfl S2
    rw [k1] at this
    exact this⟩
def turnL (body k : Sm) : Bool → Sm
  | false => fun e => .nx e
  | true => fun e1 => match body e1 with
    | .nx e2 => k e2
    | .ct e2 => k e2
    | .bk e2 => .nx e2
    | o => o
def whileL (c : M Bool) (body : Sm) : Nat → Sm
  | 0 => fun _ => .stuck
  | n + 1 => fun e => (c e).fl (turnL body (whileL c body n))
theorem s_while {c : Expr} {bd : List Stmt} {fc : M Bool} {body : Sm} {pos : Pos} (n : Nat) (hp : PassesOwn (model X.prog X.w) X.A X.env X.xe) (hc : DT X F c fc) (hb : DSs X F bd body) : DS X F (.While c bd [] pos) (whileL fc body n) := ⟨PS.weak (ps_while hp hc.pt hb.pss) fun D σ H ⟨Hs, E, S, e1, q⟩ => by
  refine ⟨fun m σ H => ∃ Hs2 E2, F.St Hs2 H E2 ∧ E2.map Prod.fst = σ ∧ F.EndS Hs2 (whileL fc body m (E2.map Prod.snd)) D, ⟨n, Hs, E, S, e1, q⟩, ?_⟩
  rintro m σ2 H2 ⟨Hs2, E2, S2, k1, q2⟩
  cases m with
  | zero => exact q2.elim
  | succ m =>
    refine ⟨Hs2, E2, [], st_nil S2, k1, EndS.bind (k := turnL body (whileL fc body m)) q2 fun v b env' Hs3 H3 E3 ex m1 m2 p q3 => ?_⟩
    obtain ⟨p, rfl⟩ := p
    have p := nil_st p
    cases v with
    | false =>
      refine iteF ?_
      have := q3 Hs3 H3 E3 (Ex.refl _) m2 p
      rw [m1] at this
      exact this
    | true =>
      refine iteT ⟨fun σ' H' => ∃ Hs4 E4, F.St Hs4 H' E4 ∧ E4.map Prod.fst = σ' ∧ F.EndS Hs4 (whileL fc body m (E4.map Prod.snd)) D, fun σ' H' h => ⟨m, Nat.lt_succ_self m, h⟩, Hs3, E3, p, m1, ?_⟩
      rw [m2]
      have q3 : F.EndS Hs3 (match body env' with
        | .nx e2 => whileL fc body m e2
        | .ct e2 => whileL fc body m e2
        | .bk e2 => .nx e2
        | o => o) D := q3
      cases qb : body env' with
      | nx e3 => rw [qb] at q3; exact fun Hs' H' E' ex m S => ⟨Hs', E', S, rfl, by rw [m]; exact q3.later ex⟩
      | ct e3 => rw [qb] at q3; exact fun Hs' H' E' ex m S => ⟨Hs', E', S, rfl, by rw [m]; exact q3.later ex⟩
      | bk e3 => rw [qb] at q3; exact q3
      | rt s e3 => rw [qb] at q3; exact q3
      | exc x e3 => rw [qb] at q3; exact q3
      | stuck => rw [qb] at q3; exact q3⟩
end
end Dl
set_option Elab.async false
set_option linter.all false
set_option maxRecDepth 100000
set_option maxHeartbeats 4000000
namespace Dl
open PySem PySem.Spec PyProof.Rows L2
/-! enumerate and zip over lists and tuples alike (t: a tuple) -/
def SqG (K : PySem.W.Frag) (H : Hp) : Bool → Addr → List V → Prop
  | false, a, xs => SqL K H a xs
  | true, a, xs => SqT K H a xs
def ItSt (h : Heap) : Bool → Addr → Addr → Nat → Prop
  | false, it, a, i => h.IsListIter it a i
  | true, it, a, i => h.IsTupleIter it a i
def SrcAt (h : Heap) : Bool → Addr → Array Value → Prop
  | false, a, vs => h.IsList a vs
  | true, a, vs => h.IsTuple a vs
def itObj (t : Bool) (a : Addr) : Obj := { cls := .type (if t then "tuple_iterator" else "list_iterator"), data := .fields #[.ref a, .int 0 0] }
section
variable {X : Cx} {pins : List (Addr × Obj)} {σ : L2.St} {H : Hp} {s : Shared} {t : Bool} {a : Addr} {xs ys : List V}
theorem Inv.src (I : Inv X pins σ H s) (h : SqG X.K H t a xs) : ∃ its : List Value, Vals xs its ∧ SrcAt s.heap t a its.toArray := by
  cases t with
  | false => obtain ⟨its, r, p, _⟩ := I.list h; exact ⟨its, r, p.isList⟩
  | true => obtain ⟨its, r, p, _⟩ := I.tuple h; exact ⟨its, r, p⟩
theorem Inv.src_inj (I : Inv X pins σ H s) (h : SqG X.K H t a xs) (h' : SqG X.K H t a ys) : xs = ys := by
  cases t with
  | false => exact I.list_inj h h'
  | true => exact I.tuple_inj h h'
theorem SrcAt.at {h h' : Heap} {vs : Array Value} (x : SrcAt h t a vs) (k : ∀ o, h.get? a = some o → h'.get? a = some o) : SrcAt h' t a vs := by
  cases t with
  | false => exact Heap.IsList.at x k
  | true => exact Heap.IsTuple.at x k
theorem SrcAt.lt {h : Heap} {vs : Array Value} (x : SrcAt h t a vs) : a < h.objs.size := by
  cases t with
  | false => obtain ⟨o, e, _⟩ := x; exact Heap.lt_size e
  | true => obtain ⟨o, e, _⟩ := x; exact Heap.lt_size e
theorem ItSt.at {h h' : Heap} {it : Addr} {i : Nat} (x : ItSt h t it a i) (k : ∀ o, h.get? it = some o → h'.get? it = some o) : ItSt h' t it a i := by
  cases t with
  | false => exact Heap.IsListIter.at x k
  | true => exact Heap.IsTupleIter.at x k
theorem ItSt.obj {h : Heap} {it : Addr} {i : Nat} (x : ItSt h t it a i) : ∃ o, h.get? it = some o ∧ ∀ v, o.data ≠ .cell v := by
  cases t with
  | false => obtain ⟨o, e, _, d⟩ := x; exact ⟨o, e, fun v q => by rw [d] at q; cases q⟩
  | true => obtain ⟨o, e, _, d⟩ := x; exact ⟨o, e, fun v q => by rw [d] at q; cases q⟩
theorem ItSt.new {h : Heap} {it : Addr} (e : h.get? it = some (itObj t a)) : ItSt h t it a 0 := by
  cases t with
  | false => exact ⟨_, e, rfl, rfl⟩
  | true => exact ⟨_, e, rfl, rfl⟩
theorem drawsG {prog : Program} {w : World} {A : Around} (hh : A.handled = none) (it : Addr) (hne : a ≠ it) (items : Array Value) :
    Draws prog w A it [it, a] items.size (fun i v => items[i]? = some v) (fun i h => ItSt h t it a i ∧ SrcAt h t a items) := by
  cases t with
  | false => exact Draws.list hh it a hne items
  | true => exact Draws.tuple hh it a hne items
theorem beginsG (items : Array Value) : Begins (.ref a) (itObj t a) fun h => SrcAt h t a items := by
  cases t with
  | false => exact begins_list a items
  | true => exact begins_tuple a items
end
def IteG (K : PySem.W.Frag) (t : Bool) (a : Addr) : It :=
  ⟨fun i H => ∃ (xs : List V) (x : V), SqG K H t a xs ∧ xs[i]? = some x, fun i H v H' => ∃ T x, v = .ref T ∧ H T = none ∧ H' = upd H T (.tup [.int (i : Nat), x]) ∧ ∀ xs, SqG K H t a xs → xs[i]? = some x, fun i H => ∃ xs : List V, SqG K H t a xs ∧ xs.length = i⟩
theorem turn_enumG {P : Program} {w : World} {K : PySem.W.Frag} {elts : List Expr} {kk : Nat} {tpos : Pos} {t : Bool} (a e it : Addr) (hae : a ≠ e) (hai : a ≠ it) :
    Turn P w K (.Tuple elts kk tpos) (IteG K t a) [e, it] e (fun i h => (∃ old, IsEnum h e it ((i : Nat) : Int) old) ∧ ItSt h t it a i ∧ e ≠ it) where
  mem := by simp
  obj := fun i h st b hb => by
    obtain ⟨⟨old, he⟩, hi, _⟩ := st
    have e' : b = e ∨ b = it := by simpa using hb
    rcases e' with z | z
    · rw [z]; exact ⟨_, he, fun v q => nomatch q⟩
    · rw [z]; exact hi.obj
  keep := fun i h h' st k => let ⟨⟨old, he⟩, hi, hne⟩ := st; ⟨⟨old, k e (by simp) _ he⟩, hi.at fun o q => k it (by simp) o q, hne⟩
  item := by
    intro X hP hw hK hc i pins s σ H E I hf st hg
    subst hP hw hK
    obtain ⟨⟨old, he⟩, hit, hne⟩ := st
    obtain ⟨xs, x, hq, hx⟩ := hg
    obtain ⟨its, rv, p⟩ := Inv.src I hq
    obtain ⟨u, hu, ru⟩ := rv.get hx
    have hel : e < s.heap.objs.size := Heap.lt_size he
    have hil : it < s.heap.objs.size := by obtain ⟨_, q, _⟩ := hit.obj; exact Heap.lt_size q
    have hlt : i < its.toArray.size := by
      have := (List.getElem?_eq_some_iff.mp hu).1
      simpa using this
    refine wpAny_pyNext_enum_itemC (drawsG (t := t) (A := X.A.in1) (I.ok.hd hc) it hai its.toArray) he ⟨hit, p⟩ hlt hne (by simp [hne, Ne.symm hae]) fun x' h' tk hx' ho st' hT hsz hk => ?_
    have hx' : its.toArray[i]? = some x' := hx'
    have exu : x' = u := by
      have : its[i]? = some x' := by simpa using hx'
      rw [hu] at this; exact (Option.some.inj this).symm
    subst exu
    refine ⟨_, rfl, wpAny_letOwnedTupleGo_enum (s := { s with heap := h', toks := tk + 1 }) ho fun h'' he' sb => ?_⟩
    have hT2 : h''.get? s.heap.objs.size = some { cls := .type "tuple", data := .seq #[.int i tk, x'] } := (sb.2 _ (Nat.ne_of_gt hel)).trans hT
    have new : ObjOk X.prog X.w (upd H s.heap.objs.size (.tup [.int (i : Nat), x])) h'' s.heap.objs.size (.tup [.int (i : Nat), x]) :=
      ⟨by show 2 ≤ sizeLine; decide, [.int i tk, x'], .cons ⟨_, rfl⟩ (.cons ru .nil), ⟨_, hT2, rfl, _, rfl⟩⟩
    have I1 : Inv X pins σ (upd H s.heap.objs.size (.tup [.int (i : Nat), x])) { s with heap := h'', toks := tk + 1 } :=
      I.turnedNew (ch := [e, it]) (fun b ob hb q => (sb.2 b (fun z => hb (by simp [z]))).trans (hk b ob (fun z => hb (by simp [z])) (fun z => hb (by simp [z])) q)) hf (Nat.le_refl _) new
    refine ⟨.ref s.heap.objs.size, _, I1, rfl, ⟨_, x, rfl, I.hok.fresh (Nat.le_refl _), rfl, fun ys hy => by rw [Inv.src_inj I hy hq]; exact hx⟩, ⟨⟨x', ?_⟩, st'.1.at fun o q => (sb.2 it (Ne.symm hne)).trans q, hne⟩, fun b hb => ?_⟩
    · have e1 : ((i + 1 : Nat) : Int) = (i : Int) + 1 := by omega
      rw [e1]; exact he'
    · have hb' : b < s.heap.objs.size := by
        have e' : b = e ∨ b = it := by simpa using hb
        rcases e' with z | z
        · rw [z]; exact hel
        · rw [z]; exact hil
      rw [upd_ne (Nat.ne_of_lt hb')]
      exact (hf b hb).1
  done := by
    intro X hP hw hK hc i pins s σ H E I hf st hg
    subst hP hw hK
    obtain ⟨⟨old, he⟩, hit, hne⟩ := st
    obtain ⟨xs, hq, hx⟩ := hg
    obtain ⟨f0, f1, f2, f3, f4, f5⟩ := hf it (by simp)
    obtain ⟨its, rv, p⟩ := Inv.src I hq
    have hl := rv.length
    have hn : i = its.toArray.size := by simp; omega
    subst hn
    exact wpAny_pyNext_enum_endD (drawsG (t := t) (A := X.A.in1) (I.ok.hd hc) it hai its.toArray) he ⟨hit, p⟩ fun h' eb => ⟨rfl, I.turned (t' := s.toks) (fun b o hb q => eb b o hb q) f0 f1 f3 f4 f5⟩
  self := fun A i s Q E st h => let ⟨⟨_, he⟩, _⟩ := st; wpAny_pyIter_enum he h
set_option maxHeartbeats 1000000 in
theorem meets_enumB1 {v : Value} {o : Obj} {H : Heap → Prop} (B : Begins v o H) :
    Meets (Builtin.«enumerate.__new__» ⟨[.type "enumerate", v], []⟩) (fun _ R s => H s.heap ∧
      R (.ok (.ret (.ref (s.heap.push o).objs.size))) { s with heap := (s.heap.push o).push { cls := .type "enumerate", data := .fields #[.none, .bool false, .ref s.heap.objs.size, rawInt 0, .none, .none] } }) :=
  .of_wp fun prog w A R s h => by
    obtain ⟨hp, g, d, tk, os⟩ := s; obtain ⟨h1, h⟩ := h
    have hsub := sub_enumerate
    have q1 : ∀ {A' : Around} {E : Value → Shared → Prop} {Q : Value → Shared → Prop}, Q (.ref hp.objs.size) ⟨hp.push o, g, d, tk, os⟩ → wpAny (model prog w) A' (pyIter v) Q E ⟨hp, g, d, tk, os⟩ :=
      fun q => B.iter prog w _ _ ⟨hp, g, d, tk, os⟩ _ h1 q
    wp_walk
    refine wpAny_stack_any fun st => wpAny_pure ?_
    split
    · rename_i c _ _ _ _ _
      cases (c == Value.type "enumerate")
      · wp_walk using q1
        exact ⟨_, rfl, h⟩
      · wp_walk using q1
        exact ⟨_, rfl, h⟩
    · wp_walk using q1
      exact ⟨_, rfl, h⟩
theorem callEnum1 {prog : Program} {w : World} {A : Around} {E : Value → Shared → Prop} {s : Shared} {v : Value} {o : Obj} {H : Heap → Prop} {Q : Value → Shared → Prop} (B : Begins v o H) (h1 : H s.heap)
    (h : ∀ h', IsEnum h' (s.heap.objs.size + 1) s.heap.objs.size 0 .none → h'.get? s.heap.objs.size = some o → h'.objs.size = s.heap.objs.size + 2 →
      (∀ b o, s.heap.get? b = some o → h'.get? b = some o) → Q (.ref (s.heap.objs.size + 1)) { s with heap := h' }) :
    wpAny (model prog w) A (call (.type "enumerate") [v]) Q E s := by
  refine callType_new F.called_enumerate (by decide) (F.typeCall_enumerate_1 _) (F.newCall_enumerate_1 _) (fun obj => F.args_object_init_2 obj _) F.entry_enumerate_new
    (meets_enumB1 B) ⟨h1, ?_⟩
  have hz : (s.heap.push o).objs.size = s.heap.objs.size + 1 := Heap.size_push ..
  show _ ∧ _
  rw [hz]
  have he : IsEnum ((s.heap.push o).push { cls := .type "enumerate", data := .fields #[.none, .bool false, .ref s.heap.objs.size, rawInt 0, .none, .none] }) (s.heap.objs.size + 1) s.heap.objs.size 0 .none := by
    have := Heap.get?_push_size (s.heap.push o) (o := { cls := .type "enumerate", data := .fields #[.none, .bool false, .ref s.heap.objs.size, rawInt 0, .none, .none] }) rfl
    rw [hz] at this; exact this
  refine ⟨⟨_, he, rfl⟩, h _ he (Heap.get?_push_of_some _ (Heap.get?_push_size _ B.free)) (by rw [Heap.size_push, hz]) fun b o x => Heap.get?_push_of_some _ (Heap.get?_push_of_some _ x)⟩
def iEnumG (K : PySem.W.Frag) (ta : TA) : TI := fun σ H R => ta σ H fun vs H1 => ∃ t a xs, vs = [.ref a] ∧ SqG K H1 t a xs ∧ R (IteG K t a) H1
theorem pi_enumG {X : Cx} {e : Expr} {ta : TA} {p pos tpos : Pos} {elts : List Expr} {kk : Nat} (hg : Gl X "enumerate") (hm : X.mg "enumerate" = none) (ha : PA X [e] ta) (hs : starEach [e] X.env = [(false, eval e X.env)] := by rfl) :
    PI X (.Tuple elts kk tpos) (.Call (.Name "enumerate" p) [e] [] pos) (iEnumG X.K ta) := by
  refine ⟨fun pins s σ H R I h => ?_⟩
  refine Call_ (ld_blt I hg hm boot_enumerate (PyProof.Rows.callWith_type1 (thn (ha.run pos pins s σ H _ I h) fun us s1 ⟨vs, H1, I1, r1, q1⟩ => ?_) hs rfl))
  obtain ⟨t, a, xs, ex, hq, q⟩ := q1
  subst ex
  cases r1 with
  | cons r rr =>
    cases rr
    cases r
    obtain ⟨its, rv, p'⟩ := Inv.src I1 hq
    have fin : ∀ h', IsEnum h' (s1.heap.objs.size + 1) s1.heap.objs.size 0 .none → h'.get? s1.heap.objs.size = some (itObj t a) → (∀ b o, s1.heap.get? b = some o → h'.get? b = some o) →
        wpAny (model X.prog X.w) X.A (pyIter (.ref (s1.heap.objs.size + 1))) (PIE X pins σ (.Tuple elts kk tpos) R) X.xe { s1 with heap := h' } := fun h' he hit hk => wpAny_pyIter_enum he (by
      have I2 : Inv X pins σ H1 { s1 with heap := h' } := I1.kept (t' := s1.toks) hk
      have hlt := p'.lt
      refine ⟨s1.heap.objs.size + 1, [s1.heap.objs.size + 1, s1.heap.objs.size], _, _, H1, rfl, I2, turn_enumG (t := t) a (s1.heap.objs.size + 1) s1.heap.objs.size (Nat.ne_of_lt (Nat.lt_succ_of_lt hlt)) (Nat.ne_of_lt hlt), ⟨⟨.none, he⟩, .new hit, Nat.succ_ne_self _⟩, fun b hb => ?_, q⟩
      have e' : b = s1.heap.objs.size + 1 ∨ b = s1.heap.objs.size := by simpa using hb
      have hle : s1.heap.objs.size ≤ b := by
        rcases e' with z | z
        · rw [z]; exact Nat.le_add_right _ _
        · rw [z]; exact Nat.le_refl _
      exact I1.fpOk hle (I1.hok.fresh hle))
    exact callEnum1 (beginsG its.toArray) p' fun h' h1 h2 _ h4 => fin h' h1 h2 h4
/-! zip -/
def ItzG (K : PySem.W.Frag) (t u : Bool) (a b : Addr) : It :=
  ⟨fun i H => ∃ (xs ys : List V) (x y : V), SqG K H t a xs ∧ SqG K H u b ys ∧ xs[i]? = some x ∧ ys[i]? = some y,
    fun i H v H' => ∃ T x y, v = .ref T ∧ H T = none ∧ H' = upd H T (.tup [x, y]) ∧ (∀ xs, SqG K H t a xs → xs[i]? = some x) ∧ ∀ ys, SqG K H u b ys → ys[i]? = some y,
    fun i H => ∃ xs ys : List V, SqG K H t a xs ∧ SqG K H u b ys ∧ i ≤ xs.length ∧ i ≤ ys.length ∧ (xs.length = i ∨ ys.length = i)⟩
theorem turn_zipG {P : Program} {w : World} {K : PySem.W.Frag} {elts : List Expr} {kk : Nat} {tpos : Pos} {t u : Bool} {a b z TI TO i1 i2 : Addr} (D : ZipSep2 z TI TO i1 i2 [i1, a] [i2, b]) (ha : a ≠ i1) (hb : b ≠ i2) :
    Turn P w K (.Tuple elts kk tpos) (ItzG K t u a b) [z, TI, TO, i1, i2] z (fun i h => IsZip h z TI TO .none ∧ IsTupOf2 h TI (.ref i1) (.ref i2) ∧ (∃ x y, IsTupOf2 h TO x y) ∧ ItSt h t i1 a i ∧ ItSt h u i2 b i) where
  mem := by simp
  obj := fun i h st c hc => by
    obtain ⟨hz, hTI, ⟨x, y, hTO⟩, h1, h2⟩ := st
    have e' : c = z ∨ c = TI ∨ c = TO ∨ c = i1 ∨ c = i2 := by simpa using hc
    rcases e' with q | q | q | q | q
    · rw [q]; exact ⟨_, hz, fun v q => nomatch q⟩
    · rw [q]; exact ⟨_, hTI, fun v q => nomatch q⟩
    · rw [q]; exact ⟨_, hTO, fun v q => nomatch q⟩
    · rw [q]; exact h1.obj
    · rw [q]; exact h2.obj
  keep := fun i h h' st k => by
    obtain ⟨hz, hTI, ⟨x, y, hTO⟩, h1, h2⟩ := st
    exact ⟨k z (by simp) _ hz, k TI (by simp) _ hTI, ⟨x, y, k TO (by simp) _ hTO⟩, h1.at fun o q => k i1 (by simp) o q, h2.at fun o q => k i2 (by simp) o q⟩
  item := by
    intro X hP hw hK hc i pins s σ H E I hf st hg
    subst hP hw hK
    obtain ⟨hz, hTI, ⟨x0, y0, hTO⟩, h1, h2⟩ := st
    obtain ⟨xs, ys, x, y, hqx, hqy, hx, hy⟩ := hg
    obtain ⟨its, rv, p⟩ := Inv.src I hqx
    obtain ⟨its2, rv2, p2⟩ := Inv.src I hqy
    obtain ⟨v1, hu, ru⟩ := rv.get hx
    obtain ⟨v2, hu2, ru2⟩ := rv2.get hy
    have hzl : z < s.heap.objs.size := Heap.lt_size hz
    have l1 : i < its.toArray.size := by simpa using (List.getElem?_eq_some_iff.mp hu).1
    have l2 : i < its2.toArray.size := by simpa using (List.getElem?_eq_some_iff.mp hu2).1
    refine wpAny_pyNext_zipD2_item D (drawsG (t := t) (A := X.A.in1) (I.ok.hd hc) i1 ha its.toArray) (drawsG (t := u) (A := X.A.in1) (I.ok.hd hc) i2 hb its2.toArray) hz hTI hTO ⟨h1, p⟩ ⟨h2, p2⟩ l1 l2 fun w1 w2 h' tk e1 e2 z' TO' h1' h2' hT hsz hk => ?_
    have e1 : its.toArray[i]? = some w1 := e1
    have e2 : its2.toArray[i]? = some w2 := e2
    have q1 : w1 = v1 := by
      have : its[i]? = some w1 := by simpa using e1
      rw [hu] at this; exact (Option.some.inj this).symm
    have q2 : w2 = v2 := by
      have : its2[i]? = some w2 := by simpa using e2
      rw [hu2] at this; exact (Option.some.inj this).symm
    subst q1 q2
    refine ⟨_, rfl, wpAny_letOwnedTupleGo_zip (s := { s with heap := h', toks := tk }) z' fun h'' z'' sb => ?_⟩
    have hT2 : h''.get? s.heap.objs.size = some { cls := .type "tuple", data := .seq #[w1, w2] } := (sb.2 _ (Nat.ne_of_gt hzl)).trans hT
    have new : ObjOk X.prog X.w (upd H s.heap.objs.size (.tup [x, y])) h'' s.heap.objs.size (.tup [x, y]) :=
      ⟨by show 2 ≤ sizeLine; decide, [w1, w2], .cons ru (.cons ru2 .nil), ⟨_, hT2, rfl, _, rfl⟩⟩
    have I1 : Inv X pins σ (upd H s.heap.objs.size (.tup [x, y])) { s with heap := h'', toks := tk } :=
      I.turnedNew (ch := [z, TI, TO, i1, i2]) (fun c o hb q => (sb.2 c (fun q' => hb (by simp [q']))).trans (hk c o (fun q' => hb (by simp [q'])) (fun q' => hb (by simp [q'])) (fun q' => hb (by simp [q'])) (fun q' => hb (by simp [q'])) q)) hf (Nat.le_refl _) new
    have n1z : i1 ≠ z := fun e => D.zf1 (by simp [e])
    have n2z : i2 ≠ z := fun e => D.zf2 (by simp [e])
    refine ⟨.ref s.heap.objs.size, _, I1, rfl, ⟨_, x, y, rfl, I.hok.fresh (Nat.le_refl _), rfl, fun l hl => by rw [Inv.src_inj I hl hqx]; exact hx, fun l hl => by rw [Inv.src_inj I hl hqy]; exact hy⟩, ⟨z'', ?_, ⟨w1, w2, ?_⟩, ?_, ?_⟩, fun c hcm => ?_⟩
    · exact (sb.2 _ D.TIz).trans (hk _ _ D.TIz D.TITO D.TIi1 D.TIi2 hTI)
    · exact (sb.2 _ D.TOz).trans TO'
    · exact h1'.1.at fun o q => (sb.2 _ n1z).trans q
    · exact h2'.1.at fun o q => (sb.2 _ n2z).trans q
    · have hlt : c < s.heap.objs.size := by
        have e' : c = z ∨ c = TI ∨ c = TO ∨ c = i1 ∨ c = i2 := by simpa using hcm
        rcases e' with q | q | q | q | q
        · rw [q]; exact hzl
        · rw [q]; exact Heap.lt_size hTI
        · rw [q]; exact Heap.lt_size hTO
        · rw [q]; obtain ⟨_, e1, _⟩ := h1.obj; exact Heap.lt_size e1
        · rw [q]; obtain ⟨_, e2, _⟩ := h2.obj; exact Heap.lt_size e2
      rw [upd_ne (Nat.ne_of_lt hlt)]
      exact (hf c hcm).1
  done := by
    intro X hP hw hK hc i pins s σ H E I hf st hg
    subst hP hw hK
    obtain ⟨hz, hTI, ⟨x0, y0, hTO⟩, h1, h2⟩ := st
    obtain ⟨xs, ys, hqx, hqy, hi1, hi2, hend⟩ := hg
    obtain ⟨its, rv, p⟩ := Inv.src I hqx
    obtain ⟨its2, rv2, p2⟩ := Inv.src I hqy
    have l1 := rv.length
    have l2 := rv2.length
    exact wpAny_pyNext_zipD2_end D (drawsG (t := t) (A := X.A.in1) (I.ok.hd hc) i1 ha its.toArray) (drawsG (t := u) (A := X.A.in1) (I.ok.hd hc) i2 hb its2.toArray) hz hTI hTO ⟨h1, p⟩ ⟨h2, p2⟩ (by simp; omega) (by simp; omega) (by simp; omega) fun h' tk hk => ⟨rfl, I.turnedL (t' := tk) (ch := [z, TI, TO, i1, i2]) (fun c o hb q =>
      hk c o (fun q' => hb (by simp [q'])) (fun q' => hb (by simp [q'])) (fun q' => hb (by simp [q'])) (fun q' => hb (by simp [q'])) q) hf⟩
  self := fun A i s Q E st h => wpAny_pyIter_zip st.1 h
theorem sepG (n a b : Nat) (la : a < n) (lb : b < n) : ZipSep2 (n + 4) (n + 2) (n + 3) n (n + 1) [n, a] [n + 1, b] := by
  have lt : ∀ {m k : Nat}, m < k → ¬ (show Addr from m) = (show Addr from k) := fun h e => absurd (show (_ : Nat) = _ from e) (Nat.ne_of_lt h)
  have gt : ∀ {m k : Nat}, k < m → ¬ (show Addr from m) = (show Addr from k) := fun h e => absurd (show (_ : Nat) = _ from e) (Nat.ne_of_gt h)
  have no2 : ∀ {m x y : Addr}, ¬ m = x → ¬ m = y → m ∉ [x, y] := fun h1 h2 z => by
    rcases List.mem_cons.mp z with z | z
    · exact h1 z
    · exact h2 (by simpa using z)
  exact {
    TIz := lt (by omega), TOz := lt (by omega), TITO := lt (by omega), TIi1 := gt (by omega), mem1 := List.mem_cons_self, zf1 := no2 (gt (by omega)) (gt (by omega)), Tf1 := no2 (gt (by omega)) (gt (by omega)),
    TIi2 := gt (by omega), mem2 := List.mem_cons_self, zf2 := no2 (gt (by omega)) (gt (by omega)), Tf2 := no2 (gt (by omega)) (gt (by omega)), sep1_2 := no2 (lt (by omega)) (gt (by omega)), sep2_1 := no2 (gt (by omega)) (gt (by omega)) }
def iZipG (K : PySem.W.Frag) (ta : TA) : TI := fun σ H R => ta σ H fun vs H1 => ∃ t u a b xs ys, vs = [.ref a, .ref b] ∧ SqG K H1 t a xs ∧ SqG K H1 u b ys ∧ R (ItzG K t u a b) H1
theorem pi_zipG {X : Cx} {e e2 : Expr} {ta : TA} {p pos tpos : Pos} {elts : List Expr} {kk : Nat} (hg : Gl X "zip") (hm : X.mg "zip" = none) (ha : PA X [e, e2] ta)
    (hs : starEach [e, e2] X.env = (false, eval e X.env) :: starEach [e2] X.env := by rfl) (hpl : (backTo pos (starEach [e2] X.env)).any (·.1) = false := by rfl) :
    PI X (.Tuple elts kk tpos) (.Call (.Name "zip" p) [e, e2] [] pos) (iZipG X.K ta) := by
  refine ⟨fun pins s σ H R I h => ?_⟩
  refine Call_ (ld_blt I hg hm PyProof.Rows.boot_zip (PyProof.Rows.callWith_type1 (thn (ha.run pos pins s σ H _ I h) fun us s1 ⟨vs, H1, I1, r1, q1⟩ => ?_) hs hpl))
  obtain ⟨t, u, a, b, xs, ys, ex, hqx, hqy, q⟩ := q1
  subst ex
  cases r1 with
  | cons r rr =>
    cases rr with
    | cons r' rr =>
      cases rr
      cases r
      cases r'
      obtain ⟨its, rv, p1⟩ := Inv.src I1 hqx
      obtain ⟨its2, rv2, p2⟩ := Inv.src I1 hqy
      have la : a < s1.heap.objs.size := p1.lt
      have lb : b < s1.heap.objs.size := p2.lt
      refine zip_begins2 (beginsG (t := t) its.toArray) (beginsG (t := u) its2.toArray) p1 p2 fun h' hz hTI hTO h1 h2 hsz hk => wpAny_pyIter_zip hz ?_
      have I2 : Inv X pins σ H1 { s1 with heap := h' } := I1.kept (t' := s1.toks) hk
      have sep : ZipSep2 (s1.heap.objs.size + 4) (s1.heap.objs.size + 2) (s1.heap.objs.size + 3) s1.heap.objs.size (s1.heap.objs.size + 1) [s1.heap.objs.size, a] [s1.heap.objs.size + 1, b] := sepG _ a b la lb
      refine ⟨s1.heap.objs.size + 4, [s1.heap.objs.size + 4, s1.heap.objs.size + 2, s1.heap.objs.size + 3, s1.heap.objs.size, s1.heap.objs.size + 1], _, _, H1, rfl, I2, turn_zipG (t := t) (u := u) sep (Nat.ne_of_lt la) (Nat.ne_of_lt (Nat.lt_succ_of_lt lb)), ⟨hz, hTI, ⟨_, _, hTO⟩, .new h1, .new h2⟩, fun c hcm => ?_, q⟩
      have e' : c = s1.heap.objs.size + 4 ∨ c = s1.heap.objs.size + 2 ∨ c = s1.heap.objs.size + 3 ∨ c = s1.heap.objs.size ∨ c = s1.heap.objs.size + 1 := by simpa using hcm
      have hle : s1.heap.objs.size ≤ c := by
        rcases e' with z | z | z | z | z
        · rw [z]; exact Nat.le_add_right _ _
        · rw [z]; exact Nat.le_add_right _ _
        · rw [z]; exact Nat.le_add_right _ _
        · rw [z]; exact Nat.le_refl _
        · rw [z]; exact Nat.le_add_right _ _
      exact I1.fpOk hle (I1.hok.fresh hle)
end Dl
set_option Elab.async false
set_option linter.all false
set_option maxRecDepth 100000
set_option maxHeartbeats 4000000
namespace Dl
open PySem PySem.Spec PyProof.Rows L2
abbrev Frm.nox (F : Frm) : Frm := { F with W := fun _ _ _ _ => False }
def keepSh : Slot → Slot
  | .sh d => .sh d
  | _ => .un
def wipeE (e : Env) : List Nat → Env
  | [] => e
  | v :: vs => (wipeE e vs).set v .un
def unwipe (e0 e : Env) : List Nat → Env
  | [] => e
  | v :: vs => (unwipe e0 e vs).set v (match e0[v]? with
    | some s => keepSh s
    | none => .un)
def wipeL (E : List Ent) : List Nat → List Ent
  | [] => E
  | v :: vs => (wipeL E vs).set v (none, .un)
def unwipeL (E0 E : List Ent) : List Nat → List Ent
  | [] => E
  | v :: vs => (unwipeL E0 E vs).set v (match E0[v]? with
    | some (x, s) => (x, keepSh s)
    | none => (none, .un))
theorem wipeL_fst (E : List Ent) : ∀ vs, (wipeL E vs).map Prod.fst = wipe (E.map Prod.fst) vs
  | [] => rfl
  | v :: vs => by unfold wipeL wipe; rw [List.map_set, wipeL_fst E vs]
theorem wipeL_snd (E : List Ent) : ∀ vs, (wipeL E vs).map Prod.snd = wipeE (E.map Prod.snd) vs
  | [] => rfl
  | v :: vs => by unfold wipeL wipeE; rw [List.map_set, wipeL_snd E vs]
theorem wipeL_len (E : List Ent) : ∀ vs, (wipeL E vs).length = E.length
  | [] => rfl
  | v :: vs => by unfold wipeL; rw [List.length_set, wipeL_len E vs]
theorem unwipeL_len (E0 E : List Ent) : ∀ vs, (unwipeL E0 E vs).length = E.length
  | [] => rfl
  | v :: vs => by unfold unwipeL; rw [List.length_set, unwipeL_len E0 E vs]
theorem unwipeL_snd (E0 E : List Ent) : ∀ vs, (unwipeL E0 E vs).map Prod.snd = unwipe (E0.map Prod.snd) (E.map Prod.snd) vs
  | [] => rfl
  | v :: vs => by
    unfold unwipeL unwipe
    rw [List.map_set, unwipeL_snd E0 E vs, List.getElem?_map]
    cases E0[v]? <;> rfl
theorem app_set' {E T : List Ent} {i : Nat} {e : Ent} : (∃ h : i < E.length, (E ++ T).set i e = E.set i e ++ T) ∨ (¬ i < E.length ∧ E.set i e = E) := by
  by_cases h : i < E.length
  · exact .inl ⟨h, app_set h⟩
  · exact .inr ⟨h, List.set_eq_of_length_le (by omega)⟩
theorem st_drop {F : Frm} {Hs H : Hp} {E T : List Ent} {i : Nat} {x : Option V} (S : F.St Hs H (E ++ T)) : F.St Hs H (E.set i (x, .un) ++ T) := by
  rcases app_set' (E := E) (T := T) (i := i) (e := (x, .un)) with ⟨h, e⟩ | ⟨_, e⟩
  · rw [← e]; exact StR.drop S
  · rw [e]; exact S
theorem st_wipe {F : Frm} {Hs H : Hp} {E T : List Ent} (S : F.St Hs H (E ++ T)) : ∀ vs, F.St Hs H (wipeL E vs ++ T)
  | [] => S
  | v :: vs => by unfold wipeL; exact st_drop (st_wipe S vs)
theorem st_unwipe {F : Frm} {Hs0 Hs H0 H : Hp} {E0 E T T0 : List Ent} (S0 : F.St Hs0 H0 (E0 ++ T0)) (ex : Ex Hs0 Hs) (S : F.St Hs H (E ++ T)) : ∀ vs, F.St Hs H (unwipeL E0 E vs ++ T)
  | [] => S
  | v :: vs => by
    have ih := st_unwipe S0 ex S vs
    unfold unwipeL
    cases q : E0[v]? with
    | none => exact st_drop ih
    | some e =>
      obtain ⟨x, s⟩ := e
      show F.St Hs H ((unwipeL E0 E vs).set v (x, keepSh s) ++ T)
      cases s with
      | sh d =>
        obtain ⟨w, rfl, r⟩ := S0.sh (app_get q)
        by_cases h : v < (unwipeL E0 E vs).length
        · exact st_set ih h (r.ex ex)
        · rw [List.set_eq_of_length_le (by omega)]; exact ih
      | _ => exact st_drop ih
theorem unwipe_fst {E0 E : List Ent} {σ : L2.St} (m0 : E0.map Prod.fst = σ) {vs : List Nat} (m : E.map Prod.fst = wipe σ vs) : (unwipeL E0 E vs).map Prod.fst = σ := by
  have key : ∀ ws j, ((unwipeL E0 E ws).map Prod.fst)[j]? = if j ∈ ws then σ[j]? else (E.map Prod.fst)[j]? := by
    intro ws
    induction ws with
    | nil => intro j; simp [unwipeL]
    | cons v ws ih =>
      intro j
      unfold unwipeL
      rw [List.map_set]
      have hl : (E.map Prod.fst).length = σ.length := by rw [m, wipe_length]
      have hl2 : ((unwipeL E0 E ws).map Prod.fst).length = σ.length := by rw [List.length_map, unwipeL_len, ← List.length_map (f := Prod.fst), hl]
      by_cases z : v = j
      · subst z
        rw [if_pos List.mem_cons_self]
        by_cases hv : v < σ.length
        · rw [List.getElem?_set_self (by rw [hl2]; exact hv)]
          have : (E0.map Prod.fst)[v]? = σ[v]? := by rw [m0]
          rw [← this, List.getElem?_map]
          have hv0 : v < E0.length := by rw [← List.length_map (f := Prod.fst) (as := E0), m0]; exact hv
          rw [List.getElem?_eq_getElem hv0]
          rfl
        · rw [List.getElem?_eq_none (by rw [List.length_set, hl2]; omega), List.getElem?_eq_none (by omega)]
      · rw [List.getElem?_set_ne z, ih j]
        have : (j ∈ v :: ws) ↔ j ∈ ws := by
          simp only [List.mem_cons]
          exact ⟨fun h => h.elim (fun e => absurd e.symm z) id, .inr⟩
        by_cases h : j ∈ ws
        · rw [if_pos h, if_pos (this.mpr h)]
        · rw [if_neg h, if_neg (fun q => h (this.mp q))]
  apply List.ext_getElem?
  intro j
  rw [key vs j]
  by_cases h : j ∈ vs
  · rw [if_pos h]
  · rw [if_neg h, m, wipe_out h]
theorem wipe_in {σ : L2.St} {j : Nat} : ∀ {vs : List Nat}, j ∈ vs → (wipe σ vs)[j]? = if j < σ.length then some none else none
  | v :: vs, h => by
    unfold wipe
    by_cases z : v = j
    · subst z
      by_cases hv : v < σ.length
      · rw [List.getElem?_set_self (by rw [wipe_length]; exact hv), if_pos hv]
      · rw [List.getElem?_eq_none (by rw [List.length_set, wipe_length]; omega), if_neg hv]
    · rw [List.getElem?_set_ne z]
      exact wipe_in ((List.mem_cons.mp h).elim (fun e => absurd e.symm z) id)
theorem wipe_off {σ τ : L2.St} {ws vs : List Nat} (o : Off ws τ (wipe σ vs)) (h : ∀ i ∈ ws, i ∈ vs) : wipe τ vs = wipe σ vs := by
  have hl : τ.length = σ.length := by have := o.1; rw [wipe_length] at this; exact this
  apply List.ext_getElem?
  intro j
  by_cases z : j ∈ vs
  · rw [wipe_in z, wipe_in z, hl]
  · rw [wipe_out z, o.2 j (fun q => z (h j q))]
/-! ### tests of a comprehension -/
structure DTs (X : Cx) (F : Frm) (ifs : List Expr) (f : M Bool) : Prop where
  pts : PTs X ifs (F.tM F.pT f)
theorem PTs.weak {X : Cx} {e : List Expr} {t t' : TT} (h : PTs X e t) (w : ∀ σ H Q, t' σ H Q → t σ H Q) : PTs X e t' := ⟨fun pins s σ H Q I q => h.run pins s σ H Q I (w σ H Q q)⟩
def dYes : M Bool := fun e => .ok true e
theorem dts_nil {X : Cx} {F : Frm} : DTs X F [] dYes := ⟨PTs.weak pts_nil fun σ H Q ⟨Hs, E, T, S, e1, q⟩ => q true Hs H E (Ex.refl _) e1 rfl ⟨S, rfl⟩⟩
theorem dts_one {X : Cx} {F : Frm} {c : Expr} {f : M Bool} (h : DT X F c f) : DTs X F [c] f := ⟨pts_one h.pt⟩
/-! ### [elt for tg in iter if ..] -/
def lcL (vs : List Nat) (g : Tg) (ifs : M Bool) (elt : M Slot) : List D → M (List D)
  | [] => fun e => .ok [] e
  | d :: r => fun e => match g d e with
    | none => .stuck
    | some e1 => match ifs e1 with
      | .ok true e2 => (match elt e2 with
        | .ok .un _ => .stuck
        | .ok s e3 => (match lcL vs g ifs elt r (wipeE e3 vs) with
          | .ok more e4 => .ok (s.d :: more) e4
          | _ => .stuck)
        | _ => .stuck)
      | .ok false e2 => lcL vs g ifs elt r (wipeE e2 vs)
      | _ => .stuck
def lcEnd (e0 : Env) (vs : List Nat) (acc : List D) (r : Out (List D)) : Out Slot := match r with
  | .ok more e => .ok (.ol (acc ++ more)) (unwipe e0 e vs)
  | _ => .stuck
def dLc (f : M (List D)) (vs : List Nat) (g : Tg) (ifs : M Bool) (elt : M Slot) : M Slot := M.bind f fun items e =>
  if lenOk items.length = true then lcEnd e vs [] (lcL vs g ifs elt items (wipeE e vs)) else .stuck
theorem end_at {F : Frm} {α β : Type} {σ : L2.St} {Hs : Hp} {T : List Ent} {post : β → α → Hp → Hp → List Ent → Prop} {r : Out α} {Q : β → Hp → Prop} (h : F.End σ Hs T post r Q) {P : Prop}
    (ok : ∀ a e, r = .ok a e → P) (ex : ∀ x e, r = .exc x e → P) : P := by
  cases r with
  | ok a e => exact ok a e rfl
  | exc x e => exact ex x e rfl
  | stuck => exact h.elim
theorem lc_weak {X : Cx} {F : Frm} {f : M (List D)} {vs ws : List Nat} {g : Tg} {ifs : M Bool} {elt : M Slot} (hw : ∀ i ∈ ws, i ∈ vs) : ∀ σ H Q, F.tM F.pD (dLc f vs g ifs elt) σ H Q →
    tLc (F.tM F.pI f) (F.nox.tG g ws) (F.nox.tM F.nox.pT ifs) (F.nox.tM F.nox.pD elt) vs σ H Q := fun σ H Q ⟨Hs, E, T, S, e1, q⟩ => by
  refine ⟨Hs, E, T, S, e1, q.bind fun J items env' Hs1 H1 E1 ex1 m1 m2 p1 q1 => ?_⟩
  subst m2
  split at q1
  · rename_i hz
    intro L hL
    have S1 : F.St Hs1 (upd H1 L (.lst [])) (E1 ++ T ++ [(some (.ref L), .ol [])]) := p1.1.pushList hL RepL.nil
    refine ⟨fun i m H => m = items.length - i ∧ i ≤ items.length ∧ ∃ Hs2 E2 acc, F.St Hs2 H (E2 ++ (T ++ [(some (.ref L), .ol acc)])) ∧ E2.map Prod.fst = wipe σ vs ∧ Ex Hs1 Hs2 ∧ acc.length ≤ i ∧
      F.End σ Hs2 T (F.pD T) (lcEnd (E1.map Prod.snd) vs acc (lcL vs g ifs elt (items.drop i) (E2.map Prod.snd))) Q, ⟨items.length, by simp, Nat.zero_le _, Hs1, wipeL E1 vs, [], ?_, ?_, Ex.refl _, Nat.le_refl _, ?_⟩, ?_⟩
    · rw [List.append_assoc] at S1
      exact st_wipe S1 vs
    · rw [wipeL_fst, m1]
    · rw [wipeL_snd]; exact q1
    · rintro i m H2 ⟨rfl, hi, Hs2, E2, acc, S2, k1, ex2, ha, q2⟩
      by_cases hlt : i < items.length
      · refine .inr ⟨p1.2.goes i H2 hlt (ex2.trans S2.eS), fun H' => ∃ Hs3 E3 acc', F.St Hs3 H' (E3 ++ (T ++ [(some (.ref L), .ol acc')])) ∧ E3.map Prod.fst = wipe σ vs ∧ Ex Hs1 Hs3 ∧ acc'.length ≤ i + 1 ∧
          F.End σ Hs3 T (F.pD T) (lcEnd (E1.map Prod.snd) vs acc' (lcL vs g ifs elt (items.drop (i + 1)) (E3.map Prod.snd))) Q, fun H' h => ⟨items.length - (i + 1), by omega, rfl, hlt, h⟩, fun x H' y => ?_⟩
        obtain ⟨d, Hs3, h1, ex3, S3, r⟩ := item_comes S2 (p1.2.later ex2) hlt y
        have ed : items.drop i = d :: items.drop (i + 1) := by
          rw [List.drop_eq_getElem_cons hlt]
          rw [List.getElem?_eq_getElem hlt] at h1
          rw [Option.some.inj h1]
        rw [ed] at q2
        have q2 := q2.later ex3
        unfold lcL at q2
        cases qg : g d (E2.map Prod.snd) with
        | none => rw [qg] at q2; exact q2.elim
        | some e2 =>
          rw [qg] at q2
          try simp only at q2
          refine ⟨Hs3, E2, _, d, e2, S3, k1, r, qg, fun E3 m3 S4 o3 => ⟨wipe_off (by rw [← k1] at *; exact o3) hw, Hs3, E3, _, S4, rfl, ?_⟩⟩
          rw [m3]
          cases qi : ifs e2 with
          | stuck => rw [qi] at q2; exact q2.elim
          | exc x e => rw [qi] at q2; exact q2.elim
          | ok b e3 =>
            rw [qi] at q2
            intro b' Hs4 H4 E4 ex4 n1 n2 p4
            obtain ⟨S5, rfl⟩ := p4
            subst n2
            have q2 := q2.later ex4
            have w4 : wipe (E4.map Prod.fst) vs = wipe σ vs := by rw [n1]; exact wipe_off (by rw [← k1] at *; exact o3) hw
            cases b' with
            | false =>
              refine iteF ⟨Hs4, wipeL E4 vs, acc, st_wipe S5 vs, by rw [wipeL_fst]; exact w4, (ex2.trans ex3).trans ex4, by omega, ?_⟩
              rw [wipeL_snd]
              exact q2
            | true =>
              refine iteT ⟨Hs4, E4, _, S5, n1, ?_⟩
              try simp only at q2
              cases qe : elt (E4.map Prod.snd) with
              | stuck => rw [qe] at q2; exact q2.elim
              | exc x e => rw [qe] at q2; exact q2.elim
              | ok s e5 =>
                rw [qe] at q2
                intro yv Hs5 H5 E5 ex5 j1 j2 p5
                subst j2
                have q2 := q2.later ex5
                have hs : s ≠ .un := fun z => by subst z; exact q2.elim
                have q3 : F.End σ Hs5 T (F.pD T) (lcEnd (E1.map Prod.snd) vs acc (match lcL vs g ifs elt (items.drop (i + 1)) (wipeE (E5.map Prod.snd) vs) with
                  | .ok more e4 => .ok (s.d :: more) e4
                  | _ => .stuck)) Q := by
                  cases s <;> first | exact q2 | exact absurd rfl hs
                have p5 : F.St Hs5 H5 ((E5 ++ (T ++ [(some (.ref L), .ol acc)])) ++ [(some yv, s)]) := p5
                have hi5 : ((E5 ++ (T ++ [(some (.ref L), .ol acc)])) ++ [(some yv, s)])[(E5 ++ (T ++ [(some (V.ref L), Slot.ol acc)])).length]? = some (some yv, s) := by rw [List.getElem?_append_right (Nat.le_refl _), Nat.sub_self]; rfl
                obtain ⟨Hs6, ex6, S6⟩ := p5.freeze hi5 hs
                rw [List.set_append_right _ _ (Nat.le_refl _), Nat.sub_self] at S6
                have S6 : F.St Hs6 H5 ((E5 ++ (T ++ [(some (.ref L), .ol acc)])) ++ [(some yv, .sh s.d)]) := S6
                obtain ⟨yv', z, ry⟩ := S6.sh (i := (E5 ++ (T ++ [(some (V.ref L), Slot.ol acc)])).length) (d := s.d) (by rw [List.getElem?_append_right (Nat.le_refl _), Nat.sub_self]; rfl)
                cases z
                have S7 := S6.pop
                have gL : (E5 ++ (T ++ [(some (V.ref L), Slot.ol acc)]))[(E5 ++ T).length]? = some (some (.ref L), .ol acc) := by
                  rw [← List.append_assoc, List.getElem?_append_right (Nat.le_refl _), Nat.sub_self]; rfl
                obtain ⟨P, rl⟩ := S7.rel gL
                obtain ⟨a', vs', hv1, hv2, hv3, hv4⟩ := rl
                cases hv1
                have hlen : vs'.length = acc.length := hv4.length.symm
                refine ⟨vs', hv3, ?_, Hs6, wipeL E5 vs, acc ++ [s.d], ?_, by rw [wipeL_fst, j1, ← n1]; exact w4, (((ex2.trans ex3).trans ex4).trans ex5).trans ex6, by rw [List.length_append]; simp; omega, ?_⟩
                · rw [hlen, sizeLine_eq]
                  have := Nat.le_of_ble_eq_true hz
                  omega
                · have S8 := StR.write (H' := upd H5 L (.lst (vs' ++ [yv]))) (x' := some (.ref L)) (s' := .ol (acc ++ [s.d])) S7 gL fun P r => by
                    obtain ⟨a2, vs2, w1, w2, w3, w4⟩ := r
                    cases w1
                    rw [hv3] at w3; cases w3
                    exact ⟨L, .lst (vs' ++ [yv]), w2, rfl, ⟨L, _, rfl, w2, upd_same, w4.append (.cons ry .nil)⟩, rfl, fun o0 h0 => by rw [hv3] at h0; cases h0; exact ⟨rfl, nc_lst⟩⟩
                  have e8 : (E5 ++ (T ++ [(some (V.ref L), Slot.ol acc)])).set (E5 ++ T).length (some (.ref L), .ol (acc ++ [s.d])) = E5 ++ (T ++ [(some (.ref L), .ol (acc ++ [s.d]))]) := by
                    rw [← List.append_assoc, List.set_append_right _ _ (Nat.le_refl _), Nat.sub_self, ← List.append_assoc]; rfl
                  rw [e8] at S8
                  exact st_wipe S8 vs
                · rw [wipeL_snd]
                  have q3 := q3.later ex6
                  cases ql : lcL vs g ifs elt (items.drop (i + 1)) (wipeE (E5.map Prod.snd) vs) with
                  | ok more e4 =>
                    rw [ql] at q3
                    have e9 : (acc ++ [s.d]) ++ more = acc ++ (s.d :: more) := by simp
                    show F.End σ Hs6 T (F.pD T) (.ok (.ol ((acc ++ [s.d]) ++ more)) (unwipe (E1.map Prod.snd) e4 vs)) Q
                    rw [e9]
                    exact q3
                  | exc x e => rw [ql] at q3; exact q3.elim
                  | stuck => rw [ql] at q3; exact q3.elim
      · have e : i = items.length := by omega
        subst e
        rw [List.drop_length] at q2
        refine .inl ⟨p1.2.stops H2 (ex2.trans S2.eS), ?_⟩
        have q2 : F.End σ Hs2 T (F.pD T) (.ok (.ol (acc ++ [])) (unwipe (E1.map Prod.snd) (E2.map Prod.snd) vs)) Q := q2
        rw [List.append_nil] at q2
        refine q2 (.ref L) Hs2 H2 (unwipeL E1 E2 vs) (Ex.refl _) (unwipe_fst m1 k1) (unwipeL_snd _ _ _) ?_
        have := st_unwipe p1.1 ex2 S2 vs
        rw [← List.append_assoc] at this
        exact this
  · exact q1.elim
theorem de_lc {X : Cx} {F : Frm} {elt tg iter : Expr} {ifs : List Expr} {scope : Scope} {own : List (Str × Nat)} {pos : Pos} {f : M (List D)} {g : Tg} {ws : List Nat} {ft : M Bool} {fe : M Slot} (hc : X.calm = true) (hN : X.N.Nodup) (hi : DI X F tg iter f) (ok : BlkOk X.N X.env.scope scope own) (hw : ∀ i ∈ ws, i ∈ own.map (·.2))
    (hg : ∀ (s : Shared) (H : Hp) (C : Addr) (cl : List (Str × Addr)) (fp : List Addr), DG (X.blk s H scope (compEnvC scope cl C X.env) fp) F.nox tg g ws) (ht : ∀ (s : Shared) (H : Hp) (C : Addr) (cl : List (Str × Addr)) (fp : List Addr), DTs (X.blk s H scope (compEnvC scope cl C X.env) fp) F.nox ifs ft)
    (he : ∀ (s : Shared) (H : Hp) (C : Addr) (cl : List (Str × Addr)) (fp : List Addr), DE (X.blk s H scope (compEnvC scope cl C X.env) fp) F.nox elt fe) (hs : ∀ x, foldedSetIterable iter X.env x = pure x := by intro _; rfl) :
    DE X F (.ListComp elt [⟨tg, iter, ifs, 0⟩] scope pos) (dLc f (own.map (·.2)) g ft fe) :=
  ⟨PE.weak (pe_lc hc hN hi.pi ok (fun s H C cl fp => (hg s H C cl fp).pg) (fun s H C cl fp => (ht s H C cl fp).pts) (fun s H C cl fp => (he s H C cl fp).pe) hs) (lc_weak (X := X) hw)⟩
theorem s_setLc {X : Cx} {F : Frm} {i : Nat} {y : Str} {py : Pos} {elt tg iter : Expr} {ifs : List Expr} {scope : Scope} {own : List (Str × Nat)} {pos spos : Pos} {f : M (List D)} {g : Tg} {ws : List Nat} {ft : M Bool} {fe : M Slot} (hc : X.calm = true) (hN : X.N.Nodup) (hy : X.N[i]? = some y) (hyl : X.env.scope.names.lookup y = some .local)
    (hsw : swapsWith (.ListComp elt [⟨tg, iter, ifs, 0⟩] scope pos) (some (.Name y py)) spos.line X.env = pure true) (hi : DI X F tg iter f) (ok : BlkOk X.N X.env.scope scope own) (hw : ∀ i ∈ ws, i ∈ own.map (·.2))
    (hg : ∀ (s : Shared) (H : Hp) (C : Addr) (cl : List (Str × Addr)) (fp : List Addr), DG (X.blk s H scope (compEnvC scope cl C X.env) fp) F.nox tg g ws) (ht : ∀ (s : Shared) (H : Hp) (C : Addr) (cl : List (Str × Addr)) (fp : List Addr), DTs (X.blk s H scope (compEnvC scope cl C X.env) fp) F.nox ifs ft)
    (he : ∀ (s : Shared) (H : Hp) (C : Addr) (cl : List (Str × Addr)) (fp : List Addr), DE (X.blk s H scope (compEnvC scope cl C X.env) fp) F.nox elt fe) (hs : ∀ x, foldedSetIterable iter X.env x = pure x := by intro _; rfl) :
    DS X F (.Assign [.Name y py] (.ListComp elt [⟨tg, iter, ifs, 0⟩] scope pos) spos) (sSet i (dLc f (own.map (·.2)) g ft fe)) :=
  ⟨PS.weak (ps_setLc hc hN hy hyl hsw hi.pi ok (fun s H C cl fp => (hg s H C cl fp).pg) (fun s H C cl fp => (ht s H C cl fp).pts) (fun s H C cl fp => (he s H C cl fp).pe) hs) fun D σ H ⟨Hs, E, S, e1, q⟩ => by
  refine lc_weak (X := X) hw σ H _ ⟨Hs, E, [], st_nil S, e1, EndS.bind q fun v s env' Hs1 H1 E1 ex m1 m2 p q => ?_⟩
  subst m2
  exact sSet_end p m1 q⟩
end Dl
set_option Elab.async false
set_option linter.all false
set_option maxRecDepth 100000
set_option maxHeartbeats 4000000
namespace Dl
open PySem PySem.Spec PyProof.Rows L2
section
variable {X : Cx} {F : Frm}
def items : D → Option (List D)
  | .lst l => some l
  | .fz l => some l
  | .tup l => some l
  | .tz l => some l
  | _ => none
def dItems (f : M Opd) : M (List D) := M.bind f fun o e => match o with
  | .val d => (match items d with
    | some l => .ok l e
    | none => .stuck)
  | _ => .stuck
theorem itR_list {G : Gx} {K : PySem.W.Frag} (hK : G.K = K) {Hs : Hp} {a : Addr} {vs : List V} {l : List D} (h : SqL K Hs a vs) (r : RepL G Hs l vs) : ItR G Hs (Itl K a) l :=
  ⟨fun i H hi e => ⟨vs, vs[i]'(by rw [← r.length]; exact hi), sqL_ex e h, by simp⟩, fun H e => ⟨vs, sqL_ex e h, by rw [r.length]; exact Nat.le_refl _⟩, fun i H x H' hi e y => by
    obtain ⟨d, h1, h2⟩ := r.get' (y.2 vs (sqL_ex e h))
    exact ⟨d, h1, .inl ⟨y.1, h2⟩⟩⟩
theorem itR_tup {G : Gx} {K : PySem.W.Frag} {Hs : Hp} {a : Addr} {vs : List V} {l : List D} (h : SqT K Hs a vs) (r : RepL G Hs l vs) : ItR G Hs (Itt K a) l :=
  ⟨fun i H hi e => ⟨vs, vs[i]'(by rw [← r.length]; exact hi), sqT_ex e h, by simp⟩, fun H e => ⟨vs, sqT_ex e h, by rw [r.length]; exact Nat.le_refl _⟩, fun i H x H' hi e y => by
    obtain ⟨d, h1, h2⟩ := r.get' (y.2 vs (sqT_ex e h))
    exact ⟨d, h1, .inl ⟨y.1, h2⟩⟩⟩
theorem di_seq {tg e : Expr} {f : M Opd} (hK : F.G.K = X.K) (h : DO X F e f) : DI X F tg e (dItems f) := ⟨PI.weak (PI.or (pi_list h.pe) (pi_tup h.pe)) fun σ H R ⟨Hs, E, T, S, e1, q⟩ => by
  -- which of both is seen only behind the evaluation: the tree says it ahead
  cases hf : f (E.map Prod.snd) with
  | stuck => 
    have q : F.End σ Hs T (F.pI T) ((f (E.map Prod.snd)).bind fun o e => match o with
      | .val d => (match items d with
        | some l => Out.ok l e
        | none => .stuck)
      | _ => .stuck) R := q
    rw [hf] at q; exact q.elim
  | exc x e' =>
    refine .inl ⟨Hs, E, T, S, e1, ?_⟩
    have q : F.End σ Hs T (F.pI T) ((f (E.map Prod.snd)).bind fun o e => match o with
      | .val d => (match items d with
        | some l => Out.ok l e
        | none => .stuck)
      | _ => .stuck) R := q
    rw [hf] at q ⊢
    exact q
  | ok o env' =>
    have q : F.End σ Hs T (F.pI T) ((f (E.map Prod.snd)).bind fun o e => match o with
      | .val d => (match items d with
        | some l => Out.ok l e
        | none => .stuck)
      | _ => .stuck) R := q
    rw [hf] at q
    cases o with
    | «at» i => exact q.elim
    | val d =>
      cases d with
      | lst l =>
        refine .inl ⟨Hs, E, T, S, e1, ?_⟩
        rw [hf]
        intro v Hs1 H1 E1 ex m1 m2 p
        obtain ⟨a, vs, rfl, h1, h2⟩ := p.2
        exact ⟨a, rfl, ⟨vs, SqL.of (p.1.eS.get h1)⟩, q (Itl X.K a) Hs1 H1 E1 ex m1 m2 ⟨p.1, itR_list hK (SqL.of h1) h2⟩⟩
      | fz l =>
        refine .inl ⟨Hs, E, T, S, e1, ?_⟩
        rw [hf]
        intro v Hs1 H1 E1 ex m1 m2 p
        obtain ⟨a, vs, rfl, h1, h2⟩ := p.2
        rw [hK] at h1
        exact ⟨a, rfl, ⟨vs, sqL_ex p.1.eS h1⟩, q (Itl X.K a) Hs1 H1 E1 ex m1 m2 ⟨p.1, itR_list hK h1 h2⟩⟩
      | tup l =>
        refine .inr ⟨Hs, E, T, S, e1, ?_⟩
        rw [hf]
        intro v Hs1 H1 E1 ex m1 m2 p
        obtain ⟨a, vs, rfl, h1, h2⟩ := p.2
        exact ⟨a, rfl, ⟨vs, SqT.of (p.1.eS.get h1)⟩, q (Itt X.K a) Hs1 H1 E1 ex m1 m2 ⟨p.1, itR_tup (SqT.of h1) h2⟩⟩
      | tz l =>
        refine .inr ⟨Hs, E, T, S, e1, ?_⟩
        rw [hf]
        intro v Hs1 H1 E1 ex m1 m2 p
        obtain ⟨a, vs, rfl, h1, h2⟩ := p.2
        exact ⟨a, rfl, ⟨vs, tz_sq (tz_ex p.1.eS h1)⟩, q (Itt X.K a) Hs1 H1 E1 ex m1 m2 ⟨p.1, itR_tup (tz_sq h1) h2⟩⟩
      | _ => exact q.elim⟩
/-! ### ranges -/
def rangeD (lo : Int) : Nat → List D
  | 0 => []
  | n + 1 => .int lo :: rangeD (lo + 1) n
theorem rangeD_len (lo : Int) (n : Nat) : (rangeD lo n).length = n := by
  induction n generalizing lo with
  | zero => rfl
  | succ n ih => show (rangeD (lo + 1) n).length + 1 = _; rw [ih]
theorem rangeD_get (lo : Int) (n i : Nat) (h : i < n) : (rangeD lo n)[i]? = some (.int (lo + i)) := by
  induction n generalizing lo i with
  | zero => omega
  | succ n ih =>
    cases i with
    | zero => show some (D.int lo) = _; simp
    | succ i =>
      show (rangeD (lo + 1) n)[i]? = _
      rw [ih _ _ (by omega)]
      congr 2
      omega
theorem itR_range {G : Gx} {Hs : Hp} {lo : Int} {n : Nat} : ItR G Hs (Itr lo n) (rangeD lo n) :=
  ⟨fun i H hi e => by rw [rangeD_len] at hi; exact hi, fun H e => by rw [rangeD_len]; exact Nat.le_refl _, fun i H x H' hi e y => by
    rw [rangeD_len] at hi
    obtain ⟨rfl, rfl⟩ := y
    exact ⟨_, rangeD_get lo n i hi, .inl ⟨rfl, rfl⟩⟩⟩
def opInts : List Opd → Env → Option (List Int)
  | [], _ => some []
  | o :: r, e => match o.int e, opInts r e with
    | some i, some is => some (i :: is)
    | _, _ => none
theorem ints_of {Hs H : Hp} {E T : List Ent} (S : F.St Hs H (E ++ T)) : ∀ {vs : List V} {os : List Opd} {is : List Int}, OpdsR F.G Hs E vs os → opInts os (E.map Prod.snd) = some is → vs = is.map V.int
  | [], os, is, h, e => by rw [show os = [] from h] at e; cases e; rfl
  | v :: vs, _, is, ⟨o, r, h1, h2, h3⟩, e => by
    subst h1
    unfold opInts at e
    cases q1 : o.int (E.map Prod.snd) with
    | none => rw [q1] at e; cases e
    | some i =>
      cases q2 : opInts r (E.map Prod.snd) with
      | none => rw [q1, q2] at e; cases e
      | some is' =>
        rw [q1, q2] at e
        cases e
        rw [int_of S h2 q1, ints_of S h3 q2]; rfl
def rOk : Int → Bool
  | .ofNat n => Nat.ble n 4611686018427387903
  | .negSucc n => Nat.ble n 4611686018427387903
theorem rOk_of {i : Int} (h : rOk i = true) : -(2 ^ 62) ≤ i ∧ i < 2 ^ 62 := by
  cases i with
  | ofNat n => have := Nat.le_of_ble_eq_true h; exact ⟨by have : (0 : Int) ≤ Int.ofNat n := Int.natCast_nonneg n; omega, by show ((n : Nat) : Int) < _; omega⟩
  | negSucc n => have := Nat.le_of_ble_eq_true h; exact ⟨by omega, by omega⟩
def dRange1 (f : M (List Opd)) : M (List D) := M.bind f fun os e => match opInts os e with
  | some [j] => if rOk j = true then .ok (rangeD 0 j.toNat) e else .stuck
  | _ => .stuck
def dRange2 (f : M (List Opd)) : M (List D) := M.bind f fun os e => match opInts os e with
  | some [i, j] => if (rOk i && rOk j) = true then .ok (rangeD i (j - i).toNat) e else .stuck
  | _ => .stuck
theorem di_range1 {tg a : Expr} {f : M (List Opd)} {p pos : Pos} (hg : Gl X "range") (hm : X.mg "range" = none) (ha : DA X F [a] f) (hs : starEach [a] X.env = [(false, eval a X.env)] := by rfl) : DI X F tg (.Call (.Name "range" p) [a] [] pos) (dRange1 f) :=
  ⟨PI.weak (pi_range1 hg hm ha.pa hs) fun σ H R ⟨Hs, E, T, S, e1, q⟩ => ⟨Hs, E, T, S, e1, q.bind fun vs os env' Hs1 H1 E1 ex1 m1 m2 p1 q1 => by
    subst m2
    cases qi : opInts os (E1.map Prod.snd) with
    | none => rw [qi] at q1; exact q1.elim
    | some is =>
      rw [qi] at q1
      match is, qi, q1 with
      | [j], qi, q1 =>
        try simp only at q1
        split at q1
        · rename_i ho
          have e := ints_of p1.1 p1.2 qi
          exact ⟨j, e, (rOk_of ho).1, (rOk_of ho).2, q1 (Itr 0 j.toNat) Hs1 H1 E1 (Ex.refl _) m1 rfl ⟨p1.1, itR_range⟩⟩
        · exact q1.elim
      | [], qi, q1 => exact q1.elim
      | _ :: _ :: _, qi, q1 => exact q1.elim⟩⟩
theorem di_range2 {tg a b : Expr} {f : M (List Opd)} {p pos : Pos} (hg : Gl X "range") (hm : X.mg "range" = none) (ha : DA X F [a, b] f) (hs : starEach [a, b] X.env = [(false, eval a X.env), (false, eval b X.env)] := by rfl) (hs2 : starEach [b] X.env = [(false, eval b X.env)] := by rfl) : DI X F tg (.Call (.Name "range" p) [a, b] [] pos) (dRange2 f) :=
  ⟨PI.weak (pi_range2 hg hm ha.pa hs hs2) fun σ H R ⟨Hs, E, T, S, e1, q⟩ => ⟨Hs, E, T, S, e1, q.bind fun vs os env' Hs1 H1 E1 ex1 m1 m2 p1 q1 => by
    subst m2
    cases qi : opInts os (E1.map Prod.snd) with
    | none => rw [qi] at q1; exact q1.elim
    | some is =>
      rw [qi] at q1
      match is, qi, q1 with
      | [i, j], qi, q1 =>
        try simp only at q1
        split at q1
        · rename_i ho
          obtain ⟨o1, o2⟩ := Bool.and_eq_true_iff.mp ho
          have e := ints_of p1.1 p1.2 qi
          exact ⟨i, j, e, ⟨(rOk_of o1).1, (rOk_of o1).2, (rOk_of o2).1, (rOk_of o2).2⟩, q1 (Itr i (j - i).toNat) Hs1 H1 E1 (Ex.refl _) m1 rfl ⟨p1.1, itR_range⟩⟩
        · exact q1.elim
      | [], qi, q1 => exact q1.elim
      | [_], qi, q1 => exact q1.elim
      | _ :: _ :: _ :: _, qi, q1 => exact q1.elim⟩⟩
/-! ### enumerate, zip: what is walked is shared -/
theorem sqG_of {G : Gx} {Hs : Hp} {d : D} {v : V} {l : List D} (hi : items d = some l) (r : Rep G Hs d v) : ∃ t a vs, v = .ref a ∧ SqG G.K Hs t a vs ∧ RepL G Hs l vs := by
  cases d with
  | lst l' => cases hi; obtain ⟨a, vs, rfl, h1, h2⟩ := r; exact ⟨false, a, vs, rfl, SqL.of h1, h2⟩
  | fz l' => cases hi; obtain ⟨a, vs, rfl, h1, h2⟩ := r; exact ⟨false, a, vs, rfl, h1, h2⟩
  | tup l' => cases hi; obtain ⟨a, vs, rfl, h1, h2⟩ := r; exact ⟨true, a, vs, rfl, SqT.of h1, h2⟩
  | tz l' => cases hi; obtain ⟨a, vs, rfl, h1, h2⟩ := r; exact ⟨true, a, vs, rfl, tz_sq h1, h2⟩
  | _ => cases hi
theorem sqG_ex {K : PySem.W.Frag} {H H' : Hp} {t : Bool} {a : Addr} {xs : List V} (e : Ex H H') (h : SqG K H t a xs) : SqG K H' t a xs := by
  cases t with
  | false => exact sqL_ex e h
  | true => exact sqT_ex e h
def enumD (i : Int) : List D → List D
  | [] => []
  | d :: r => .tup [.int i, d] :: enumD (i + 1) r
theorem enumD_len (i : Int) (l : List D) : (enumD i l).length = l.length := by
  induction l generalizing i with
  | nil => rfl
  | cons d r ih => show (enumD (i + 1) r).length + 1 = _; rw [ih]; rfl
theorem enumD_get (l : List D) (k : Int) (i : Nat) {d : D} (h : l[i]? = some d) : (enumD k l)[i]? = some (.tup [.int (k + i), d]) := by
  induction l generalizing k i with
  | nil => simp at h
  | cons x r ih =>
    cases i with
    | zero =>
      have : x = d := by simpa using h
      subst this
      show some (D.tup [.int k, x]) = _; simp
    | succ i =>
      show (enumD (k + 1) r)[i]? = _
      rw [ih (k + 1) i (by simpa using h)]
      congr 4
      omega
theorem itR_enum {G : Gx} {Hs : Hp} {t : Bool} {a : Addr} {vs : List V} {l : List D} (h : SqG G.K Hs t a vs) (r : RepL G Hs l vs) : ItR G Hs (IteG G.K t a) (enumD 0 l) :=
  ⟨fun i H hi e => by
    rw [enumD_len] at hi
    exact ⟨vs, vs[i]'(by rw [← r.length]; exact hi), sqG_ex e h, by simp⟩, fun H e => ⟨vs, sqG_ex e h, by rw [enumD_len, r.length]⟩, fun i H x H' hi e y => by
    obtain ⟨T, z, rfl, hT, rfl, hz⟩ := y
    obtain ⟨d, h1, h2⟩ := r.get' (hz vs (sqG_ex e h))
    refine ⟨_, enumD_get l 0 i h1, .inr ⟨T, _, _, rfl, hT, rfl, rfl, ?_⟩⟩
    exact RepL.cons (by show V.int _ = V.int _; simp) (RepL.cons h2 RepL.nil)⟩
def vals1 : List Opd → Option D
  | [.val d] => some d
  | _ => none
def dEnum (f : M (List Opd)) : M (List D) := M.bind f fun os e => match vals os with
  | some [d] => (match items d with
    | some l => .ok (enumD 0 l) e
    | none => .stuck)
  | _ => .stuck
theorem di_enum {e : Expr} {f : M (List Opd)} {p pos tpos : Pos} {elts : List Expr} {kk : Nat} (hK : F.G.K = X.K) (hg : Gl X "enumerate") (hm : X.mg "enumerate" = none) (ha : DA X F [e] f) (hs : starEach [e] X.env = [(false, eval e X.env)] := by rfl) :
    DI X F (.Tuple elts kk tpos) (.Call (.Name "enumerate" p) [e] [] pos) (dEnum f) := ⟨PI.weak (pi_enumG hg hm ha.pa hs) fun σ H R ⟨Hs, E, T, S, e1, q⟩ => ⟨Hs, E, T, S, e1, q.bind fun vs os env' Hs1 H1 E1 ex1 m1 m2 p1 q1 => by
    subst m2
    cases qv : vals os with
    | none => rw [qv] at q1; exact q1.elim
    | some ds =>
      rw [qv] at q1
      match ds, qv, q1 with
      | [d], qv, q1 =>
        try simp only at q1
        cases qi : items d with
        | none => rw [qi] at q1; exact q1.elim
        | some l =>
          rw [qi] at q1
          obtain ⟨v, r, rfl, r1, r2⟩ := vals_rep p1.2 qv
          have : r = [] := r2
          subst this
          obtain ⟨t, a, ws, rfl, h1, h2⟩ := sqG_of qi r1
          rw [hK] at h1
          exact ⟨t, a, ws, rfl, sqG_ex p1.1.eS h1, q1 (IteG X.K t a) Hs1 H1 E1 (Ex.refl _) m1 rfl ⟨p1.1, by rw [← hK] at h1 ⊢; exact itR_enum h1 h2⟩⟩
      | [], qv, q1 => exact q1.elim
      | _ :: _ :: _, qv, q1 => exact q1.elim⟩⟩
def zipD : List D → List D → List D
  | x :: xs, y :: ys => .tup [x, y] :: zipD xs ys
  | _, _ => []
theorem zipD_len : ∀ l m : List D, (zipD l m).length = min l.length m.length
  | [], m => by simp [zipD]
  | _ :: _, [] => by simp [zipD]
  | x :: l, y :: m => by show (zipD l m).length + 1 = _; rw [zipD_len l m, List.length_cons, List.length_cons]; omega
theorem zipD_get : ∀ (l m : List D) (i : Nat) {x y : D}, l[i]? = some x → m[i]? = some y → (zipD l m)[i]? = some (.tup [x, y])
  | [], _, _, _, _, h, _ => by simp at h
  | _ :: _, [], _, _, _, _, h => by simp at h
  | a :: l, b :: m, 0, x, y, h, k => by
    have e1 : a = x := by simpa using h
    have e2 : b = y := by simpa using k
    subst e1 e2; rfl
  | a :: l, b :: m, i + 1, x, y, h, k => by
    show (zipD l m)[i]? = _
    exact zipD_get l m i (by simpa using h) (by simpa using k)
theorem itR_zip {G : Gx} {Hs : Hp} {t u : Bool} {a b : Addr} {vs ws : List V} {l m : List D} (h : SqG G.K Hs t a vs) (r : RepL G Hs l vs) (h' : SqG G.K Hs u b ws) (r' : RepL G Hs m ws) : ItR G Hs (ItzG G.K t u a b) (zipD l m) :=
  ⟨fun i H hi e => by
    rw [zipD_len, r.length, r'.length] at hi
    exact ⟨vs, ws, vs[i]'(by omega), ws[i]'(by omega), sqG_ex e h, sqG_ex e h', by simp, by simp⟩, fun H e => ⟨vs, ws, sqG_ex e h, sqG_ex e h', by rw [zipD_len, r.length, r'.length]; omega, by rw [zipD_len, r.length, r'.length]; omega, by rw [zipD_len, r.length, r'.length]; omega⟩, fun i H x H' hi e y => by
    obtain ⟨T, z1, z2, rfl, hT, rfl, hz1, hz2⟩ := y
    obtain ⟨d, h1, h2⟩ := r.get' (hz1 vs (sqG_ex e h))
    obtain ⟨d', h1', h2'⟩ := r'.get' (hz2 ws (sqG_ex e h'))
    exact ⟨_, zipD_get l m i h1 h1', .inr ⟨T, _, _, rfl, hT, rfl, rfl, RepL.cons h2 (RepL.cons h2' RepL.nil)⟩⟩⟩
def dZip (f : M (List Opd)) : M (List D) := M.bind f fun os e => match vals os with
  | some [d, d'] => (match items d, items d' with
    | some l, some m => .ok (zipD l m) e
    | _, _ => .stuck)
  | _ => .stuck
theorem di_zip {e e2 : Expr} {f : M (List Opd)} {p pos tpos : Pos} {elts : List Expr} {kk : Nat} (hK : F.G.K = X.K) (hg : Gl X "zip") (hm : X.mg "zip" = none) (ha : DA X F [e, e2] f)
    (hs : starEach [e, e2] X.env = (false, eval e X.env) :: starEach [e2] X.env := by rfl) (hpl : (backTo pos (starEach [e2] X.env)).any (·.1) = false := by rfl) :
    DI X F (.Tuple elts kk tpos) (.Call (.Name "zip" p) [e, e2] [] pos) (dZip f) := ⟨PI.weak (pi_zipG hg hm ha.pa hs hpl) fun σ H R ⟨Hs, E, T, S, e1, q⟩ => ⟨Hs, E, T, S, e1, q.bind fun vs os env' Hs1 H1 E1 ex1 m1 m2 p1 q1 => by
    subst m2
    cases qv : vals os with
    | none => rw [qv] at q1; exact q1.elim
    | some ds =>
      rw [qv] at q1
      match ds, qv, q1 with
      | [d, d'], qv, q1 =>
        try simp only at q1
        cases qi : items d with
        | none => rw [qi] at q1; exact q1.elim
        | some l =>
          cases qi' : items d' with
          | none => rw [qi, qi'] at q1; exact q1.elim
          | some m =>
            rw [qi, qi'] at q1
            obtain ⟨v, r, rfl, r1, v', r', rfl, r2, r3⟩ := vals_rep p1.2 qv
            have : r' = [] := r3
            subst this
            obtain ⟨t, a, ws, rfl, h1, h2⟩ := sqG_of qi r1
            obtain ⟨u, b, ws', rfl, h1', h2'⟩ := sqG_of qi' r2
            rw [hK] at h1 h1'
            exact ⟨t, u, a, b, ws, ws', rfl, sqG_ex p1.1.eS h1, sqG_ex p1.1.eS h1', q1 (ItzG X.K t u a b) Hs1 H1 E1 (Ex.refl _) m1 rfl ⟨p1.1, by rw [← hK] at h1 h1' ⊢; exact itR_zip h1 h2 h1' h2'⟩⟩
      | [], qv, q1 => exact q1.elim
      | [_], qv, q1 => exact q1.elim
      | _ :: _ :: _ :: _, qv, q1 => exact q1.elim⟩⟩
end
end Dl
set_option Elab.async false
set_option linter.all false
set_option maxRecDepth 100000
set_option maxHeartbeats 4000000
namespace Dl
open PySem PySem.Spec PyProof.Rows L2
/-! ### what a callee leaves -/
def Nt (Hs : Hp) : Prop := ∀ a o, Hs a = some o → notTbl o = true
structure Left (G : Gx) (Hs H Hs' H' : Hp) : Prop where
  eS : Ex Hs Hs'
  sub : Ex Hs' H'
  eB : Ex H H'
  nt : Nt Hs'
  nw : ∀ a o, Hs' a = some o → (∃ o', Hs a = some o') ∨ H a = none
  tb : TbOk G H'
def Fresh (H Hs' H' : Hp) (P : Addr → Prop) : Prop := ∀ a, P a → H a = none ∧ Hs' a = none ∧ ∃ o, H' a = some o
open Classical in
noncomputable def minus (H : Hp) (P : Addr → Prop) : Hp := fun a => if P a then none else H a
theorem minus_in {H : Hp} {P : Addr → Prop} {a : Addr} (h : P a) : minus H P a = none := if_pos h
theorem minus_out {H : Hp} {P : Addr → Prop} {a : Addr} (h : ¬ P a) : minus H P a = H a := if_neg h
theorem minus_none {H : Hp} : minus H (fun _ => False) = H := funext fun a => if_neg fun z => z
theorem minus_ex {H : Hp} {P : Addr → Prop} : Ex (minus H P) H := fun a o h => by
  by_cases z : P a
  · rw [minus_in z] at h; cases h
  · rw [minus_out z] at h; exact ⟨fun _ => h, o, h⟩
section
variable {G : Gx} {B Hs0 Hs Hs' H H' : Hp} {L : List Ent} {x : Option V} {P P' : Addr → Prop} {s : Slot}
/-- what a place owns is no table -/
theorem ooRel_nt : ∀ {ll : List (List D)} {as : List Addr}, OoRel G Hs H P ll as → OoRel G Hs H (fun a => P a ∧ ∃ o, H a = some o ∧ notTbl o = true) ll as
  | [], _, h => h
  | l :: ll, _, ⟨b, r, vs, h1, h2, h3, h4, h5⟩ => ⟨b, r, vs, h1, ⟨h2, _, h3, rfl⟩, h3, h4, ooRel_nt h5⟩
theorem OneRel.nt (h : OneRel G Hs H x P s) : OneRel G Hs H x (fun a => P a ∧ ∃ o, H a = some o ∧ notTbl o = true) s := by
  cases s with
  | un => trivial
  | sh d => exact h
  | ol l => obtain ⟨a, vs, h1, h2, h3, h4⟩ := h; exact ⟨a, vs, h1, ⟨h2, _, h3, rfl⟩, h3, h4⟩
  | od t ks l =>
    cases t with
    | false => obtain ⟨a, vs, h1, h2, h3, h4, h5⟩ := h; exact ⟨a, vs, h1, ⟨h2, _, h3, rfl⟩, h3, h4, h5⟩
    | true => obtain ⟨a, vs, h1, h2, h3, h4, h5⟩ := h; exact ⟨a, vs, h1, ⟨h2, _, h3, rfl⟩, h3, h4, h5⟩
  | oo ll => obtain ⟨a, as, h1, h2, h3, h4, h5, h6⟩ := h; exact ⟨a, as, h1, ⟨h2, _, h3, rfl⟩, h3, h4, h5, ooRel_nt h6⟩
  | oi c ns l => obtain ⟨a, C, dx, vs, h1, h2, h3, h4, h5, h6⟩ := h; exact ⟨a, C, dx, vs, h1, ⟨h2, _, h4, rfl⟩, h3, h4, h5, h6⟩
  | me a m => obtain ⟨h1, h2, h3⟩ := h; exact ⟨h1, ⟨h2, h3.ob⟩, h3⟩
theorem Left.later {H0 : Hp} (e : Ex H0 H) (l : Left G Hs H Hs' H') : Left G Hs H0 Hs' H' := ⟨l.eS, l.sub, e.trans l.eB, l.nt, fun a o h => (l.nw a o h).imp id fun z => e.free z, l.tb⟩
theorem strip_free {B H : Hp} {a : Addr} (e : Ex B H) (nb : ∀ a o, B a = some o → notTbl o = true) (h : strip H a = none) : B a = none := by
  cases q : B a with
  | none => rfl
  | some o =>
    have n := nb a o q
    rw [strip_of (e.get q n) n] at h
    cases h
/-- a call that writes nothing that was there -/
theorem StR.call0 {v : V} (S : StR G B Hs0 Hs H L) (l : Left G Hs (strip H) Hs' H') (f : Fresh (strip H) Hs' H' P) (r : OneRel G Hs' H' (some v) P s) : StR G B Hs0 Hs' H' (L ++ [(some v, s)]) := by
  obtain ⟨A, a1, a2, a3⟩ := S.own
  have nH : ∀ i a o, A i a → H a = some o → notTbl o = true → Hs' a = none := fun i a o2 h q3 n => by
    cases q : Hs' a with
    | none => rfl
    | some o =>
      obtain ⟨q1, q2, _⟩ := a2 i a h
      rcases l.nw a o q with ⟨o', z⟩ | z
      · rw [q1] at z; cases z
      · rw [strip_of q3 n] at z; cases z
  have sB : ∀ a, strip H a = none → B a = none := fun a h => strip_free S.eB S.nb h
  refine ⟨S.eB.strip S.nb l.eB, l.sub, S.e0.trans l.eS, l.nt, fun a o h => ?_, l.tb, S.nb,
    fun i a => (i < L.length ∧ A i a ∧ ∃ o, H a = some o ∧ notTbl o = true) ∨ (i = L.length ∧ P a), fun i j a h1 h2 => ?_, fun i a h => ?_, fun i y t h => ?_⟩
  · rcases l.nw a o h with ⟨o', z⟩ | z
    · exact S.nw a o' z
    · exact .inr (sB a z)
  · rcases h1 with ⟨l1, h1, o1, z1, n1⟩ | ⟨e1, h1⟩ <;> rcases h2 with ⟨l2, h2, o2, z2, n2⟩ | ⟨e2, h2⟩
    · exact a1 i j a h1 h2
    · have z := (f a h2).1; rw [strip_of z1 n1] at z; cases z
    · have z := (f a h1).1; rw [strip_of z2 n2] at z; cases z
    · omega
  · rcases h with ⟨l1, h, o, z1, z2⟩ | ⟨e1, h⟩
    · exact ⟨nH i a o h z1 z2, (a2 i a h).2.1, o, l.eB.get (strip_of z1 z2) z2⟩
    · obtain ⟨q1, q2, q3⟩ := f a h
      exact ⟨q2, sB a q1, q3⟩
  · by_cases hi : i < L.length
    · rw [List.getElem?_append_left hi] at h
      exact (a3 i y t h).nt.mono l.eS (fun a o pa q => by
        obtain ⟨_, o', z1, z2⟩ := pa
        rw [z1] at q; cases q
        exact l.eB.get (strip_of z1 z2) z2) fun a pa => .inl ⟨hi, pa⟩
    · rw [List.getElem?_append_right (by omega)] at h
      have e : i - L.length = 0 := by
        by_cases z : i - L.length = 0
        · exact z
        · rw [List.getElem?_eq_none (by simp; omega)] at h; cases h
      rw [e] at h
      cases h
      exact r.mono (Ex.refl _) (fun _ _ _ q => q) fun a pa => .inr ⟨by omega, pa⟩
/-- the object that a place owns -/
def _root_.Dl.Slot.own? : Slot → Option Me
  | .ol l => some (.l l)
  | .od t ks l => some (.d t ks l)
  | .oi c ns l => some (.i c ns l)
  | .me _ m => some m
  | _ => none
def _root_.Dl.Slot.put : Slot → Me → Slot
  | .me a _, m => .me a m
  | _, .l xs => .ol xs
  | _, .d t ks vs => .od t ks vs
  | _, .i c ns vs => .oi c ns vs
theorem own_me {m : Me} (h : OneRel G Hs H x P s) (e : s.own? = some m) : ∃ a, x = some (.ref a) ∧ P a ∧ MeR G Hs H a m ∧ ∀ {Hs' H' : Hp} {P' : Addr → Prop} {m' : Me}, P' a → MeR G Hs' H' a m' → OneRel G Hs' H' x P' (s.put m') := by
  have fresh : ∀ a, (∀ b n, s ≠ .me b n) → x = some (.ref a) → ∀ {Hs' H' : Hp} {P' : Addr → Prop} {m' : Me}, P' a → MeR G Hs' H' a m' → OneRel G Hs' H' x P' (s.put m') := by
    intro a hs hx Hs' H' P' m' pa r
    have : s.put m' = (Slot.un).put m' := by
      cases s with
      | me b n => exact absurd rfl (hs b n)
      | _ => cases m' <;> rfl
    rw [this]
    cases m' with
    | l xs => obtain ⟨vs, h1, h2⟩ := r; exact ⟨a, vs, hx, pa, h1, h2⟩
    | d t ks vs =>
      cases t with
      | false => obtain ⟨kvs, h1, h2, h3⟩ := r; exact ⟨a, kvs, hx, pa, h1, h2, h3⟩
      | true => obtain ⟨kvs, h1, h2, h3⟩ := r; exact ⟨a, kvs, hx, pa, h1, h2, h3⟩
    | i c ns vs => obtain ⟨C, dx, us, h1, h2, h3, h4⟩ := r; exact ⟨a, C, dx, us, hx, pa, h1, h2, h3, h4⟩
  cases s with
  | un => cases e
  | sh d => cases e
  | oo ll => cases e
  | ol l => cases e; obtain ⟨a, vs, h1, h2, h3, h4⟩ := h; exact ⟨a, h1, h2, ⟨vs, h3, h4⟩, fresh a (fun _ _ => Slot.noConfusion) h1⟩
  | od t ks l =>
    cases e
    cases t with
    | false => obtain ⟨a, vs, h1, h2, h3, h4, h5⟩ := h; exact ⟨a, h1, h2, ⟨vs, h3, h4, h5⟩, fresh a (fun _ _ => Slot.noConfusion) h1⟩
    | true => obtain ⟨a, vs, h1, h2, h3, h4, h5⟩ := h; exact ⟨a, h1, h2, ⟨vs, h3, h4, h5⟩, fresh a (fun _ _ => Slot.noConfusion) h1⟩
  | oi c ns l => cases e; obtain ⟨a, C, dx, vs, h1, h2, h3, h4, h5, h6⟩ := h; exact ⟨a, h1, h2, ⟨C, dx, vs, h3, h4, h5, h6⟩, fresh a (fun _ _ => Slot.noConfusion) h1⟩
  | me b n => cases e; obtain ⟨h1, h2, h3⟩ := h; exact ⟨b, h1, h2, h3, fun pa r => ⟨h1, pa, r⟩⟩
/-- a call that writes what the place i owns -/
theorem StR.callM {i : Nat} {m : Me} (S : StR G B Hs0 Hs H L) (hi : L[i]? = some (x, s)) (hm : s.own? = some m) : ∃ a, x = some (.ref a) ∧ MeR G Hs H a m ∧ Hs a = none ∧
    ∀ {Hs' H' : Hp} {P P' : Addr → Prop} {s' t : Slot} {v : V}, Left G Hs (minus (strip H) fun b => b = a) Hs' H' → Fresh (minus (strip H) fun b => b = a) Hs' H' P → Fresh (minus (strip H) fun b => b = a) Hs' H' P' → (∀ a, P a → P' a → False) → OneRel G Hs' H' x P' s' → OneRel G Hs' H' (some v) P t →
      StR G B Hs0 Hs' H' (L.set i (x, s') ++ [(some v, t)]) := by
  obtain ⟨A, a1, a2, a3⟩ := S.own
  have il := (List.getElem?_eq_some_iff.mp hi).1
  obtain ⟨a0, hx, pa0, mr, _⟩ := own_me (a3 i x s hi) hm
  let P0 : Addr → Prop := fun b => b = a0
  have z1 : ∀ b, P0 b → A i b := fun b z => by rw [show b = a0 from z]; exact pa0
  refine ⟨a0, hx, mr, (a2 i a0 pa0).1, fun {Hs' H' P P' s' t v} l f f' dj r' r => ?_⟩
  have nP : ∀ j a, j ≠ i → A j a → ¬ P0 a := fun j a hj h z => hj (a1 j i a h (z1 a z))
  have mH : ∀ j a o, j ≠ i → A j a → H a = some o → notTbl o = true → minus (strip H) P0 a = some o := fun j a o hj h q n => by rw [minus_out (nP j a hj h)]; exact strip_of q n
  have nB : ∀ a, minus (strip H) P0 a = none → B a = none := fun a h => by
    by_cases z : P0 a
    · exact (a2 i a (z1 a z)).2.1
    · rw [minus_out z] at h; exact strip_free S.eB S.nb h
  have nH : ∀ j a o, j ≠ i → A j a → H a = some o → notTbl o = true → Hs' a = none := fun j a o2 hj h q3 n => by
    cases q : Hs' a with
    | none => rfl
    | some o =>
      obtain ⟨q1, q2, _⟩ := a2 j a h
      rcases l.nw a o q with ⟨o', z⟩ | z
      · rw [q1] at z; cases z
      · rw [mH j a o2 hj h q3 n] at z; cases z
  have eB' : Ex B H' := fun a o h => by
    have : ¬ P0 a := fun z => by rw [(a2 i a (z1 a z)).2.1] at h; cases h
    have n := S.nb a o h
    have h1 := l.eB.get (a := a) (o := o) (by rw [minus_out this]; exact strip_of (S.eB.get h n) n) n
    exact ⟨fun _ => h1, o, h1⟩
  refine ⟨eB', l.sub, S.e0.trans l.eS, l.nt, fun a o h => ?_, l.tb, S.nb,
    fun j a => (j < L.length ∧ j ≠ i ∧ A j a ∧ ∃ o, H a = some o ∧ notTbl o = true) ∨ ((j = i ∧ P' a) ∨ (j = L.length ∧ P a)), fun j k a h1 h2 => ?_, fun j a h => ?_, fun j y u h => ?_⟩
  · rcases l.nw a o h with ⟨o', z⟩ | z
    · exact S.nw a o' z
    · exact .inr (nB a z)
  · rcases h1 with ⟨l1, n1, h1, o1, y1, m1⟩ | ⟨e1, h1⟩ | ⟨e1, h1⟩ <;> rcases h2 with ⟨l2, n2, h2, o2, y2, m2⟩ | ⟨e2, h2⟩ | ⟨e2, h2⟩
    · exact a1 j k a h1 h2
    · have z := (f' a h2).1; rw [mH j a o1 n1 h1 y1 m1] at z; cases z
    · have z := (f a h2).1; rw [mH j a o1 n1 h1 y1 m1] at z; cases z
    · have z := (f' a h1).1; rw [mH k a o2 n2 h2 y2 m2] at z; cases z
    · omega
    · exact (dj a h2 h1).elim
    · have z := (f a h1).1; rw [mH k a o2 n2 h2 y2 m2] at z; cases z
    · exact (dj a h1 h2).elim
    · omega
  · rcases h with ⟨l1, n1, h, o, z1, z2⟩ | ⟨e1, h⟩ | ⟨e1, h⟩
    · exact ⟨nH j a o n1 h z1 z2, (a2 j a h).2.1, o, l.eB.get (mH j a o n1 h z1 z2) z2⟩
    · obtain ⟨q1, q2, q3⟩ := f' a h
      exact ⟨q2, nB a q1, q3⟩
    · obtain ⟨q1, q2, q3⟩ := f a h
      exact ⟨q2, nB a q1, q3⟩
  · by_cases hj : j < L.length
    · rw [List.getElem?_append_left (by simpa using hj)] at h
      by_cases z : i = j
      · subst z
        rw [List.getElem?_set_self il] at h
        cases h
        exact r'.mono (Ex.refl _) (fun _ _ _ q => q) fun a pa => .inr (.inl ⟨rfl, pa⟩)
      · rw [List.getElem?_set_ne z] at h
        exact (a3 j y u h).nt.mono l.eS (fun a o pa q => by
          obtain ⟨pa, o', z1, z2⟩ := pa
          rw [z1] at q; cases q
          exact l.eB.get (mH j a _ (Ne.symm z) pa z1 z2) z2) fun a pa => .inl ⟨hj, Ne.symm z, pa⟩
    · rw [List.getElem?_append_right (by simp; omega), List.length_set] at h
      have e : j - L.length = 0 := by
        by_cases z : j - L.length = 0
        · exact z
        · rw [List.getElem?_eq_none (by simp; omega)] at h; cases h
      rw [e] at h
      cases h
      exact r.mono (Ex.refl _) (fun _ _ _ q => q) fun a pa => .inr (.inr ⟨by omega, pa⟩)
end
/-! ### promises -/
inductive Rs where
  | ok (s : Slot)
  | exc (x : Exn)
  | stuck
def Rs.met (G : Gx) (Hs H : Hp) (Q : VK) (E : XK) : Rs → Prop
  | .ok s => ∀ (v : V) (Hs' H' : Hp) (P : Addr → Prop), Left G Hs H Hs' H' → Fresh H Hs' H' P → OneRel G Hs' H' (some v) P s → Q v H'
  | .exc x => ∀ (cls : Value) (d : Option Addr) (Hs' H' : Hp), Left G Hs H Hs' H' → ExcAt G Hs' H' x cls d → E cls d H'
  | .stuck => False
/-- a def that writes nothing that was there -/
def spP (G : Gx) (n : Nat) (Fn : List D → Rs) : Sp := fun vs H Q E => vs.length = n ∧ ∃ Hs ds, Ex Hs H ∧ (Nt Hs ∧ TbOk G H) ∧ RepL G Hs ds vs ∧ (Fn ds).met G Hs (strip H) Q E
inductive Rm where
  | ok (m : Me) (s : Slot)
  | exc (x : Exn)
  | stuck
def Rm.met (G : Gx) (a : Addr) (Hs H : Hp) (Q : VK) (E : XK) : Rm → Prop
  | .ok m s => ∀ (v : V) (Hs' H' : Hp) (P : Addr → Prop), Left G Hs H Hs' H' → Fresh H Hs' H' P → ¬ P a → Hs' a = none → MeR G Hs' H' a m → OneRel G Hs' H' (some v) P s → Q v H'
  | .exc x => ∀ (cls : Value) (d : Option Addr) (Hs' H' : Hp), Left G Hs H Hs' H' → ExcAt G Hs' H' x cls d → E cls d H'
  | .stuck => False
/-- a def that writes its first argument -/
def spM (G : Gx) (n : Nat) (Fn : Me → List D → Rm) : Sp := fun vs H Q E => vs.length = n + 1 ∧ ∃ a vr Hs m0 ds, vs = .ref a :: vr ∧ Ex Hs H ∧ (Nt Hs ∧ TbOk G H) ∧ RepL G Hs ds vr ∧ MeR G Hs H a m0 ∧ Hs a = none ∧
  (Fn m0 ds).met G a Hs (minus (strip H) fun b => b = a) Q E
/-! ### a def's body -/
def env0 (n : Nat) (ds : List D) : Env := ds.map Slot.sh ++ List.replicate (n - ds.length) .un
def Fl.rs : Fl → Rs
  | .nx _ => .ok (.sh .non)
  | .rt s _ => .ok s
  | .exc x _ => .exc x
  | _ => .stuck
def rmAt (a : Addr) (s : Slot) : List Slot → Rm
  | .me b m :: _ => if b = a then .ok m s else .stuck
  | _ => .stuck
def Fl.rm (a : Addr) : Fl → Rm
  | .nx e => rmAt a (.sh .non) e
  | .rt s e => rmAt a s e
  | .exc x _ => .exc x
  | _ => .stuck
def fnP (N : Nat) (f : Sm) : List D → Rs := fun ds => (f (env0 N ds)).rs
def fnM (N : Nat) (f : Sm) (a : Addr) (m : Me) (ds : List D) : Rm := (f (.me a m :: env0 (N - 1) ds)).rm a
def ent0 (vs : List V) (ds : List D) : List Ent := (vs.zip ds).map fun p => (some p.1, Slot.sh p.2)
theorem ent0_fst : ∀ {vs : List V} {ds : List D}, ds.length = vs.length → (ent0 vs ds).map Prod.fst = vs.map some
  | [], [], _ => rfl
  | v :: vs, d :: ds, h => by
    have := ent0_fst (vs := vs) (ds := ds) (by simpa using h)
    show some v :: (ent0 vs ds).map Prod.fst = some v :: vs.map some
    rw [this]
  | [], _ :: _, h => by simp at h
  | _ :: _, [], h => by simp at h
theorem ent0_snd : ∀ {vs : List V} {ds : List D}, ds.length = vs.length → (ent0 vs ds).map Prod.snd = ds.map Slot.sh
  | [], [], _ => rfl
  | v :: vs, d :: ds, h => by
    have := ent0_snd (vs := vs) (ds := ds) (by simpa using h)
    show Slot.sh d :: (ent0 vs ds).map Prod.snd = Slot.sh d :: ds.map Slot.sh
    rw [this]
  | [], _ :: _, h => by simp at h
  | _ :: _, [], h => by simp at h
theorem ent0_len {vs : List V} {ds : List D} (h : ds.length = vs.length) : (ent0 vs ds).length = vs.length := by simp [ent0, h]
theorem ent0_one {G : Gx} {Hs H : Hp} {P : Addr → Prop} : ∀ {vs : List V} {ds : List D} {i : Nat} {x : Option V} {s : Slot}, RepL G Hs ds vs → (ent0 vs ds)[i]? = some (x, s) → OneRel G Hs H x P s
  | [], _, _, _, _, _, h => by simp [ent0] at h
  | _ :: _, [], _, _, _, _, h => by simp [ent0] at h
  | v :: vs, d :: ds, 0, x, s, ⟨v', r, e, h1, h2⟩, h => by
    cases e; cases h
    exact ⟨v, rfl, h1⟩
  | v :: vs, d :: ds, i + 1, x, s, ⟨v', r, e, h1, h2⟩, h => by
    cases e
    exact ent0_one (vs := vs) (ds := ds) (i := i) h2 (by simpa [ent0] using h)
theorem start_st {G : Gx} {Hs H : Hp} {vs : List V} {ds : List D} {n : Nat} (e : Ex Hs H) (nt : Nt Hs ∧ TbOk G H) (r : RepL G Hs ds vs) : StR G (strip H) Hs Hs H (ent0 vs ds ++ List.replicate n (none, .un)) :=
  ⟨strip_ex H, e, Ex.refl _, nt.1, fun a o h => .inl ⟨o, h⟩, nt.2, strip_nt H, fun _ _ => False, fun _ _ _ z => z.elim, fun _ _ z => z.elim, fun i x s h => by
    by_cases hi : i < (ent0 vs ds).length
    · rw [List.getElem?_append_left hi] at h; exact ent0_one r h
    · rw [List.getElem?_append_right (by omega), List.getElem?_replicate] at h
      split at h
      · cases h; trivial
      · cases h⟩
theorem st_left {G : Gx} {Hs H Hs' H' : Hp} {L : List Ent} (S : StR G H Hs Hs' H' L) : Left G Hs H Hs' H' := ⟨S.e0, S.eS, S.eB, S.nt, S.nw, S.tb⟩
theorem st_last {G : Gx} {B Hs Hs' H' : Hp} {L : List Ent} {v : V} {s : Slot} (S : StR G B Hs Hs' H' (L ++ [(some v, s)])) : ∃ P, Fresh B Hs' H' P ∧ OneRel G Hs' H' (some v) P s := by
  obtain ⟨A, a1, a2, a3⟩ := S.own
  exact ⟨A L.length, fun a h => ⟨(a2 _ a h).2.1, (a2 _ a h).1, (a2 _ a h).2.2⟩, a3 L.length _ _ (by rw [List.getElem?_append_right (Nat.le_refl _), Nat.sub_self]; rfl)⟩
abbrev frmOf (G : Gx) (B Hs : Hp) (E : XK) : Frm := ⟨G, B, Hs, fun cls d _ H' => E cls d H'⟩
theorem pure_body {G : Gx} {N ps : List Str} {f : Sm} {vs : List V} {ds : List D} {Hs H : Hp} {Q : VK} {E : XK} (hn : vs.length ≤ N.length) (e : Ex Hs H) (nt : Nt Hs ∧ TbOk G H) (r : RepL G Hs ds vs) (m : (fnP N.length f ds).met G Hs (strip H) Q E) :
    (frmOf G (strip H) Hs E).tS f { nx := fun _ H' => Q .non H', rt := Q } (L2.start N vs) H := by
  have hl := r.length
  refine ⟨Hs, ent0 vs ds ++ List.replicate (N.length - vs.length) (none, .un), start_st e nt r, ?_, ?_⟩
  · rw [List.map_append, ent0_fst hl, List.map_replicate]; rfl
  · have ee : (ent0 vs ds ++ List.replicate (N.length - vs.length) ((none, .un) : Ent)).map Prod.snd = env0 N.length ds := by
      rw [List.map_append, ent0_snd hl, List.map_replicate, env0, hl]
    rw [ee]
    unfold fnP at m
    cases q : f (env0 N.length ds) with
    | nx e' =>
      rw [q] at m
      intro Hs' H' E' _ _ S
      exact m .non Hs' H' (fun _ => False) (st_left S) (fun _ z => z.elim) ⟨_, rfl, rfl⟩
    | rt s e' =>
      rw [q] at m
      intro v Hs' H' E' _ _ S
      obtain ⟨P, h1, h2⟩ := st_last S
      exact m v Hs' H' P (st_left S) h1 h2
    | exc x e' =>
      rw [q] at m
      intro cls d Hs' H' E' _ _ S xx
      exact m cls d Hs' H' (st_left S) xx
    | bk e' => rw [q] at m; exact m.elim
    | ct e' => rw [q] at m; exact m.elim
    | stuck => rw [q] at m; exact m.elim
section
variable {P : Program} {w : World} {K : PySem.W.Frag} {mg : Str → Option Value} {base : Heap} {x qual : Str} {params : Arguments} {body : List Stmt} {scope : Scope} {f : Addr} {fd : FuncData} {G : Gx}
theorem fn_pure {N ps : List Str} {k : Nat} {fS : Sm} (n : Nat) (F : FunD K x qual params body scope [] [] f fd) (Sc : FnScope N ps scope) (hn : ps.length = n) (hN : n ≤ N.length)
    (hb : ∀ (cdv : Value) (A : Around) (outer : List PySem.Env) (s : Shared) (H B Hs : Hp) (E : XK), Room k (A.deeper (envOfC qual scope s.heap.objs.size f cdv)) →
      DSs (cxOf (L2.CX P w) P w K mg base N qual scope f cdv A outer s H E) (frmOf G B Hs E) body fS) : FnOk P w K mg base (L2.CX P w) (k + 1) f fd ps (spP G n (fnP N.length fS)) := by
  refine F.ok Sc (fun vs H Q E h => by rw [h.1, hn]) (fun cdv A outer s H vs Q E hr h => ?_)
  obtain ⟨h1, Hs, ds, e, nt, r, m⟩ := h
  exact ⟨_, (hb cdv A outer s H (strip H) Hs E hr).pss, pure_body (ps := ps) (by omega) e nt r m⟩
theorem mut_rm {Hs H Hs' H' : Hp} {a : Addr} {Q : VK} {E : XK} {E' : List Ent} {v : V} {s : Slot} (S : StR G (minus (strip H) fun b => b = a) Hs Hs' H' (E' ++ [(some v, s)]))
    (hm : (rmAt a s (E'.map Prod.snd)).met G a Hs (minus (strip H) fun b => b = a) Q E) : Q v H' := by
  cases E' with
  | nil => exact hm.elim
  | cons y E' =>
    obtain ⟨y, t⟩ := y
    cases t with
    | me b m' =>
      have hm : (if b = a then Rm.ok m' s else .stuck).met G a Hs (minus (strip H) fun b => b = a) Q E := hm
      split at hm
      · rename_i hb
        subst hb
        obtain ⟨A, a1, a2, a3⟩ := S.own
        obtain ⟨r1, r2, r3⟩ := a3 0 y _ rfl
        refine hm v Hs' H' (A (E'.length + 1)) (st_left S) (fun c h => ⟨(a2 _ c h).2.1, (a2 _ c h).1, (a2 _ c h).2.2⟩) (fun z => ?_) (a2 0 b r2).1 r3 (a3 (E'.length + 1) _ _ (by simp))
        have := a1 0 _ b r2 z
        omega
      · exact hm.elim
    | _ => exact hm.elim
theorem mut_body {N : List Str} {f : Sm} {a : Addr} {vs : List V} {ds : List D} {m0 : Me} {Hs H : Hp} {Q : VK} {E : XK} (hn : vs.length + 1 ≤ N.length) (e : Ex Hs H) (nt : Nt Hs ∧ TbOk G H) (r : RepL G Hs ds vs)
    (r0 : MeR G Hs H a m0) (h0 : Hs a = none) (m : (fnM N.length f a m0 ds).met G a Hs (minus (strip H) fun b => b = a) Q E) :
    (frmOf G (minus (strip H) fun b => b = a) Hs E).tS f { nx := fun _ H' => Q .non H', rt := Q } (L2.start N (.ref a :: vs)) H := by
  have hl := r.length
  have eB : Ex Hs (minus (strip H) fun b => b = a) := fun c o h => by
    have : ¬ c = a := fun z => by subst z; rw [h0] at h; cases h
    have n := nt.1 c o h
    have h1 : minus (strip H) (fun b => b = a) c = some o := by rw [minus_out (P := fun b => b = a) this]; exact strip_of (e.get h n) n
    exact ⟨fun _ => h1, o, h1⟩
  have S0 : StR G (minus (strip H) fun b => b = a) Hs Hs H ((some (.ref a), .me a m0) :: (ent0 vs ds ++ List.replicate (N.length - 1 - vs.length) (none, .un))) :=
    ⟨minus_ex.trans (strip_ex H), e, Ex.refl _, nt.1, fun c o h => .inl ⟨o, h⟩, nt.2, fun c o h => (by
      by_cases z : c = a
      · rw [minus_in (P := fun b => b = a) z] at h; cases h
      · rw [minus_out (P := fun b => b = a) z] at h; exact strip_nt H c o h), fun i c => i = 0 ∧ c = a, fun i j c h1 h2 => h1.1.trans h2.1.symm, fun i c h => by
      obtain ⟨_, rfl⟩ := h
      obtain ⟨o, z, _⟩ := r0.ob
      exact ⟨h0, minus_in rfl, o, z⟩, fun i x s h => by
      cases i with
      | zero => cases h; exact ⟨rfl, ⟨rfl, rfl⟩, r0⟩
      | succ i =>
        have h : (ent0 vs ds ++ List.replicate (N.length - 1 - vs.length) (none, .un))[i]? = some (x, s) := by simpa using h
        by_cases hi : i < (ent0 vs ds).length
        · rw [List.getElem?_append_left hi] at h; exact ent0_one r h
        · rw [List.getElem?_append_right (by omega), List.getElem?_replicate] at h
          split at h
          · cases h; trivial
          · cases h⟩
  refine ⟨Hs, _, S0, ?_, ?_⟩
  · rw [List.map_cons, List.map_append, ent0_fst hl, List.map_replicate]
    show some (V.ref a) :: (vs.map some ++ _) = L2.start N (.ref a :: vs)
    rw [L2.start, List.map_cons, List.length_cons, List.cons_append, Nat.sub_sub, Nat.add_comm 1]
  · have ee : (((some (.ref a), .me a m0) : Ent) :: (ent0 vs ds ++ List.replicate (N.length - 1 - vs.length) (none, .un))).map Prod.snd = .me a m0 :: env0 (N.length - 1) ds := by
      rw [List.map_cons, List.map_append, ent0_snd hl, List.map_replicate, env0, hl]
    rw [ee]
    unfold fnM at m
    cases q : f (.me a m0 :: env0 (N.length - 1) ds) with
    | nx e' =>
      rw [q] at m
      intro Hs' H' E' _ em S
      have S' := S.pushSh (v := .non) (d := .non) rfl
      exact mut_rm S' (by rw [em]; exact m)
    | rt s e' =>
      rw [q] at m
      intro v Hs' H' E' _ em S
      exact mut_rm S (by rw [em]; exact m)
    | exc x e' =>
      rw [q] at m
      intro cls d Hs' H' E' _ _ S xx
      exact m cls d Hs' H' (st_left S) xx
    | bk e' => rw [q] at m; exact m.elim
    | ct e' => rw [q] at m; exact m.elim
    | stuck => rw [q] at m; exact m.elim
theorem fn_mut {N ps : List Str} {k : Nat} {fS : Sm} {Fn : Me → List D → Rm} (n : Nat) (F : FunD K x qual params body scope [] [] f fd) (Sc : FnScope N ps scope) (hn : ps.length = n + 1) (hN : n + 1 ≤ N.length)
    (hf : ∀ a m ds, (Fn m ds) ≠ .stuck → fnM N.length fS a m ds = Fn m ds)
    (hb : ∀ (cdv : Value) (A : Around) (outer : List PySem.Env) (s : Shared) (H B Hs : Hp) (E : XK), Room k (A.deeper (envOfC qual scope s.heap.objs.size f cdv)) →
      DSs (cxOf (L2.CX P w) P w K mg base N qual scope f cdv A outer s H E) (frmOf G B Hs E) body fS) : FnOk P w K mg base (L2.CX P w) (k + 1) f fd ps (spM G n Fn) := by
  refine F.ok Sc (fun vs H Q E h => by rw [h.1, hn]) (fun cdv A outer s H vs Q E hr h => ?_)
  obtain ⟨h1, a, vr, Hs, m0, ds, rfl, e, nt, r, mr, h0, m⟩ := h
  refine ⟨_, (hb cdv A outer s H (minus (strip H) fun b => b = a) Hs E hr).pss, mut_body (by rw [List.length_cons] at h1; omega) e nt r mr h0 ?_⟩
  rw [hf a m0 ds (fun z => by rw [z] at m; exact m)]
  exact m
theorem fn_pureF {N ps : List Str} {k : Nat} {fS : Sm} {Fn : List D → Rs} (n : Nat) (F : FunD K x qual params body scope [] [] f fd) (Sc : FnScope N ps scope) (hn : ps.length = n) (hN : n ≤ N.length)
    (hf : ∀ ds, (Fn ds) ≠ .stuck → fnP N.length fS ds = Fn ds)
    (hb : ∀ (cdv : Value) (A : Around) (outer : List PySem.Env) (s : Shared) (H B Hs : Hp) (E : XK), Room k (A.deeper (envOfC qual scope s.heap.objs.size f cdv)) →
      DSs (cxOf (L2.CX P w) P w K mg base N qual scope f cdv A outer s H E) (frmOf G B Hs E) body fS) : FnOk P w K mg base (L2.CX P w) (k + 1) f fd ps (spP G n Fn) := by
  refine (fn_pure n F Sc hn hN hb).imp fun vs H Q E h => ?_
  obtain ⟨h1, Hs, ds, e, nt, r, m⟩ := h
  refine ⟨h1, Hs, ds, e, nt, r, ?_⟩
  rw [hf ds (fun z => by rw [z] at m; exact m)]
  exact m
end
/-! ### calls -/
def callK (n : Nat) (Fn : List D → Rs) (os : List Opd) : M Slot := fun e => match vals os with
  | some ds => (match Nat.beq ds.length n, Fn ds with
    | true, .ok s => .ok s e
    | true, .exc x => .exc x e
    | _, _ => .stuck)
  | none => .stuck
def dCall (n : Nat) (Fn : List D → Rs) (fa : M (List Opd)) : M Slot := M.bind fa (callK n Fn)
theorem end_call {G : Gx} {F : Frm} {Fn : List D → Rs} {σ : L2.St} {Hs H : Hp} {E T : List Ent} {vs : List V} {os : List Opd} {Q : VK} {n : Nat} (hG : F.G = G) (S : F.St Hs H (E ++ T)) (e1 : E.map Prod.fst = σ) (r : OpdsR F.G Hs E vs os)
    (q : F.End σ Hs T (F.pD T) (callK n Fn os (E.map Prod.snd)) Q) : spP G n Fn vs H Q (fun cls d H => F.W cls d σ H) := by
  subst hG
  unfold callK at q
  cases qv : vals os with
  | none => rw [qv] at q; exact q.elim
  | some ds =>
    rw [qv] at q
    simp only at q
    have rr := vals_rep r qv
    cases qn : Nat.beq ds.length n with
    | false => rw [qn] at q; exact q.elim
    | true =>
      rw [qn] at q
      refine ⟨by rw [← rr.length]; exact Nat.eq_of_beq_eq_true qn, Hs, ds, S.eS, ⟨S.nt, S.tb⟩, rr, ?_⟩
      cases qf : Fn ds with
      | ok s =>
        rw [qf] at q
        intro v Hs' H' P l f r1
        exact q v Hs' H' E l.eS e1 rfl (StR.call0 S l f r1)
      | exc x =>
        rw [qf] at q
        intro cls d Hs' H' l xx
        exact q cls d Hs' H' E l.eS e1 rfl (StR.pop (StR.call0 (v := .non) (s := .un) (P := fun _ => False) S l (fun _ z => z.elim) trivial)) xx
      | stuck => rw [qf] at q; exact q.elim
/-- the first argument is written: it is the local i -/
def callMK (n i : Nat) (Fn : Me → List D → Rm) (os : List Opd) : M Slot := fun e => match os with
  | .at j :: os => (match Nat.beq i j, vals os, e[i]? with
    | true, some ds, some s => (match Nat.beq ds.length n, s.own? with
      | true, some m => (match Fn m ds with
        | .ok m' t => .ok t (e.set i (s.put m'))
        | .exc x => .exc x (e.set i .un)
        | .stuck => .stuck)
      | _, _ => .stuck)
    | _, _, _ => .stuck)
  | _ => .stuck
def dCallM (n i : Nat) (Fn : Me → List D → Rm) (fa : M (List Opd)) : M Slot := M.bind fa (callMK n i Fn)
theorem end_callM {G : Gx} {F : Frm} {Fn : Me → List D → Rm} {σ : L2.St} {Hs H : Hp} {E T : List Ent} {vs : List V} {os : List Opd} {Q : VK} {n i : Nat} (hG : F.G = G) (S : F.St Hs H (E ++ T)) (e1 : E.map Prod.fst = σ) (r : OpdsR F.G Hs E vs os)
    (q : F.End σ Hs T (F.pD T) (callMK n i Fn os (E.map Prod.snd)) Q) : spM G n Fn vs H Q (fun cls d H => F.W cls d σ H) := by
  subst hG
  cases os with
  | nil => exact q.elim
  | cons o os =>
    cases o with
    | val d => exact q.elim
    | «at» j =>
      unfold callMK at q
      simp only at q
      cases qi : Nat.beq i j with
      | false => rw [qi] at q; exact q.elim
      | true =>
        rw [qi] at q
        have := Nat.eq_of_beq_eq_true qi
        subst this
        cases qv : vals os with
        | none => rw [qv] at q; exact q.elim
        | some ds =>
          rw [qv] at q
          cases qs : (E.map Prod.snd)[i]? with
          | none => rw [qs] at q; exact q.elim
          | some s =>
            rw [qs] at q
            simp only at q
            cases qn : Nat.beq ds.length n with
            | false => rw [qn] at q; exact q.elim
            | true =>
              rw [qn] at q
              cases qm : s.own? with
              | none => rw [qm] at q; exact q.elim
              | some m =>
                rw [qm] at q
                simp only at q
                obtain ⟨y, h1, h2⟩ := ent_of qs
                obtain ⟨v0, vr, rfl⟩ : ∃ v0 vr, vs = v0 :: vr := by
                  cases vs with
                  | nil => cases r
                  | cons v0 vr => exact ⟨v0, vr, rfl⟩
                obtain ⟨o, rr, eo, ho, rv⟩ := r
                cases eo
                obtain ⟨s', hs'⟩ := ho
                rw [h1] at hs'
                cases hs'
                have rd := vals_rep rv qv
                have il := (List.getElem?_eq_some_iff.mp h1).1
                obtain ⟨a, ea, mr, hsa, fin⟩ := S.callM (app_get h1) qm
                cases ea
                refine ⟨by rw [List.length_cons, ← rd.length, Nat.eq_of_beq_eq_true qn], a, vr, Hs, m, ds, rfl, S.eS, ⟨S.nt, S.tb⟩, rd, mr, hsa, ?_⟩
                have eset : ∀ t, (E.set i (some (.ref a), t)).map Prod.fst = σ := fun t => by
                  have h3 : (E.map Prod.fst)[i]? = some (some (.ref a)) := h2
                  rw [map_fst_set h3]; exact e1
                cases qf : Fn m ds with
                | ok m' t =>
                  rw [qf] at q
                  intro v Hs' H' P l f na nn rm r1
                  have ok := own_me (P := fun b => b = a) (x := some (.ref a)) (s := s) (m := m) (G := F.G) (Hs := Hs) (H := H) (by
                    obtain ⟨A, a1, a2, a3⟩ := S.own
                    obtain ⟨b, eb, pb, _, k⟩ := own_me (a3 i _ _ (app_get h1)) qm
                    cases eb
                    have := k (P' := fun b => b = a) rfl mr
                    have ee : s.put m = s := by
                      cases s <;> first | (cases qm; rfl) | cases qm
                    rw [ee] at this
                    exact this) qm
                  obtain ⟨b, eb, pb, _, k⟩ := ok
                  cases eb
                  have S' := fin l f (P' := fun b => b = a) (s' := s.put m') (fun c h => by
                    subst h
                    obtain ⟨o, z, _⟩ := rm.ob
                    exact ⟨minus_in rfl, nn, o, z⟩) (fun c h z => by subst z; exact na h) (k rfl rm) r1
                  refine q v Hs' H' (E.set i (some (.ref a), s.put m')) l.eS (eset _) map_snd_set ?_
                  have S' : F.St Hs' H' ((E ++ T).set i (some (.ref a), s.put m') ++ [(some v, t)]) := S'
                  rw [app_set il] at S'
                  exact S'
                | exc x =>
                  rw [qf] at q
                  intro cls d Hs' H' l xx
                  have S' := fin (v := .non) (t := .un) (s' := .un) (P := fun _ => False) (P' := fun _ => False) l (fun _ z => z.elim) (fun _ z => z.elim) (fun _ z => z.elim) trivial trivial
                  have S' : F.St Hs' H' ((E ++ T).set i (some (.ref a), .un)) := StR.pop S'
                  rw [app_set il] at S'
                  exact q cls d Hs' H' (E.set i (some (.ref a), .un)) l.eS (eset _) map_snd_set S' xx
                | stuck => rw [qf] at q; exact q.elim
section
variable {X : Cx} {F : Frm} {k : Nat} {f : Addr} {fd : FuncData} {ps : List Str} {x : Str} {p pos : Pos} {e : Expr} {es : List Expr}
theorem de_call {G : Gx} {Fn : List D → Rs} {n : Nat} {fa : M (List Opd)} (FO : FnOk X.prog X.w X.K X.mg X.base (L2.CX X.prog X.w) k f fd ps (spP G n Fn)) (hG : F.G = G) (hr : Room k X.A) (hg : Gl X x) (hm : X.mg x = some (.ref f)) (hk : PySem.W.keepIn X.K (.ref f) = true)
    (hb : Binds X.K fd ps []) (tk : Takes X F.W) (ha : DA X F (e :: es) fa) (hdb : (x == ("__debug__" : Str)) = false := by decide) (he : starEach (e :: es) X.env = (false, eval e X.env) :: starEach es X.env := by rfl) (hpl : (backTo pos (starEach es X.env)).any (·.1) = false := by rfl) :
    DE X F (.Call (.Name x p) (e :: es) [] pos) (dCall n Fn fa) := ⟨PE.weak (pe_callSD (E := fun σ cls d H => F.W cls d σ H) FO hr hg hm hk hb .nil (fun σ => passAt tk σ) ha.pa hdb he hpl) fun σ H Q ⟨Hs, E, T, S, e1, q⟩ => by
  refine ⟨Hs, E, T, S, e1, q.bind fun vs os env' Hs1 H1 E1 ex m1 m2 p q => ?_⟩
  subst m2
  rw [List.append_nil]
  exact end_call hG p.1 m1 p.2 q⟩
theorem de_callM {G : Gx} {Fn : Me → List D → Rm} {n : Nat} (i : Nat) {fa : M (List Opd)} (FO : FnOk X.prog X.w X.K X.mg X.base (L2.CX X.prog X.w) k f fd ps (spM G n Fn)) (hG : F.G = G) (hr : Room k X.A) (hg : Gl X x) (hm : X.mg x = some (.ref f)) (hk : PySem.W.keepIn X.K (.ref f) = true)
    (hb : Binds X.K fd ps []) (tk : Takes X F.W) (ha : DA X F (e :: es) fa) (hdb : (x == ("__debug__" : Str)) = false := by decide) (he : starEach (e :: es) X.env = (false, eval e X.env) :: starEach es X.env := by rfl) (hpl : (backTo pos (starEach es X.env)).any (·.1) = false := by rfl) :
    DE X F (.Call (.Name x p) (e :: es) [] pos) (dCallM n i Fn fa) := ⟨PE.weak (pe_callSD (E := fun σ cls d H => F.W cls d σ H) FO hr hg hm hk hb .nil (fun σ => passAt tk σ) ha.pa hdb he hpl) fun σ H Q ⟨Hs, E, T, S, e1, q⟩ => by
  refine ⟨Hs, E, T, S, e1, q.bind fun vs os env' Hs1 H1 E1 ex m1 m2 p q => ?_⟩
  subst m2
  rw [List.append_nil]
  exact end_callM hG p.1 m1 p.2 q⟩
end
end Dl
set_option Elab.async false
set_option linter.all false
set_option maxRecDepth 100000
set_option maxHeartbeats 4000000
namespace Dl
open PySem PySem.Spec PyProof.Rows L2
/-! ### objects that are written -/
def hasK : List DK → DK → Bool
  | [], _ => false
  | k :: ks, x => decide (k = x) || hasK ks x
def setK : List DK → List D → DK → D → List D
  | k :: ks, d :: ds, x, v => (if k = x then v else d) :: setK ks ds x v
  | _, _, _, _ => []
def bEq : Bool → Bool → Bool
  | true, b => b
  | false, b => !b
def mePut (m : Me) (k v : D) : Option Me := match m with
  | .l xs => (match k with
    | .int i => (ixN xs.length i).map fun j => .l (xs.set j v)
    | _ => none)
  | .d t ks vs => (match k.key with
    | some x => (match bEq (kindK x) t, Nat.blt ks.length 16777216, hasK ks x with
      | true, true, true => some (.d t ks (setK ks vs x v))
      | true, true, false => some (.d t (ks ++ [x]) (vs ++ [v]))
      | _, _, _ => none)
    | none => none)
  | _ => none
def meApp (m : Me) (v : D) : Option Me := match m with
  | .l xs => (match Nat.blt xs.length 16777216 with
    | true => some (.l (xs ++ [v]))
    | false => none)
  | _ => none
section
variable {G : Gx} {B Hs0 Hs Hs' H H' : Hp} {L : List Ent} {x : Option V} {s : Slot} {a : Addr} {m m' : Me}
theorem hasK_k {kvs : List (Key × V)} {k : Key} : hasK (kvs.map fun p => DK.k p.1) (.k k) = kvs.any fun kv => decide (kv.1 = k) := by
  induction kvs with
  | nil => rfl
  | cons p r ih =>
    show (decide (DK.k p.1 = DK.k k) || hasK (r.map fun p => DK.k p.1) (.k k)) = (decide (p.1 = k) || r.any fun kv => decide (kv.1 = k))
    rw [ih]
    congr 1
    exact decide_eq_decide.mpr ⟨fun h => DK.k.inj h, fun h => by rw [h]⟩
theorem hasK_t {kvs : List (List Key × V)} {k : List Key} : hasK (kvs.map fun p => DK.t p.1) (.t k) = kvs.any fun kv => decide (kv.1 = k) := by
  induction kvs with
  | nil => rfl
  | cons p r ih =>
    show (decide (DK.t p.1 = DK.t k) || hasK (r.map fun p => DK.t p.1) (.t k)) = (decide (p.1 = k) || r.any fun kv => decide (kv.1 = k))
    rw [ih]
    congr 1
    exact decide_eq_decide.mpr ⟨fun h => DK.t.inj h, fun h => by rw [h]⟩
theorem setK_k {k : Key} {v : D} {z : V} (rv : Rep G H v z) : ∀ {kvs : List (Key × V)} {l : List D}, RepL G H l (kvs.map (·.2)) →
    RepL G H (setK (kvs.map fun p => DK.k p.1) l (.k k) v) ((kvs.map fun kv => if kv.1 = k then (kv.1, z) else kv).map (·.2)) ∧ (kvs.map fun kv => if kv.1 = k then (kv.1, z) else kv).map (fun p => DK.k p.1) = kvs.map fun p => DK.k p.1
  | [], l, h => by rw [show l = [] from by cases l with | nil => rfl | cons d ds => obtain ⟨_, _, e, _⟩ := h; cases e]; exact ⟨rfl, rfl⟩
  | p :: r, [], h => by cases (show List.map (·.2) (p :: r) = [] from h)
  | p :: r, d :: ds, ⟨v', r', e, h1, h2⟩ => by
    cases e
    obtain ⟨i1, i2⟩ := setK_k rv h2
    rw [List.map_cons, List.map_cons, List.map_cons, List.map_cons, i2]
    by_cases hk : p.1 = k
    · rw [if_pos hk]
      refine ⟨?_, rfl⟩
      show RepL G H ((if DK.k p.1 = DK.k k then v else d) :: _) _
      rw [if_pos (by rw [hk])]
      exact RepL.cons rv i1
    · rw [if_neg hk]
      refine ⟨?_, rfl⟩
      show RepL G H ((if DK.k p.1 = DK.k k then v else d) :: _) _
      rw [if_neg (fun e => hk (DK.k.inj e))]
      exact RepL.cons h1 i1
theorem setK_t {k : List Key} {v : D} {z : V} (rv : Rep G H v z) : ∀ {kvs : List (List Key × V)} {l : List D}, RepL G H l (kvs.map (·.2)) →
    RepL G H (setK (kvs.map fun p => DK.t p.1) l (.t k) v) ((kvs.map fun kv => if kv.1 = k then (kv.1, z) else kv).map (·.2)) ∧ (kvs.map fun kv => if kv.1 = k then (kv.1, z) else kv).map (fun p => DK.t p.1) = kvs.map fun p => DK.t p.1
  | [], l, h => by rw [show l = [] from by cases l with | nil => rfl | cons d ds => obtain ⟨_, _, e, _⟩ := h; cases e]; exact ⟨rfl, rfl⟩
  | p :: r, [], h => by cases (show List.map (·.2) (p :: r) = [] from h)
  | p :: r, d :: ds, ⟨v', r', e, h1, h2⟩ => by
    cases e
    obtain ⟨i1, i2⟩ := setK_t rv h2
    rw [List.map_cons, List.map_cons, List.map_cons, List.map_cons, i2]
    by_cases hk : p.1 = k
    · rw [if_pos hk]
      refine ⟨?_, rfl⟩
      show RepL G H ((if DK.t p.1 = DK.t k then v else d) :: _) _
      rw [if_pos (by rw [hk])]
      exact RepL.cons rv i1
    · rw [if_neg hk]
      refine ⟨?_, rfl⟩
      show RepL G H ((if DK.t p.1 = DK.t k then v else d) :: _) _
      rw [if_neg (fun e => hk (DK.t.inj e))]
      exact RepL.cons h1 i1
theorem key_k {d : D} {v : V} {k : Key} (h : d.key = some (.k k)) (r : Rep G H d v) : v = kV k := by
  cases d with
  | int i => cases h; exact r
  | str i => cases h; exact r
  | tup l =>
    have h : (keysOf l).map DK.t = some (.k k) := h
    cases q : keysOf l with
    | none => rw [q] at h; cases h
    | some ks => rw [q] at h; cases h
  | _ => cases h
theorem key_t {d : D} {v : V} {ks : List Key} (h : d.key = some (.t ks)) (r : Rep G H d v) : ∃ b, v = .ref b ∧ H b = some (.tup (ks.map kV)) := by
  cases d with
  | tup l =>
    have h : (keysOf l).map DK.t = some (.t ks) := h
    cases q : keysOf l with
    | none => rw [q] at h; cases h
    | some ks' =>
      rw [q] at h; cases h
      obtain ⟨a, vs, h1, h2, h3⟩ := r
      rw [keysOf_rep q h3] at h2
      exact ⟨a, h1, h2⟩
  | _ => cases h
def rSetG : TSet := fun o i v H Q => rSetL o i v H Q ∨ rSetD o i v H Q
theorem set_any {X : Cx} (hu : X.A.units + 1 < cLine) : PSet X rSetG := fun pins s σ H o i v ov iv u Q I ro ri rv h => by
  rcases h with h | h
  · exact set_list pins s σ H o i v ov iv u Q I ro ri rv h
  · exact set_dict hu pins s σ H o i v ov iv u Q I ro ri rv h
theorem me_put {dk dv : D} {y z : V} (e : Ex Hs H) (mr : MeR G Hs H a m) (rk : Rep G Hs dk y) (rv : Rep G Hs dv z) (h : mePut m dk dv = some m') : ∃ o, MeR G Hs (upd H a o) a m' ∧ ∀ Q : Hp → Prop, Q (upd H a o) → rSetG (.ref a) y z H Q := by
  cases m with
  | l xs =>
    obtain ⟨vs, h1, h2⟩ := mr
    cases dk with
    | int i =>
      cases rk
      have h : (ixN xs.length i).map (fun j => Me.l (xs.set j dv)) = some m' := h
      cases hj : ixN xs.length i with
      | none => rw [hj] at h; cases h
      | some j =>
        rw [hj] at h
        cases h
        exact ⟨.lst (vs.set j z), ⟨_, upd_same, h2.set rv⟩, fun Q q => .inl ⟨a, vs, i, j, rfl, rfl, h1, by rw [← h2.length]; exact hj, q⟩⟩
    | _ => cases h
  | d t ks vs =>
    unfold mePut at h
    simp only at h
    cases hx : dk.key with
    | none => rw [hx] at h; cases h
    | some k =>
      rw [hx] at h
      simp only at h
      cases q1 : bEq (kindK k) t with
      | false => rw [q1] at h; cases h
      | true =>
        cases q2 : Nat.blt ks.length 16777216 with
        | false => rw [q1, q2] at h; cases h
        | true =>
          rw [q1, q2] at h
          have et : kindK k = t := by
            revert q1; cases kindK k <;> cases t <;> first | (intro _; rfl) | (intro h; cases h)
          have hz : ks.length < sizeLine := by rw [sizeLine_eq]; exact Nat.le_of_ble_eq_true q2
          cases t with
          | false =>
            obtain ⟨kvs, g1, rfl, g3⟩ := mr
            cases k with
            | t _ => cases et
            | k kk =>
              have ey := key_k hx rk
              rw [List.length_map] at hz
              refine ⟨.dK (putK kvs kk z), ?_, fun Q q => .inr ⟨a, _, rfl, .inl ⟨kvs, kk, g1, ey, hz, rfl⟩, q⟩⟩
              rw [hasK_k] at h
              unfold putK
              cases q3 : kvs.any fun kv => decide (kv.1 = kk) with
              | true =>
                rw [q3] at h; cases h
                obtain ⟨i1, i2⟩ := setK_k rv g3
                exact ⟨_, by rw [if_pos rfl]; exact upd_same, i2.symm, i1⟩
              | false =>
                rw [q3] at h; cases h
                exact ⟨_, by rw [if_neg (by simp)]; exact upd_same, by simp, by rw [List.map_append]; exact g3.append (RepL.cons rv RepL.nil)⟩
          | true =>
            obtain ⟨kvs, g1, rfl, g3⟩ := mr
            cases k with
            | k _ => cases et
            | t kk =>
              obtain ⟨b, ey, hb⟩ := key_t hx rk
              rw [List.length_map] at hz
              refine ⟨.dT (putK kvs kk z), ?_, fun Q q => .inr ⟨a, _, rfl, .inr ⟨kvs, kk, b, g1, ey, e.get hb, hz, rfl⟩, q⟩⟩
              rw [hasK_t] at h
              unfold putK
              cases q3 : kvs.any fun kv => decide (kv.1 = kk) with
              | true =>
                rw [q3] at h; cases h
                obtain ⟨i1, i2⟩ := setK_t rv g3
                exact ⟨_, by rw [if_pos rfl]; exact upd_same, i2.symm, i1⟩
              | false =>
                rw [q3] at h; cases h
                exact ⟨_, by rw [if_neg (by simp)]; exact upd_same, by simp, by rw [List.map_append]; exact g3.append (RepL.cons rv RepL.nil)⟩
  | i c ns vs => cases h
theorem me_app {dv : D} {z : V} (mr : MeR G Hs H a m) (rv : Rep G Hs dv z) (h : meApp m dv = some m') : ∃ o, MeR G Hs (upd H a o) a m' ∧ ∀ Q : VK, Q .non (upd H a o) → rAppend (.ref a) [z] H Q := by
  cases m with
  | l xs =>
    obtain ⟨vs, h1, h2⟩ := mr
    unfold meApp at h
    simp only at h
    cases q2 : Nat.blt xs.length 16777216 with
    | false => rw [q2] at h; cases h
    | true =>
      rw [q2] at h; cases h
      exact ⟨.lst (vs ++ [z]), ⟨_, upd_same, h2.append (RepL.cons rv RepL.nil)⟩, fun Q q => ⟨a, vs, z, rfl, rfl, h1, by rw [← h2.length, sizeLine_eq]; exact Nat.le_of_ble_eq_true q2, q⟩⟩
  | _ => cases h
/-- writing what a place owns -/
theorem StR.wr {i : Nat} (S : StR G B Hs0 Hs H L) (hi : L[i]? = some (x, s)) (hm : s.own? = some m) : ∃ a, x = some (.ref a) ∧ MeR G Hs H a m ∧ ∀ {o m'}, MeR G Hs (upd H a o) a m' → StR G B Hs0 Hs (upd H a o) (L.set i (x, s.put m')) := by
  obtain ⟨A, a1, a2, a3⟩ := S.own
  obtain ⟨b, eb, pb, mr, k⟩ := own_me (a3 i x s hi) hm
  refine ⟨b, eb, mr, fun {o m'} r => S.write hi fun P one => ?_⟩
  obtain ⟨c, ec, pc, _, k'⟩ := own_me one hm
  rw [eb] at ec; cases ec
  exact ⟨b, o, pc, rfl, k' pc r, (r.nc o upd_same).1, mr.nc⟩
theorem ooRel_len {P : Addr → Prop} : ∀ {ll : List (List D)} {as : List Addr}, OoRel G Hs H P ll as → ll.length = as.length
  | [], as, h => by rw [show as = [] from h]; rfl
  | l :: ll, _, ⟨b, r, vs, h1, h2, h3, h4, h5⟩ => by rw [h1, List.length_cons, List.length_cons, ooRel_len h5]
theorem ooRel_at {P : Addr → Prop} : ∀ {ll : List (List D)} {as : List Addr} {j : Nat} {xs : List D}, OoRel G Hs H P ll as → ll[j]? = some xs → ∃ b vs, as[j]? = some b ∧ P b ∧ H b = some (.lst vs) ∧ RepL G Hs xs vs
  | [], _, _, _, _, h => by simp at h
  | l :: ll, _, 0, xs, ⟨b, r, vs, h1, h2, h3, h4, h5⟩, h => by cases h; subst h1; exact ⟨b, vs, rfl, h2, h3, h4⟩
  | l :: ll, _, j + 1, xs, ⟨b, r, vs, h1, h2, h3, h4, h5⟩, h => by
    subst h1
    obtain ⟨b', vs', q⟩ := ooRel_at h5 (j := j) (by simpa using h)
    exact ⟨b', vs', by simpa using q⟩
theorem ooRel_keep {P : Addr → Prop} {b : Addr} {o : HO} : ∀ {ll : List (List D)} {as : List Addr}, OoRel G Hs H P ll as → b ∉ as → OoRel G Hs (upd H b o) P ll as
  | [], _, h, _ => h
  | l :: ll, _, ⟨c, r, vs, h1, h2, h3, h4, h5⟩, hb => by
    subst h1
    exact ⟨c, r, vs, rfl, h2, by rw [upd_ne (fun e => hb (by rw [e]; exact List.mem_cons_self ..))]; exact h3, h4, ooRel_keep h5 fun z => hb (List.mem_cons_of_mem _ z)⟩
theorem ooRel_set {P : Addr → Prop} {b : Addr} {vs' : List V} {xs' : List D} (r : RepL G Hs xs' vs') : ∀ {ll : List (List D)} {as : List Addr} {j : Nat}, OoRel G Hs H P ll as → as.Nodup → as[j]? = some b → OoRel G Hs (upd H b (.lst vs')) P (ll.set j xs') as
  | [], as, j, h, _, e => by rw [show as = [] from h] at e; simp at e
  | l :: ll, _, 0, ⟨c, t, vs, h1, h2, h3, h4, h5⟩, nd, e => by
    subst h1
    cases e
    exact ⟨b, t, vs', rfl, h2, upd_same, r, ooRel_keep h5 (List.nodup_cons.mp nd).1⟩
  | l :: ll, _, j + 1, ⟨c, t, vs, h1, h2, h3, h4, h5⟩, nd, e => by
    subst h1
    have e : t[j]? = some b := by simpa using e
    have hc : c ≠ b := fun z => (List.nodup_cons.mp nd).1 (by rw [z]; exact List.mem_of_getElem? e)
    exact ⟨c, t, vs, rfl, h2, by rw [upd_ne hc]; exact h3, h4, ooRel_set r h5 (List.nodup_cons.mp nd).2 e⟩
/-- writing a list within a list of lists -/
theorem StR.wr2 {i : Nat} {ll : List (List D)} (S : StR G B Hs0 Hs H L) (hi : L[i]? = some (x, .oo ll)) : ∃ (a : Addr) (as : List Addr), x = some (.ref a) ∧ H a = some (.lst (as.map V.ref)) ∧ as.length = ll.length ∧ ∀ j xs, ll[j]? = some xs → ∃ b, as[j]? = some b ∧ MeR G Hs H b (.l xs) ∧
    ∀ {o xs'}, MeR G Hs (upd H b o) b (.l xs') → StR G B Hs0 Hs (upd H b o) (L.set i (x, .oo (ll.set j xs'))) := by
  obtain ⟨A, a1, a2, a3⟩ := S.own
  obtain ⟨a, as, h1, h2, h3, h4, h5, h6⟩ := a3 i x _ hi
  refine ⟨a, as, h1, h3, (ooRel_len h6).symm, fun j xs hj => ?_⟩
  obtain ⟨b, vs, g1, g2, g3, g4⟩ := ooRel_at h6 hj
  refine ⟨b, g1, ⟨vs, g3, g4⟩, fun {o xs'} r => S.write hi fun P one => ?_⟩
  obtain ⟨a', as', k1, k2, k3, k4, k5, k6⟩ := one
  rw [h1] at k1; cases k1
  rw [h3] at k3
  have : as = as' := by
    have e : as.map V.ref = as'.map V.ref := HO.lst.inj (Option.some.inj k3)
    exact List.map_inj_right (fun _ _ => V.ref.inj) |>.mp e
  subst this
  obtain ⟨b', vs', g1', g2', _⟩ := ooRel_at k6 hj
  rw [g1] at g1'; cases g1'
  obtain ⟨vs2, r1, r2⟩ := r
  rw [upd_same] at r1; cases r1
  have hab : a ≠ b := fun e => h5 (by rw [e]; exact List.mem_of_getElem? g1)
  exact ⟨b, _, g2', rfl, ⟨a, as, h1, k2, by rw [upd_ne hab]; exact h3, k4, k5, ooRel_set r2 k6 k4 g1⟩, rfl, fun o0 h0 => by rw [g3] at h0; cases h0; exact ⟨rfl, nc_lst⟩⟩
end
end Dl
set_option Elab.async false
set_option linter.all false
set_option maxRecDepth 100000
set_option maxHeartbeats 4000000
namespace Dl
open PySem PySem.Spec PyProof.Rows L2
def ownAt (i : Nat) (e : Env) : Option Me := match e[i]? with
  | some s => s.own?
  | none => none
def putAt (i : Nat) (m : Me) (e : Env) : Fl := match e[i]? with
  | some s => .nx (e.set i (s.put m))
  | none => .stuck
section
variable {X : Cx} {F : Frm}
theorem ownAt_of {i : Nat} {e : Env} {m : Me} (h : ownAt i e = some m) : ∃ s, e[i]? = some s ∧ s.own? = some m := by
  unfold ownAt at h
  cases q : e[i]? with
  | none => rw [q] at h; cases h
  | some s => rw [q] at h; exact ⟨s, rfl, h⟩
/-- what stands at an own place -/
theorem own_at {Hs H : Hp} {E T : List Ent} {i : Nat} {m : Me} (S : F.St Hs H (E ++ T)) (h : ownAt i (E.map Prod.snd) = some m) : ∃ a s, E[i]? = some (some (.ref a), s) ∧ (E.map Prod.fst)[i]? = some (some (.ref a)) ∧ (E.map Prod.snd)[i]? = some s ∧ MeR F.G Hs H a m ∧
    ∀ {o m'}, MeR F.G Hs (upd H a o) a m' → F.St Hs (upd H a o) (E.set i (some (.ref a), s.put m') ++ T) ∧ (E.set i (some (.ref a), s.put m')).map Prod.fst = E.map Prod.fst ∧ (E.set i (some (.ref a), s.put m')).map Prod.snd = (E.map Prod.snd).set i (s.put m') := by
  obtain ⟨s, h1, h2⟩ := ownAt_of h
  obtain ⟨y, g1, g2⟩ := ent_of h1
  obtain ⟨a, ea, mr, k⟩ := S.wr (app_get g1) h2
  subst ea
  refine ⟨a, s, g1, g2, h1, mr, fun {o m'} r => ⟨?_, map_fst_set g2, map_snd_set⟩⟩
  have := k r
  rw [app_set (List.getElem?_eq_some_iff.mp g1).1] at this
  exact this
theorem put_key {m m' : Me} {dk dv : D} (h : mePut m dk dv = some m') : dk.key ≠ none := by
  intro z
  cases m with
  | l xs =>
    cases dk with
    | int i => cases z
    | _ => cases h
  | d t ks vs =>
    unfold mePut at h
    simp only at h
    rw [z] at h; cases h
  | i c ns vs => cases h
theorem rb_key {G : Gx} {Hs H : Hp} {d : D} {v : V} (h : d.key ≠ none) (r : RB G Hs H d v) : Rep G Hs d v := by
  cases d <;> first | exact r | exact absurd rfl h
/-! ### x[k] = v -/
def sPutE (i : Nat) (dv : D) (ok : Opd) : Sm := fun e => match ok.get e, ownAt i e with
  | some dk, some m => (match mePut m dk dv with
    | some m' => putAt i m' e
    | none => .stuck)
  | _, _ => .stuck
def sPutV (i : Nat) (fk : M Opd) (ov : Opd) : Sm := fun e => match ov, ownAt i e with
  | .val dv, some _ => (fk e).fl (sPutE i dv)
  | _, _ => .stuck
def sPutIx (i : Nat) (fv fk : M Opd) : Sm := fun e => (fv e).fl (sPutV i fk)
theorem s_put {i : Nat} {x : Str} {k v : Expr} {fv fk : M Opd} {pos p1 p2 : Pos} (hu : X.A.units + 1 < cLine) (ho : PE X (.Name x p1) (tVar i)) (hk : DO X F k fk) (hv : DO X F v fv)
    (hs : swapsWithSole [.Subscript (.Name x p1) k p2] v pos.line X.env = pure false := by rfl) (hw : swappedStores [.Subscript (.Name x p1) k p2] v X.env = pure none := by rfl)
    (h1 : (assignEach [.Subscript (.Name x p1) k p2] X.env).map (·.2) = [assign (.Subscript (.Name x p1) k p2) X.env] := by rfl)
    (ha : ∀ v, assign (.Subscript (.Name x p1) k p2) X.env v = (do
      let ov ← holding [v] (eval (.Name x p1) X.env)
      let iv ← holding [v, ov] (eval k X.env)
      standAt p2
      holding [v, ov, iv] (setItem ov iv v)
      release [v, ov, iv] []) := by intro _; rfl) :
    DS X F (.Assign [.Subscript (.Name x p1) k p2] v pos) (sPutIx i fv fk) := ⟨PS.weak (ps_asg hv.pe (pg_sub ho hk.pe (set_any hu) ha) hs hw h1) fun D σ H ⟨Hs, E, S, e1, q⟩ => by
  refine ⟨Hs, E, [], st_nil S, e1, EndS.bind q fun v ov env' Hs1 H1 E1 ex m1 m2 p q => ?_⟩
  subst m2
  cases ov with
  | «at» j => exact q.elim
  | val dv =>
    obtain ⟨S1, rv⟩ := p
    unfold sPutV at q
    try simp only at q
    cases qo : ownAt i (E1.map Prod.snd) with
    | none => rw [qo] at q; exact q.elim
    | some m =>
      rw [qo] at q
      obtain ⟨a, s, g1, g2, g3, _, _⟩ := own_at S1 qo
      refine ⟨.ref a, by rw [← m1]; exact g2, Hs1, E1, [], S1, m1, EndS.bind q fun y ok env' Hs2 H2 E2 ex2 n1 n2 p2 q2 => ?_⟩
      subst n2
      obtain ⟨S2, rk⟩ := p2
      unfold sPutE at q2
      cases qk : ok.get (E2.map Prod.snd) with
      | none => rw [qk] at q2; exact q2.elim
      | some dk =>
        cases qo2 : ownAt i (E2.map Prod.snd) with
        | none => rw [qk, qo2] at q2; exact q2.elim
        | some m2 =>
          rw [qk, qo2] at q2
          simp only at q2
          cases qm : mePut m2 dk dv with
          | none => rw [qm] at q2; exact q2.elim
          | some m' =>
            rw [qm] at q2
            obtain ⟨a2, s2, k1, k2, k3, mr, fin⟩ := own_at S2 qo2
            have : a2 = a := by
              rw [n1, ← m1, g2] at k2
              cases k2; rfl
            subst this
            obtain ⟨o, r1, r2⟩ := me_put S2.eS mr (rb_key (put_key qm) (rk.rb S2 qk)) (rv.later ex2 (m1.trans n1.symm)) qm
            refine r2 _ ?_
            obtain ⟨S3, t1, t2⟩ := fin r1
            unfold putAt at q2
            rw [k3] at q2
            have := q2 Hs2 _ _ (Ex.refl _) t2 (nil_st S3)
            rw [t1, n1] at this
            exact this⟩
/-! ### x[k] op= v -/
def rGetG (K : PySem.W.Frag) : V → V → Hp → VK → Prop := fun x y H Q => rIxL K x y H Q ∨ rDIx x y H Q
theorem get_list : PGet X (rIxL X.K) := by
  intro pins s σ H x y v u Q I rx ry h
  obtain ⟨p, xs, i, z, rfl, rfl, hq, he, q⟩ := h
  cases rx
  obtain ⟨t, rfl⟩ := ry
  obtain ⟨its, r, pl, hz⟩ := I.list hq
  obtain ⟨j, h1, h2, h3, h4, h5⟩ := atI_get he
  obtain ⟨w, ew, rw'⟩ := r.get h2
  have hl := r.length
  have hn := line63
  have fin : EP X pins σ Q w s := ⟨z, H, I, rw', q⟩
  by_cases h0 : 0 ≤ i
  · have hj : i.toNat = j := by
      rw [seqIndex_of h0 h5] at h1
      exact Option.some.inj h1
    exact wpAny_getItem_list pl.isList h0 (by omega) (by rw [hj]; simpa using ew) fin
  · have hj : (i + (its.toArray.size : Int)).toNat = j := by
      rw [seqIndex_neg (by omega) h4] at h1
      rw [List.size_toArray, ← hl]
      exact Option.some.inj h1
    exact wpAny_getItem_list_neg pl.isList (by omega) (by rw [List.size_toArray] <;> omega) (by omega) (by rw [hj]; simpa using ew) fin
theorem get_dict (hu : X.A.units + 1 < cLine) : PGet X rDIx := by
  intro pins s σ H x y v u Q I rx ry h
  obtain ⟨a, z, rfl, g, q⟩ := h
  obtain rfl : v = Value.ref a := rx
  exact d_getItem hu I g ry fun w' s3 I3 rw' => ⟨z, H, I3, rw', q⟩
theorem get_any (hu : X.A.units + 1 < cLine) : PGet X (rGetG X.K) := fun pins s σ H x y v u Q I rx ry h => by
  rcases h with h | h
  · exact get_list pins s σ H x y v u Q I rx ry h
  · exact get_dict hu pins s σ H x y v u Q I rx ry h
/-- what a list or a dict of one's own holds -/
def meGet (m : Me) (k : D) : Option D := match m with
  | .l xs => (match k with
    | .int i => atI xs i
    | _ => none)
  | .d t ks vs => (match k.key with
    | some x => (match bEq (kindK x) t with
      | true => lookD ks vs x
      | false => none)
    | none => none)
  | _ => none
theorem me_dct {G : Gx} {Hs H : Hp} {a : Addr} {t : Bool} {ks : List DK} {l : List D} (h : MeR G Hs H a (.d t ks l)) : ∃ vs, DctAt H a t ks vs ∧ RepL G Hs l vs := by
  cases t with
  | false => obtain ⟨kvs, h1, h2, h3⟩ := h; exact ⟨_, ⟨kvs, h1, h2, rfl⟩, h3⟩
  | true => obtain ⟨kvs, h1, h2, h3⟩ := h; exact ⟨_, ⟨kvs, h1, h2, rfl⟩, h3⟩
theorem me_get {G : Gx} {Hs H : Hp} {a : Addr} {m : Me} {dk d : D} {y : V} (hK : G.K = X.K) (e : Ex Hs H) (mr : MeR G Hs H a m) (rk : Rep G Hs dk y) (h : meGet m dk = some d) : ∃ v, Rep G Hs d v ∧ ∀ Q : VK, Q v H → rGetG X.K (.ref a) y H Q := by
  cases m with
  | l xs =>
    obtain ⟨vs, h1, h2⟩ := mr
    cases dk with
    | int i =>
      cases rk
      obtain ⟨v, e1, e2⟩ := atI_rep h2 (show atI xs i = some d from h)
      exact ⟨v, e2, fun Q q => .inl ⟨a, vs, i, v, rfl, rfl, SqL.of h1, e1, q⟩⟩
    | _ => cases h
  | d t ks l =>
    obtain ⟨vs, h1, h2⟩ := me_dct mr
    unfold meGet at h
    simp only at h
    cases qk : dk.key with
    | none => rw [qk] at h; cases h
    | some x =>
      rw [qk] at h
      simp only at h
      cases q1 : bEq (kindK x) t with
      | false => rw [q1] at h; cases h
      | true =>
        rw [q1] at h
        have et : kindK x = t := by
          revert q1; cases kindK x <;> cases t <;> first | (intro _; rfl) | (intro h; cases h)
        have := dget_of e h1 h2 qk (rk.ex e) et
        rw [show lookD ks l x = some d from h] at this
        obtain ⟨o, g1, v, rfl, g2⟩ := this
        exact ⟨v, g2, fun Q q => .inr ⟨a, v, rfl, g1, q⟩⟩
  | i c ns vs => cases h
def augC (i : Nat) (dk dx : D) (g : D → D → Option Slot) (ov : Opd) : Sm := fun e => match ov.get e, ownAt i e with
  | some dy, some m => (match g dx dy with
    | some (.sh dz) => (match mePut m dk dz with
      | some m' => putAt i m' e
      | none => .stuck)
    | _ => .stuck)
  | _, _ => .stuck
def augB (i : Nat) (g : D → D → Option Slot) (fv : M Opd) (ok : Opd) : Sm := fun e => match ok.get e, ownAt i e with
  | some dk, some m => (match meGet m dk with
    | some dx => (fv e).fl (augC i dk dx g)
    | none => .stuck)
  | _, _ => .stuck
def sAugIx (i : Nat) (g : D → D → Option Slot) (fk fv : M Opd) : Sm := fun e => match ownAt i e with
  | some _ => (fk e).fl (augB i g fv)
  | none => .stuck
theorem s_augIx {i : Nat} {x : Str} {k v : Expr} {op : Operator} {r : R2} {g : D → D → Option Slot} {fk fv : M Opd} {pos p1 p2 : Pos} (hK : F.G.K = X.K) (hu : X.A.units + 1 < cLine) (ho : PE X (.Name x p1) (tVar i)) (hk : DO X F k fk) (hop : OpR X (inplaceOp op) r) (hg : Op2 F r g) (hv : DO X F v fv)
    (ha : ∀ ov iv new, augStore k ov iv new = (do holding [new, ov, iv] (setItem ov iv new); release [new, ov, iv] []; pure .next) := by intros; rfl) :
    DS X F (.AugAssign (.Subscript (.Name x p1) k p2) op v pos) (sAugIx i g fk fv) :=
  ⟨PS.weak (ps_augS (tip := r) ho hk.pe (get_any hu) hv.pe (fun pins s σ H x y v u Q I rx ry h => hop pins s σ H x y v u Q I rx ry h) (set_any hu) ha) fun D σ H ⟨Hs, E, S, e1, q⟩ => by
  unfold sAugIx at q
  cases qo : ownAt i (E.map Prod.snd) with
  | none => rw [qo] at q; exact q.elim
  | some m0 =>
    rw [qo] at q
    obtain ⟨a, s, g1, g2, g3, mr0, _⟩ := own_at (T := []) (st_nil S) qo
    refine ⟨.ref a, by rw [← e1]; exact g2, Hs, E, [], st_nil S, e1, EndS.bind q fun y ok env' Hs1 H1 E1 ex1 m1 m2 p1 q1 => ?_⟩
    subst m2
    obtain ⟨S1, rk⟩ := p1
    unfold augB at q1
    cases qk : ok.get (E1.map Prod.snd) with
    | none => rw [qk] at q1; exact q1.elim
    | some dk =>
      cases qo1 : ownAt i (E1.map Prod.snd) with
      | none => rw [qk, qo1] at q1; exact q1.elim
      | some m =>
        rw [qk, qo1] at q1
        try simp only at q1
        cases qg : meGet m dk with
        | none => rw [qg] at q1; exact q1.elim
        | some dx =>
          rw [qg] at q1
          obtain ⟨a1, s1, k1, k2, k3, mr, _⟩ := own_at S1 qo1
          have : a1 = a := by
            rw [m1, ← e1, g2] at k2
            cases k2; rfl
          subst this
          have hkey : dk.key ≠ none := fun z => by
            unfold meGet at qg
            cases m with
            | l xs => cases dk with
              | int i => cases z
              | _ => cases qg
            | d t ks l => simp only at qg; rw [z] at qg; cases qg
            | i c ns vs => cases qg
          have rk1 : Rep F.G Hs1 dk y := rb_key hkey (rk.rb S1 qk)
          obtain ⟨w, rw1, get⟩ := me_get hK S1.eS mr rk1 qg
          refine get _ ⟨Hs1, E1, [], S1, m1, EndS.bind q1 fun z ov env' Hs2 H2 E2 ex2 n1 n2 p2 q2 => ?_⟩
          subst n2
          obtain ⟨S2, rv⟩ := p2
          unfold augC at q2
          cases qv : ov.get (E2.map Prod.snd) with
          | none => rw [qv] at q2; exact q2.elim
          | some dy =>
            cases qo2 : ownAt i (E2.map Prod.snd) with
            | none => rw [qv, qo2] at q2; exact q2.elim
            | some m2 =>
              rw [qv, qo2] at q2
              try simp only at q2
              cases qgg : g dx dy with
              | none => rw [qgg] at q2; exact q2.elim
              | some sz =>
                rw [qgg] at q2
                cases sz with
                | sh dz =>
                  simp only at q2
                  cases qm : mePut m2 dk dz with
                  | none => rw [qm] at q2; exact q2.elim
                  | some m' =>
                    rw [qm] at q2
                    refine hg Hs2 H2 (E2 ++ []) w z dx dy (.sh dz) _ S2 ((rw1.ex ex2).rb S2.eS) (rv.rb S2 qv) qgg fun zz Hs3 H3 ex3 S3 => ?_
                    have rz : Rep F.G Hs3 dz zz := by
                      obtain ⟨v', e', r'⟩ := StR.sh (i := (E2 ++ []).length) (d := dz) S3 (by rw [List.getElem?_append_right (Nat.le_refl _), Nat.sub_self]; rfl)
                      cases e'; exact r'
                    obtain ⟨a2, s2, j1, j2, j3, mr2, fin⟩ := own_at S3.pop qo2
                    have : a2 = a1 := by
                      rw [n1, ← m1, k2] at j2
                      cases j2; rfl
                    subst this
                    obtain ⟨o, t1, t2⟩ := me_put S3.eS mr2 ((rk1.ex ex2).ex ex3) rz qm
                    refine t2 _ ?_
                    obtain ⟨S4, u1, u2⟩ := fin t1
                    unfold putAt at q2
                    rw [j3] at q2
                    have := q2 Hs3 _ _ ex3 u2 (nil_st S4)
                    rw [u1, n1] at this
                    exact this
                | _ => exact q2.elim⟩
/-! ### x.append(v) -/
def sAppE (i : Nat) (os : List Opd) : Sm := fun e => match vals os, ownAt i e with
  | some [d], some m => (match meApp m d with
    | some m' => putAt i m' e
    | none => .stuck)
  | _, _ => .stuck
def sApp (i : Nat) (fa : M (List Opd)) : Sm := fun e => match ownAt i e with
  | some (.l _) => (fa e).fl (sAppE i)
  | _ => .stuck
theorem s_app {i : Nat} {x : Str} {v : Expr} {fa : M (List Opd)} {p1 apos cpos pos : Pos} (ho : PE X (.Name x p1) (tVar i)) (ha : DA X F [v] fa)
    (hbase : attributeBase (.Name x p1) "append" X.env (eval (.Name x p1) X.env) = eval (.Name x p1) X.env := by rfl)
    (hfew : ((backTo cpos (starEach [v] X.env)).all (fun x => !x.1) && (backToKw cpos (keywordEach [] X.env)).all (fun x => x.1.isSome)
      && decide ([v].length + ([] : List Keyword).length + (if ([] : List Keyword).isEmpty then 0 else 1) < 30)) = true := by rfl)
    (hline : (apos.endLine == cpos.line) = true := by rfl) (hs : starEach [v] X.env = (false, eval v X.env) :: starEach [] X.env := by rfl) (hplain : (backTo cpos (starEach [] X.env)).any (·.1) = false := by rfl)
    (hsw : swapsWith (.Call (.Attribute (.Name x p1) "append" apos) [v] [] cpos) none pos.line X.env = pure false := by rfl) :
    DS X F (.Expr (.Call (.Attribute (.Name x p1) "append" apos) [v] [] cpos) pos) (sApp i fa) :=
  ⟨PS.weak (ps_expr (pe_bm PySem.F.plainAttrs_list PySem.F.slot_list_append PySem.F.type_list_append mt_append ho ha.pa hbase hfew hline hs hplain) hsw) fun D σ H ⟨Hs, E, S, e1, q⟩ => by
  unfold sApp at q
  cases qo : ownAt i (E.map Prod.snd) with
  | none => rw [qo] at q; exact q.elim
  | some m =>
    rw [qo] at q
    cases m with
    | l xs =>
      obtain ⟨a, s, g1, g2, g3, mr, _⟩ := own_at (T := []) (st_nil S) qo
      obtain ⟨vs, hv, _⟩ := mr
      refine ⟨.ref a, by rw [← e1]; exact g2, .inl ⟨rfl, _, SqL.of hv⟩, Hs, E, [], st_nil S, e1, EndS.bind q fun ys os env' Hs2 H2 E2 ex2 n1 n2 p2 q2 => ?_⟩
      subst n2
      obtain ⟨S2, rk⟩ := p2
      unfold sAppE at q2
      cases qv : vals os with
      | none => rw [qv] at q2; exact q2.elim
      | some ds =>
        rw [qv] at q2
        have rv := vals_rep rk qv
        match ds, rv, q2 with
        | [], _, q2 => exact q2.elim
        | _ :: _ :: _, _, q2 => exact q2.elim
        | [d], ⟨z, zr, ez, r1, er⟩, q2 =>
          cases (show zr = [] from er)
          subst ez
          cases qo2 : ownAt i (E2.map Prod.snd) with
          | none => rw [qo2] at q2; exact q2.elim
          | some m2 =>
            rw [qo2] at q2
            simp only at q2
            cases qm : meApp m2 d with
            | none => rw [qm] at q2; exact q2.elim
            | some m' =>
              rw [qm] at q2
              obtain ⟨a2, s2, k1, k2, k3, mr2, fin⟩ := own_at S2 qo2
              have : a2 = a := by
                rw [n1, ← e1, g2] at k2
                cases k2; rfl
              subst this
              obtain ⟨o, t1, t2⟩ := me_app mr2 r1 qm
              refine t2 _ ?_
              obtain ⟨S3, u1, u2⟩ := fin t1
              unfold putAt at q2
              rw [k3] at q2
              have := q2 Hs2 _ _ (Ex.refl _) u2 (nil_st S3)
              rw [u1, n1] at this
              exact this
    | _ => exact q.elim⟩
end
end Dl
set_option Elab.async false
set_option linter.all false
set_option maxRecDepth 100000
set_option maxHeartbeats 4000000
namespace Dl
open PySem PySem.Spec PyProof.Rows L2
/-- what is read with nothing done -/
def Frm.tZ (F : Frm) (f : Env → Option D) : TE := fun σ H Q => ∃ (Hs : Hp) (E T : List Ent) (d : D), F.St Hs H (E ++ T) ∧ E.map Prod.fst = σ ∧ f (E.map Prod.snd) = some d ∧ ∀ v, Rep F.G Hs d v → Q v H
structure DZ (X : Cx) (F : Frm) (e : Expr) (f : Env → Option D) : Prop where
  pe : PE X e (F.tZ f)
def zName (i : Nat) : Env → Option D := fun e => match e[i]? with
  | some (.sh d) => some d
  | _ => none
def ooAt (i : Nat) (e : Env) : Option (List (List D)) := match e[i]? with
  | some (.oo ll) => some ll
  | _ => none
section
variable {X : Cx} {F : Frm}
theorem dz_name {i : Nat} {x : Str} {pos : Pos} (h : PE X (.Name x pos) (tVar i)) : DZ X F (.Name x pos) (zName i) := ⟨PE.weak h fun σ H Q ⟨Hs, E, T, d, S, e1, hd, q⟩ => by
  unfold zName at hd
  cases hi : (E.map Prod.snd)[i]? with
  | none => rw [hi] at hd; cases hd
  | some s =>
    rw [hi] at hd
    cases s with
    | sh d' =>
      cases hd
      obtain ⟨y, h1, h2⟩ := ent_of hi
      obtain ⟨v, rfl, r⟩ := S.sh (app_get h1)
      exact ⟨v, by rw [← e1, h2], q v r⟩
    | _ => cases hd⟩
theorem dz_c {e : Expr} {d : D} {v : V} (h : PE X e (tC v)) (r : ∀ Hs, Rep F.G Hs d v) : DZ X F e (fun _ => some d) := ⟨PE.weak h fun σ H Q ⟨Hs, E, T, d', S, e1, hd, q⟩ => by cases hd; exact q v (r Hs)⟩
theorem ooAt_of {i : Nat} {e : Env} {ll : List (List D)} (h : ooAt i e = some ll) : e[i]? = some (.oo ll) := by
  unfold ooAt at h
  cases q : e[i]? with
  | none => rw [q] at h; cases h
  | some s =>
    rw [q] at h
    cases s with
    | oo l => cases h; rfl
    | _ => cases h
/-! ### x[j][k] = v -/
def put2C (i : Nat) (ll : List (List D)) (j : Nat) (m : Option Me) : Sm := fun e => match m with
  | some (.l xs) => .nx (e.set i (.oo (ll.set j xs)))
  | _ => .stuck
def put2B (i : Nat) (dv : D) (fk : Env → Option D) (oj : Opd) : Sm := fun e => match oj.get e, ooAt i e, fk e with
  | some (.int jj), some ll, some dk => (match ixN ll.length jj with
    | some j => (match ll[j]? with
      | some xs => put2C i ll j (mePut (.l xs) dk dv) e
      | none => .stuck)
    | none => .stuck)
  | _, _, _ => .stuck
def put2A (i : Nat) (fj : M Opd) (fk : Env → Option D) (ov : Opd) : Sm := fun e => match ov, ooAt i e with
  | .val dv, some _ => (fj e).fl (put2B i dv fk)
  | _, _ => .stuck
def sPut2 (i : Nat) (fv fj : M Opd) (fk : Env → Option D) : Sm := fun e => (fv e).fl (put2A i fj fk)
theorem oo_at {Hs H : Hp} {E T : List Ent} {i : Nat} {ll : List (List D)} (S : F.St Hs H (E ++ T)) (h : ooAt i (E.map Prod.snd) = some ll) : ∃ (a : Addr) (as : List Addr), E[i]? = some (some (.ref a), .oo ll) ∧ (E.map Prod.fst)[i]? = some (some (.ref a)) ∧ H a = some (.lst (as.map V.ref)) ∧ as.length = ll.length ∧
    ∀ j xs, ll[j]? = some xs → ∃ b, as[j]? = some b ∧ MeR F.G Hs H b (.l xs) ∧ ∀ {o xs'}, MeR F.G Hs (upd H b o) b (.l xs') → F.St Hs (upd H b o) (E.set i (some (.ref a), .oo (ll.set j xs')) ++ T) ∧ (E.set i (some (.ref a), .oo (ll.set j xs'))).map Prod.fst = E.map Prod.fst := by
  have h1 := ooAt_of h
  obtain ⟨y, g1, g2⟩ := ent_of h1
  obtain ⟨a, as, ea, h3, h4, k⟩ := S.wr2 (app_get g1)
  subst ea
  refine ⟨a, as, g1, g2, h3, h4, fun j xs hj => ?_⟩
  obtain ⟨b, k1, k2, k3⟩ := k j xs hj
  refine ⟨b, k1, k2, fun {o xs'} r => ⟨?_, map_fst_set g2⟩⟩
  have := k3 r
  rw [app_set (List.getElem?_eq_some_iff.mp g1).1] at this
  exact this
theorem atI_ref {as : List Addr} {n : Nat} {jj : Int} {j : Nat} {b : Addr} (hl : as.length = n) (hj : ixN n jj = some j) (hb : as[j]? = some b) : atI (as.map V.ref) jj = some (.ref b) := by
  unfold atI
  rw [List.length_map, hl, hj]
  show (as.map V.ref)[j]? = _
  rw [List.getElem?_map, hb]; rfl
theorem s_put2 {i : Nat} {x : Str} {j k v : Expr} {fv fj : M Opd} {fk : Env → Option D} {pos p1 p2 p3 : Pos} (hK : F.G.K = X.K) (hu : X.A.units + 1 < cLine) (ho : PE X (.Name x p1) (tVar i)) (hj : DO X F j fj) (hpj : PlainIx j) (hk : DZ X F k fk) (hv : DO X F v fv)
    (hs : swapsWithSole [.Subscript (.Subscript (.Name x p1) j p3) k p2] v pos.line X.env = pure false := by rfl) (hw : swappedStores [.Subscript (.Subscript (.Name x p1) j p3) k p2] v X.env = pure none := by rfl)
    (h1 : (assignEach [.Subscript (.Subscript (.Name x p1) j p3) k p2] X.env).map (·.2) = [assign (.Subscript (.Subscript (.Name x p1) j p3) k p2) X.env] := by rfl)
    (ha : ∀ v, assign (.Subscript (.Subscript (.Name x p1) j p3) k p2) X.env v = (do
      let ov ← holding [v] (eval (.Subscript (.Name x p1) j p3) X.env)
      let iv ← holding [v, ov] (eval k X.env)
      standAt p2
      holding [v, ov, iv] (setItem ov iv v)
      release [v, ov, iv] []) := by intro _; rfl) :
    DS X F (.Assign [.Subscript (.Subscript (.Name x p1) j p3) k p2] v pos) (sPut2 i fv fj fk) := ⟨PS.weak (ps_asg hv.pe (pg_sub (pe_ix ix_list ho hj.pe hpj) hk.pe (set_any hu) ha) hs hw h1) fun D σ H ⟨Hs, E, S, e1, q⟩ => by
  refine ⟨Hs, E, [], st_nil S, e1, EndS.bind q fun v ov env' Hs1 H1 E1 ex m1 m2 p q => ?_⟩
  subst m2
  cases ov with
  | «at» j => exact q.elim
  | val dv =>
    obtain ⟨S1, rv⟩ := p
    unfold put2A at q
    try simp only at q
    cases qo : ooAt i (E1.map Prod.snd) with
    | none => rw [qo] at q; exact q.elim
    | some ll0 =>
      rw [qo] at q
      obtain ⟨a, _, g1, g2, _⟩ := oo_at S1 qo
      refine ⟨.ref a, by rw [← m1]; exact g2, Hs1, E1, [], S1, m1, EndS.bind q fun y oj env' Hs2 H2 E2 ex2 n1 n2 p2 q2 => ?_⟩
      subst n2
      obtain ⟨S2, rj⟩ := p2
      unfold put2B at q2
      cases qj : oj.get (E2.map Prod.snd) with
      | none => rw [qj] at q2; exact q2.elim
      | some dj =>
        cases qo2 : ooAt i (E2.map Prod.snd) with
        | none => rw [qj, qo2] at q2; cases dj <;> exact q2.elim
        | some ll =>
          cases qk : fk (E2.map Prod.snd) with
          | none => rw [qj, qo2, qk] at q2; cases dj <;> exact q2.elim
          | some dk =>
            rw [qj, qo2, qk] at q2
            cases dj with
            | int jj =>
              try simp only at q2
              cases qx : ixN ll.length jj with
              | none => rw [qx] at q2; exact q2.elim
              | some jn =>
                rw [qx] at q2
                try simp only at q2
                cases ql : ll[jn]? with
                | none => rw [ql] at q2; exact q2.elim
                | some xs =>
                  rw [ql] at q2
                  try simp only at q2
                  cases qm : mePut (.l xs) dk dv with
                  | none => rw [qm] at q2; exact q2.elim
                  | some m' =>
                    rw [qm] at q2
                    cases m' with
                    | l xs' =>
                      obtain ⟨a2, as, k1, k2, k3, k4, k5⟩ := oo_at S2 qo2
                      have : a2 = a := by
                        rw [n1, ← m1, g2] at k2
                        cases k2; rfl
                      subst this
                      obtain ⟨b, hb, mr, fin⟩ := k5 jn xs ql
                      have ry : y = .int jj := rj.rb S2 qj
                      subst ry
                      refine ⟨a2, _, jj, .ref b, rfl, rfl, SqL.of k3, atI_ref k4 qx hb, Hs2, E2, [], dk, S2, n1, qk, fun kv rk => ?_⟩
                      obtain ⟨o, t1, t2⟩ := me_put S2.eS mr rk (rv.later ex2 (m1.trans n1.symm)) qm
                      refine t2 _ ?_
                      obtain ⟨S3, u1⟩ := fin t1
                      have := q2 Hs2 _ _ (Ex.refl _) map_snd_set (nil_st S3)
                      rw [u1, n1] at this
                      exact this
                    | _ => exact q2.elim
            | _ => exact q2.elim⟩
/-! ### x[j].append(v) -/
def app2B (i : Nat) (fv : Env → Option D) (oj : Opd) : Sm := fun e => match oj.get e, ooAt i e, fv e with
  | some (.int jj), some ll, some dv => (match ixN ll.length jj with
    | some j => (match ll[j]? with
      | some xs => put2C i ll j (meApp (.l xs) dv) e
      | none => .stuck)
    | none => .stuck)
  | _, _, _ => .stuck
def sApp2 (i : Nat) (fj : M Opd) (fv : Env → Option D) : Sm := fun e => match ooAt i e with
  | some _ => (fj e).fl (app2B i fv)
  | _ => .stuck
theorem s_app2 {i : Nat} {x : Str} {j v : Expr} {fj : M Opd} {fv : Env → Option D} {p1 p3 apos cpos pos : Pos} (ho : PE X (.Name x p1) (tVar i)) (hj : DO X F j fj) (hpj : PlainIx j) (hv : DZ X F v fv)
    (hbase : attributeBase (.Subscript (.Name x p1) j p3) "append" X.env (eval (.Subscript (.Name x p1) j p3) X.env) = eval (.Subscript (.Name x p1) j p3) X.env := by rfl)
    (hfew : ((backTo cpos (starEach [v] X.env)).all (fun x => !x.1) && (backToKw cpos (keywordEach [] X.env)).all (fun x => x.1.isSome)
      && decide ([v].length + ([] : List Keyword).length + (if ([] : List Keyword).isEmpty then 0 else 1) < 30)) = true := by rfl)
    (hline : (apos.endLine == cpos.line) = true := by rfl) (hs : starEach [v] X.env = (false, eval v X.env) :: starEach [] X.env := by rfl) (hplain : (backTo cpos (starEach [] X.env)).any (·.1) = false := by rfl)
    (hsw : swapsWith (.Call (.Attribute (.Subscript (.Name x p1) j p3) "append" apos) [v] [] cpos) none pos.line X.env = pure false := by rfl) :
    DS X F (.Expr (.Call (.Attribute (.Subscript (.Name x p1) j p3) "append" apos) [v] [] cpos) pos) (sApp2 i fj fv) :=
  ⟨PS.weak (ps_expr (pe_bm PySem.F.plainAttrs_list PySem.F.slot_list_append PySem.F.type_list_append mt_append (pe_ix ix_list ho hj.pe hpj) (pa_cons hv.pe pa_nil hs) hbase hfew hline hs hplain) hsw) fun D σ H ⟨Hs, E, S, e1, q⟩ => by
  unfold sApp2 at q
  cases qo : ooAt i (E.map Prod.snd) with
  | none => rw [qo] at q; exact q.elim
  | some ll0 =>
    rw [qo] at q
    obtain ⟨a, _, g1, g2, _⟩ := oo_at (T := []) (st_nil S) qo
    refine ⟨.ref a, by rw [← e1]; exact g2, Hs, E, [], st_nil S, e1, EndS.bind q fun y oj env' Hs2 H2 E2 ex2 n1 n2 p2 q2 => ?_⟩
    subst n2
    obtain ⟨S2, rj⟩ := p2
    unfold app2B at q2
    cases qj : oj.get (E2.map Prod.snd) with
    | none => rw [qj] at q2; exact q2.elim
    | some dj =>
      cases qo2 : ooAt i (E2.map Prod.snd) with
      | none => rw [qj, qo2] at q2; cases dj <;> exact q2.elim
      | some ll =>
        cases qk : fv (E2.map Prod.snd) with
        | none => rw [qj, qo2, qk] at q2; cases dj <;> exact q2.elim
        | some dv =>
          rw [qj, qo2, qk] at q2
          cases dj with
          | int jj =>
            try simp only at q2
            cases qx : ixN ll.length jj with
            | none => rw [qx] at q2; exact q2.elim
            | some jn =>
              rw [qx] at q2
              try simp only at q2
              cases ql : ll[jn]? with
              | none => rw [ql] at q2; exact q2.elim
              | some xs =>
                rw [ql] at q2
                try simp only at q2
                cases qm : meApp (.l xs) dv with
                | none => rw [qm] at q2; exact q2.elim
                | some m' =>
                  rw [qm] at q2
                  cases m' with
                  | l xs' =>
                    obtain ⟨a2, as, k1, k2, k3, k4, k5⟩ := oo_at S2 qo2
                    have : a2 = a := by
                      rw [n1, ← e1, g2] at k2
                      cases k2; rfl
                    subst this
                    obtain ⟨b, hb, mr, fin⟩ := k5 jn xs ql
                    have ry : y = .int jj := rj.rb S2 qj
                    subst ry
                    obtain ⟨vs, hbv, _⟩ := id mr
                    refine ⟨a2, _, jj, .ref b, rfl, rfl, SqL.of k3, atI_ref k4 qx hb, .inl ⟨rfl, _, SqL.of hbv⟩, Hs2, E2, [], dv, S2, n1, qk, fun kv rk => ?_⟩
                    obtain ⟨o, t1, t2⟩ := me_app mr rk qm
                    unfold tNil
                    refine t2 _ ?_
                    obtain ⟨S3, u1⟩ := fin t1
                    have := q2 Hs2 _ _ (Ex.refl _) map_snd_set (nil_st S3)
                    rw [u1, n1] at this
                    exact this
                  | _ => exact q2.elim
          | _ => exact q2.elim⟩
/-! ### instances -/
def fldD : List Str → List D → Str → Option D
  | n :: ns, d :: ds, f => if n = f then some d else fldD ns ds f
  | _, _, _ => none
theorem fld_rep {G : Gx} {H : Hp} : ∀ {ns : List Str} {l : List D} {vs : List V} {f : Str} {d : D}, RepL G H l vs → ns.length = vs.length → fldD ns l f = some d → ∃ v, (ns.zip vs).lookup f = some v ∧ Rep G H d v
  | [], _, _, _, _, _, _, h => by simp [fldD] at h
  | _ :: _, [], _, _, _, _, _, h => by simp [fldD] at h
  | n :: ns, d :: ds, _, f, d', ⟨v, r, e, h1, h2⟩, hl, h => by
    subst e
    have h : (if n = f then some d else fldD ns ds f) = some d' := h
    show ∃ v', List.lookup f ((n, v) :: ns.zip r) = some v' ∧ _
    by_cases z : n = f
    · rw [if_pos z] at h; cases h
      have : (f == n) = true := beq_iff_eq.mpr z.symm
      exact ⟨v, by rw [List.lookup_cons, this], h1⟩
    · rw [if_neg z] at h
      have : (f == n) = false := by rw [beq_eq_false_iff_ne]; exact fun e => z e.symm
      obtain ⟨w, g1, g2⟩ := fld_rep h2 (by simpa using hl) h
      exact ⟨w, by rw [List.lookup_cons, this]; exact g1, g2⟩
def hasF : List Str → Str → Bool
  | [], _ => false
  | c :: cs, x => decide (c = x) || hasF cs x
def gFld (cs : List Str) (f : Str) : D → Option Slot
  | .ins c ns l => (match hasF cs c, fldD ns l f with
    | true, some d => some (.sh d)
    | _, _ => none)
  | _ => none
/-- what a class is asked for its fields -/
def FldOk (X : Cx) (F : Frm) (cs : List Str) (f : Str) : Prop := ∀ c C, hasF cs c = true → F.G.cl c = some C → Cls X.K C ∧ NoAttr X.K C f
theorem de_fld {e : Expr} {fa : M Opd} {cs : List Str} {f : Str} {pos : Pos} (hf : FldOk X F cs f) (ha : DO X F e fa) (hb : attributeBase e f X.env (eval e X.env) = eval e X.env := by rfl) : DE X F (.Attribute e f pos) (dOp1 (gFld cs f) fa) :=
  ⟨PE.weak (pe_fld ha.pe hb) (op1_weak (ta := F.tM F.pO fa) (r := fun x H1 Q => ∃ a C dx fs v, x = .ref a ∧ H1 a = some (.ins C dx fs) ∧ Cls X.K C ∧ NoAttr X.K C f ∧ fs.lookup f = some v ∧ Q v H1) (fun Hs H L x dx s Q S r h k => by
    cases dx with
    | ins c ns l =>
      obtain ⟨a, C, dx, vs, rfl, h1, h2, h3, h4⟩ := r
      have h : (match hasF cs c, fldD ns l f with
        | true, some d => some (Slot.sh d)
        | _, _ => none) = some s := h
      cases q1 : hasF cs c with
      | false => rw [q1] at h; cases h
      | true =>
        cases q2 : fldD ns l f with
        | none => rw [q1, q2] at h; cases h
        | some d =>
          rw [q1, q2] at h; cases h
          obtain ⟨k1, k2⟩ := hf c C q1 h1
          obtain ⟨v, g1, g2⟩ := fld_rep h4 h3 q2
          exact ⟨a, C, dx, _, v, rfl, h2, k1, k2, g1, fin_sh S g2 k⟩
    | _ => cases h) (fun _ _ _ h => h))⟩
def putFs (f : Str) (v : D) : List Str → List D → List Str × List D
  | n :: ns, d :: ds => if n = f then (n :: ns, v :: ds) else ((n :: (putFs f v ns ds).1), d :: (putFs f v ns ds).2)
  | _, _ => ([f], [v])
theorem putFs_rep {G : Gx} {H : Hp} {f : Str} {dv : D} {z : V} (rz : Rep G H dv z) : ∀ {ns : List Str} {l : List D} {vs : List V}, RepL G H l vs → ns.length = vs.length →
    ∃ vs', putF f z (ns.zip vs) = (putFs f dv ns l).1.zip vs' ∧ (putFs f dv ns l).1.length = vs'.length ∧ RepL G H (putFs f dv ns l).2 vs' ∧ (putFs f dv ns l).1.length ≤ ns.length + 1
  | [], l, vs, h, hl => by
    cases vs with
    | nil =>
      cases l with
      | nil => exact ⟨[z], rfl, rfl, RepL.cons rz RepL.nil, Nat.le_refl _⟩
      | cons d ds => obtain ⟨_, _, e, _⟩ := h; cases e
    | cons v vs => cases hl
  | n :: ns, l, vs, h, hl => by
    cases vs with
    | nil => cases hl
    | cons v vs =>
      cases l with
      | nil => cases h
      | cons d ds =>
        obtain ⟨v', r, e, h1, h2⟩ := h
        cases e
        obtain ⟨vs', k1, k2, k3, k4⟩ := putFs_rep rz (f := f) h2 (ns := ns) (by simpa using hl)
        unfold putFs
        show ∃ vs', (if n = f then (n, z) :: ns.zip vs else (n, v) :: putF f z (ns.zip vs)) = _ ∧ _
        by_cases q : n = f
        · rw [if_pos q, if_pos q]
          exact ⟨z :: vs, rfl, by simpa using hl, RepL.cons rz h2, by simp⟩
        · rw [if_neg q, if_neg q]
          exact ⟨v :: vs', by rw [k1]; rfl, by simpa using k2, RepL.cons h1 k3, by simpa using k4⟩
/-- self.f = v -/
def fldE (i : Nat) (cs : List Str) (f : Str) (ov : Opd) : Sm := fun e => match ov, ownAt i e with
  | .val dv, some (.i c ns l) => (match hasF cs c, Nat.blt ns.length 1000 with
    | true, true => putAt i (.i c (putFs f dv ns l).1 (putFs f dv ns l).2) e
    | _, _ => .stuck)
  | _, _ => .stuck
def sFldD (i : Nat) (cs : List Str) (f : Str) (fv : M Opd) : Sm := fun e => (fv e).fl (fldE i cs f)
theorem s_fld {i : Nat} {x f : Str} {v : Expr} {fv : M Opd} {cs : List Str} {pos p1 p2 : Pos} (hf : FldOk X F cs f) (ho : PE X (.Name x p1) (tVar i)) (hv : DO X F v fv)
    (hs : swapsWith v (some (.Attribute (.Name x p1) f p2)) pos.line X.env = pure false := by rfl) : DS X F (.Assign [.Attribute (.Name x p1) f p2] v pos) (sFldD i cs f fv) :=
  ⟨PS.weak (ps_fld ho hv.pe hs) fun D σ H ⟨Hs, E, S, e1, q⟩ => by
  refine ⟨Hs, E, [], st_nil S, e1, EndS.bind q fun y ov env' Hs1 H1 E1 ex m1 m2 p q => ?_⟩
  subst m2
  cases ov with
  | «at» j => exact q.elim
  | val dv =>
    obtain ⟨S1, rv⟩ := p
    unfold fldE at q
    try simp only at q
    cases qo : ownAt i (E1.map Prod.snd) with
    | none => rw [qo] at q; exact q.elim
    | some m =>
      rw [qo] at q
      cases m with
      | i c ns l =>
        try simp only at q
        cases q1 : hasF cs c with
        | false => rw [q1] at q; exact q.elim
        | true =>
          cases q2 : Nat.blt ns.length 1000 with
          | false => rw [q1, q2] at q; exact q.elim
          | true =>
            rw [q1, q2] at q
            try simp only at q
            obtain ⟨a, s, g1, g2, g3, mr, fin⟩ := own_at S1 qo
            obtain ⟨C, dx, vs, h1, h2, h3, h4⟩ := mr
            obtain ⟨k1, k2⟩ := hf c C q1 h1
            obtain ⟨vs', t1, t2, t3, t4⟩ := putFs_rep (f := f) rv h4 h3
            have hlen : (ns.zip vs).length < 1000 := by
              rw [List.length_zip, ← h3, Nat.min_self]
              exact Nat.le_of_ble_eq_true q2
            refine ⟨.ref a, by rw [← m1]; exact g2, a, C, dx, _, rfl, h2, k1, k2, hlen, ?_⟩
            obtain ⟨S3, u1, u2⟩ := fin (o := .ins C dx (putF f y (ns.zip vs))) (m' := .i c (putFs f dv ns l).1 (putFs f dv ns l).2) ⟨C, dx, vs', h1, by rw [upd_same, t1], t2, t3⟩
            unfold putAt at q
            rw [g3] at q
            have := q Hs1 _ _ (Ex.refl _) u2 (nil_st S3)
            rw [u1, m1] at this
            exact this
      | _ => exact q.elim⟩
end
end Dl
set_option Elab.async false
set_option linter.all false
set_option maxRecDepth 100000
set_option maxHeartbeats 4000000
namespace Dl
open PySem PySem.Spec PyProof.Rows L2
/-! ### built-ins by values -/
def gets : List Opd → Env → Option (List D)
  | [], _ => some []
  | o :: os, e => match o.get e, gets os e with
    | some d, some ds => some (d :: ds)
    | _, _ => none
def RBL (G : Gx) (Hs H : Hp) : List D → List V → Prop
  | [], vs => vs = []
  | d :: ds, vs => ∃ v r, vs = v :: r ∧ RB G Hs H d v ∧ RBL G Hs H ds r
def Opn (F : Frm) (r : List V → Hp → VK → Prop) (g : List D → Option Slot) : Prop := ∀ (Hs H : Hp) (L : List Ent) (xs : List V) (ds : List D) (s : Slot) (Q : VK), F.St Hs H L → RBL F.G Hs H ds xs → g ds = some s →
  (∀ v Hs' H', Ex Hs Hs' → F.St Hs' H' (L ++ [(some v, s)]) → Q v H') → r xs H Q
def bltK (g : List D → Option Slot) (os : List Opd) : M Slot := fun e => match gets os e with
  | some ds => (match g ds with
    | some s => .ok s e
    | none => .stuck)
  | none => .stuck
def dBlt (g : List D → Option Slot) (fa : M (List Opd)) : M Slot := M.bind fa (bltK g)
section
variable {X : Cx} {F : Frm}
theorem gets_rb {Hs H : Hp} {E T : List Ent} (S : F.St Hs H (E ++ T)) : ∀ {vs : List V} {os : List Opd} {ds : List D}, OpdsR F.G Hs E vs os → gets os (E.map Prod.snd) = some ds → RBL F.G Hs H ds vs
  | [], os, ds, r, h => by
    cases (show os = [] from r)
    cases h; rfl
  | v :: vs, os, ds, ⟨o, rr, e, r1, r2⟩, h => by
    subst e
    unfold gets at h
    cases q1 : o.get (E.map Prod.snd) with
    | none => rw [q1] at h; cases h
    | some d =>
      cases q2 : gets rr (E.map Prod.snd) with
      | none => rw [q1, q2] at h; cases h
      | some ds' =>
        rw [q1, q2] at h
        cases h
        exact ⟨v, vs, rfl, r1.rb S q1, gets_rb S r2 q2⟩
theorem blt_weak {r : List V → Hp → VK → Prop} {g : List D → Option Slot} (ho : Opn F r g) {fa : M (List Opd)} : ∀ σ H Q, F.tM F.pD (dBlt g fa) σ H Q → tCB r (F.tM F.pA fa) σ H Q := fun σ H Q ⟨Hs, E, T, S, e1, q⟩ => by
  refine ⟨Hs, E, T, S, e1, q.bind fun vs os env' Hs1 H1 E1 ex m1 m2 p q => ?_⟩
  subst m2
  unfold bltK at q
  cases qg : gets os (E1.map Prod.snd) with
  | none => rw [qg] at q; exact q.elim
  | some ds =>
    rw [qg] at q
    try simp only at q
    cases qs : g ds with
    | none => rw [qs] at q; exact q.elim
    | some s =>
      rw [qs] at q
      exact ho Hs1 H1 (E1 ++ T) vs ds s Q p.1 (gets_rb p.1 p.2 qg) qs fun v Hs' H' ex' S' => q v Hs' H' E1 ex' m1 rfl S'
theorem de_blt {id : String} {r : List V → Hp → VK → Prop} {g : List D → Option Slot} {x : Str} {e : Expr} {es : List Expr} {fa : M (List Opd)} {p pos : Pos} (hc : CallR X (.builtin id) r) (ho : Opn F r g) (hg : Gl X x) (hm : X.mg x = none) (hv : bootBuiltins x = some (.builtin id)) (ha : DA X F (e :: es) fa)
    (hn : x ≠ "__name__" := by decide) (hdb : (x == ("__debug__" : Str)) = false := by decide) (he : starEach (e :: es) X.env = (false, eval e X.env) :: starEach es X.env := by rfl) (hpl : (backTo pos (starEach es X.env)).any (·.1) = false := by rfl) :
    DE X F (.Call (.Name x p) (e :: es) [] pos) (dBlt g fa) := ⟨PE.weak (pe_callB hc hg hm hv ha.pa hn hdb he hpl) (blt_weak ho)⟩
theorem de_bty {T : String} {r : List V → Hp → VK → Prop} {g : List D → Option Slot} {x : Str} {e : Expr} {es : List Expr} {fa : M (List Opd)} {p pos : Pos} (hc : CallR X (.type T) r) (ho : Opn F r g) (hg : Gl X x) (hm : X.mg x = none) (hv : bootBuiltins x = some (.type T)) (ha : DA X F (e :: es) fa)
    (hn : x ≠ "__name__" := by decide) (hdb : (x == ("__debug__" : Str)) = false := by decide) (he : starEach (e :: es) X.env = (false, eval e X.env) :: starEach es X.env := by rfl) (hpl : (backTo pos (starEach es X.env)).any (·.1) = false := by rfl) :
    DE X F (.Call (.Name x p) (e :: es) [] pos) (dBlt g fa) := ⟨PE.weak (pe_callTy hc hg hm hv ha.pa hn hdb he hpl) (blt_weak ho)⟩
theorem one_rbl {G : Gx} {Hs H : Hp} {d : D} {xs : List V} (r : RBL G Hs H [d] xs) : ∃ v, xs = [v] ∧ RB G Hs H d v := by
  obtain ⟨v, rr, e, h, h2⟩ := r
  cases (show rr = [] from h2)
  exact ⟨v, e, h⟩
def g1 (f : D → Option Slot) : List D → Option Slot
  | [d] => f d
  | _ => none
theorem g1_of {f : D → Option Slot} {ds : List D} {s : Slot} (h : g1 f ds = some s) : ∃ d, ds = [d] ∧ f d = some s := by
  match ds, h with
  | [d], h => exact ⟨d, rfl, h⟩
  | [], h => cases h
  | _ :: _ :: _, h => cases h
theorem opn1 {r : List V → Hp → VK → Prop} {f : D → Option Slot} (ho : ∀ (Hs H : Hp) (L : List Ent) (v : V) (d : D) (s : Slot) (Q : VK), F.St Hs H L → RB F.G Hs H d v → f d = some s →
    (∀ v Hs' H', Ex Hs Hs' → F.St Hs' H' (L ++ [(some v, s)]) → Q v H') → r [v] H Q) : Opn F r (g1 f) := fun Hs H L xs ds s Q S rr h k => by
  obtain ⟨d, e, h2⟩ := g1_of h
  subst e
  obtain ⟨v, e, r2⟩ := one_rbl rr
  subst e
  exact ho Hs H L v d s Q S r2 h2 k
/-! len -/
def gLen : List D → Option Slot := g1 fun d => match d with
  | .lst l => some (.sh (.int l.length))
  | .fz l => some (.sh (.int l.length))
  | .tup l => some (.sh (.int l.length))
  | .tz l => some (.sh (.int l.length))
  | .dct _ ks _ => some (.sh (.int ks.length))
  | _ => none
def rLenD : List V → Hp → VK → Prop := fun xs H Q => ∃ a kvs, xs = [V.ref a] ∧ H a = some (.dK kvs) ∧ Q (.int kvs.length) H
def rLenG (K : PySem.W.Frag) : List V → Hp → VK → Prop := fun xs H Q => (∃ x n, xs = [x] ∧ LenV K x H n ∧ Q (.int n) H) ∨ (rLenT xs H Q ∨ rLenD xs H Q)
theorem cr_lenG : CallR X (.builtin "len") (rLenG X.K) := call_len.or (call_len_dT.or call_lenD)
theorem opn_len {K : PySem.W.Frag} (hK : F.G.K = K) : Opn F (rLenG K) gLen := by
  subst hK
  refine opn1 fun Hs H L v d s Q S r h k => ?_
  cases d with
  | lst l =>
    cases h
    obtain ⟨a, vs, rfl, h1, h2⟩ := r
    exact .inl ⟨_, vs.length, rfl, .inl ⟨vs, SqL.of h1, rfl⟩, fin_sh S (by rw [h2.length]; exact rfl) k⟩
  | fz l =>
    cases h
    obtain ⟨a, vs, rfl, h1, h2⟩ := r
    exact .inl ⟨_, vs.length, rfl, .inl ⟨vs, sqL_ex S.eS h1, rfl⟩, fin_sh S (by rw [h2.length]; exact rfl) k⟩
  | tup l =>
    cases h
    obtain ⟨a, vs, rfl, h1, h2⟩ := r
    exact .inl ⟨_, vs.length, rfl, .inr ⟨vs, SqT.of (S.eS.get h1), rfl⟩, fin_sh S (by rw [h2.length]; exact rfl) k⟩
  | tz l =>
    cases h
    obtain ⟨a, vs, rfl, h1, h2⟩ := r
    exact .inl ⟨_, vs.length, rfl, .inr ⟨vs, tz_sq (tz_ex S.eS h1), rfl⟩, fin_sh S (by rw [h2.length]; exact rfl) k⟩
  | dct t ks l =>
    cases h
    obtain ⟨a, vs, rfl, h1, h2⟩ := r
    cases t with
    | false => obtain ⟨kvs, g1, g2, g3⟩ := h1; exact .inr (.inr ⟨a, kvs, rfl, g1, fin_sh S (by rw [g2, List.length_map]; exact rfl) k⟩)
    | true => obtain ⟨kvs, g1, g2, g3⟩ := h1; exact .inr (.inl ⟨a, kvs, rfl, g1, fin_sh S (by rw [g2, List.length_map]; exact rfl) k⟩)
  | _ => cases h
/-! all, any -/
def boolsD : List D → Option (List Bool)
  | [] => some []
  | .bl b :: ds => (boolsD ds).map (b :: ·)
  | _ => none
theorem boolsD_rep {G : Gx} {H : Hp} : ∀ {l : List D} {vs : List V} {bs : List Bool}, RepL G H l vs → boolsD l = some bs → vs = bs.map V.bl
  | [], vs, bs, r, h => by cases h; exact r
  | d :: ds, _, bs, ⟨v, rr, e, h1, h2⟩, h => by
    cases d with
    | bl b =>
      have h : (boolsD ds).map (b :: ·) = some bs := h
      cases q : boolsD ds with
      | none => rw [q] at h; cases h
      | some bs' =>
        rw [q] at h; cases h
        rw [e, show v = V.bl b from h1, boolsD_rep h2 q]; rfl
    | _ => cases h
def seqD : D → Option (List D)
  | .lst l => some l
  | .fz l => some l
  | _ => none
theorem seqD_sq {Hs H : Hp} {L : List Ent} {d : D} {v : V} {l : List D} (S : F.St Hs H L) (r : RB F.G Hs H d v) (h : seqD d = some l) : ∃ a vs, v = .ref a ∧ SqL F.G.K H a vs ∧ RepL F.G Hs l vs := by
  cases d with
  | lst l' => cases h; obtain ⟨a, vs, h0, h1, h2⟩ := r; exact ⟨a, vs, h0, SqL.of h1, h2⟩
  | fz l' => cases h; obtain ⟨a, vs, h0, h1, h2⟩ := r; exact ⟨a, vs, h0, sqL_ex S.eS h1, h2⟩
  | _ => cases h
def gAll : List D → Option Slot := g1 fun d => match seqD d with
  | some l => (match boolsD l with
    | some bs => some (.sh (.bl (bs.all id)))
    | none => none)
  | none => none
def gAny : List D → Option Slot := g1 fun d => match seqD d with
  | some l => (match boolsD l with
    | some bs => some (.sh (.bl (bs.any id)))
    | none => none)
  | none => none
theorem opn_all {K : PySem.W.Frag} (hK : F.G.K = K) : Opn F (rAll K) gAll := by
  subst hK
  refine opn1 fun Hs H L v d s Q S r h k => ?_
  cases q1 : seqD d with
  | none => rw [q1] at h; cases h
  | some l =>
    rw [q1] at h
    try simp only at h
    cases q2 : boolsD l with
    | none => rw [q2] at h; cases h
    | some bs =>
      rw [q2] at h; cases h
      obtain ⟨a, vs, rfl, h1, h2⟩ := seqD_sq S r q1
      rw [boolsD_rep h2 q2] at h1
      exact ⟨a, bs, rfl, h1, fin_sh S (by exact rfl) k⟩
theorem opn_any {K : PySem.W.Frag} (hK : F.G.K = K) : Opn F (rAny K) gAny := by
  subst hK
  refine opn1 fun Hs H L v d s Q S r h k => ?_
  cases q1 : seqD d with
  | none => rw [q1] at h; cases h
  | some l =>
    rw [q1] at h
    try simp only at h
    cases q2 : boolsD l with
    | none => rw [q2] at h; cases h
    | some bs =>
      rw [q2] at h; cases h
      obtain ⟨a, vs, rfl, h1, h2⟩ := seqD_sq S r q1
      rw [boolsD_rep h2 q2] at h1
      exact ⟨a, bs, rfl, h1, fin_sh S (by exact rfl) k⟩
/-! tuple, list -/
def gTuple : List D → Option Slot := g1 fun d => match d with
  | .tup l => some (.sh (.tup l))
  | .tz l => some (.sh (.tz l))
  | d => (match seqD d with
    | some l => some (.sh (.tup l))
    | none => none)
def rTupleOf (K : PySem.W.Frag) : List V → Hp → VK → Prop := fun xs H Q => ∃ p ys, xs = [.ref p] ∧ ((SqL K H p ys ∧ ∀ l, H l = none → Q (.ref l) (upd H l (.tup ys))) ∨ (SqT K H p ys ∧ Q (.ref p) H))
def rListOf (K : PySem.W.Frag) : List V → Hp → VK → Prop := fun xs H Q => ∃ p ys, xs = [.ref p] ∧ (SqL K H p ys ∨ SqT K H p ys) ∧ ∀ l, H l = none → Q (.ref l) (upd H l (.lst ys))
theorem opn_tuple {K : PySem.W.Frag} (hK : F.G.K = K) : Opn F (rTupleOf K) gTuple := by
  subst hK
  refine opn1 fun Hs H L v d s Q S r h k => ?_
  have gen : (∀ l, d ≠ .tup l) → (∀ l, d ≠ .tz l) → ∃ p ys, [v] = [.ref p] ∧ ((SqL F.G.K H p ys ∧ ∀ l, H l = none → Q (.ref l) (upd H l (.tup ys))) ∨ (SqT F.G.K H p ys ∧ Q (.ref p) H)) := fun hd hd2 => by
    have h : (match seqD d with
      | some l => some (Slot.sh (.tup l))
      | none => none) = some s := by
      cases d <;> first | exact h | exact absurd rfl (hd _) | exact absurd rfl (hd2 _)
    cases q1 : seqD d with
    | none => rw [q1] at h; cases h
    | some l =>
      rw [q1] at h; cases h
      obtain ⟨a, vs, rfl, h1, h2⟩ := seqD_sq S r q1
      exact ⟨a, vs, rfl, .inl ⟨h1, fun p hp => fin_tup S h2 k p hp⟩⟩
  cases d with
  | tup l =>
    cases h
    obtain ⟨a, vs, rfl, h1, h2⟩ := id r
    exact ⟨a, vs, rfl, .inr ⟨SqT.of (S.eS.get h1), fin_sh S r k⟩⟩
  | tz l =>
    cases h
    obtain ⟨a, vs, rfl, h1, h2⟩ := id r
    exact ⟨a, vs, rfl, .inr ⟨tz_sq (tz_ex S.eS h1), fin_sh S r k⟩⟩
  | _ => exact gen (fun _ => D.noConfusion) (fun _ => D.noConfusion)
/-- tuple(a list): a tuple that has no dict -/
def gTupleF : List D → Option Slot := g1 fun d => match d with
  | .tup l => some (.sh (.tup l))
  | .tz l => some (.sh (.tz l))
  | d => (match seqD d with
    | some l => some (.sh (.tz l))
    | none => none)
def rTupleF (K : PySem.W.Frag) : List V → Hp → VK → Prop := fun xs H Q => ∃ p ys, xs = [.ref p] ∧ ((SqL K H p ys ∧ ∀ l (o : Obj), H l = none → o.cls = .type "tuple" → o.dict = none → Q (.ref l) (upd H l (.frz o (.tup ys)))) ∨ (SqT K H p ys ∧ Q (.ref p) H))
theorem call_tupleF : CallR X (.type "tuple") (rTupleF X.K) := by
  intro pins s σ H xs us Q I r h
  obtain ⟨p, ys, rfl, h⟩ := h
  rw [Vals.ref1 r]
  rcases h with ⟨hs, q⟩ | ⟨hs, q⟩
  · obtain ⟨its, rv, pl, hz⟩ := I.list hs
    refine call_tuple_list pl.isList (fun h' hk => ?_) (by rw [List.size_toArray, ← rv.length]; exact hz)
    have I1 : Inv X pins σ H { s with heap := h' } := I.kept (t' := s.toks) hk
    have I2 : Inv X pins σ (upd H h'.objs.size (.frz { cls := .type "tuple", data := .seq its.toArray } (.tup ys))) { s with heap := h'.push { cls := .type "tuple", data := .seq its.toArray } } :=
      I1.laid (t' := s.toks) (fun b o e => Heap.get?_push_of_some _ e) (Nat.le_refl _) (show ObjOk X.prog X.w _ _ _ (.frz _ (.tup ys)) from ⟨Heap.get?_push_size _ rfl, hz, its, rv, IsTup.new _ _⟩)
    exact ⟨.ref h'.objs.size, _, I2, rfl, q _ _ (I1.hok.fresh (Nat.le_refl _)) rfl rfl⟩
  · obtain ⟨its, rv, pl, hz⟩ := I.tuple hs
    exact call_tuple_tup pl ⟨.ref p, H, I, rfl, q⟩
theorem opn_tupleF {K : PySem.W.Frag} (hK : F.G.K = K) : Opn F (rTupleF K) gTupleF := by
  subst hK
  refine opn1 fun Hs H L v d s Q S r h k => ?_
  have gen : (∀ l, d ≠ .tup l) → (∀ l, d ≠ .tz l) → rTupleF F.G.K [v] H Q := fun hd hd2 => by
    have h : (match seqD d with
      | some l => some (Slot.sh (.tz l))
      | none => none) = some s := by
      cases d <;> first | exact h | exact absurd rfl (hd _) | exact absurd rfl (hd2 _)
    cases q1 : seqD d with
    | none => rw [q1] at h; cases h
    | some l =>
      rw [q1] at h; cases h
      obtain ⟨a, vs, rfl, h1, h2⟩ := seqD_sq S r q1
      refine ⟨a, vs, rfl, .inl ⟨h1, fun p o hp hc hd => ?_⟩⟩
      have S' := S.allocSh (o := .frz o (.tup vs)) hp rfl
      have e : Ex Hs (upd Hs p (.frz o (.tup vs))) := S.shEx hp
      exact k _ _ _ e (S'.pushSh ⟨p, vs, rfl, ⟨o, upd_same, hc, hd⟩, h2.ex e⟩)
  cases d with
  | tup l =>
    cases h
    obtain ⟨a, vs, rfl, h1, h2⟩ := id r
    exact ⟨a, vs, rfl, .inr ⟨SqT.of (S.eS.get h1), fin_sh S r k⟩⟩
  | tz l =>
    cases h
    obtain ⟨a, vs, rfl, h1, h2⟩ := id r
    exact ⟨a, vs, rfl, .inr ⟨tz_sq (tz_ex S.eS h1), fin_sh S r k⟩⟩
  | _ => exact gen (fun _ => D.noConfusion) (fun _ => D.noConfusion)
def gList : List D → Option Slot := g1 fun d => match items d with
  | some l => some (.ol l)
  | none => none
theorem opn_list {K : PySem.W.Frag} (hK : F.G.K = K) : Opn F (rListOf K) gList := by
  subst hK
  refine opn1 fun Hs H L v d s Q S r h k => ?_
  cases q1 : items d with
  | none => rw [q1] at h; cases h
  | some l =>
    rw [q1] at h; cases h
    cases d with
    | lst l' => cases q1; obtain ⟨a, vs, rfl, h1, h2⟩ := r; exact ⟨a, vs, rfl, .inl (SqL.of h1), fun p hp => fin_ol S h2 k p hp⟩
    | fz l' => cases q1; obtain ⟨a, vs, rfl, h1, h2⟩ := r; exact ⟨a, vs, rfl, .inl (sqL_ex S.eS h1), fun p hp => fin_ol S h2 k p hp⟩
    | tup l' => cases q1; obtain ⟨a, vs, rfl, h1, h2⟩ := r; exact ⟨a, vs, rfl, .inr (SqT.of (S.eS.get h1)), fun p hp => fin_ol S h2 k p hp⟩
    | tz l' => cases q1; obtain ⟨a, vs, rfl, h1, h2⟩ := r; exact ⟨a, vs, rfl, .inr (tz_sq (tz_ex S.eS h1)), fun p hp => fin_ol S h2 k p hp⟩
    | _ => cases q1
/-! sorted (ints), max, min, sum -/
def intsD : List D → Option (List Int)
  | [] => some []
  | .int b :: ds => (intsD ds).map (b :: ·)
  | _ => none
theorem intsD_rep {G : Gx} {H : Hp} : ∀ {l : List D} {vs : List V} {bs : List Int}, RepL G H l vs → intsD l = some bs → vs = bs.map V.int
  | [], vs, bs, r, h => by cases h; exact r
  | d :: ds, _, bs, ⟨v, rr, e, h1, h2⟩, h => by
    cases d with
    | int b =>
      have h : (intsD ds).map (b :: ·) = some bs := h
      cases q : intsD ds with
      | none => rw [q] at h; cases h
      | some bs' =>
        rw [q] at h; cases h
        rw [e, show v = V.int b from h1, intsD_rep h2 q]; rfl
    | _ => cases h
def insI (x : Int) : List Int → List Int
  | [] => [x]
  | y :: l => if x ≤ y then x :: y :: l else y :: insI x l
def sortI : List Int → List Int
  | [] => []
  | x :: l => insI x (sortI l)
theorem insI_perm (x : Int) : ∀ l, (insI x l).Perm (x :: l)
  | [] => List.Perm.refl _
  | y :: l => by
    unfold insI
    split
    · exact List.Perm.refl _
    · exact ((insI_perm x l).cons y).trans (List.Perm.swap x y l)
theorem sortI_perm : ∀ l, (sortI l).Perm l
  | [] => List.Perm.refl _
  | x :: l => (insI_perm x (sortI l)).trans ((sortI_perm l).cons x)
theorem insI_le {x : Int} : ∀ {l : List Int}, l.Pairwise (· ≤ ·) → (insI x l).Pairwise (· ≤ ·)
  | [], _ => List.pairwise_singleton _ _
  | y :: l, h => by
    unfold insI
    have hh := List.pairwise_cons.mp h
    split
    · rename_i z
      refine List.pairwise_cons.mpr ⟨fun a ha => ?_, h⟩
      rcases List.mem_cons.mp ha with e | e
      · rw [e]; exact z
      · exact Int.le_trans z (hh.1 a e)
    · rename_i z
      refine List.pairwise_cons.mpr ⟨fun a ha => ?_, insI_le hh.2⟩
      rcases List.mem_cons.mp ((insI_perm x l).mem_iff.mp ha) with e | e
      · rw [e]; omega
      · exact hh.1 a e
theorem sortI_le : ∀ l, (sortI l).Pairwise (· ≤ ·)
  | [] => List.Pairwise.nil
  | x :: l => insI_le (sortI_le l)
theorem sorted_uniq : ∀ {l m : List Int}, l.Perm m → l.Pairwise (· ≤ ·) → m.Pairwise (· ≤ ·) → l = m
  | [], m, p, _, _ => (List.Perm.nil_eq p)
  | x :: l, [], p, _, _ => absurd p.length_eq (by simp)
  | x :: l, y :: m, p, h1, h2 => by
    have a1 := List.pairwise_cons.mp h1
    have a2 := List.pairwise_cons.mp h2
    have e : x = y := by
      have b1 : x ≤ y := by
        rcases List.mem_cons.mp (p.mem_iff.mpr (List.mem_cons_self ..) : y ∈ x :: l) with e | e
        · omega
        · exact a1.1 y e
      have b2 : y ≤ x := by
        rcases List.mem_cons.mp (p.mem_iff.mp (List.mem_cons_self ..) : x ∈ y :: m) with e | e
        · omega
        · exact a2.1 x e
      omega
    subst e
    rw [sorted_uniq (List.Perm.cons_inv p) a1.2 a2.2]
def gSortI : List D → Option Slot := g1 fun d => match seqD d with
  | some l => (match intsD l with
    | some ns => some (.ol ((sortI ns).map .int))
    | none => none)
  | none => none
theorem opn_sortI {K : PySem.W.Frag} (hK : F.G.K = K) : Opn F (rSortedI K) gSortI := by
  subst hK
  refine opn1 fun Hs H L v d s Q S r h k => ?_
  cases q1 : seqD d with
  | none => rw [q1] at h; cases h
  | some l =>
    rw [q1] at h
    try simp only at h
    cases q2 : intsD l with
    | none => rw [q2] at h; cases h
    | some ns =>
      rw [q2] at h; cases h
      obtain ⟨a, vs, rfl, h1, h2⟩ := seqD_sq S r q1
      rw [intsD_rep h2 q2] at h1
      refine ⟨a, ns, rfl, h1, fun ns' p hp hs hn => ?_⟩
      rw [sorted_uniq (hp.trans (sortI_perm ns).symm) hs (sortI_le ns)]
      exact fin_ol S (RepL.of_ints _) k p hn
def maxI : Int → List Int → Int
  | m, [] => m
  | m, x :: l => maxI (if m < x then x else m) l
def minI : Int → List Int → Int
  | m, [] => m
  | m, x :: l => minI (if x < m then x else m) l
theorem maxI_mem : ∀ (l : List Int) (m : Int), (maxI m l = m ∨ maxI m l ∈ l) ∧ m ≤ maxI m l ∧ ∀ y ∈ l, y ≤ maxI m l
  | [], m => ⟨.inl rfl, Int.le_refl _, fun y h => by cases h⟩
  | x :: l, m => by
    obtain ⟨h1, h2, h3⟩ := maxI_mem l (if m < x then x else m)
    have e : maxI m (x :: l) = maxI (if m < x then x else m) l := rfl
    rw [e]
    by_cases z : m < x
    · rw [if_pos z] at *
      exact ⟨h1.elim (fun h1 => .inr (by rw [h1]; simp)) (fun h1 => .inr (by simp [h1])), by omega, fun y hy => by
        rcases List.mem_cons.mp hy with q | q
        · omega
        · exact h3 y q⟩
    · rw [if_neg z] at *
      exact ⟨h1.elim (fun h1 => .inl h1) (fun h1 => .inr (by simp [h1])), h2, fun y hy => by
        rcases List.mem_cons.mp hy with q | q
        · omega
        · exact h3 y q⟩
theorem minI_mem : ∀ (l : List Int) (m : Int), (minI m l = m ∨ minI m l ∈ l) ∧ minI m l ≤ m ∧ ∀ y ∈ l, minI m l ≤ y
  | [], m => ⟨.inl rfl, Int.le_refl _, fun y h => by cases h⟩
  | x :: l, m => by
    obtain ⟨h1, h2, h3⟩ := minI_mem l (if x < m then x else m)
    have e : minI m (x :: l) = minI (if x < m then x else m) l := rfl
    rw [e]
    by_cases z : x < m
    · rw [if_pos z] at *
      exact ⟨h1.elim (fun h1 => .inr (by rw [h1]; simp)) (fun h1 => .inr (by simp [h1])), by omega, fun y hy => by
        rcases List.mem_cons.mp hy with q | q
        · omega
        · exact h3 y q⟩
    · rw [if_neg z] at *
      exact ⟨h1.elim (fun h1 => .inl h1) (fun h1 => .inr (by simp [h1])), h2, fun y hy => by
        rcases List.mem_cons.mp hy with q | q
        · omega
        · exact h3 y q⟩
def gMax : List D → Option Slot := g1 fun d => match seqD d with
  | some l => (match intsD l with
    | some (n :: ns) => some (.sh (.int (maxI n ns)))
    | _ => none)
  | none => none
def gMin : List D → Option Slot := g1 fun d => match seqD d with
  | some l => (match intsD l with
    | some (n :: ns) => some (.sh (.int (minI n ns)))
    | _ => none)
  | none => none
def gSum : List D → Option Slot := g1 fun d => match seqD d with
  | some l => (match intsD l with
    | some ns => some (.sh (.int ns.sum))
    | _ => none)
  | none => none
theorem opn_max {K : PySem.W.Frag} (hK : F.G.K = K) : Opn F (rMax K) gMax := by
  subst hK
  refine opn1 fun Hs H L v d s Q S r h k => ?_
  cases q1 : seqD d with
  | none => rw [q1] at h; cases h
  | some l =>
    rw [q1] at h
    try simp only at h
    cases q2 : intsD l with
    | none => rw [q2] at h; cases h
    | some ns =>
      rw [q2] at h
      obtain ⟨a, vs, rfl, h1, h2⟩ := seqD_sq S r q1
      rw [intsD_rep h2 q2] at h1
      cases ns with
      | nil => cases h
      | cons n ns =>
        cases h
        refine ⟨a, n :: ns, rfl, h1, by simp, fun m hm hy => ?_⟩
        obtain ⟨k1, k2, k3⟩ := maxI_mem ns n
        have e1 : maxI n ns ≤ m := by
          rcases k1 with k1 | k1
          · rw [k1]; exact hy n (by simp)
          · exact hy _ (by simp [k1])
        have e2 : m ≤ maxI n ns := by
          rcases List.mem_cons.mp hm with e | e
          · omega
          · exact k3 m e
        have : m = maxI n ns := by omega
        subst this
        exact fin_sh S (by exact rfl) k
theorem opn_min {K : PySem.W.Frag} (hK : F.G.K = K) : Opn F (rMin K) gMin := by
  subst hK
  refine opn1 fun Hs H L v d s Q S r h k => ?_
  cases q1 : seqD d with
  | none => rw [q1] at h; cases h
  | some l =>
    rw [q1] at h
    try simp only at h
    cases q2 : intsD l with
    | none => rw [q2] at h; cases h
    | some ns =>
      rw [q2] at h
      obtain ⟨a, vs, rfl, h1, h2⟩ := seqD_sq S r q1
      rw [intsD_rep h2 q2] at h1
      cases ns with
      | nil => cases h
      | cons n ns =>
        cases h
        refine ⟨a, n :: ns, rfl, h1, by simp, fun m hm hy => ?_⟩
        obtain ⟨k1, k2, k3⟩ := minI_mem ns n
        have e1 : m ≤ minI n ns := by
          rcases k1 with k1 | k1
          · rw [k1]; exact hy n (by simp)
          · exact hy _ (by simp [k1])
        have e2 : minI n ns ≤ m := by
          rcases List.mem_cons.mp hm with e | e
          · omega
          · exact k3 m e
        have : m = minI n ns := by omega
        subst this
        exact fin_sh S (by exact rfl) k
theorem opn_sum {K : PySem.W.Frag} (hK : F.G.K = K) : Opn F (rSum K) gSum := by
  subst hK
  refine opn1 fun Hs H L v d s Q S r h k => ?_
  cases q1 : seqD d with
  | none => rw [q1] at h; cases h
  | some l =>
    rw [q1] at h
    try simp only at h
    cases q2 : intsD l with
    | none => rw [q2] at h; cases h
    | some ns =>
      rw [q2] at h; cases h
      obtain ⟨a, vs, rfl, h1, h2⟩ := seqD_sq S r q1
      rw [intsD_rep h2 q2] at h1
      exact ⟨a, ns, rfl, h1, fin_sh S (by exact rfl) k⟩
/-! int, abs -/
def gInt : List D → Option Slot := g1 fun d => match d with
  | .int i => some (.sh (.int i))
  | .bl b => some (.sh (.int (if b then 1 else 0)))
  | _ => none
theorem opn_int : Opn F (fun xs H Q => (∃ i, xs = [.int i] ∧ Q (.int i) H) ∨ ∃ k, xs = [.bl k] ∧ Q (.int (if k then 1 else 0)) H) gInt := by
  refine opn1 fun Hs H L v d s Q S r h k => ?_
  cases d with
  | int i => cases h; cases (show v = .int i from r); exact .inl ⟨i, rfl, fin_sh S (by exact rfl) k⟩
  | bl b => cases h; cases (show v = .bl b from r); exact .inr ⟨b, rfl, fin_sh S (by exact rfl) k⟩
  | _ => cases h
/-! list(range(..)) -/
def rgI (a b : Int) : List D := rangeD a (b - a).toNat
theorem rgV_rep {G : Gx} {H : Hp} (a b : Int) : RepL G H (rgI a b) (rgV a b) := by
  refine RepL.of_get ?_ fun i d v h1 h2 => ?_
  · rw [rgV_length]; exact rangeD_len _ _
  · have hi : i < (b - a).toNat := by
      have := (List.getElem?_eq_some_iff.mp h1).1
      rw [show rgI a b = rangeD a (b - a).toNat from rfl, rangeD_len] at this; exact this
    rw [show rgI a b = rangeD a (b - a).toNat from rfl, rangeD_get a _ i hi] at h1
    cases h1
    unfold rgV at h2
    rw [List.getElem?_map, List.getElem?_range hi] at h2
    cases h2
    exact rfl
def rgOkD (a b : Int) : Bool := rOk a && (rOk b && Nat.ble (b - a).toNat 16777216)
theorem rgOk_of {a b : Int} (h : rgOkD a b = true) : RgOk a b := by
  unfold rgOkD at h
  rw [Bool.and_eq_true, Bool.and_eq_true] at h
  obtain ⟨h1, h2⟩ := rOk_of h.1
  obtain ⟨h3, h4⟩ := rOk_of h.2.1
  exact ⟨h1, h2, h3, h4, Nat.le_of_ble_eq_true h.2.2⟩
def lrgK (n : Nat) (os : List Opd) : M Slot := fun e => match n, opInts os e with
  | 1, some [b] => (match rgOkD 0 b with
    | true => .ok (.ol (rgI 0 b)) e
    | false => .stuck)
  | 2, some [a, b] => (match rgOkD a b with
    | true => .ok (.ol (rgI a b)) e
    | false => .stuck)
  | _, _ => .stuck
def dLstRg (n : Nat) (fa : M (List Opd)) : M Slot := M.bind fa (lrgK n)
theorem de_lrg1 {a : Expr} {fa : M Opd} {p p1 pos pos1 : Pos} (hc : X.calm = true) (hgl : Gl X "list") (hml : X.mg "list" = none) (hg : Gl X "range") (hm : X.mg "range" = none) (ha : DO X F a fa)
    (na : starEach [a] X.env = (false, eval a X.env) :: starEach [] X.env := by rfl) (nb : starEach [.Call (.Name "range" p1) [a] [] pos1] X.env = (false, eval (.Call (.Name "range" p1) [a] [] pos1) X.env) :: starEach [] X.env := by rfl) :
    DE X F (.Call (.Name "list" p) [.Call (.Name "range" p1) [a] [] pos1] [] pos) (dLstRg 1 (dCons fa dNil)) := ⟨PE.weak (pe_listRg hc hgl hml (prg_1 hg hm ha.pe na) nb) fun σ H Q ⟨Hs, E, T, S, e1, q⟩ => by
  refine ⟨Hs, E, T, S, e1, ?_⟩
  have q : F.End σ Hs T (F.pD T) ((fa (E.map Prod.snd)).bind fun o e => lrgK 1 [o] e) Q := by
    have e : ((dLstRg 1 (dCons fa dNil)) (E.map Prod.snd)) = ((fa (E.map Prod.snd)).bind fun o e => lrgK 1 [o] e) := by
      unfold dLstRg dCons dNil M.bind
      cases fa (E.map Prod.snd) <;> rfl
    rw [← e]; exact q
  refine q.bind fun v o env' Hs1 H1 E1 ex m1 m2 p q => ?_
  subst m2
  unfold lrgK at q
  cases qi : opInts [o] (E1.map Prod.snd) with
  | none => rw [qi] at q; exact q.elim
  | some is =>
    rw [qi] at q
    have r := ints_of (vs := [v]) p.1 ⟨o, [], rfl, p.2, rfl⟩ qi
    match is, r, q with
    | [], r, _ => cases r
    | _ :: _ :: _, r, _ => cases r
    | [b], r, q =>
      cases r
      try simp only at q
      cases qr : rgOkD 0 b with
      | false => rw [qr] at q; exact q.elim
      | true =>
        rw [qr] at q
        exact ⟨b, rfl, rgOk_of qr, fun l hl => fin_ol p.1 (rgV_rep 0 b) (fun v Hs' H' ex' S' => q v Hs' H' E1 ex' m1 rfl S') l hl⟩⟩
theorem de_lrg2 {a b : Expr} {fa fb : M Opd} {p p1 pos pos1 : Pos} (hc : X.calm = true) (hgl : Gl X "list") (hml : X.mg "list" = none) (hg : Gl X "range") (hm : X.mg "range" = none) (ha : DO X F a fa) (hb : DO X F b fb)
    (na : starEach [a, b] X.env = (false, eval a X.env) :: starEach [b] X.env := by rfl) (nb : starEach [b] X.env = (false, eval b X.env) :: starEach [] X.env := by rfl) (hp : (backTo pos1 (starEach [b] X.env)).any (·.1) = false := by rfl)
    (nr : starEach [.Call (.Name "range" p1) [a, b] [] pos1] X.env = (false, eval (.Call (.Name "range" p1) [a, b] [] pos1) X.env) :: starEach [] X.env := by rfl) :
    DE X F (.Call (.Name "list" p) [.Call (.Name "range" p1) [a, b] [] pos1] [] pos) (dLstRg 2 (dCons fa (dCons fb dNil))) := ⟨PE.weak (pe_listRg hc hgl hml (prg_2 hg hm ha.pe hb.pe na nb hp) nr) fun σ H Q ⟨Hs, E, T, S, e1, q⟩ => by
  refine ⟨Hs, E, T, S, e1, ?_⟩
  have q : F.End σ Hs T (F.pD T) ((fa (E.map Prod.snd)).bind fun o e => (fb e).bind fun o2 e => lrgK 2 [o, o2] e) Q := by
    have e : ((dLstRg 2 (dCons fa (dCons fb dNil))) (E.map Prod.snd)) = ((fa (E.map Prod.snd)).bind fun o e => (fb e).bind fun o2 e => lrgK 2 [o, o2] e) := by
      unfold dLstRg dCons dNil M.bind
      cases fa (E.map Prod.snd) with
      | ok o e => show Out.bind (Out.bind (Out.bind (fb e) _) _) _ = Out.bind (fb e) _; cases fb e <;> rfl
      | exc x e => rfl
      | stuck => rfl
    rw [← e]; exact q
  refine q.bind fun v o env' Hs1 H1 E1 ex m1 m2 p q => ?_
  subst m2
  refine ⟨Hs1, E1, T, p.1, m1, Frm.End.bind q fun v2 o2 env' Hs2 H2 E2 ex2 n1 n2 p2 q => ?_⟩
  subst n2
  unfold lrgK at q
  cases qi : opInts [o, o2] (E2.map Prod.snd) with
  | none => rw [qi] at q; exact q.elim
  | some is =>
    rw [qi] at q
    have r := ints_of (vs := [v, v2]) p2.1 ⟨o, [o2], rfl, p.2.later ex2 (m1.trans n1.symm), o2, [], rfl, p2.2, rfl⟩ qi
    match is, r, q with
    | [], r, _ => cases r
    | [_], r, _ => cases r
    | _ :: _ :: _ :: _, r, _ => cases r
    | [a, b], r, q =>
      cases r
      try simp only at q
      cases qr : rgOkD a b with
      | false => rw [qr] at q; exact q.elim
      | true =>
        rw [qr] at q
        exact ⟨a, b, rfl, rfl, rgOk_of qr, fun l hl => fin_ol p2.1 (rgV_rep a b) (fun v Hs' H' ex' S' => q v Hs' H' E2 ex' n1 rfl S') l hl⟩⟩
end
end Dl
set_option Elab.async false
set_option linter.all false
set_option maxRecDepth 100000
set_option maxHeartbeats 4000000
namespace Dl
open PySem PySem.Spec PyProof.Rows L2
/-! ### isinstance -/
def DTy (G : Gx) (d : D) (t : Value) : Prop := match d with
  | .non => t = .type "NoneType"
  | .bl _ => t = .type "bool"
  | .int _ => t = .type "int"
  | .str _ => t = .type "str"
  | .tup _ => t = .type "tuple"
  | .tz _ => t = .type "tuple"
  | .lst _ => t = .type "list"
  | .fz _ => t = .type "list"
  | .dct _ _ _ => t = .type "dict"
  | .ins c _ _ => ∃ C, G.cl c = some C ∧ t = .ref C
  | .exn _ _ _ => False
/-- what the written part says of a class whose instances are asked for their class -/
structure InsOk (K : PySem.W.Frag) (C : Addr) : Prop where
  cl : Cls K C
  ha : PySem.W.findIn K (.ref C) "__class__" = some (some (.builtin "object.__class__"))
  hn : PySem.W.specialIn K (.builtin "object.__class__") "__get__" = some (some (.builtin "getset_descriptor.__get__"))
  tk : PySem.W.takesIn K (.builtin "object.__class__") = some true
  hm : PySem.W.mroIn K C (.type "object") = some true
section
variable {X : Cx} {F : Frm}
theorem dty_of {Hs H : Hp} {L : List Ent} {d : D} {v : V} (hK : F.G.K = X.K) (hI : ∀ c ns l C, d = .ins c ns l → F.G.cl c = some C → InsOk X.K C) (hE : ∀ c ns l, d ≠ .exn c ns l) (S : F.St Hs H L) (r : RB F.G Hs H d v) : ∃ t, DTy F.G d t ∧ TyX X.K H v t := by
  cases d with
  | non => cases (show v = .non from r); exact ⟨_, rfl, .base .non⟩
  | bl b => cases (show v = .bl b from r); exact ⟨_, rfl, .base (.bl b)⟩
  | int i => cases (show v = .int i from r); exact ⟨_, rfl, .base (.int i)⟩
  | str i => cases (show v = .str i from r); exact ⟨_, rfl, .base (.str i)⟩
  | tup l => obtain ⟨a, vs, rfl, h1, h2⟩ := r; exact ⟨_, rfl, .base (.tup (S.eS.get h1))⟩
  | tz l => obtain ⟨a, vs, rfl, ⟨o, h1, _⟩, h2⟩ := r; exact ⟨_, rfl, .fTuple (S.eS.get h1)⟩
  | lst l => obtain ⟨a, vs, rfl, h1, h2⟩ := r; exact ⟨_, rfl, .base (.lst h1)⟩
  | fz l =>
    obtain ⟨a, vs, rfl, h1, h2⟩ := r
    rcases h1 with h1 | h1
    · rcases h1 with h1 | ⟨o, h1⟩
      · exact ⟨_, rfl, .base (.lst (S.eS.get h1))⟩
      · exact ⟨_, rfl, .base (.frz (S.eS.get h1))⟩
    · rw [hK] at h1
      obtain ⟨o, its, n, k1, k2, _⟩ := h1
      exact ⟨_, rfl, .kList k1 k2⟩
  | dct t ks l =>
    obtain ⟨a, vs, rfl, h1, h2⟩ := r
    cases t with
    | false => obtain ⟨kvs, g1, _⟩ := h1; exact ⟨_, rfl, .base (.dK g1)⟩
    | true => obtain ⟨kvs, g1, _⟩ := h1; exact ⟨_, rfl, .base (.dT g1)⟩
  | ins c ns l =>
    obtain ⟨a, C, dx, vs, rfl, h1, h2, h3, h4⟩ := r
    have i := hI c ns l C rfl h1
    exact ⟨.ref C, ⟨C, h1, rfl⟩, .base (.ins h2 i.cl i.ha i.hn i.tk i.hm)⟩
  | exn c ns l => exact absurd rfl (hE c ns l)
/-- tab: the answers -/
structure IsiOk (X : Cx) (F : Frm) (u : Value) (tab : D → Option Bool) : Prop where
  ok : ∀ d b t, tab d = some b → DTy F.G d t → PySem.W.kitOne X.K t u = some b
  ins : ∀ c ns l C b, tab (.ins c ns l) = some b → F.G.cl c = some C → InsOk X.K C
  exn : ∀ c ns l, tab (.exn c ns l) = none
def isiK (tab : D → Option Bool) (o : Opd) : M Slot := fun e => match o.get e with
  | some d => (match tab d with
    | some b => .ok (.sh (.bl b)) e
    | none => .stuck)
  | none => .stuck
def dIsi (tab : D → Option Bool) (fa : M Opd) : M Slot := M.bind fa (isiK tab)
theorem de_isi {tab : D → Option Bool} {a cc : Expr} {fa : M Opd} {c : V} {u : Value} {p pos : Pos} (hK : F.G.K = X.K) (hg : Gl X "isinstance") (hm : X.mg "isinstance" = none) (ha : DO X F a fa) (hc : PE X cc (tC c)) (k : ClsV c u) (ok : IsiOk X F u tab)
    (he : starEach [a, cc] X.env = (false, eval a X.env) :: starEach [cc] X.env := by rfl) (he2 : starEach [cc] X.env = (false, eval cc X.env) :: starEach [] X.env := by rfl) (hpl : (backTo pos (starEach [cc] X.env)).any (·.1) = false := by rfl) :
    DE X F (.Call (.Name "isinstance" p) [a, cc] [] pos) (dIsi tab fa) := ⟨PE.weak (pe_callB call_isi hg hm boot_isinstance (pa_cons ha.pe (pa_cons hc pa_nil he2) he) (by decide) (by decide) he hpl) fun σ H Q ⟨Hs, E, T, S, e1, q⟩ => by
  refine ⟨Hs, E, T, S, e1, q.bind fun v o env' Hs1 H1 E1 ex m1 m2 p q => ?_⟩
  subst m2
  unfold isiK at q
  cases qo : o.get (E1.map Prod.snd) with
  | none => rw [qo] at q; exact q.elim
  | some d =>
    rw [qo] at q
    try simp only at q
    cases qt : tab d with
    | none => rw [qt] at q; exact q.elim
    | some b =>
      rw [qt] at q
      obtain ⟨t, h1, h2⟩ := dty_of hK (fun c ns l C e hC => by subst e; exact ok.ins c ns l C b qt hC) (fun c ns l e => by subst e; rw [ok.exn c ns l] at qt; cases qt) p.1 (p.2.rb p.1 qo)
      exact ⟨v, c, t, u, b, rfl, k, h2, ok.ok d b t qt h1, q (.bl b) Hs1 H1 E1 (Ex.refl _) m1 rfl (p.1.pushSh rfl)⟩⟩
/-! the built-in ones -/
def isTuple : D → Option Bool
  | .tup _ => some true
  | .tz _ => some true
  | .ins _ _ _ => none
  | .exn _ _ _ => none
  | _ => some false
def isInt : D → Option Bool
  | .int _ => some true
  | .bl _ => some true
  | .ins _ _ _ => none
  | .exn _ _ _ => none
  | _ => some false
def isBool : D → Option Bool
  | .bl _ => some true
  | .ins _ _ _ => none
  | .exn _ _ _ => none
  | _ => some false
def isStr : D → Option Bool
  | .str _ => some true
  | .ins _ _ _ => none
  | .exn _ _ _ => none
  | _ => some false
theorem isi_tuple : IsiOk X F (.type "tuple") isTuple := ⟨fun d b t h ty => by
  cases d <;> first | (cases h; cases ty; exact kit_ty (by decide +kernel)) | (cases h), fun c ns l C b h _ => (by cases h), fun _ _ _ => rfl⟩
theorem isi_int : IsiOk X F (.type "int") isInt := ⟨fun d b t h ty => by
  cases d <;> first | (cases h; cases ty; exact kit_ty (by decide +kernel)) | (cases h), fun c ns l C b h _ => (by cases h), fun _ _ _ => rfl⟩
theorem isi_bool : IsiOk X F (.type "bool") isBool := ⟨fun d b t h ty => by
  cases d <;> first | (cases h; cases ty; exact kit_ty (by decide +kernel)) | (cases h), fun c ns l C b h _ => (by cases h), fun _ _ _ => rfl⟩
theorem isi_str : IsiOk X F (.type "str") isStr := ⟨fun d b t h ty => by
  cases d <;> first | (cases h; cases ty; exact kit_ty (by decide +kernel)) | (cases h), fun c ns l C b h _ => (by cases h), fun _ _ _ => rfl⟩
/-- an own class: its own instances; others: what the written part says -/
def isOwn (c0 : Str) (others : Bool) : D → Option Bool
  | .ins c _ _ => if c = c0 then some true else none
  | .exn _ _ _ => none
  | _ => match others with
    | true => some false
    | false => none
theorem isOwn_ins {c0 c : Str} {o b : Bool} {ns : List Str} {l : List D} (h : isOwn c0 o (.ins c ns l) = some b) : c = c0 ∧ b = true := by
  unfold isOwn at h
  by_cases z : c = c0
  · simp only [if_pos z] at h
    exact ⟨z, (Option.some.inj h).symm⟩
  · simp only [if_neg z] at h
    cases h
theorem isi_own {c0 : Str} {C : Addr} (h0 : F.G.cl c0 = some C) (hI : InsOk X.K C) : IsiOk X F (.ref C) (isOwn c0 false) := by
  refine ⟨fun d b t h ty => ?_, fun c ns l C' b h h1 => ?_, fun _ _ _ => rfl⟩
  · cases d with
    | ins c ns l =>
      obtain ⟨C', h1, rfl⟩ := ty
      obtain ⟨z, rfl⟩ := isOwn_ins h
      subst z
      rw [h0] at h1; cases h1
      unfold PySem.W.kitOne
      rw [if_pos (by simp)]
    | _ => cases h
  · obtain ⟨z, _⟩ := isOwn_ins h
    subst z
    rw [h0] at h1; cases h1
    exact hI
/-! ### C(..) -/
def newK (n : Nat) (c : Str) (Fn : Me → List D → Rm) (os : List Opd) : M Slot := fun e => match vals os with
  | some ds => (match Nat.beq ds.length n, Fn (.i c [] []) ds with
    | true, .ok (.i c' ns l) (.sh .non) => .ok (.oi c' ns l) e
    | true, .exc x => .exc x e
    | _, _ => .stuck)
  | none => .stuck
def dNew (n : Nat) (c : Str) (Fn : Me → List D → Rm) (fa : M (List Opd)) : M Slot := M.bind fa (newK n c Fn)
theorem run_makeS {pins : List (Addr × Obj)} {σ : L2.St} {H : Hp} {s : Shared} {Q : VK} {us : List Value} {vs : List V} {k : Nat} {f C : Addr} {fd : FuncData} {ps : List Str} {sp : Sp} {E : XK} (M : Mk X.K C f) (FO : FnOk X.prog X.w X.K X.mg X.base (L2.CX X.prog X.w) k f fd ps sp) (hr : Room (k + 1) X.A) (hb : Binds X.K fd ps [])
    (hx : PassesAt (L2.CX X.prog X.w) X σ E) (I : Inv X pins σ H s) (r : Vals vs us)
    (h : ∀ x dx, H x = none → H dx = none → dx ≠ x → sp (.ref x :: vs) (upd (upd H dx (.own x)) x (.ins C dx [])) (fun v H2 => v = .non ∧ Q (.ref x) H2) E) :
    wpAny (model X.prog X.w) X.A (call (.ref C) us) (EP X pins σ Q) X.xe s := by
  have hq := h (s.heap.objs.size + 1) s.heap.objs.size (I.hok.fresh (Nat.le_succ _)) (I.hok.fresh (Nat.le_refl _)) (Nat.ne_of_lt (Nat.lt_succ_self _))
  have I2 := Inv.made (C := C) I
  have r2 : Vals (V.ref (s.heap.objs.size + 1) :: vs) (Value.ref (s.heap.objs.size + 1) :: us) := .cons rfl r
  have hl : (Value.ref (s.heap.objs.size + 1) :: us).length = ps.length := by
    have e := r2.length
    rw [FO.len _ _ _ _ hq] at e
    exact e.symm
  have bb := hb _ (Value.ref (s.heap.objs.size + 1) :: us) I2.kIn (by rw [List.append_nil]; exact hl)
  rw [List.append_nil] at bb
  refine wpAny_call (make_map (f := f) I.kIn M.makes M.init (beq_iff_eq.mp M.fn) (codeAny_mono (FO.run _ X.stack _ _ ⟨Value.ref (s.heap.objs.size + 1) :: us, []⟩ (Value.ref (s.heap.objs.size + 1) :: us) _ _ E (hr.make C us [])
    (I2.env0.make C us []) bb r2 hq) fun r s' hq' => ?_))
  cases r with
  | error e => exact hx pins _ _ e s' I2 hq'
  | ok fl =>
    cases fl with
    | ret u =>
      obtain ⟨v, H', I3, rv, ev, q3⟩ := I2.after hq'
      subst ev
      exact ⟨rv, ⟨V.ref (s.heap.objs.size + 1), H', I3, rfl, q3⟩⟩
    | next => exact False.elim hq'
    | brk => exact False.elim hq'
    | cont => exact False.elim hq'
def tMakeS (C : Addr) (sp : Sp) (E : L2.St → XK) (t : TA) : TE := fun σ H Q => t σ H fun vs H1 => ∀ x dx, H1 x = none → H1 dx = none → dx ≠ x →
  sp (.ref x :: vs) (upd (upd H1 dx (.own x)) x (.ins C dx [])) (fun v H2 => v = .non ∧ Q (.ref x) H2) (E σ)
theorem pe_makeS {k : Nat} {f C : Addr} {fd : FuncData} {ps : List Str} {sp : Sp} {E : L2.St → XK} {x : Str} {e : Expr} {es : List Expr} {t : TA} {p pos : Pos} (M : Mk X.K C f) (FO : FnOk X.prog X.w X.K X.mg X.base (L2.CX X.prog X.w) k f fd ps sp) (hr : Room (k + 1) X.A) (hg : Gl X x) (hm : X.mg x = some (.ref C)) (hb : Binds X.K fd ps []) (hx : ∀ σ, PassesAt (L2.CX X.prog X.w) X σ (E σ))
    (ha : PA X (e :: es) t) (hdb : (x == ("__debug__" : Str)) = false := by decide) (he : starEach (e :: es) X.env = (false, eval e X.env) :: starEach es X.env := by rfl) (hpl : (backTo pos (starEach es X.env)).any (·.1) = false := by rfl) :
    PE X (.Call (.Name x p) (e :: es) [] pos) (tMakeS C sp E t) := by
  refine ⟨fun pins s σ H Q I h => ?_⟩
  refine wpAny_Call_Name_kw (ld_glob I hg hm ?_ hdb)
  refine PySem.W.callWith_K (h₀ := X.base) I.ok.mod.kin M.kp (thn (ha.run pos pins s σ H _ I h) fun us s1 ⟨vs, H1, I1, r, q⟩ => ⟨I1.kIn, ?_⟩) he hpl
  exact run_makeS M FO hr hb (hx σ) I1 r q
theorem de_new {G : Gx} {Fn : Me → List D → Rm} {n k : Nat} {f C : Addr} {fd : FuncData} {ps : List Str} {x c : Str} {e : Expr} {es : List Expr} {fa : M (List Opd)} {p pos : Pos} (Mk0 : Mk X.K C f) (FO : FnOk X.prog X.w X.K X.mg X.base (L2.CX X.prog X.w) k f fd ps (spM G n Fn)) (hG : F.G = G) (hC : G.cl c = some C)
    (hr : Room (k + 1) X.A) (hg : Gl X x) (hm : X.mg x = some (.ref C)) (hb : Binds X.K fd ps []) (tk : Takes X F.W) (ha : DA X F (e :: es) fa) (hdb : (x == ("__debug__" : Str)) = false := by decide) (he : starEach (e :: es) X.env = (false, eval e X.env) :: starEach es X.env := by rfl) (hpl : (backTo pos (starEach es X.env)).any (·.1) = false := by rfl) :
    DE X F (.Call (.Name x p) (e :: es) [] pos) (dNew n c Fn fa) := ⟨PE.weak (pe_makeS (E := fun σ cls d H => F.W cls d σ H) Mk0 FO hr hg hm hb (fun σ => passAt tk σ) ha.pa hdb he hpl) fun σ H Q ⟨Hs, E, T, S, e1, q⟩ => by
  subst hG
  refine ⟨Hs, E, T, S, e1, q.bind fun vs os env' Hs1 H1 E1 ex m1 m2 p q => ?_⟩
  subst m2
  intro x dx hx hdx hne
  unfold newK at q
  cases qv : vals os with
  | none => rw [qv] at q; exact q.elim
  | some ds =>
    rw [qv] at q
    have rr := vals_rep p.2 qv
    have S0 : F.St Hs1 (upd H1 dx (.own x)) (E1 ++ T) := p.1.alloc hdx
    have hx2 : (upd H1 dx (.own x)) x = none := by rw [upd_ne (Ne.symm hne)]; exact hx
    have S1 : F.St Hs1 (upd (upd H1 dx (.own x)) x (.ins C dx [])) (E1 ++ T ++ [(some (.ref x), .oi c [] [])]) :=
      S0.pushOwn (N := fun a => a = x) (Ex.new hx2) (fun a o h _ _ => by rw [upd_ne (ne_of_none h hx2)]; exact h) (fun a z => by subst z; exact ⟨hx2, _, upd_same⟩) ⟨x, C, dx, [], rfl, rfl, hC, upd_same, rfl, rfl⟩ (S0.tb.new hx2 rfl)
    have hi : ((E1 ++ T) ++ [(some (.ref x), Slot.oi c [] [])])[(E1 ++ T).length]? = some (some (.ref x), .oi c [] []) := by rw [List.getElem?_append_right (Nat.le_refl _), Nat.sub_self]; rfl
    obtain ⟨a, ea, mr, hsa, fin⟩ := S1.callM hi (m := .i c [] []) rfl
    cases ea
    try simp only at q
    cases qn : Nat.beq ds.length n with
    | false => rw [qn] at q; exact q.elim
    | true =>
      rw [qn] at q
      refine ⟨by rw [List.length_cons, ← rr.length, Nat.eq_of_beq_eq_true qn], x, vs, Hs1, .i c [] [], ds, rfl, S1.eS, ⟨S1.nt, S1.tb⟩, rr, mr, hsa, ?_⟩
      cases qf : Fn (.i c [] []) ds with
      | stuck => rw [qf] at q; exact q.elim
      | exc xx =>
        rw [qf] at q
        intro cls d Hs' H' l xa
        have S' := fin (v := .non) (t := .un) (s' := .un) (P := fun _ => False) (P' := fun _ => False) l (fun _ z => z.elim) (fun _ z => z.elim) (fun _ z => z.elim) trivial trivial
        have S2 := StR.pop S'
        rw [List.set_append_right _ _ (Nat.le_refl _), Nat.sub_self] at S2
        exact q cls d Hs' H' E1 l.eS m1 rfl (StR.pop S2) xa
      | ok m' t =>
        rw [qf] at q
        cases m' with
        | i c' ns l =>
          cases t with
          | sh d =>
            cases d with
            | non =>
              intro v Hs' H' P lf f na nn rm r1
              obtain ⟨v', ev, rv⟩ := r1
              cases ev
              refine ⟨rv, ?_⟩
              obtain ⟨C', dx', us, g1, g2, g3, g4⟩ := rm
              have S' := fin (v := .non) (t := .un) (s' := .oi c' ns l) (P := fun _ => False) (P' := fun b => b = x) lf (fun _ z => z.elim) (fun b z => by subst z; exact ⟨minus_in rfl, nn, _, g2⟩) (fun _ z _ => z.elim) ⟨x, C', dx', us, rfl, rfl, g1, g2, g3, g4⟩ trivial
              have S2 := StR.pop S'
              rw [List.set_append_right _ _ (Nat.le_refl _), Nat.sub_self] at S2
              exact q (.ref x) Hs' H' E1 lf.eS m1 rfl S2
            | _ => exact q.elim
          | _ => exact q.elim
        | _ => exact q.elim⟩
end
end Dl
set_option Elab.async false
set_option linter.all false
set_option maxRecDepth 100000
set_option maxHeartbeats 4000000
namespace Dl
open PySem PySem.Spec PyProof.Rows L2
theorem PE.or {X : Cx} {e : Expr} {t t' : TE} (h : PE X e t) (h' : PE X e t') : PE X e (fun σ H Q => t σ H Q ∨ t' σ H Q) := ⟨fun pins s σ H Q I q => by
  rcases q with q | q
  · exact h.run pins s σ H Q I q
  · exact h'.run pins s σ H Q I q⟩
section
variable {X : Cx} {F : Frm}
/-! ### a, b = x, y of plain names -/
def parC (i j : Nat) (s1 s2 : Slot) : Sm := fun e => match s1, s2 with
  | .un, _ => .stuck
  | _, .un => .stuck
  | s1, s2 => if i < e.length ∧ j < e.length then .nx ((e.set i s1).set j s2) else .stuck
def sPar (i j : Nat) (fa fb : M Slot) : Sm := fun e => (fa e).fl fun s1 e => (fb e).fl (parC i j s1)
theorem s_par {i j : Nat} {x y : Str} {a b : Expr} {fa fb : M Slot} {px py pt pos : Pos} {kt k2 pt2} (hc : X.calm = true) (hN : X.N.Nodup) (hi : X.N[i]? = some x) (hj : X.N[j]? = some y) (hij : i ≠ j)
    (hx : X.env.scope.names.lookup x = some .local) (hy : X.env.scope.names.lookup y = some .local) (ha : DE X F a fa) (hb' : DE X F b fb)
    (hsa : starEach [a, b] X.env = (false, eval a X.env) :: starEach [b] X.env := by rfl) (hsb : starEach [b] X.env = (false, eval b X.env) :: starEach [] X.env := by rfl)
    (hw : swappedStores [.Tuple [.Name x px, .Name y py] kt pt] (.Tuple [a, b] k2 pt2) X.env = pure (some [x, y]))
    (hs : swapsWithSole [.Tuple [.Name x px, .Name y py] kt pt] (.Tuple [a, b] k2 pt2) pos.line X.env = pure false := by rfl) :
    DS X F (.Assign [.Tuple [.Name x px, .Name y py] kt pt] (.Tuple [a, b] k2 pt2) pos) (sPar i j fa fb) := ⟨PS.weak (ps_par hc hN hi hj hij hx hy (pa_cons ha.pe (pa_cons hb'.pe pa_nil hsb) hsa) hw hs) fun D σ H ⟨Hs, E, S, e1, q⟩ => by
  refine ⟨Hs, E, [], st_nil S, e1, EndS.bind q fun v s1 env' Hs1 H1 E1 ex m1 m2 p q => ?_⟩
  subst m2
  have p : F.St Hs1 H1 (E1 ++ [] ++ [(some v, s1)]) := p
  rw [List.append_nil] at p
  refine ⟨Hs1, E1, [(some v, s1)], p, m1, ?_⟩
  -- the second, with the first as a temp
  have key : F.End σ Hs1 [(some v, s1)] (F.pD [(some v, s1)]) (fb (E1.map Prod.snd)) (fun w H2 => D.nx ((σ.set i (some v)).set j (some w)) H2) := by
    cases qf : fb (E1.map Prod.snd) with
    | stuck => rw [qf] at q; exact q.elim
    | exc xx e2 =>
      rw [qf] at q
      intro cls d Hs2 H2 E2 ex2 n1 n2 S2 xa
      have := q cls d Hs2 H2 E2 ex2 n2 (StR.pop S2) xa
      rw [n1] at this
      exact this
    | ok s2 e2 =>
      rw [qf] at q
      intro w Hs2 H2 E2 ex2 n1 n2 p2
      subst n2
      have q : F.EndS Hs1 (parC i j s1 s2 (E2.map Prod.snd)) D := q
      have q : F.EndS Hs2 (parC i j s1 s2 (E2.map Prod.snd)) D := q.later ex2
      have p2 : F.St Hs2 H2 ((E2 ++ [(some v, s1)]) ++ [(some w, s2)]) := p2
      have h1 : s1 ≠ .un := fun z => by subst z; exact q.elim
      have h2 : s2 ≠ .un := fun z => by subst z; cases s1 <;> exact q.elim
      have q3 : F.EndS Hs2 (if i < (E2.map Prod.snd).length ∧ j < (E2.map Prod.snd).length then .nx (((E2.map Prod.snd).set i s1).set j s2) else .stuck) D := by
        cases s1 <;> first | exact absurd rfl h1 | (cases s2 <;> first | exact absurd rfl h2 | exact q)
      split at q3
      · rename_i hl
        obtain ⟨l1, l2⟩ := hl
        rw [List.length_map] at l1 l2
        have S3 := StR.move (i := j) p2 (by rw [List.length_append]; omega)
        rw [app_set l2] at S3
        have S4 := StR.move (i := i) (e := (some v, s1)) (L := E2.set j (some w, s2)) S3 (by rw [List.length_set]; exact l1)
        have em : ((E2.set j (some w, s2)).set i (some v, s1)).map Prod.snd = ((E2.map Prod.snd).set i s1).set j s2 := by
          rw [map_snd_set, map_snd_set, List.set_comm _ _ (Ne.symm hij)]
        have ef : ((E2.set j (some w, s2)).set i (some v, s1)).map Prod.fst = (σ.set i (some v)).set j (some w) := by
          rw [map_fst_set', map_fst_set', n1, List.set_comm _ _ (Ne.symm hij)]
        have := q3 Hs2 H2 _ (Ex.refl _) em S4
        rw [ef] at this
        exact this
      · exact q3.elim
  unfold Frm.End at key ⊢
  cases qf : fb (E1.map Prod.snd) with
  | stuck => rw [qf] at key; exact key.elim
  | exc xx e2 => rw [qf] at key; exact key
  | ok s2 e2 =>
    rw [qf] at key
    intro w Hs2 H2 E2 ex2 n1 n2 p2
    exact ⟨v, w, rfl, key w Hs2 H2 E2 ex2 n1 n2 p2⟩⟩
end
end Dl
set_option Elab.async false
set_option linter.all false
set_option maxRecDepth 100000
set_option maxHeartbeats 4000000
namespace Dl
open PySem PySem.Spec PyProof.Rows L2
section
variable {X : Cx} {F : Frm}
/-! ### x.index(y) -/
def idxOf (x : D) : List D → Option Nat
  | [] => none
  | d :: l => if D.eqv d x then some 0 else (idxOf x l).map Nat.succ
theorem idxOf_some {x : D} : ∀ {l : List D} {j : Nat}, idxOf x l = some j → (∃ d, l[j]? = some d ∧ D.eqv d x = true) ∧ ∀ m d, m < j → l[m]? = some d → D.eqv d x = false
  | [], j, h => by cases h
  | d :: l, j, h => by
    unfold idxOf at h
    by_cases z : D.eqv d x = true
    · rw [if_pos z] at h; cases h
      exact ⟨⟨d, rfl, z⟩, fun m _ hm => absurd hm (Nat.not_lt_zero _)⟩
    · rw [if_neg z] at h
      cases q : idxOf x l with
      | none => rw [q] at h; cases h
      | some k =>
        rw [q] at h; cases h
        obtain ⟨⟨d', h1, h2⟩, h3⟩ := idxOf_some q
        refine ⟨⟨d', by simpa using h1, h2⟩, fun m d'' hm hd => ?_⟩
        cases m with
        | zero => cases hd; exact Bool.not_eq_true _ ▸ z
        | succ m => exact h3 m d'' (by omega) (by simpa using hd)
def gIndex (x y : D) : Option Slot := match x with
  | .lst l => (match D.plain 64 y && plainL 63 l with
    | true => (idxOf y l).map fun j => .sh (.int j)
    | false => none)
  | .tup l => (match y, intsD l with
    | .int _, some _ => (idxOf y l).map fun j => .sh (.int j)
    | _, _ => none)
  | _ => none
def rTIndex (K : PySem.W.Frag) : V → List V → Hp → VK → Prop := fun x xs H Q => ∃ p, ∃ ys : List Int, ∃ z j, x = .ref p ∧ xs = [.int z] ∧ SqT K H p (ys.map V.int) ∧ ys[j]? = some z ∧ (∀ m, m < j → ys[m]? ≠ some z) ∧ Q (.int (j : Nat)) H
theorem mt_tindex : MtR X "tuple.index" (rTIndex X.K) := by
  intro pins s σ H x xs v us Q I rx rs h
  obtain ⟨p, ys, z, j, rfl, rfl, hq, hy, hno, q⟩ := h
  cases rx
  obtain ⟨u, rfl, t, rfl⟩ := L2.vals1 rs
  obtain ⟨its, r, pl, hz⟩ := I.tuple hq
  obtain ⟨⟨cls, dd, dt, sl⟩, ho, hc, n, hd⟩ := pl
  simp only at hc hd
  subst hc
  subst hd
  have hl : its.toArray.size = ys.length := by rw [List.size_toArray, ← r.length, List.length_map]
  have hj : j < its.toArray.size := by rw [hl]; exact (List.getElem?_eq_some_iff.mp hy).1
  have at' : ∀ (m : Nat) (hm : m < its.toArray.size), ∃ y t', ys[m]? = some y ∧ its.toArray[m] = Value.int y t' := fun m hm => by
    have hm' : m < ys.length := by rw [← hl]; exact hm
    obtain ⟨w, hw, t', hw'⟩ := r.get (i := m) (x := .int ys[m]) (by simp [hm'])
    refine ⟨ys[m], t', List.getElem?_eq_getElem hm', ?_⟩
    have e := (List.getElem?_eq_some_iff.mp hw).2
    rw [← hw', ← e]
    simp
  have fl : (ys.map V.int).all flatV = true := by
    rw [List.all_map]
    exact List.all_eq_true.mpr fun _ _ => rfl
  refine call_meets PySem.F.slot_tuple_index ⟨_, ho, rfl⟩ PySem.F.entry_tuple_index (PySem.F.args_tuple_index_2 _ _) (TI.tuple_indexAt p its.toArray n dd sl (.int z t) (eqU (.int z)) j hj ?_ ?_)
    ⟨ho, fun w hw => mem_eqAt (x := .int z) ⟨t, rfl⟩ rfl r fl w (by simpa using hw), ⟨.int (j : Nat), H, I.tok _, ⟨_, rfl⟩, q⟩⟩
  · obtain ⟨y, t', h1, h2⟩ := at' j hj
    rw [hy] at h1
    cases h1
    rw [h2]
    show (z == z) = true
    exact beq_self_eq_true z
  · intro m hm hmj
    obtain ⟨y, t', h1, h2⟩ := at' m hm
    rw [h2]
    show (y == z) = false
    exact beq_eq_false_iff_ne.mpr fun e => hno m hmj (e ▸ h1)
/-- a method of a tuple that has no dict -/
theorem pe_bmT {o e : Expr} {es : List Expr} {to : TE} {t : TA} {name : Str} {apos cpos : Pos} {id : String} {r : V → List V → Hp → VK → Prop} (pa : PlainAttrs "tuple") (slot : PySem.Slot "tuple" name id) (hty : typeOf (.builtin id) = pure (.type "method_descriptor")) (hm : MtR X id r) (ho : PE X o to) (ha : PA X (e :: es) t)
    (hbase : attributeBase o name X.env (eval o X.env) = eval o X.env := by rfl)
    (hfew : ((backTo cpos (starEach (e :: es) X.env)).all (fun x => !x.1) && (backToKw cpos (keywordEach [] X.env)).all (fun x => x.1.isSome)
      && decide ((e :: es).length + ([] : List Keyword).length + (if ([] : List Keyword).isEmpty then 0 else 1) < 30)) = true := by rfl)
    (hline : (apos.endLine == cpos.line) = true := by rfl) (hs : starEach (e :: es) X.env = (false, eval e X.env) :: starEach es X.env := by rfl) (hplain : (backTo cpos (starEach es X.env)).any (·.1) = false := by rfl) :
    PE X (.Call (.Attribute o name apos) (e :: es) [] cpos) (fun σ H Q => to σ H fun x H1 => (∃ a vs, x = .ref a ∧ TzAt H1 a vs) ∧ t σ H1 fun xs H2 => r x xs H2 Q) := by
  refine ⟨fun pins s σ H Q I h => ?_⟩
  refine wpAny_Call_method_late hbase hfew hline rfl (thn (ho.run pins s σ H _ I h) fun v s1 ⟨x, H1, I1, r1, ty, q1⟩ => ?_)
  obtain ⟨a, vs, rfl, ob, ht, hc, hd⟩ := ty
  cases (show v = Value.ref a from r1)
  have hob : s1.heap.get? a = some ob := (I1.hok a _ ht).1
  refine ⟨"tuple", id, pa, slot, hty, ⟨ob, hob, hc⟩, fun b e => ?_, ?_⟩
  · cases e
    exact ⟨ob, hob, hd⟩
  · have hA := ha.run cpos pins s1 σ H1 _ I1 q1
    rw [hs] at hA ⊢
    refine Calls.callWith_builtin (by show (false || (backTo cpos (starEach es X.env)).any (·.1)) = false; rw [hplain] <;> rfl) (Calls.evalArgs_plain ?_)
    exact thn hA fun us s2 ⟨vs, H2, I2, r2, q2⟩ => hm pins s2 σ H2 _ vs _ us Q I2 r1 r2 q2
def gIndexL (x y : D) : Option Slot := match seqD x with
  | some l => (match D.plain 64 y && plainL 63 l with
    | true => (match idxOf y l with
      | some j => some (.sh (.int j))
      | none => none)
    | false => none)
  | none => none
def gIndexT (x y : D) : Option Slot := match x, y with
  | .tz l, .int z => (match intsD l with
    | some _ => (match idxOf (.int z) l with
      | some j => some (.sh (.int j))
      | none => none)
    | none => none)
  | _, _ => none
def idxK (g : D → D → Option Slot) (d0 : Opd) (os : List Opd) : M Slot := fun e => match d0.get e, gets os e with
  | some x, some [y] => (match g x y with
    | some s => .ok s e
    | none => .stuck)
  | _, _ => .stuck
def isL : D → Bool
  | .lst _ => true
  | .fz _ => true
  | _ => false
def isT : D → Bool
  | .tz _ => true
  | _ => false
def idxM (g : D → D → Option Slot) (is : D → Bool) (fa : M (List Opd)) (o : Opd) : M Slot := fun e => match o.get e with
  | some d => (match is d with
    | true => (fa e).bind (idxK g o)
    | false => .stuck)
  | none => .stuck
def dIndex (g : D → D → Option Slot) (is : D → Bool) (fo : M Opd) (fa : M (List Opd)) : M Slot := M.bind fo (idxM g is fa)
theorem plain_getL {n : Nat} : ∀ {l : List D} {j : Nat} {d : D}, plainL n l = true → l[j]? = some d → D.plain n d = true
  | [], j, d, _, h => by simp at h
  | x :: l, 0, d, hp, h => by cases h; exact (Bool.and_eq_true_iff.mp (show (D.plain n x && plainL n l) = true by simpa [plainL] using hp)).1
  | x :: l, j + 1, d, hp, h => plain_getL (Bool.and_eq_true_iff.mp (show (D.plain n x && plainL n l) = true by simpa [plainL] using hp)).2 (by simpa using h)
theorem pyL_get : ∀ {l : List D} {j : Nat}, (pyL l)[j]? = (l[j]?).map D.py
  | [], j => by simp [pyL]
  | x :: l, 0 => by simp [pyL]
  | x :: l, j + 1 => by simp only [pyL, List.getElem?_cons_succ]; exact pyL_get
theorem idx_list {Hs H : Hp} {L : List Ent} {x : V} {y : V} {dx dy : D} {s : Slot} {Q : VK} {l : List D} (hl : dx = .lst l ∨ dx = .fz l) (S : F.St Hs H L) (rx : RB F.G Hs H dx x) (ry : RB F.G Hs H dy y) (h : (match D.plain 64 dy && plainL 63 l with
    | true => (match idxOf dy l with
      | some j => some (Slot.sh (.int j))
      | none => none)
    | false => none) = some s) (k : ∀ v Hs' H', Ex Hs Hs' → F.St Hs' H' (L ++ [(some v, s)]) → Q v H') : rIndexD F.G.K x [y] H Q := by
  cases q1 : (D.plain 64 dy && plainL 63 l) with
  | false => rw [q1] at h; cases h
  | true =>
    rw [q1] at h
    obtain ⟨p1, p2⟩ := Bool.and_eq_true_iff.mp q1
    cases q2 : idxOf dy l with
    | none => rw [q2] at h; cases h
    | some j =>
      rw [q2] at h; cases h
      obtain ⟨⟨d, h1, h2⟩, h3⟩ := idxOf_some q2
      have pl : D.plain 64 dx = true := by rcases hl with rfl | rfl <;> simpa [D.plain] using p2
      have epy : D.py dx = .list (pyL l) := by rcases hl with rfl | rfl <;> simp [D.py]
      have dp := dp_of 64 dx x pl (rx.rep S.eS)
      have sh := shaped_of_plain pl
      rw [epy] at dp sh
      obtain ⟨a, rfl⟩ : ∃ a, x = .ref a := by
        rcases hl with rfl | rfl
        · obtain ⟨a, vs, e, _⟩ := rx; exact ⟨a, e⟩
        · obtain ⟨a, vs, e, _⟩ := rx; exact ⟨a, e⟩
      refine ⟨a, y, D.py dy, pyL l, j, D.py d, rfl, rfl, dp, dp_of 64 dy y p1 (ry.rep S.eS), sh, shaped_of_plain p1, by rw [pyL_get, h1]; rfl, by rw [eqv_py 63 64 d dy (plain_getL p2 h1) p1]; exact h2, fun m z' hm hz => ?_, fin_sh S (by exact rfl) k⟩
      rw [pyL_get] at hz
      cases q3 : l[m]? with
      | none => rw [q3] at hz; cases hz
      | some d' =>
        rw [q3] at hz; cases hz
        rw [eqv_py 63 64 d' dy (plain_getL p2 q3) p1]
        exact h3 m d' hm q3
theorem intsD_get : ∀ {l : List D} {ns : List Int} {j : Nat}, intsD l = some ns → l[j]? = (ns[j]?).map D.int
  | [], ns, j, h => by cases h; simp
  | d :: l, ns, j, h => by
    cases d with
    | int b =>
      have h : (intsD l).map (b :: ·) = some ns := h
      cases q : intsD l with
      | none => rw [q] at h; cases h
      | some bs =>
        rw [q] at h; cases h
        cases j with
        | zero => rfl
        | succ j => simpa using intsD_get q
    | _ => cases h
theorem idx_tup {Hs H : Hp} {L : List Ent} {x : V} {y : V} {dy : D} {s : Slot} {Q : VK} {l : List D} (S : F.St Hs H L) (rx : RB F.G Hs H (.tz l) x) (ry : RB F.G Hs H dy y) (h : gIndexT (.tz l) dy = some s) (k : ∀ v Hs' H', Ex Hs Hs' → F.St Hs' H' (L ++ [(some v, s)]) → Q v H') : rTIndex F.G.K x [y] H Q := by
  cases dy with
  | int z =>
    have h : (match intsD l with
      | some _ => (match idxOf (D.int z) l with
        | some j => some (Slot.sh (.int j))
        | none => none)
      | none => none) = some s := h
    cases q1 : intsD l with
    | none => rw [q1] at h; cases h
    | some ns =>
      rw [q1] at h
      try simp only at h
      cases q2 : idxOf (.int z) l with
      | none => rw [q2] at h; cases h
      | some j =>
        rw [q2] at h; cases h
        obtain ⟨⟨d, h1, h2⟩, h3⟩ := idxOf_some q2
        obtain ⟨a, vs, rfl, g1, g2⟩ := rx
        cases (show y = .int z from ry)
        have e := intsD_rep g2 q1
        subst e
        have hn : ∀ m n, ns[m]? = some n → l[m]? = some (D.int n) := fun m n hm => by rw [intsD_get q1, hm]; rfl
        obtain ⟨n, hnj, e1⟩ : ∃ n, ns[j]? = some n ∧ d = .int n := by
          rw [intsD_get q1] at h1
          cases q : ns[j]? with
          | none => rw [q] at h1; cases h1
          | some n => rw [q] at h1; cases h1; exact ⟨n, rfl, rfl⟩
        subst e1
        have ez : n = z := by simpa [D.eqv] using h2
        subst ez
        refine ⟨a, ns, n, j, rfl, rfl, tz_sq (tz_ex S.eS g1), hnj, fun m hm hc => ?_, fin_sh S (by exact rfl) k⟩
        have := h3 m _ hm (hn m n hc)
        simp [D.eqv] at this
  | _ => cases h
theorem idx_end {r : V → List V → Hp → VK → Prop} {g : D → D → Option Slot} {is : D → Bool} {ty : V → Hp → Prop} {fo : M Opd} {fa : M (List Opd)}
    (hty : ∀ {Hs H : Hp} {L : List Ent} {v : V} {d : D}, F.St Hs H L → RB F.G Hs H d v → is d = true → ty v H)
    (hg : ∀ {Hs H : Hp} {L : List Ent} {x y : V} {dx dy : D} {s : Slot} {Q : VK}, F.St Hs H L → RB F.G Hs H dx x → RB F.G Hs H dy y → g dx dy = some s → (∀ v Hs' H', Ex Hs Hs' → F.St Hs' H' (L ++ [(some v, s)]) → Q v H') → r x [y] H Q) :
    ∀ σ H Q, F.tM F.pD (dIndex g is fo fa) σ H Q → F.tM F.pO fo σ H (fun x H1 => ty x H1 ∧ F.tM F.pA fa σ H1 fun xs H2 => r x xs H2 Q) := fun σ H Q ⟨Hs, E, T, S, e1, q⟩ => by
  refine ⟨Hs, E, T, S, e1, q.bind fun v oo env' Hs1 H1 E1 ex m1 m2 p q => ?_⟩
  subst m2
  unfold idxM at q
  cases qd : oo.get (E1.map Prod.snd) with
  | none => rw [qd] at q; exact q.elim
  | some d =>
    rw [qd] at q
    try simp only at q
    cases qi : is d with
    | false => rw [qi] at q; exact q.elim
    | true =>
      rw [qi] at q
      try simp only at q
      refine ⟨hty p.1 (p.2.rb p.1 qd) qi, Hs1, E1, T, p.1, m1, q.bind fun ys os env' Hs2 H2 E2 ex2 n1 n2 p2 q2 => ?_⟩
      subst n2
      have rx := p.2.later ex2 (m1.trans n1.symm)
      unfold idxK at q2
      cases g1 : oo.get (E2.map Prod.snd) with
      | none => rw [g1] at q2; exact q2.elim
      | some dx =>
        cases g2 : gets os (E2.map Prod.snd) with
        | none => rw [g1, g2] at q2; exact q2.elim
        | some ds =>
          rw [g1, g2] at q2
          match ds, g2, q2 with
          | [], _, q2 => exact q2.elim
          | _ :: _ :: _, _, q2 => exact q2.elim
          | [dy], g2, q2 =>
            try simp only at q2
            cases g3 : g dx dy with
            | none => rw [g3] at q2; exact q2.elim
            | some s =>
              rw [g3] at q2
              obtain ⟨y', rfl, ry⟩ := one_rbl (gets_rb p2.1 p2.2 g2)
              exact hg p2.1 (rx.rb p2.1 g1) ry g3 fun w Hs' H' ex' S' => q2 w Hs' H' E2 ex' n1 rfl S'
theorem de_indexL {o y : Expr} {fo : M Opd} {fa : M (List Opd)} {apos cpos : Pos} (hK : F.G.K = X.K) (hu : X.A.units + 65 < cLine) (ho : DO X F o fo) (ha : DA X F [y] fa)
    (hbase : attributeBase o "index" X.env (eval o X.env) = eval o X.env := by rfl)
    (hfew : ((backTo cpos (starEach [y] X.env)).all (fun x => !x.1) && (backToKw cpos (keywordEach [] X.env)).all (fun x => x.1.isSome)
      && decide ([y].length + ([] : List Keyword).length + (if ([] : List Keyword).isEmpty then 0 else 1) < 30)) = true := by rfl)
    (hline : (apos.endLine == cpos.line) = true := by rfl) (hs : starEach [y] X.env = (false, eval y X.env) :: starEach [] X.env := by rfl) (hplain : (backTo cpos (starEach [] X.env)).any (·.1) = false := by rfl) :
    DE X F (.Call (.Attribute o "index" apos) [y] [] cpos) (dIndex gIndexL isL fo fa) :=
  ⟨PE.weak (pe_bm PySem.F.plainAttrs_list PySem.F.slot_list_index PySem.F.type_list_index (mt_indexD hu) ho.pe ha.pa hbase hfew hline hs hplain) (idx_end (ty := fun v H => tyV X.K "list" v H) (r := rIndexD X.K)
    (fun {Hs H L v d} S r hd => by
      cases d with
      | lst l => obtain ⟨a, vs, rfl, h1, h2⟩ := r; exact .inl ⟨rfl, _, SqL.of h1⟩
      | fz l => obtain ⟨a, vs, rfl, h1, h2⟩ := r; rw [hK] at h1; exact .inl ⟨rfl, _, sqL_ex S.eS h1⟩
      | _ => cases hd)
    (fun {Hs H L x y dx dy s Q} S rx ry h k => by
      rw [← hK]
      cases dx with
      | lst l => exact idx_list (.inl rfl) S rx ry h k
      | fz l => exact idx_list (.inr rfl) S rx ry h k
      | _ => cases h))⟩
theorem de_indexT {o y : Expr} {fo : M Opd} {fa : M (List Opd)} {apos cpos : Pos} (hK : F.G.K = X.K) (ho : DO X F o fo) (ha : DA X F [y] fa)
    (hbase : attributeBase o "index" X.env (eval o X.env) = eval o X.env := by rfl)
    (hfew : ((backTo cpos (starEach [y] X.env)).all (fun x => !x.1) && (backToKw cpos (keywordEach [] X.env)).all (fun x => x.1.isSome)
      && decide ([y].length + ([] : List Keyword).length + (if ([] : List Keyword).isEmpty then 0 else 1) < 30)) = true := by rfl)
    (hline : (apos.endLine == cpos.line) = true := by rfl) (hs : starEach [y] X.env = (false, eval y X.env) :: starEach [] X.env := by rfl) (hplain : (backTo cpos (starEach [] X.env)).any (·.1) = false := by rfl) :
    DE X F (.Call (.Attribute o "index" apos) [y] [] cpos) (dIndex gIndexT isT fo fa) :=
  ⟨PE.weak (pe_bmT PySem.F.plainAttrs_tuple PySem.F.slot_tuple_index PySem.F.type_tuple_index mt_tindex ho.pe ha.pa hbase hfew hline hs hplain) (idx_end (ty := fun x H1 => ∃ a vs, x = .ref a ∧ TzAt H1 a vs) (r := rTIndex X.K)
    (fun {Hs H L v d} S r hd => by
      cases d with
      | tz l => obtain ⟨a, vs, rfl, h1, h2⟩ := r; exact ⟨a, vs, rfl, tz_ex S.eS h1⟩
      | _ => cases hd)
    (fun {Hs H L x y dx dy s Q} S rx ry h k => by
      rw [← hK]
      cases dx with
      | tz l => exact idx_tup S rx ry h k
      | _ => cases h))⟩
/-! ### d.get(k, x) -/
def getK (o : Opd) (os : List Opd) : M Slot := fun e => match o.get e, vals os with
  | some (.dct t ks l), some [dk, dx] => (match dk.key with
    | some k => (match bEq (kindK k) t with
      | true => (match lookD ks l k with
        | some d => .ok (.sh d) e
        | none => .ok (.sh dx) e)
      | false => .stuck)
    | none => .stuck)
  | _, _ => .stuck
def isDct : D → Bool
  | .dct _ _ _ => true
  | _ => false
def getM (fa : M (List Opd)) (o : Opd) : M Slot := fun e => match o.get e with
  | some d => (match isDct d with
    | true => (fa e).bind (getK o)
    | false => .stuck)
  | none => .stuck
def dGet2 (fo fk fx : M Opd) : M Slot := M.bind fo fun o e => match o.get e with
  | some d => (match isDct d with
    | true => (fk e).bind fun k e => (fx e).bind fun x => getK o [k, x]
    | false => .stuck)
  | none => .stuck
theorem de_dget2 {o a b : Expr} {fo fk fx : M Opd} {apos cpos : Pos} (hu : X.A.units + 1 < cLine) (ho : DO X F o fo) (hk : DO X F a fk) (hx : DO X F b fx) (m : M2 X o "get" apos a b cpos := by exact ⟨rfl, rfl, rfl, rfl⟩) :
    DE X F (.Call (.Attribute o "get" apos) [a, b] [] cpos) (dGet2 fo fk fx) := ⟨PE.weak (pe_dget2 hu ho.pe hk.pe hx.pe m) fun σ H Q ⟨Hs, E, T, S, e1, q⟩ => by
  refine ⟨Hs, E, T, S, e1, q.bind fun v oo env' Hs1 H1 E1 ex m1 m2 p q => ?_⟩
  subst m2
  try simp only at q
  cases qd : oo.get (E1.map Prod.snd) with
  | none => rw [qd] at q; exact q.elim
  | some d =>
    rw [qd] at q
    cases d with
    | dct t ks l =>
      obtain ⟨a0, vs, rfl, h1, h2⟩ := p.2.rb p.1 qd
      have isd : IsD H1 a0 := by
        cases t with
        | false => obtain ⟨kvs, g, _⟩ := h1; exact .inl ⟨kvs, .inl g⟩
        | true => obtain ⟨kvs, g, _⟩ := h1; exact .inr ⟨kvs, .inl g⟩
      have q : F.End σ Hs1 T (F.pD T) ((fk (E1.map Prod.snd)).bind fun k e => (fx e).bind fun x => getK oo [k, x]) Q := q
      refine ⟨a0, rfl, isd, Hs1, E1, T, p.1, m1, q.bind fun y ok env' Hs2 H2 E2 ex2 n1 n2 p2 q2 => ?_⟩
      subst n2
      refine ⟨Hs2, E2, T, p2.1, n1, Frm.End.bind q2 fun z ox env' Hs3 H3 E3 ex3 k1 k2 p3 q3 => ?_⟩
      subst k2
      have rx := (p.2.later ex2 (m1.trans n1.symm)).later ex3 (n1.trans k1.symm)
      have rk := p2.2.later ex3 (n1.trans k1.symm)
      unfold getK at q3
      cases g1 : oo.get (E3.map Prod.snd) with
      | none => rw [g1] at q3; exact q3.elim
      | some d2 =>
        rw [g1] at q3
        cases d2 with
        | dct t ks l =>
          cases g2 : vals [ok, ox] with
          | none => rw [g2] at q3; exact q3.elim
          | some ds =>
            rw [g2] at q3
            have rv := vals_rep (vs := [y, z]) ⟨ok, _, rfl, rk, ox, _, rfl, p3.2, rfl⟩ g2
            match ds, rv, q3 with
            | [], _, q3 => exact q3.elim
            | [_], _, q3 => exact q3.elim
            | _ :: _ :: _ :: _, _, q3 => exact q3.elim
            | [dk, dx], ⟨_, _, e1', r1, _, _, e2', r2, _⟩, q3 =>
              cases e1'; cases e2'
              try simp only at q3
              cases g3 : dk.key with
              | none => rw [g3] at q3; exact q3.elim
              | some k =>
                rw [g3] at q3
                try simp only at q3
                cases g4 : bEq (kindK k) t with
                | false => rw [g4] at q3; exact q3.elim
                | true =>
                  rw [g4] at q3
                  have et : kindK k = t := by
                    revert g4; cases kindK k <;> cases t <;> first | (intro _; rfl) | (intro h; cases h)
                  obtain ⟨a2, vs2, e3, h3, h4⟩ := rx.rb p3.1 g1
                  cases e3
                  obtain ⟨o, dg, mm⟩ := dget_of p3.1.eS h3 h4 g3 (r1.ex p3.1.eS) et
                  refine ⟨o, dg, ?_⟩
                  try simp only at q3
                  cases g5 : lookD ks l k with
                  | none =>
                    rw [g5] at q3 mm
                    try simp only at mm
                    subst mm
                    exact q3 z Hs3 H3 E3 (Ex.refl _) k1 rfl (p3.1.pushSh r2)
                  | some d =>
                    rw [g5] at q3 mm
                    obtain ⟨w, rfl, rw'⟩ := mm
                    exact q3 w Hs3 H3 E3 (Ex.refl _) k1 rfl (p3.1.pushSh rw')
        | _ => exact q3.elim
    | _ => exact q.elim⟩
end
end Dl
set_option Elab.async false
set_option linter.all false
set_option maxRecDepth 100000
set_option maxHeartbeats 4000000
namespace Dl
open PySem PySem.Spec PyProof.Rows L2
/-! ### dict comprehensions, keys of either kind (the loop's proof follows HandS.DictComp's dc_core) -/
theorem d_dictSetG {X : Cx} {pins : List (Addr × Obj)} {σ : L2.St} {H H' : Hp} {s : Shared} {E : Value → Shared → Prop} {a : Addr} {y v : V} {u r : Value} {Q : Unit → Shared → Prop} (hu : X.A.units + 1 < cLine) (I : Inv X pins σ H s) (g : DPut H a y v H') (ry : RelV y u) (rv : RelV v r) (h : ∀ s', Inv X pins σ H' s' → Q () s') :
    wpAny (model X.prog X.w) X.A (dictSet a u r) Q E s := by
  rcases g with ⟨kvs, k, e, ey, l, eH⟩ | ⟨kvs, k, b, e, ey, eb, l, eH⟩
  · subst ey eH
    exact d_dictSet I e l ry rv h
  · subst ey eH
    cases (show u = Value.ref b from ry)
    obtain ⟨z, hd, xs, rel, dd⟩ := L2.dt_of I.hok e
    have hz : xs.length ≤ sizeLine := by rw [← Paired.length rel]; exact z
    have hl : (putK kvs k v).length ≤ sizeLine := by have := length_putK kvs k v; omega
    refine wpAny_dictSet_heap (hsz := hz) (show X.A.units < cLine from Nat.lt_of_succ_lt hu) (key_of I.hok eb) dd fun h' dd' hs => h _ ?_
    obtain ⟨q, es, ep, hq, h2, h3, h4, _, h5⟩ := dd'
    refine d_write I (by rw [e]; exact True.intro) hs ⟨q, hq⟩ ⟨hl, hd, _, (rel.put k eb rv).keeps fun c ys ec => ?_, q, es, ep, hq, h2, h3, h4, h5⟩
    rw [upd_ne (ne_of ec e (fun z => nomatch z))]
    exact ec
section
variable {X : Cx}
def tDcG (o0 : HO) (wi : TI) (g : TG) (tt : TT) (tk tv : TE) (vs : List Nat) : TE := fun σ H Q => wi σ H fun J H1 => ∀ D, H1 D = none → ∃ W : Nat → Nat → Hp → Prop, (∃ m, W 0 m (upd H1 D o0)) ∧ ∀ i m H, W i m H →
  (J.stop i H ∧ Q (.ref D) H) ∨ (J.go i H ∧ ∃ Nx : Hp → Prop, (∀ H', Nx H' → ∃ m', m' < m ∧ W (i + 1) m' H') ∧ ∀ x H', J.yld i H x H' → g x (wipe σ vs) H' fun σ2 H2 => wipe σ2 vs = wipe σ vs ∧ tt σ2 H2 fun b H3 =>
    if b = true then tk σ2 H3 fun y H4 => tv σ2 H4 fun z H5 => ∃ H6, DPut H5 D y z H6 ∧ Nx H6 else Nx H3)
theorem dcG_core {o0 : HO} (ho0 : ∀ (P : Program) (w : World) (H : Hp) (h : Heap), sysModules < h.objs.size → ObjOk P w H (h.push { cls := .type "dict", data := .dict #[] }) h.objs.size o0) (hu : X.A.units + 1 < cLine) {pins : List (Addr × Obj)} {s : Shared} {σ : L2.St} {H : Hp} {Q : VK} {kx vx tg iter : Expr} {ifs : List Expr} {scope : Scope} {own : List (Str × Nat)} {pos pos' : Pos} {wi : TI} {g : TG} {tt : TT} {tk tv : TE} {use : Option (Value → Sem Unit)} {Qf : Value → Shared → Prop}
    (hc : X.calm = true) (hN : X.N.Nodup) (I : Inv X pins σ H s) (hi : PI X tg iter wi) (ok : BlkOk X.N X.env.scope scope own)
    (hg : ∀ (s : Shared) (H : Hp) (C : Addr) (cl : List (Str × Addr)) (fp : List Addr), PG (X.blk s H scope (compEnvC scope cl C X.env) fp) tg g) (ht : ∀ (s : Shared) (H : Hp) (C : Addr) (cl : List (Str × Addr)) (fp : List Addr), PTs (X.blk s H scope (compEnvC scope cl C X.env) fp) ifs tt)
    (hk : ∀ (s : Shared) (H : Hp) (C : Addr) (cl : List (Str × Addr)) (fp : List Addr), PE (X.blk s H scope (compEnvC scope cl C X.env) fp) kx tk)
    (he : ∀ (s : Shared) (H : Hp) (C : Addr) (cl : List (Str × Addr)) (fp : List Addr), PE (X.blk s H scope (compEnvC scope cl C X.env) fp) vx tv) (hs : ∀ x, foldedSetIterable iter X.env x = pure x)
    (h : tDcG o0 wi g tt tk tv (own.map (·.2)) σ H Q)
    (hRR : ∀ D C s' m H', Inv X pins σ H' s' → Q (.ref D) H' → s'.heap.Ns C m → FpOk X pins H' C → compPost (model X.prog X.w) X.A X.xe use Qf (.ref D) C (.ok .next) s') :
    wpAny (model X.prog X.w) X.A (comprehension (.DictComp kx vx [⟨tg, iter, ifs, 0⟩] scope pos) scope X.env pos' newDict false (eval iter X.env) use) Qf X.xe s := by
  have hfree : ∀ y ∈ scope.names, y.2 = .free → ∃ c, X.env.cells.lookup y.1 = some c := fun y hy e => by
    rcases ok.free y hy e with k | k
    · exact I.ok.has _ (.inl k)
    · exact I.ok.has _ (.inr k)
  refine wpAny_comprehension_free (use := use) rfl hs (closure_ok hfree) ok.kind (fun y hy e => by rw [ok.uniq y hy, e])
    (thn (hi.run pins s σ H _ I h) fun xv s1 hx => thn hx fun itv s2 h2 => ?_)
  obtain ⟨it, fp, tn, J, H2, e, I2, T, st2, f2, q⟩ := h2
  subst e
  refine wpAny_newObj_type (newEnv_comp ?_)
  generalize hD : s2.heap.objs.size = D
  have hDn : H2 D = none := I2.hok.fresh (Nat.le_of_eq hD)
  obtain ⟨W, ⟨m0, w0⟩, turn⟩ := q D hDn
  -- the new list
  generalize hs3 : ({ s2 with heap := s2.heap.push { cls := .type "dict", data := .dict #[] } } : Shared) = s3
  have I3 : Inv X pins σ (upd H2 D o0) s3 := by
    rw [← hs3]
    refine I2.laid (t' := s2.toks) (fun b o e => Heap.get?_push_of_some _ e) (Nat.le_of_eq hD) ?_
    rw [← hD]
    exact ho0 _ _ _ s2.heap I2.big
  have h3 : s3.heap = s2.heap.push { cls := .type "dict", data := .dict #[] } := by rw [← hs3]
  have sz : ∀ b ∈ fp, b < s2.heap.objs.size := fun b hb => by
    obtain ⟨o, e, _⟩ := T.obj _ _ st2 b hb
    exact Heap.lt_size e
  have f3 : ∀ b ∈ fp, FpOk X pins (upd H2 D o0) b ∧ b < s3.heap.objs.size := fun b hb => by
    have hlt := sz b hb
    refine ⟨⟨?_, (f2 b hb).2⟩, by rw [h3, Heap.size_push]; exact Nat.lt_succ_of_lt hlt⟩
    rw [upd_ne (by rw [← hD]; exact Nat.ne_of_lt hlt)]
    exact (f2 b hb).1
  have st3 : tn 0 s3.heap := T.keep _ _ _ st2 fun b _ o e => by rw [h3]; exact Heap.get?_push_of_some _ e
  have I4 := block_start I3 ok hN f3
  have pg := hg s3 (upd H2 D o0) s3.heap.objs.size (cellsFrom (s3.heap.objs.size + 1) scope.names (cloFrom X.env.cells scope.names [])) fp
  have pt := ht s3 (upd H2 D o0) s3.heap.objs.size (cellsFrom (s3.heap.objs.size + 1) scope.names (cloFrom X.env.cells scope.names [])) fp
  have pk := hk s3 (upd H2 D o0) s3.heap.objs.size (cellsFrom (s3.heap.objs.size + 1) scope.names (cloFrom X.env.cells scope.names [])) fp
  have pe := he s3 (upd H2 D o0) s3.heap.objs.size (cellsFrom (s3.heap.objs.size + 1) scope.names (cloFrom X.env.cells scope.names [])) fp
  show codeAny _ _ (.compStart (.DictComp kx vx [⟨tg, iter, ifs, 0⟩] scope pos) 0 (.ref it) (.ref D) (compEnvC scope (cellsFrom (s3.heap.objs.size + 1) scope.names (cloFrom X.env.cells scope.names [])) s3.heap.objs.size X.env)) (compPost (model X.prog X.w) X.A X.xe use Qf (.ref D) s3.heap.objs.size) { s3 with heap := pushCells (s3.heap.push { cls := .type "dict", data := .dict #[] }) scope.names }
  have nfp : ∀ b ∈ fp, (upd H2 D o0) b = none := fun b hb => (f3 b hb).1.1
  generalize hce : compEnvC scope (cellsFrom (s3.heap.objs.size + 1) scope.names (cloFrom X.env.cells scope.names [])) s3.heap.objs.size X.env = ce at I4 pg pt pk pe ⊢
  have cL : ce.locals = s3.heap.objs.size := by subst hce; rfl
  generalize hH3 : upd H2 D o0 = H3 at I3 I4 pg pt pk pe w0 nfp f3
  generalize hs4 : ({ s3 with heap := pushCells (s3.heap.push { cls := .type "dict", data := .dict #[] }) scope.names } : Shared) = s4 at I4 ⊢
  have st4 : tn 0 s4.heap := T.keep _ _ _ st3 fun b _ o e => by rw [← hs4]; exact pushCells_keeps _ _ _ _ (Heap.get?_push_of_some _ e)
  have stat : ∀ {σ' : L2.St} {H' : Hp} {s' : Shared}, Inv (X.blk s3 H3 scope ce fp) [] σ' H' s' → (∀ b ∈ fp, H' b = none) → ∀ b ∈ fp, FpOk (X.blk s3 H3 scope ce fp) [] H' b := fun {σ' H' s'} I' hn b hb =>
    ⟨hn b hb, (I'.ok.exf b hb).1, I'.ok.exfs b hb, .inl hb, fun x c e => (I'.ok.exf b hb).2 x c e, fun p hp => absurd (show p ∈ ([] : List (Addr × Obj)) ++ [] from hp) (by simp)⟩
  have loop : codeAny (model X.prog X.w) X.A (.compLoop (.DictComp kx vx [⟨tg, iter, ifs, 0⟩] scope pos) 0 (.ref it) (.ref D) ce) (compPost (model X.prog X.w) X.A X.xe use Qf (.ref D) s3.heap.objs.size) s4 := by
    refine compLoop_anyD (fun n s' => ∃ i H', Inv (X.blk s3 H3 scope ce fp) [] (wipe σ (own.map (·.2))) H' s' ∧ tn i s'.heap ∧ (∀ b ∈ fp, H' b = none) ∧ W i n H') ?_ m0 ⟨0, H3, I4, st4, nfp, w0⟩
    rintro n s5 ⟨i, H5, I5, st5, n5, w5⟩
    rcases turn i n H5 w5 with ⟨stop, qq⟩ | ⟨go, Nx, hNx, step⟩
    · have td := T.done (X.blk s3 H3 scope ce fp) rfl rfl rfl hc i [] s5 _ H5 (fun _ _ => False) I5 (stat I5 n5) st5 stop
      refine thnF td fun r s6 ⟨hr, I6⟩ => ?_
      subst hr
      -- back in the def's context
      have I7 : Inv X pins σ H5 s6 := I3.call' (ch := fp) I6.os I6.base I6.hok I6.bare fun b hb => ⟨(f3 b hb).1.2.2.2.1, (f3 b hb).1.2.1, (f3 b hb).1.2.2.2.2.1, (f3 b hb).1.2.2.2.2.2⟩
      have nC : H5 s3.heap.objs.size = none := by
        have z : H5 ce.locals = none := I6.free
        rw [cL] at z
        exact z
      obtain ⟨m, hn, _⟩ := I6.loc
      have hn : s6.heap.Ns ce.locals m := hn
      rw [cL] at hn
      exact hRR D s3.heap.objs.size s6 m H5 I7 qq hn (I3.fpOk (Nat.le_refl _) nC)
    · have ti := T.item (X.blk s3 H3 scope ce fp) rfl rfl rfl hc i [] s5 _ H5 (fun _ _ => False) I5 (stat I5 n5) st5 go
      refine thnF ti fun r s6 ⟨u, hr, h6⟩ => ?_
      subst hr
      refine thnF h6 fun _ s7 ⟨x, H7, I7, r7, y7, st7, n7⟩ => ?_
      have I7' := I7.pinned (stat I7 n7) (T.obj _ _ st7)
      refine thnF (pg.run _ s7 _ H7 x u _ I7' r7 (step x H7 y7)) fun _ s8 ⟨σ8, H8, I8, hw8, q8⟩ => ?_
      refine thnF (pt.run _ s8 σ8 H8 _ I8 q8) fun b s9 ⟨H9, I9, q9⟩ => ?_
      -- the turn's end
      have fin : ∀ {s' : Shared} {H' : Hp}, Inv (X.blk s3 H3 scope ce fp) ([] ++ pinsAt fp s7.heap) σ8 H' s' → Nx H' → ∃ m, m < n ∧ ∃ i H', Inv (X.blk s3 H3 scope ce fp) [] (wipe σ (own.map (·.2))) H' s' ∧ tn i s'.heap ∧ (∀ b ∈ fp, H' b = none) ∧ W i m H' := fun {s' H'} I' nx => by
        obtain ⟨m', hm, w'⟩ := hNx H' nx
        have pin' : ∀ b ∈ fp, ∀ o, s7.heap.get? b = some o → s'.heap.get? b = some o ∧ H' b = none := fun b hb o e =>
          let z := I'.pin (b, o) (List.mem_append_right _ (List.mem_append_right _ (mem_pinsAt hb e)))
          ⟨z.1, z.2.1⟩
        have hl : (wipe σ (own.map (·.2))).length = σ8.length := by rw [← hw8, wipe_length]
        refine ⟨m', hm, i + 1, H', (I'.unpinned (pins := [])).weak hl (fun j v e => ?_), T.keep _ _ _ st7 fun b hb o e => (pin' b hb o e).1, fun b hb => ?_, w'⟩
        · rw [← hw8] at e
          exact (wipe_some e).1
        · obtain ⟨o, e, _⟩ := T.obj _ _ st7 b hb
          exact (pin' b hb o e).2
      cases b with
      | false =>
        simp only [Bool.false_eq_true, if_false] at q9 ⊢
        exact fin I9 q9
      | true =>
        simp only [if_true] at q9 ⊢
        refine thnF (pk.run _ s9 σ8 H9 _ I9 q9) fun z s10 ⟨yk, H10, I10, r10, q10⟩ => ?_
        refine thnF (pe.run _ s10 σ8 H10 _ I10 q10) fun z2 s11 ⟨yv, H11, I11, r11, H12, dp, nx⟩ => ?_
        exact d_dictSetG (X := X.blk s3 H3 scope ce fp) hu I11 dp r10 r11 fun s12 I12 => fin I12 nx
  exact codeAny_compStart_dict loop (T.self X.A 0 _ _ _ st4 loop)
theorem pe_dcG {o0 : HO} (ho0 : ∀ (P : Program) (w : World) (H : Hp) (h : Heap), sysModules < h.objs.size → ObjOk P w H (h.push { cls := .type "dict", data := .dict #[] }) h.objs.size o0) (hu : X.A.units + 1 < cLine) {kx vx tg iter : Expr} {ifs : List Expr} {scope : Scope} {own : List (Str × Nat)} {pos : Pos} {wi : TI} {g : TG} {tt : TT} {tk tv : TE} (hc : X.calm = true) (hN : X.N.Nodup) (hi : PI X tg iter wi) (ok : BlkOk X.N X.env.scope scope own)
    (hg : ∀ (s : Shared) (H : Hp) (C : Addr) (cl : List (Str × Addr)) (fp : List Addr), PG (X.blk s H scope (compEnvC scope cl C X.env) fp) tg g) (ht : ∀ (s : Shared) (H : Hp) (C : Addr) (cl : List (Str × Addr)) (fp : List Addr), PTs (X.blk s H scope (compEnvC scope cl C X.env) fp) ifs tt)
    (hk : ∀ (s : Shared) (H : Hp) (C : Addr) (cl : List (Str × Addr)) (fp : List Addr), PE (X.blk s H scope (compEnvC scope cl C X.env) fp) kx tk)
    (he : ∀ (s : Shared) (H : Hp) (C : Addr) (cl : List (Str × Addr)) (fp : List Addr), PE (X.blk s H scope (compEnvC scope cl C X.env) fp) vx tv) (hs : ∀ x, foldedSetIterable iter X.env x = pure x := by intro _; rfl) :
    PE X (.DictComp kx vx [⟨tg, iter, ifs, 0⟩] scope pos) (tDcG o0 wi g tt tk tv (own.map (·.2))) := by
  refine ⟨fun pins s σ H Q I h => ?_⟩
  rw [arm_eval_DictComp]
  refine dcG_core ho0 hu hc hN I hi ok hg ht hk he hs h fun D C s' m H' I' q hn f => ⟨m, hn, fun h'' sb => ?_⟩
  obtain ⟨f0, f1, f2, f3, f4, f5⟩ := f
  exact ⟨.ref D, H', I'.turned (t' := s'.toks) (fun b o hb e => (sb.2 b hb).trans e) f0 f1 f3 f4 f5, rfl, q⟩
end
/-! ### {k: v for tg in iter if ..} on trees -/
def dcL (t : Bool) (vs : List Nat) (g : Tg) (ifs : M Bool) (fk fv : M Opd) : List D → List DK → List D → M (List DK × List D)
  | [], ks, l => fun e => .ok (ks, l) e
  | d :: r, ks, l => fun e => match g d e with
    | none => .stuck
    | some e1 => match ifs e1 with
      | .ok true e2 => (match fk e2 with
        | .ok (.val dk) e3 => (match fv e3 with
          | .ok (.val dv) e4 => (match mePut (.d t ks l) dk dv with
            | some (.d _ ks' l') => dcL t vs g ifs fk fv r ks' l' (wipeE e4 vs)
            | _ => .stuck)
          | _ => .stuck)
        | _ => .stuck)
      | .ok false e2 => dcL t vs g ifs fk fv r ks l (wipeE e2 vs)
      | _ => .stuck
def dcEnd (t : Bool) (e0 : Env) (vs : List Nat) (r : Out (List DK × List D)) : Out Slot := match r with
  | .ok p e => .ok (.od t p.1 p.2) (unwipe e0 e vs)
  | _ => .stuck
def dDc (t : Bool) (f : M (List D)) (vs : List Nat) (g : Tg) (ifs : M Bool) (fk fv : M Opd) : M Slot := M.bind f fun items e => dcEnd t e vs (dcL t vs g ifs fk fv items [] [] (wipeE e vs))
def ob0 (t : Bool) : HO := if t = true then .dT [] else .dK []
theorem ob0_ok (t : Bool) : ∀ (P : Program) (w : World) (H : Hp) (h : Heap), sysModules < h.objs.size → ObjOk P w H (h.push { cls := .type "dict", data := .dict #[] }) h.objs.size (ob0 t) := fun P w H h hb => by
  cases t with
  | false => exact dk_empty h hb
  | true => exact dt_empty h hb
theorem mePut_d {t : Bool} {ks : List DK} {l : List D} {dk dv : D} {m : Me} (h : mePut (.d t ks l) dk dv = some m) : ∃ ks' l', m = .d t ks' l' := by
  unfold mePut at h
  simp only at h
  cases q : dk.key with
  | none => rw [q] at h; cases h
  | some x =>
    rw [q] at h
    simp only at h
    cases q1 : bEq (kindK x) t <;> cases q2 : Nat.blt ks.length 16777216 <;> cases q3 : hasK ks x <;> rw [q1, q2, q3] at h <;> first | (cases h; exact ⟨_, _, rfl⟩) | cases h
theorem me_dput {G : Gx} {Hs H : Hp} {a : Addr} {t : Bool} {ks : List DK} {l : List D} {m' : Me} {dk dv : D} {y z : V} (e : Ex Hs H) (mr : MeR G Hs H a (.d t ks l)) (rk : Rep G Hs dk y) (rv : Rep G Hs dv z) (h : mePut (.d t ks l) dk dv = some m') :
    ∃ o, MeR G Hs (upd H a o) a m' ∧ DPut H a y z (upd H a o) := by
  obtain ⟨o, h1, h2⟩ := me_put e mr rk rv h
  refine ⟨o, h1, ?_⟩
  rcases h2 (fun H' => H' = upd H a o) rfl with ⟨p, xs, k, j, e1, _, hp, _⟩ | ⟨a', H', e1, dp, eH⟩
  · cases e1
    cases t with
    | false => obtain ⟨kvs, g, _⟩ := mr; rw [hp] at g; cases g
    | true => obtain ⟨kvs, g, _⟩ := mr; rw [hp] at g; cases g
  · cases e1
    rw [← eH]; exact dp
theorem dc_weak {F : Frm} {t : Bool} {f : M (List D)} {vs ws : List Nat} {g : Tg} {ifs : M Bool} {fk fv : M Opd} (hw : ∀ i ∈ ws, i ∈ vs) : ∀ σ H Q, F.tM F.pD (dDc t f vs g ifs fk fv) σ H Q →
    tDcG (ob0 t) (F.tM F.pI f) (F.nox.tG g ws) (F.nox.tM F.nox.pT ifs) (F.nox.tM F.nox.pO fk) (F.nox.tM F.nox.pO fv) vs σ H Q := fun σ H Q ⟨Hs, E, T, S, e1, q⟩ => by
  refine ⟨Hs, E, T, S, e1, q.bind fun J items env' Hs1 H1 E1 ex1 m1 m2 p1 q1 => ?_⟩
  subst m2
  intro L hL
  have S1 : F.St Hs1 (upd H1 L (ob0 t)) (E1 ++ T ++ [(some (.ref L), .od t [] [])]) :=
    p1.1.pushOwn (N := fun a => a = L) (Ex.new hL) (fun a o h _ _ => by rw [upd_ne (ne_of_none h hL)]; exact h) (fun a z => by subst z; exact ⟨hL, _, upd_same⟩) (by
      cases t with
      | false => exact ⟨L, [], rfl, rfl, upd_same, rfl, rfl⟩
      | true => exact ⟨L, [], rfl, rfl, upd_same, rfl, rfl⟩) (p1.1.tb.new hL (by cases t <;> rfl))
  refine ⟨fun i m H => m = items.length - i ∧ i ≤ items.length ∧ ∃ Hs2 E2 ks l, F.St Hs2 H (E2 ++ (T ++ [(some (.ref L), .od t ks l)])) ∧ E2.map Prod.fst = wipe σ vs ∧ Ex Hs1 Hs2 ∧
    F.End σ Hs2 T (F.pD T) (dcEnd t (E1.map Prod.snd) vs (dcL t vs g ifs fk fv (items.drop i) ks l (E2.map Prod.snd))) Q, ⟨items.length, by simp, Nat.zero_le _, Hs1, wipeL E1 vs, [], [], ?_, ?_, Ex.refl _, ?_⟩, ?_⟩
  · rw [List.append_assoc] at S1
    exact st_wipe S1 vs
  · rw [wipeL_fst, m1]
  · rw [wipeL_snd]; exact q1
  · rintro i m H2 ⟨rfl, hi, Hs2, E2, ks, l, S2, k1, ex2, q2⟩
    by_cases hlt : i < items.length
    · refine .inr ⟨p1.2.goes i H2 hlt (ex2.trans S2.eS), fun H' => ∃ Hs3 E3 ks l, F.St Hs3 H' (E3 ++ (T ++ [(some (.ref L), .od t ks l)])) ∧ E3.map Prod.fst = wipe σ vs ∧ Ex Hs1 Hs3 ∧
        F.End σ Hs3 T (F.pD T) (dcEnd t (E1.map Prod.snd) vs (dcL t vs g ifs fk fv (items.drop (i + 1)) ks l (E3.map Prod.snd))) Q, fun H' h => ⟨items.length - (i + 1), by omega, rfl, hlt, h⟩, fun x H' y => ?_⟩
      obtain ⟨d, Hs3, h1, ex3, S3, r⟩ := item_comes S2 (p1.2.later ex2) hlt y
      have ed : items.drop i = d :: items.drop (i + 1) := by
        rw [List.drop_eq_getElem_cons hlt]
        rw [List.getElem?_eq_getElem hlt] at h1
        rw [Option.some.inj h1]
      rw [ed] at q2
      have q2 := q2.later ex3
      unfold dcL at q2
      cases qg : g d (E2.map Prod.snd) with
      | none => rw [qg] at q2; exact q2.elim
      | some e2 =>
        rw [qg] at q2
        try simp only at q2
        refine ⟨Hs3, E2, _, d, e2, S3, k1, r, qg, fun E3 m3 S4 o3 => ⟨wipe_off (by rw [← k1] at *; exact o3) hw, Hs3, E3, _, S4, rfl, ?_⟩⟩
        rw [m3]
        cases qi : ifs e2 with
        | stuck => rw [qi] at q2; exact q2.elim
        | exc x e => rw [qi] at q2; exact q2.elim
        | ok b e3 =>
          rw [qi] at q2
          intro b' Hs4 H4 E4 ex4 n1 n2 p4
          obtain ⟨S5, rfl⟩ := p4
          subst n2
          have q2 := q2.later ex4
          have w4 : wipe (E4.map Prod.fst) vs = wipe σ vs := by rw [n1]; exact wipe_off (by rw [← k1] at *; exact o3) hw
          cases b' with
          | false =>
            refine iteF ⟨Hs4, wipeL E4 vs, ks, l, st_wipe S5 vs, by rw [wipeL_fst]; exact w4, (ex2.trans ex3).trans ex4, ?_⟩
            rw [wipeL_snd]
            exact q2
          | true =>
            refine iteT ⟨Hs4, E4, _, S5, n1, ?_⟩
            try simp only at q2
            cases qk : fk (E4.map Prod.snd) with
            | stuck => rw [qk] at q2; exact q2.elim
            | exc x e => rw [qk] at q2; exact q2.elim
            | ok ok' e5 =>
              rw [qk] at q2
              cases ok' with
              | «at» i => exact q2.elim
              | val dk =>
                intro yv Hs5 H5 E5 ex5 j1 j2 p5
                subst j2
                have q2 := q2.later ex5
                obtain ⟨S6, rk⟩ := p5
                refine ⟨Hs5, E5, _, S6, j1, ?_⟩
                try simp only at q2
                cases qv : fv (E5.map Prod.snd) with
                | stuck => rw [qv] at q2; exact q2.elim
                | exc x e => rw [qv] at q2; exact q2.elim
                | ok ov e6 =>
                  rw [qv] at q2
                  cases ov with
                  | «at» i => exact q2.elim
                  | val dv =>
                    intro zv Hs6 H6 E6 ex6 i1 i2 p6
                    subst i2
                    have q2 := q2.later ex6
                    obtain ⟨S7, rz⟩ := p6
                    try simp only at q2
                    cases qm : mePut (.d t ks l) dk dv with
                    | none => rw [qm] at q2; exact q2.elim
                    | some m' =>
                      rw [qm] at q2
                      obtain ⟨ks', l', rfl⟩ := mePut_d qm
                      have gL : (E6 ++ (T ++ [(some (V.ref L), Slot.od t ks l)]))[(E6 ++ T).length]? = some (some (.ref L), .od t ks l) := by
                        rw [← List.append_assoc, List.getElem?_append_right (Nat.le_refl _), Nat.sub_self]; rfl
                      obtain ⟨a, ea, mr, wr⟩ := S7.wr gL (m := .d t ks l) rfl
                      cases ea
                      obtain ⟨o, t1, t2⟩ := me_dput S7.eS mr (Rep.ex ex6 _ rk) rz qm
                      refine ⟨_, t2, Hs6, wipeL E6 vs, ks', l', ?_, by rw [wipeL_fst, i1, ← n1]; exact w4, (((ex2.trans ex3).trans ex4).trans ex5).trans ex6, ?_⟩
                      · have S8 := wr t1
                        have e8 : (E6 ++ (T ++ [(some (V.ref L), Slot.od t ks l)])).set (E6 ++ T).length (some (.ref L), (Slot.od t ks l).put (.d t ks' l')) = E6 ++ (T ++ [(some (.ref L), .od t ks' l')]) := by
                          rw [← List.append_assoc, List.set_append_right _ _ (Nat.le_refl _), Nat.sub_self, ← List.append_assoc]; rfl
                        rw [e8] at S8
                        exact st_wipe S8 vs
                      · rw [wipeL_snd]
                        exact q2
    · have e : i = items.length := by omega
      subst e
      rw [List.drop_length] at q2
      refine .inl ⟨p1.2.stops H2 (ex2.trans S2.eS), ?_⟩
      have q2 : F.End σ Hs2 T (F.pD T) (.ok (.od t ks l) (unwipe (E1.map Prod.snd) (E2.map Prod.snd) vs)) Q := q2
      refine q2 (.ref L) Hs2 H2 (unwipeL E1 E2 vs) (Ex.refl _) (unwipe_fst m1 k1) (unwipeL_snd _ _ _) ?_
      have := st_unwipe p1.1 ex2 S2 vs
      rw [← List.append_assoc] at this
      exact this

section
variable {X : Cx} {F : Frm}
theorem de_dc {kx vx tg iter : Expr} {ifs : List Expr} {scope : Scope} {own : List (Str × Nat)} {pos : Pos} {f : M (List D)} {g : Tg} {ws : List Nat} {ft : M Bool} {fk fv : M Opd} (t : Bool) (hu : X.A.units + 1 < cLine) (hc : X.calm = true) (hN : X.N.Nodup) (hi : DI X F tg iter f) (ok : BlkOk X.N X.env.scope scope own) (hw : ∀ i ∈ ws, i ∈ own.map (·.2))
    (hg : ∀ (s : Shared) (H : Hp) (C : Addr) (cl : List (Str × Addr)) (fp : List Addr), DG (X.blk s H scope (compEnvC scope cl C X.env) fp) F.nox tg g ws) (ht : ∀ (s : Shared) (H : Hp) (C : Addr) (cl : List (Str × Addr)) (fp : List Addr), DTs (X.blk s H scope (compEnvC scope cl C X.env) fp) F.nox ifs ft)
    (hk : ∀ (s : Shared) (H : Hp) (C : Addr) (cl : List (Str × Addr)) (fp : List Addr), DO (X.blk s H scope (compEnvC scope cl C X.env) fp) F.nox kx fk)
    (he : ∀ (s : Shared) (H : Hp) (C : Addr) (cl : List (Str × Addr)) (fp : List Addr), DO (X.blk s H scope (compEnvC scope cl C X.env) fp) F.nox vx fv) (hs : ∀ x, foldedSetIterable iter X.env x = pure x := by intro _; rfl) :
    DE X F (.DictComp kx vx [⟨tg, iter, ifs, 0⟩] scope pos) (dDc t f (own.map (·.2)) g ft fk fv) :=
  ⟨PE.weak (pe_dcG (ob0_ok t) hu hc hN hi.pi ok (fun s H C cl fp => (hg s H C cl fp).pg) (fun s H C cl fp => (ht s H C cl fp).pts) (fun s H C cl fp => (hk s H C cl fp).pe) (fun s H C cl fp => (he s H C cl fp).pe) hs) (dc_weak hw)⟩
/-! ### displays -/
theorem de_dnew {pos : Pos} (t : Bool) : DE X F (.Dict [] [] pos) (fun e => .ok (.od t [] []) e) := ⟨by
  cases t with
  | false =>
    exact PE.weak pe_dnewK fun σ H Q ⟨Hs, E, T, S, e1, q⟩ p hp => q (.ref p) Hs _ E (Ex.refl _) e1 rfl
      (S.pushOwn (N := fun a => a = p) (Ex.new hp) (fun a o h _ _ => by rw [upd_ne (ne_of_none h hp)]; exact h) (fun a z => by subst z; exact ⟨hp, _, upd_same⟩) ⟨p, [], rfl, rfl, upd_same, rfl, rfl⟩ (S.tb.new hp rfl))
  | true =>
    exact PE.weak pe_dnewT fun σ H Q ⟨Hs, E, T, S, e1, q⟩ p hp => q (.ref p) Hs _ E (Ex.refl _) e1 rfl
      (S.pushOwn (N := fun a => a = p) (Ex.new hp) (fun a o h _ _ => by rw [upd_ne (ne_of_none h hp)]; exact h) (fun a z => by subst z; exact ⟨hp, _, upd_same⟩) ⟨p, [], rfl, rfl, upd_same, rfl, rfl⟩ (S.tb.new hp rfl))⟩
def putDK (p : List DK × List D) (k : DK) (v : D) : List DK × List D := if hasK p.1 k then (p.1, setK p.1 p.2 k v) else (p.1 ++ [k], p.2 ++ [v])
theorem putDK_rep {G : Gx} {H : Hp} {kvs : List (Key × V)} {l : List D} {k : Key} {v : D} {z : V} (rv : Rep G H v z) (r : RepL G H l (kvs.map (·.2))) :
    (putDK (kvs.map (fun p => DK.k p.1), l) (.k k) v).1 = (putK kvs k z).map (fun p => DK.k p.1) ∧ RepL G H (putDK (kvs.map (fun p => DK.k p.1), l) (.k k) v).2 ((putK kvs k z).map (·.2)) := by
  unfold putDK putK
  rw [hasK_k]
  cases q3 : kvs.any fun kv => decide (kv.1 = k) with
  | true =>
    obtain ⟨i1, i2⟩ := setK_k (k := k) rv r
    rw [if_pos rfl, if_pos rfl]
    exact ⟨i2.symm, i1⟩
  | false =>
    rw [if_neg (by simp), if_neg (by simp)]
    exact ⟨by simp, by rw [List.map_append]; exact r.append (RepL.cons rv RepL.nil)⟩
def mergeD (p : List DK × List D) : List (DK × D) → List DK × List D
  | [] => p
  | kv :: r => mergeD (putDK p kv.1 kv.2) r
def kDK : List (DK × D) → Bool
  | [] => true
  | (.k _, _) :: r => kDK r
  | _ => false
/-- the pairs of a display -/
def PrR (G : Gx) (H : Hp) : List (DK × D) → List (V × V) → Prop
  | [], ps => ps = []
  | (k, d) :: r, ps => ∃ kk z rest, ps = (kV kk, z) :: rest ∧ k = .k kk ∧ Rep G H d z ∧ PrR G H r rest
theorem PrR.ex {G : Gx} {H H' : Hp} (e : Ex H H') : ∀ {l : List (DK × D)} {ps : List (V × V)}, PrR G H l ps → PrR G H' l ps
  | [], _, h => h
  | (k, d) :: r, _, ⟨kk, z, rest, h1, h2, h3, h4⟩ => ⟨kk, z, rest, h1, h2, Rep.ex e d h3, PrR.ex e h4⟩
theorem PrR.len {G : Gx} {H : Hp} : ∀ {l : List (DK × D)} {ps : List (V × V)}, PrR G H l ps → l.length = ps.length
  | [], _, h => by rw [show _ = [] from h]; rfl
  | (k, d) :: r, _, ⟨kk, z, rest, h1, h2, h3, h4⟩ => by rw [h1, List.length_cons, List.length_cons, PrR.len h4]
theorem PrR.merge {G : Gx} {H : Hp} : ∀ {l : List (DK × D)} {ps : List (V × V)}, PrR G H l ps → ∃ kvs : List (Key × V), ps = kvs.map (fun kv => (kV kv.1, kv.2)) ∧ kvs.length = l.length ∧ ∀ (ks0 : List DK) (l0 : List D) (kv0 : List (Key × V)), ks0 = kv0.map (fun p => DK.k p.1) → RepL G H l0 (kv0.map (·.2)) →
    (mergeD (ks0, l0) l).1 = (mergeK kv0 kvs).map (fun p => DK.k p.1) ∧ RepL G H (mergeD (ks0, l0) l).2 ((mergeK kv0 kvs).map (·.2))
  | [], _, h => ⟨[], by rw [show _ = [] from h]; rfl, rfl, fun ks0 l0 kv0 e r => ⟨e, r⟩⟩
  | (k, d) :: r, _, ⟨kk, z, rest, h1, h2, h3, h4⟩ => by
    obtain ⟨kvs, e, hl, ih⟩ := PrR.merge h4
    refine ⟨(kk, z) :: kvs, by rw [h1, e]; rfl, by rw [List.length_cons, List.length_cons, hl], fun ks0 l0 kv0 e0 r0 => ?_⟩
    subst e0 h2
    obtain ⟨a1, a2⟩ := putDK_rep (k := kk) h3 r0
    have := ih _ _ (putK kv0 kk z) a1 a2
    exact this
def Frm.pPr (F : Frm) (T : List Ent) (ps : List (V × V)) (l : List (DK × D)) (Hs H : Hp) (E : List Ent) : Prop := F.St Hs H (E ++ T) ∧ PrR F.G Hs l ps
def prC (dk : D) (l : List (DK × D)) (dv : D) : M (List (DK × D)) := fun e => match dk.key with
  | some (.k k) => .ok ((.k k, dv) :: l) e
  | _ => .stuck
def prV (dk dv : D) (m : M (List (DK × D))) : M (List (DK × D)) := fun e => (m e).bind fun l => prC dk l dv
def prK (fv : M Opd) (m : M (List (DK × D))) (ok : Opd) : M (List (DK × D)) := fun e => match ok with
  | .val dk => (fv e).bind fun ov e => match ov with
    | .val dv => prV dk dv m e
    | _ => .stuck
  | _ => .stuck
def dPs : List (M Opd × M Opd) → M (List (DK × D))
  | [] => fun e => .ok [] e
  | p :: r => fun e => (p.1 e).bind (prK p.2 (dPs r))
theorem pairs_end : ∀ (fs : List (M Opd × M Opd)) (T : List Ent) (σ : L2.St) (Hs H : Hp) (E : List Ent) (Q : List (V × V) → Hp → Prop), F.St Hs H (E ++ T) → E.map Prod.fst = σ → F.End σ Hs T (F.pPr T) (dPs fs (E.map Prod.snd)) Q →
    tPairs (fs.map fun p => (F.tM F.pO p.1, F.tM F.pO p.2)) σ H Q
  | [], T, σ, Hs, H, E, Q, S, e1, q => q [] Hs H E (Ex.refl _) e1 rfl ⟨S, rfl⟩
  | p :: r, T, σ, Hs, H, E, Q, S, e1, q => by
    have q : F.End σ Hs T (F.pPr T) ((p.1 (E.map Prod.snd)).bind (prK p.2 (dPs r))) Q := q
    refine ⟨Hs, E, T, S, e1, q.bind fun x ok env' Hs1 H1 E1 ex1 m1 m2 p1 q1 => ?_⟩
    subst m2
    cases ok with
    | «at» i => exact q1.elim
    | val dk =>
      unfold prK at q1
      refine ⟨Hs1, E1, T, p1.1, m1, Frm.End.bind q1 fun y ov env' Hs2 H2 E2 ex2 n1 n2 p2 q2 => ?_⟩
      subst n2
      cases ov with
      | «at» i => exact q2.elim
      | val dv =>
        refine pairs_end r T σ Hs2 H2 E2 _ p2.1 n1 (Frm.End.bind (show F.End σ Hs2 T (F.pPr T) ((dPs r (E2.map Prod.snd)).bind fun l => prC dk l dv) Q from q2) fun ps l env' Hs3 H3 E3 ex3 k1 k2 p3 q3 => ?_)
        subst k2
        unfold prC at q3
        cases qk : dk.key with
        | none => rw [qk] at q3; exact q3.elim
        | some kk =>
          rw [qk] at q3
          cases kk with
          | t _ => exact q3.elim
          | k k =>
            have rx : Rep F.G Hs3 dk x := Rep.ex ex3 _ (Rep.ex ex2 _ p1.2)
            have ry : Rep F.G Hs3 dv y := Rep.ex ex3 _ p2.2
            exact q3 _ Hs3 H3 E3 (Ex.refl _) k1 rfl ⟨p3.1, k, y, ps, by rw [key_k qk rx], rfl, ry, p3.2⟩
structure DPs (X : Cx) (F : Frm) (pos : Pos) (keys : List (Option Expr)) (values : List Expr) (fs : List (M Opd × M Opd)) : Prop where
  pps : PPs X pos keys values (fs.map fun p => (F.tM F.pO p.1, F.tM F.pO p.2))
theorem dps_nil {pos : Pos} : DPs X F pos [] [] [] := ⟨pps_nil⟩
theorem dps_cons {pos : Pos} {k v : Expr} {ks : List (Option Expr)} {vs : List Expr} {fk fv : M Opd} {fs : List (M Opd × M Opd)} (hk : DO X F k fk) (hv : DO X F v fv) (hr : DPs X F pos ks vs fs) : DPs X F pos (some k :: ks) (v :: vs) ((fk, fv) :: fs) := ⟨pps_cons hk.pe hv.pe hr.pps⟩
def dispE (l : List (DK × D)) : M Slot := fun e => match Nat.ble l.length 15 with
  | true => .ok (.od false (mergeD ([], []) l).1 (mergeD ([], []) l).2) e
  | false => .stuck
def dDisp (fs : List (M Opd × M Opd)) : M Slot := M.bind (dPs fs) dispE
theorem de_disp {pos : Pos} {keys : List (Option Expr)} {values : List Expr} {fs : List (M Opd × M Opd)} (h : DPs X F pos keys values fs) (hall : keys.all (·.isSome) = true := by rfl) (hl : keys.length = values.length := by rfl) (h0 : keys ≠ [] := by intro h; cases h)
    (h15 : keys.length ≤ 15 := by decide) : DE X F (.Dict keys values pos) (dDisp fs) := ⟨PE.weak (pe_disp h.pps hall hl h0 h15) fun σ H Q ⟨Hs, E, T, S, e1, q⟩ p hp => by
  have S1 : F.St Hs (upd H p (.dK [])) (E ++ (T ++ [(some (.ref p), .od false [] [])])) := by
    rw [← List.append_assoc]
    exact S.pushOwn (N := fun a => a = p) (Ex.new hp) (fun a o h _ _ => by rw [upd_ne (ne_of_none h hp)]; exact h) (fun a z => by subst z; exact ⟨hp, _, upd_same⟩) ⟨p, [], rfl, rfl, upd_same, rfl, rfl⟩ (S.tb.new hp rfl)
  have q : F.End σ Hs T (F.pD T) ((dPs fs (E.map Prod.snd)).bind dispE) Q := q
  refine pairs_end fs _ σ Hs _ E _ S1 e1 ?_
  cases qf : dPs fs (E.map Prod.snd) with
  | stuck => rw [qf] at q; exact q.elim
  | exc x e' =>
    rw [qf] at q
    intro cls d Hs' H' E' ex m1 m2 S' xa
    rw [← List.append_assoc] at S'
    exact q cls d Hs' H' E' ex m1 m2 (StR.pop S') xa
  | ok l e' =>
    rw [qf] at q
    intro ps Hs' H' E' ex m1 m2 pp
    subst m2
    obtain ⟨S', pr⟩ := pp
    have q : F.End σ Hs T (F.pD T) (dispE l (E'.map Prod.snd)) Q := q
    unfold dispE at q
    cases q15 : Nat.ble l.length 15 with
    | false => rw [q15] at q; exact q.elim
    | true =>
      rw [q15] at q
      have gL : (E' ++ (T ++ [(some (V.ref p), Slot.od false [] [])]))[(E' ++ T).length]? = some (some (.ref p), .od false [] []) := by
        rw [← List.append_assoc, List.getElem?_append_right (Nat.le_refl _), Nat.sub_self]; rfl
      obtain ⟨a, ea, mr, wr⟩ := S'.wr gL (m := .d false [] []) rfl
      cases ea
      obtain ⟨kvs0, g1, g2, g3⟩ := id mr
      have e0 : kvs0 = [] := by cases kvs0 with | nil => rfl | cons _ _ => cases g2
      subst e0
      obtain ⟨kvs, ee, hlen, mg⟩ := pr.merge
      obtain ⟨b1, b2⟩ := mg [] [] [] rfl rfl
      refine ⟨g1, kvs, ee, by rw [hlen]; exact Nat.le_of_ble_eq_true q15, ?_⟩
      have S8 := wr (o := .dK (mergeK [] kvs)) (m' := .d false (mergeD ([], []) l).1 (mergeD ([], []) l).2) ⟨_, upd_same, b1, b2⟩
      have e8 : (E' ++ (T ++ [(some (V.ref p), Slot.od false [] [])])).set (E' ++ T).length (some (.ref p), (Slot.od false [] []).put (.d false (mergeD ([], []) l).1 (mergeD ([], []) l).2)) = E' ++ T ++ [(some (.ref p), .od false (mergeD ([], []) l).1 (mergeD ([], []) l).2)] := by
        rw [← List.append_assoc, List.set_append_right _ _ (Nat.le_refl _), Nat.sub_self]; rfl
      rw [e8] at S8
      exact q (.ref p) Hs' _ E' ex m1 rfl S8⟩
end
end Dl
set_option Elab.async false
set_option linter.all false
set_option maxRecDepth 100000
set_option maxHeartbeats 4000000
namespace Dl
open PySem PySem.Spec PyProof.Rows L2
section
variable {X : Cx} {F : Frm}
/-! ### d.update(e) -/
def rUpd : V → List V → Hp → VK → Prop := fun x xs H Q => ∃ d o kvs more, x = V.ref d ∧ xs = [V.ref o] ∧ d ≠ o ∧ H d = some (.dK kvs) ∧ H o = some (.dK more) ∧ kvs.length + more.length ≤ sizeLine ∧ Q .non (upd H d (.dK (mergeK kvs more)))
theorem mt_upd : MtR X "dict.update" rUpd := by
  intro pins s σ H x xs v us Q I rx rs h
  obtain ⟨d, o, kvs, more, rfl, rfl, hne, h1, h2, hz, q⟩ := h
  cases rx
  rw [Vals.ref1 rs]
  obtain ⟨z1, hd1, vs1, rel1, dd1⟩ := dk_of I.hok h1
  obtain ⟨z2, hd2, vs2, rel2, dd2⟩ := dk_of I.hok h2
  refine call_meetsIn PySem.F.slot_dict_update dd1.typeIs PySem.F.entry_dict_update (PySem.F.args_dict_update_2 _ _) (meets_dict_update (mixKind X.prog X.w) d o hne hd2) ⟨vs1, vs2, dd1, dd2, by rw [← rel1.length, ← rel2.length]; exact hz, fun h' dd' ddo hs => ?_⟩
  have he : ∃ q, h'.get? d = some q := let ⟨q, _, _, hq, _⟩ := dd'; ⟨q, hq⟩
  have hl : (mergeK kvs more).length ≤ sizeLine := Nat.le_trans (length_mergeK more kvs) hz
  exact ⟨.non, _, d_write I (by rw [h1]; exact True.intro) hs he (dk_new hl hd1 (KV.merge rel2 rel1) dd'), rfl, q⟩
theorem prR_zip {G : Gx} {H : Hp} : ∀ {kvs : List (Key × V)} {l : List D}, RepL G H l (kvs.map (·.2)) → PrR G H ((kvs.map fun p => DK.k p.1).zip l) (kvs.map fun kv => (kV kv.1, kv.2))
  | [], l, h => by cases l with | nil => rfl | cons _ _ => obtain ⟨_, _, e, _⟩ := h; cases e
  | p :: r, [], h => by cases h
  | p :: r, d :: ds, ⟨v, rr, e, h1, h2⟩ => by
    cases e
    exact ⟨p.1, p.2, _, rfl, rfl, h1, prR_zip h2⟩
theorem kv_inj : ∀ {a b : List (Key × V)}, a.map (fun kv => (kV kv.1, kv.2)) = b.map (fun kv => (kV kv.1, kv.2)) → a = b
  | [], [], _ => rfl
  | [], _ :: _, h => by cases h
  | _ :: _, [], h => by cases h
  | p :: r, p' :: r', h => by
    rw [List.map_cons, List.map_cons] at h
    injection h with h1 h2
    obtain ⟨k, v⟩ := p
    obtain ⟨k', v'⟩ := p'
    injection h1 with e1 e2
    have ek : k = k' := by
      cases k <;> cases k' <;> simp [kV] at e1 <;> rw [e1]
    rw [kv_inj h2]
    simp only at e2
    rw [ek, e2]
def updE (i : Nat) (os : List Opd) : Sm := fun e => match vals os with
  | some [d] => (match d, ownAt i e with
    | .dct false ks l, some (.d false ks0 l0) => (match Nat.ble (ks0.length + ks.length) 16777216 with
      | true => putAt i (.d false (mergeD (ks0, l0) (ks.zip l)).1 (mergeD (ks0, l0) (ks.zip l)).2) e
      | false => .stuck)
    | _, _ => .stuck)
  | _ => .stuck
def sUpd (i : Nat) (fa : M (List Opd)) : Sm := fun e => match ownAt i e with
  | some (.d _ _ _) => (fa e).fl (updE i)
  | _ => .stuck
theorem s_upd {i : Nat} {x : Str} {v : Expr} {fa : M (List Opd)} {p1 apos cpos pos : Pos} (ho : PE X (.Name x p1) (tVar i)) (ha : DA X F [v] fa)
    (hbase : attributeBase (.Name x p1) "update" X.env (eval (.Name x p1) X.env) = eval (.Name x p1) X.env := by rfl)
    (hfew : ((backTo cpos (starEach [v] X.env)).all (fun x => !x.1) && (backToKw cpos (keywordEach [] X.env)).all (fun x => x.1.isSome)
      && decide ([v].length + ([] : List Keyword).length + (if ([] : List Keyword).isEmpty then 0 else 1) < 30)) = true := by rfl)
    (hline : (apos.endLine == cpos.line) = true := by rfl) (hs : starEach [v] X.env = (false, eval v X.env) :: starEach [] X.env := by rfl) (hplain : (backTo cpos (starEach [] X.env)).any (·.1) = false := by rfl)
    (hsw : swapsWith (.Call (.Attribute (.Name x p1) "update" apos) [v] [] cpos) none pos.line X.env = pure false := by rfl) :
    DS X F (.Expr (.Call (.Attribute (.Name x p1) "update" apos) [v] [] cpos) pos) (sUpd i fa) :=
  ⟨PS.weak (ps_expr (pe_bm PySem.F.plainAttrs_dict PySem.F.slot_dict_update PySem.F.type_dict_update mt_upd ho ha.pa hbase hfew hline hs hplain) hsw) fun D σ H ⟨Hs, E, S, e1, q⟩ => by
  unfold sUpd at q
  cases qo : ownAt i (E.map Prod.snd) with
  | none => rw [qo] at q; exact q.elim
  | some m =>
    rw [qo] at q
    cases m with
    | d t0 ks00 l00 =>
      obtain ⟨a, s, g1, g2, g3, mr, _⟩ := own_at (T := []) (st_nil S) qo
      have ty : tyV X.K "dict" (.ref a) H := by
        cases t0 with
        | false => obtain ⟨kvs, z, _⟩ := mr; exact .inr (.inr (.inl ⟨rfl, .inl ⟨kvs, z⟩⟩))
        | true => obtain ⟨kvs, z, _⟩ := mr; exact .inr (.inr (.inl ⟨rfl, .inr ⟨kvs, z⟩⟩))
      refine ⟨.ref a, by rw [← e1]; exact g2, ty, Hs, E, [], st_nil S, e1, EndS.bind q fun ys os env' Hs2 H2 E2 ex2 n1 n2 p2 q2 => ?_⟩
      subst n2
      obtain ⟨S2, rk⟩ := p2
      unfold updE at q2
      cases qv : vals os with
      | none => rw [qv] at q2; exact q2.elim
      | some ds =>
        rw [qv] at q2
        have rv := vals_rep rk qv
        match ds, rv, q2 with
        | [], _, q2 => exact q2.elim
        | _ :: _ :: _, _, q2 => exact q2.elim
        | [d], ⟨z, zr, ez, r1, er⟩, q2 =>
          cases (show zr = [] from er)
          subst ez
          cases d with
          | dct t ks l =>
            cases t with
            | true => cases ownAt i (E2.map Prod.snd) <;> exact q2.elim
            | false =>
              cases qo2 : ownAt i (E2.map Prod.snd) with
              | none => rw [qo2] at q2; exact q2.elim
              | some m2 =>
                rw [qo2] at q2
                cases m2 with
                | d t ks0 l0 =>
                  cases t with
                  | true => exact q2.elim
                  | false =>
                    try simp only at q2
                    cases qz : Nat.ble (ks0.length + ks.length) 16777216 with
                    | false => rw [qz] at q2; exact q2.elim
                    | true =>
                      rw [qz] at q2
                      obtain ⟨a2, s2, k1, k2, k3, mr2, fin⟩ := own_at S2 qo2
                      have : a2 = a := by
                        rw [n1, ← e1, g2] at k2
                        cases k2; rfl
                      subst this
                      obtain ⟨kvs0, u1, u2, u3⟩ := mr2
                      obtain ⟨o, vs, ez, ⟨more, w1, w2, w3⟩, w4⟩ := r1
                      subst ez w2 w3
                      have hHo := S2.eS.get w1
                      -- the receiver is one's own, the argument is shared
                      have hne : a2 ≠ o := by
                        intro e
                        subst e
                        obtain ⟨A, a1', a2', a3'⟩ := S2.own
                        have pa := a3' i _ _ (app_get k1)
                        obtain ⟨s2', hm2, hm3⟩ := ownAt_of qo2
                        rw [k3] at hm2; cases hm2
                        obtain ⟨b, eb, pb, _⟩ := own_me pa hm3
                        cases eb
                        rw [(a2' i _ pb).1] at w1; cases w1
                      obtain ⟨kvs, ee, hlen, mg⟩ := (prR_zip w4).merge
                      have := kv_inj ee
                      subst this
                      obtain ⟨b1, b2⟩ := mg ks0 l0 kvs0 u2 u3
                      have hz := Nat.le_of_ble_eq_true qz
                      rw [u2, List.length_map, List.length_map] at hz
                      refine ⟨a2, o, kvs0, more, rfl, rfl, hne, u1, hHo, by rw [sizeLine_eq]; exact hz, ?_⟩
                      obtain ⟨S3, y1, y2⟩ := fin (o := .dK (mergeK kvs0 more)) (m' := .d false (mergeD (ks0, l0) ((more.map fun p => DK.k p.1).zip l)).1 (mergeD (ks0, l0) ((more.map fun p => DK.k p.1).zip l)).2) ⟨_, upd_same, b1, b2⟩
                      unfold putAt at q2
                      rw [k3] at q2
                      have := q2 Hs2 _ _ (Ex.refl _) y2 (nil_st S3)
                      rw [y1, n1] at this
                      exact this
                | _ => exact q2.elim
          | _ => cases ownAt i (E2.map Prod.snd) <;> exact q2.elim
    | _ => exact q.elim⟩
end
end Dl
set_option Elab.async false
set_option linter.all false
set_option maxRecDepth 100000
set_option maxHeartbeats 4000000
namespace Dl
open PySem PySem.Spec PyProof.Rows L2
/-! ### [elt for .. for ..] -/
def lcL2 (vs vs1 : List Nat) (g : Tg) (ifs : M Bool) (f1 : M (List D)) (g1 : Tg) (ifs1 : M Bool) (elt : M Slot) : List D → M (List D)
  | [] => fun e => .ok [] e
  | d :: r => fun e => match g d e with
    | none => .stuck
    | some e1 => match ifs e1 with
      | .ok true e2 => (match f1 e2 with
        | .ok items1 e3 => (match lcL vs1 g1 ifs1 elt items1 (wipeE e3 vs1) with
          | .ok more e4 => (match lcL2 vs vs1 g ifs f1 g1 ifs1 elt r (wipeE e4 vs) with
            | .ok m2 e5 => .ok (more ++ m2) e5
            | _ => .stuck)
          | _ => .stuck)
        | _ => .stuck)
      | .ok false e2 => lcL2 vs vs1 g ifs f1 g1 ifs1 elt r (wipeE e2 vs)
      | _ => .stuck
def lcEnd2 (e0 : Env) (vs : List Nat) (acc : List D) (r : Out (List D)) : Out Slot := match r with
  | .ok more e => if lenOk (acc ++ more).length = true then .ok (.ol (acc ++ more)) (unwipe e0 e vs) else .stuck
  | _ => .stuck
def dLc2 (f : M (List D)) (vs vs1 : List Nat) (g : Tg) (ifs : M Bool) (f1 : M (List D)) (g1 : Tg) (ifs1 : M Bool) (elt : M Slot) : M Slot := M.bind f fun items e => lcEnd2 e vs [] (lcL2 vs vs1 g ifs f1 g1 ifs1 elt items (wipeE e vs))
/-- the inner loop's rest, then the outer's -/
def lcIn (vs vs1 : List Nat) (g : Tg) (ifs : M Bool) (f1 : M (List D)) (g1 : Tg) (ifs1 : M Bool) (elt : M Slot) (r1 r : List D) : M (List D) := fun e => match lcL vs1 g1 ifs1 elt r1 e with
  | .ok more e4 => (match lcL2 vs vs1 g ifs f1 g1 ifs1 elt r (wipeE e4 vs) with
    | .ok m2 e5 => .ok (more ++ m2) e5
    | _ => .stuck)
  | _ => .stuck
theorem wipe_offs {σ : L2.St} {vs : List Nat} : Off vs (wipe σ vs) σ := ⟨wipe_length _ _, fun j hj => wipe_out hj⟩
theorem lc2_weak {F : Frm} {f f1 : M (List D)} {vs vs1 ws ws1 : List Nat} {g g1 : Tg} {ifs ifs1 : M Bool} {elt : M Slot} (hw : ∀ i ∈ ws, i ∈ vs) (hv : ∀ i ∈ vs1, i ∈ vs) (hw1 : ∀ i ∈ ws1, i ∈ vs1) : ∀ σ H Q, F.tM F.pD (dLc2 f vs vs1 g ifs f1 g1 ifs1 elt) σ H Q →
    tLc2 (F.tM F.pI f) (F.nox.tG g ws) (F.nox.tM F.nox.pT ifs) (F.nox.tM F.nox.pI f1) (F.nox.tG g1 ws1) (F.nox.tM F.nox.pT ifs1) (F.nox.tM F.nox.pD elt) vs vs1 σ H Q := fun σ H Q ⟨Hs, E, T, S, e1, q⟩ => by
  refine ⟨Hs, E, T, S, e1, q.bind fun J items env' Hs1 H1 E1 ex1 m1 m2 p1 q1 => ?_⟩
  subst m2
  intro L hL
  have S1 : F.St Hs1 (upd H1 L (.lst [])) (E1 ++ T ++ [(some (.ref L), .ol [])]) := p1.1.pushList hL RepL.nil
  refine ⟨fun i m H => m = items.length - i ∧ i ≤ items.length ∧ ∃ Hs2 E2 acc, F.St Hs2 H (E2 ++ (T ++ [(some (.ref L), .ol acc)])) ∧ E2.map Prod.fst = wipe σ vs ∧ Ex Hs1 Hs2 ∧
    F.End σ Hs2 T (F.pD T) (lcEnd2 (E1.map Prod.snd) vs acc (lcL2 vs vs1 g ifs f1 g1 ifs1 elt (items.drop i) (E2.map Prod.snd))) Q, ⟨items.length, by simp, Nat.zero_le _, Hs1, wipeL E1 vs, [], ?_, ?_, Ex.refl _, ?_⟩, ?_⟩
  · rw [List.append_assoc] at S1
    exact st_wipe S1 vs
  · rw [wipeL_fst, m1]
  · rw [wipeL_snd]; exact q1
  · rintro i m H2 ⟨rfl, hi, Hs2, E2, acc, S2, k1, ex2, q2⟩
    by_cases hlt : i < items.length
    · refine .inr ⟨p1.2.goes i H2 hlt (ex2.trans S2.eS), fun H' => ∃ Hs3 E3 acc', F.St Hs3 H' (E3 ++ (T ++ [(some (.ref L), .ol acc')])) ∧ E3.map Prod.fst = wipe σ vs ∧ Ex Hs1 Hs3 ∧
        F.End σ Hs3 T (F.pD T) (lcEnd2 (E1.map Prod.snd) vs acc' (lcL2 vs vs1 g ifs f1 g1 ifs1 elt (items.drop (i + 1)) (E3.map Prod.snd))) Q, fun H' h => ⟨items.length - (i + 1), by omega, rfl, hlt, h⟩, fun x H' y => ?_⟩
      obtain ⟨d, Hs3, h1, ex3, S3, r⟩ := item_comes S2 (p1.2.later ex2) hlt y
      have ed : items.drop i = d :: items.drop (i + 1) := by
        rw [List.drop_eq_getElem_cons hlt]
        rw [List.getElem?_eq_getElem hlt] at h1
        rw [Option.some.inj h1]
      rw [ed] at q2
      have q2 := q2.later ex3
      unfold lcL2 at q2
      cases qg : g d (E2.map Prod.snd) with
      | none => rw [qg] at q2; exact q2.elim
      | some e2 =>
        rw [qg] at q2
        try simp only at q2
        refine ⟨Hs3, E2, _, d, e2, S3, k1, r, qg, fun E3 m3 S4 o3 => ⟨wipe_off (by rw [← k1] at *; exact o3) hw, Hs3, E3, _, S4, rfl, ?_⟩⟩
        rw [m3]
        cases qi : ifs e2 with
        | stuck => rw [qi] at q2; exact q2.elim
        | exc x e => rw [qi] at q2; exact q2.elim
        | ok b e3 =>
          rw [qi] at q2
          intro b' Hs4 H4 E4 ex4 n1 n2 p4
          obtain ⟨S5, rfl⟩ := p4
          subst n2
          have q2 := q2.later ex4
          have w4 : wipe (E4.map Prod.fst) vs = wipe σ vs := by rw [n1]; exact wipe_off (by rw [← k1] at *; exact o3) hw
          cases b' with
          | false =>
            refine iteF ⟨Hs4, wipeL E4 vs, acc, st_wipe S5 vs, by rw [wipeL_fst]; exact w4, (ex2.trans ex3).trans ex4, ?_⟩
            rw [wipeL_snd]
            exact q2
          | true =>
            refine iteT ⟨Hs4, E4, _, S5, n1, ?_⟩
            try simp only at q2
            cases qf : f1 (E4.map Prod.snd) with
            | stuck => rw [qf] at q2; exact q2.elim
            | exc x e => rw [qf] at q2; exact q2.elim
            | ok items1 e5 =>
              rw [qf] at q2
              intro J1 Hs5 H5 E5 ex5 j1 j2 p5
              subst j2
              have q2 := q2.later ex5
              have q2 : F.End σ Hs5 T (F.pD T) (lcEnd2 (E1.map Prod.snd) vs acc (lcIn vs vs1 g ifs f1 g1 ifs1 elt items1 (items.drop (i + 1)) (wipeE (E5.map Prod.snd) vs1))) Q := q2
              have S6 : F.St Hs5 H5 (E5 ++ (T ++ [(some (.ref L), .ol acc)])) := p5.1
              have w5 : wipe (E5.map Prod.fst) vs = wipe σ vs := by rw [j1, ← n1]; exact w4
              refine ⟨fun j k H => k = items1.length - j ∧ j ≤ items1.length ∧ ∃ Hs6 E6 acc, F.St Hs6 H (E6 ++ (T ++ [(some (.ref L), .ol acc)])) ∧ E6.map Prod.fst = wipe (E5.map Prod.fst) vs1 ∧ Ex Hs5 Hs6 ∧
                F.End σ Hs6 T (F.pD T) (lcEnd2 (E1.map Prod.snd) vs acc (lcIn vs vs1 g ifs f1 g1 ifs1 elt (items1.drop j) (items.drop (i + 1)) (E6.map Prod.snd))) Q,
                ⟨items1.length, by simp, Nat.zero_le _, Hs5, wipeL E5 vs1, acc, st_wipe S6 vs1, wipeL_fst _ _, Ex.refl _, by rw [wipeL_snd]; exact q2⟩, ?_⟩
              rintro j k H6 ⟨rfl, hj, Hs6, E6, acc6, S7, k6, ex6, q6⟩
              by_cases hlt1 : j < items1.length
              · refine .inr ⟨p5.2.goes j H6 hlt1 (ex6.trans S7.eS), fun H' => ∃ Hs7 E7 acc', F.St Hs7 H' (E7 ++ (T ++ [(some (.ref L), .ol acc')])) ∧ E7.map Prod.fst = wipe (E5.map Prod.fst) vs1 ∧ Ex Hs5 Hs7 ∧
                  F.End σ Hs7 T (F.pD T) (lcEnd2 (E1.map Prod.snd) vs acc' (lcIn vs vs1 g ifs f1 g1 ifs1 elt (items1.drop (j + 1)) (items.drop (i + 1)) (E7.map Prod.snd))) Q,
                  fun H' h => ⟨items1.length - (j + 1), by omega, rfl, hlt1, h⟩, fun x H' y => ?_⟩
                obtain ⟨d1, Hs7, h7, ex7, S8, r8⟩ := item_comes (F := F.nox) S7 (ItR.later p5.2 ex6) hlt1 y
                have ed1 : items1.drop j = d1 :: items1.drop (j + 1) := by
                  rw [List.drop_eq_getElem_cons hlt1]
                  rw [List.getElem?_eq_getElem hlt1] at h7
                  rw [Option.some.inj h7]
                rw [ed1] at q6
                have q6 := q6.later ex7
                unfold lcIn lcL at q6
                cases qg1 : g1 d1 (E6.map Prod.snd) with
                | none => rw [qg1] at q6; exact q6.elim
                | some e7 =>
                  rw [qg1] at q6
                  try simp only at q6
                  rw [← j1]
                  refine ⟨Hs7, E6, _, d1, e7, S8, k6, r8, qg1, fun E8 m8 S9 o8 => ⟨wipe_off (by rw [← k6] at *; exact o8) hw1, Hs7, E8, _, S9, rfl, ?_⟩⟩
                  rw [m8]
                  cases qi1 : ifs1 e7 with
                  | stuck => rw [qi1] at q6; exact q6.elim
                  | exc x e => rw [qi1] at q6; exact q6.elim
                  | ok b8 e8 =>
                    rw [qi1] at q6
                    intro b9 Hs9 H9 E9 ex9 a1 a2 p9
                    obtain ⟨S10, rfl⟩ := p9
                    subst a2
                    have q6 := q6.later ex9
                    have w9 : wipe (E9.map Prod.fst) vs1 = wipe (E5.map Prod.fst) vs1 := by rw [a1]; exact wipe_off (by rw [← k6] at *; exact o8) hw1
                    cases b9 with
                    | false =>
                      refine iteF ⟨Hs9, wipeL E9 vs1, acc6, st_wipe S10 vs1, by rw [wipeL_fst]; exact w9, (ex6.trans ex7).trans ex9, ?_⟩
                      rw [wipeL_snd]
                      exact q6
                    | true =>
                      refine iteT ⟨Hs9, E9, _, S10, a1, ?_⟩
                      try simp only at q6
                      cases qe : elt (E9.map Prod.snd) with
                      | stuck => rw [qe] at q6; exact q6.elim
                      | exc x e => rw [qe] at q6; exact q6.elim
                      | ok s e10 =>
                        rw [qe] at q6
                        intro yv Hs11 H11 E11 ex11 c1 c2 p11
                        subst c2
                        have q6 := q6.later ex11
                        have hs : s ≠ .un := fun z => by subst z; exact q6.elim
                        have q7 : F.End σ Hs11 T (F.pD T) (lcEnd2 (E1.map Prod.snd) vs acc6 (match (match lcL vs1 g1 ifs1 elt (items1.drop (j + 1)) (wipeE (E11.map Prod.snd) vs1) with
                          | .ok more e4 => Out.ok (s.d :: more) e4
                          | _ => .stuck) with
                          | .ok more e4 => (match lcL2 vs vs1 g ifs f1 g1 ifs1 elt (items.drop (i + 1)) (wipeE e4 vs) with
                            | .ok m2 e5 => .ok (more ++ m2) e5
                            | _ => .stuck)
                          | _ => .stuck)) Q := by
                          cases s <;> first | exact q6 | exact absurd rfl hs
                        have p11 : F.St Hs11 H11 ((E11 ++ (T ++ [(some (.ref L), .ol acc6)])) ++ [(some yv, s)]) := p11
                        have hi5 : ((E11 ++ (T ++ [(some (.ref L), .ol acc6)])) ++ [(some yv, s)])[(E11 ++ (T ++ [(some (V.ref L), Slot.ol acc6)])).length]? = some (some yv, s) := by rw [List.getElem?_append_right (Nat.le_refl _), Nat.sub_self]; rfl
                        obtain ⟨Hs12, ex12, S12⟩ := p11.freeze hi5 hs
                        rw [List.set_append_right _ _ (Nat.le_refl _), Nat.sub_self] at S12
                        have S12 : F.St Hs12 H11 ((E11 ++ (T ++ [(some (.ref L), .ol acc6)])) ++ [(some yv, .sh s.d)]) := S12
                        obtain ⟨yv', z, ry⟩ := S12.sh (i := (E11 ++ (T ++ [(some (V.ref L), Slot.ol acc6)])).length) (d := s.d) (by rw [List.getElem?_append_right (Nat.le_refl _), Nat.sub_self]; rfl)
                        cases z
                        have S13 := S12.pop
                        have gL : (E11 ++ (T ++ [(some (V.ref L), Slot.ol acc6)]))[(E11 ++ T).length]? = some (some (.ref L), .ol acc6) := by
                          rw [← List.append_assoc, List.getElem?_append_right (Nat.le_refl _), Nat.sub_self]; rfl
                        obtain ⟨a, ea, mr, wr⟩ := S13.wr gL (m := .l acc6) rfl
                        cases ea
                        obtain ⟨vs', hv3, hv4⟩ := mr
                        -- what is left
                        cases ql : lcL vs1 g1 ifs1 elt (items1.drop (j + 1)) (wipeE (E11.map Prod.snd) vs1) with
                        | exc x e => rw [ql] at q7; exact q7.elim
                        | stuck => rw [ql] at q7; exact q7.elim
                        | ok more e4 =>
                          rw [ql] at q7
                          try simp only at q7
                          cases ql2 : lcL2 vs vs1 g ifs f1 g1 ifs1 elt (items.drop (i + 1)) (wipeE e4 vs) with
                          | exc x e => rw [ql2] at q7; exact q7.elim
                          | stuck => rw [ql2] at q7; exact q7.elim
                          | ok m2 e5 =>
                            rw [ql2] at q7
                            have q8 : F.End σ Hs11 T (F.pD T) (if lenOk (acc6 ++ (s.d :: more ++ m2)).length = true then .ok (.ol (acc6 ++ (s.d :: more ++ m2))) (unwipe (E1.map Prod.snd) e5 vs) else .stuck) Q := q7
                            by_cases hz : lenOk (acc6 ++ (s.d :: more ++ m2)).length = true
                            · rw [if_pos hz] at q8
                              have hz' := Nat.le_of_ble_eq_true hz
                              rw [List.length_append, List.cons_append, List.length_cons] at hz'
                              refine ⟨vs', hv3, by rw [← hv4.length, sizeLine_eq]; omega, Hs12, wipeL E11 vs1, acc6 ++ [s.d], ?_, by rw [wipeL_fst, c1, ← a1]; exact w9, (((ex6.trans ex7).trans ex9).trans ex11).trans ex12, ?_⟩
                              · have S14 := wr (o := .lst (vs' ++ [yv])) (m' := .l (acc6 ++ [s.d])) ⟨_, upd_same, hv4.append (.cons ry .nil)⟩
                                have e8 : (E11 ++ (T ++ [(some (V.ref L), Slot.ol acc6)])).set (E11 ++ T).length (some (.ref L), (Slot.ol acc6).put (.l (acc6 ++ [s.d]))) = E11 ++ (T ++ [(some (.ref L), .ol (acc6 ++ [s.d]))]) := by
                                  rw [← List.append_assoc, List.set_append_right _ _ (Nat.le_refl _), Nat.sub_self, ← List.append_assoc]; rfl
                                rw [e8] at S14
                                exact st_wipe S14 vs1
                              · rw [wipeL_snd]
                                unfold lcIn
                                rw [ql]
                                try simp only
                                rw [ql2]
                                have e9 : (acc6 ++ [s.d]) ++ (more ++ m2) = acc6 ++ (s.d :: more ++ m2) := by simp
                                show F.End σ Hs12 T (F.pD T) (if lenOk ((acc6 ++ [s.d]) ++ (more ++ m2)).length = true then .ok (.ol ((acc6 ++ [s.d]) ++ (more ++ m2))) (unwipe (E1.map Prod.snd) e5 vs) else .stuck) Q
                                rw [e9, if_pos hz]
                                exact q8.later ex12
                            · rw [if_neg hz] at q8
                              exact q8.elim
              · have e : j = items1.length := by omega
                subst e
                rw [List.drop_length] at q6
                refine .inl ⟨p5.2.stops H6 (ex6.trans S7.eS), Hs6, wipeL E6 vs, acc6, st_wipe S7 vs, ?_, ((((ex2.trans ex3).trans ex4).trans ex5)).trans ex6, ?_⟩
                · rw [wipeL_fst, k6, ← w5]
                  have o1 : Off vs1 (wipe (E5.map Prod.fst) vs1) (E5.map Prod.fst) := wipe_offs
                  have o2 : Off vs (wipe (E5.map Prod.fst) vs) (E5.map Prod.fst) := wipe_offs
                  refine wipe_off (ws := vs1 ++ vs) (σ := E5.map Prod.fst) ?_ (fun i hi => by rcases List.mem_append.mp hi with h | h; exact hv i h; exact h)
                  exact ⟨o1.1.trans o2.1.symm, fun j hj => (o1.2 j fun z => hj (List.mem_append_left _ z)).trans (o2.2 j fun z => hj (List.mem_append_right _ z)).symm⟩
                · rw [wipeL_snd]
                  unfold lcIn lcL at q6
                  try simp only at q6
                  cases ql2 : lcL2 vs vs1 g ifs f1 g1 ifs1 elt (items.drop (i + 1)) (wipeE (E6.map Prod.snd) vs) with
                  | exc x e => rw [ql2] at q6; exact q6.elim
                  | stuck => rw [ql2] at q6; exact q6.elim
                  | ok m2 e5 => rw [ql2] at q6; exact q6
    · have e : i = items.length := by omega
      subst e
      rw [List.drop_length] at q2
      refine .inl ⟨p1.2.stops H2 (ex2.trans S2.eS), ?_⟩
      have q2 : F.End σ Hs2 T (F.pD T) (if lenOk (acc ++ []).length = true then .ok (.ol (acc ++ [])) (unwipe (E1.map Prod.snd) (E2.map Prod.snd) vs) else .stuck) Q := q2
      rw [List.append_nil] at q2
      split at q2
      · refine q2 (.ref L) Hs2 H2 (unwipeL E1 E2 vs) (Ex.refl _) (unwipe_fst m1 k1) (unwipeL_snd _ _ _) ?_
        have := st_unwipe p1.1 ex2 S2 vs
        rw [← List.append_assoc] at this
        exact this
      · exact q2.elim

section
variable {X : Cx} {F : Frm}
theorem de_lc2 {elt tg iter tg1 iter1 : Expr} {ifs ifs1 : List Expr} {scope : Scope} {own : List (Str × Nat)} {vs1 : List Nat} {pos : Pos} {f f1 : M (List D)} {g g1 : Tg} {ws ws1 : List Nat} {ft ft1 : M Bool} {fe : M Slot} (hc : X.calm = true) (hN : X.N.Nodup) (hi : DI X F tg iter f) (ok : BlkOk X.N X.env.scope scope own)
    (hw : ∀ i ∈ ws, i ∈ own.map (·.2)) (hv : ∀ i ∈ vs1, i ∈ own.map (·.2)) (hw1 : ∀ i ∈ ws1, i ∈ vs1)
    (hg : ∀ (s : Shared) (H : Hp) (C : Addr) (cl : List (Str × Addr)) (fp : List Addr), DG (X.blk s H scope (compEnvC scope cl C X.env) fp) F.nox tg g ws) (ht : ∀ (s : Shared) (H : Hp) (C : Addr) (cl : List (Str × Addr)) (fp : List Addr), DTs (X.blk s H scope (compEnvC scope cl C X.env) fp) F.nox ifs ft)
    (hi1 : ∀ (s : Shared) (H : Hp) (C : Addr) (cl : List (Str × Addr)) (fp : List Addr), DI (X.blk s H scope (compEnvC scope cl C X.env) fp) F.nox tg1 iter1 f1)
    (hg1 : ∀ (s : Shared) (H : Hp) (C : Addr) (cl : List (Str × Addr)) (fp : List Addr), DG (X.blk s H scope (compEnvC scope cl C X.env) fp) F.nox tg1 g1 ws1) (ht1 : ∀ (s : Shared) (H : Hp) (C : Addr) (cl : List (Str × Addr)) (fp : List Addr), DTs (X.blk s H scope (compEnvC scope cl C X.env) fp) F.nox ifs1 ft1)
    (he : ∀ (s : Shared) (H : Hp) (C : Addr) (cl : List (Str × Addr)) (fp : List Addr), DE (X.blk s H scope (compEnvC scope cl C X.env) fp) F.nox elt fe) (hs : ∀ x, foldedSetIterable iter X.env x = pure x := by intro _; rfl) (hs1 : ∀ env x, foldedSetIterable iter1 env x = pure x := by intro _ _; rfl) :
    DE X F (.ListComp elt [⟨tg, iter, ifs, 0⟩, ⟨tg1, iter1, ifs1, 0⟩] scope pos) (dLc2 f (own.map (·.2)) vs1 g ft f1 g1 ft1 fe) :=
  ⟨PE.weak (pe_lc2 hc hN hi.pi ok hv (fun s H C cl fp => (hg s H C cl fp).pg) (fun s H C cl fp => (ht s H C cl fp).pts) (fun s H C cl fp => (hi1 s H C cl fp).pi) (fun s H C cl fp => (hg1 s H C cl fp).pg) (fun s H C cl fp => (ht1 s H C cl fp).pts) (fun s H C cl fp => (he s H C cl fp).pe) hs hs1) (lc2_weak hw hv hw1)⟩
end
end Dl
set_option Elab.async false
set_option linter.all false
set_option maxRecDepth 100000
set_option maxHeartbeats 4000000
namespace Dl
open PySem PySem.Spec PyProof.Rows L2
/-! ### [[..] for ..]: a list of lists that nobody else holds -/
theorem ooRel_app {G : Gx} {Hs H : Hp} {P : Addr → Prop} {b : Addr} {xs : List D} {vs : List V} (pb : P b) (hb : H b = some (.lst vs)) (r : RepL G Hs xs vs) : ∀ {ll : List (List D)} {as : List Addr}, OoRel G Hs H P ll as → OoRel G Hs H P (ll ++ [xs]) (as ++ [b])
  | [], as, h => by rw [show as = [] from h]; exact ⟨b, [], vs, rfl, pb, hb, r, rfl⟩
  | l :: ll, _, ⟨c, t, ws, h1, h2, h3, h4, h5⟩ => by subst h1; exact ⟨c, t ++ [b], ws, rfl, h2, h3, h4, ooRel_app pb hb r h5⟩
theorem ooRel_pmono {G : Gx} {Hs H : Hp} {P P' : Addr → Prop} (k : ∀ a, P a → P' a) {ll : List (List D)} {as : List Addr} (h : OoRel G Hs H P ll as) : OoRel G Hs H P' ll as := h.mono (Ex.refl _) (fun _ _ _ q => q) k
theorem StR.merge {G : Gx} {B Hs0 Hs H : Hp} {M0 : List Ent} {p : Addr} {v : V} {ll : List (List D)} {xs : List D} (S : StR G B Hs0 Hs H (M0 ++ [(some (.ref p), .oo ll)] ++ [(some v, .ol xs)])) :
    ∃ (as : List Addr) (b : Addr), v = .ref b ∧ H p = some (.lst (as.map V.ref)) ∧ as.length = ll.length ∧ StR G B Hs0 Hs (upd H p (.lst (as.map V.ref ++ [v]))) (M0 ++ [(some (.ref p), .oo (ll ++ [xs]))]) := by
  obtain ⟨A, a1, a2, a3⟩ := S.own
  have i1 : (M0 ++ [(some (V.ref p), Slot.oo ll)] ++ [(some v, Slot.ol xs)])[M0.length]? = some (some (.ref p), .oo ll) := by simp
  have i2 : (M0 ++ [(some (V.ref p), Slot.oo ll)] ++ [(some v, Slot.ol xs)])[M0.length + 1]? = some (some v, .ol xs) := by
    rw [List.getElem?_append_right (by simp)]; simp
  obtain ⟨a, as, h1, h2, h3, h4, h5, h6⟩ := a3 _ _ _ i1
  cases h1
  obtain ⟨b, vs, g1, g2, g3, g4⟩ := a3 _ _ _ i2
  cases g1
  have hbp : b ≠ p := fun e => by subst e; have := a1 _ _ _ h2 g2; omega
  have hbas : b ∉ as := fun hm => by
    have := (ooRel_get h6 hm).1
    have := a1 _ _ _ this g2; omega
  have w : StR G B Hs0 Hs H (M0 ++ [(some (.ref p), .un)]) := by
    have := S.pop.drop (i := M0.length) (x := some (.ref p))
    rw [List.set_append_right _ _ (Nat.le_refl _), Nat.sub_self] at this
    exact this
  obtain ⟨n1, n2, o0, n3⟩ := a2 _ _ h2
  refine ⟨as, b, rfl, h3, (ooRel_len h6).symm, S.eB.mut n2, S.eS.mut n1, S.e0, S.nt, S.nw, S.tb.mut h3 rfl nc_lst rfl, S.nb, fun i c => (i = M0.length ∧ (A M0.length c ∨ A (M0.length + 1) c)) ∨ (i < M0.length ∧ A i c), fun i j c k1 k2 => ?_, fun i c k => ?_, fun i y s k => ?_⟩
  · rcases k1 with ⟨e1, k1⟩ | ⟨l1, k1⟩ <;> rcases k2 with ⟨e2, k2⟩ | ⟨l2, k2⟩
    · omega
    · rcases k1 with k1 | k1
      · have := a1 _ _ _ k1 k2; omega
      · have := a1 _ _ _ k1 k2; omega
    · rcases k2 with k2 | k2
      · have := a1 _ _ _ k1 k2; omega
      · have := a1 _ _ _ k1 k2; omega
    · exact a1 _ _ _ k1 k2
  · have gen : ∃ i', A i' c := by
      rcases k with ⟨_, k | k⟩ | ⟨_, k⟩ <;> exact ⟨_, k⟩
    obtain ⟨i', ha⟩ := gen
    obtain ⟨q1, q2, u, q3⟩ := a2 i' c ha
    refine ⟨q1, q2, ?_⟩
    by_cases z : c = p
    · subst z; exact ⟨_, upd_same⟩
    · exact ⟨u, by rw [upd_ne z]; exact q3⟩
  · by_cases hi : i < M0.length
    · rw [List.getElem?_append_left hi] at k
      refine (a3 i y s (by rw [List.append_assoc, List.getElem?_append_left hi]; exact k)).mono (Ex.refl _) (fun c u pc q => ?_) fun c pc => .inr ⟨hi, pc⟩
      have : c ≠ p := fun e => by subst e; have := a1 _ _ _ pc h2; omega
      rw [upd_ne this]; exact q
    · rw [List.getElem?_append_right (by omega)] at k
      have e : i - M0.length = 0 := by
        by_cases z : i - M0.length = 0
        · exact z
        · rw [List.getElem?_eq_none (by simp; omega)] at k; cases k
      rw [e] at k
      cases k
      have ei : i = M0.length := by omega
      subst ei
      refine ⟨p, as ++ [b], rfl, .inl ⟨rfl, .inl h2⟩, by rw [upd_same, List.map_append]; rfl, ?_, ?_, ?_⟩
      · rw [List.nodup_append]
        exact ⟨h4, List.nodup_cons.mpr ⟨by simp, List.nodup_nil⟩, fun x hx y hy => by rw [List.mem_singleton] at hy; subst hy; exact fun e => hbas (e ▸ hx)⟩
      · intro hm
        rcases List.mem_append.mp hm with hm | hm
        · exact h5 hm
        · rw [List.mem_singleton] at hm; exact hbp hm.symm
      · refine ooRel_app (.inl ⟨rfl, .inr g2⟩) (by rw [upd_ne hbp]; exact g3) g4 (ooRel_keep (ooRel_pmono (fun c pc => ?_) h6) h5)
        exact .inl ⟨rfl, .inl pc⟩
def lcLO (vs : List Nat) (g : Tg) (ifs : M Bool) (elt : M Slot) : List D → M (List (List D))
  | [] => fun e => .ok [] e
  | d :: r => fun e => match g d e with
    | none => .stuck
    | some e1 => match ifs e1 with
      | .ok true e2 => (match elt e2 with
        | .ok (.ol xs) e3 => (match lcLO vs g ifs elt r (wipeE e3 vs) with
          | .ok more e4 => .ok (xs :: more) e4
          | _ => .stuck)
        | _ => .stuck)
      | .ok false e2 => lcLO vs g ifs elt r (wipeE e2 vs)
      | _ => .stuck
def lcEndO (e0 : Env) (vs : List Nat) (acc : List (List D)) (r : Out (List (List D))) : Out Slot := match r with
  | .ok more e => .ok (.oo (acc ++ more)) (unwipe e0 e vs)
  | _ => .stuck
def dLcO (f : M (List D)) (vs : List Nat) (g : Tg) (ifs : M Bool) (elt : M Slot) : M Slot := M.bind f fun items e =>
  if lenOk items.length = true then lcEndO e vs [] (lcLO vs g ifs elt items (wipeE e vs)) else .stuck
theorem lcO_weak {F : Frm} {f : M (List D)} {vs ws : List Nat} {g : Tg} {ifs : M Bool} {elt : M Slot} (hw : ∀ i ∈ ws, i ∈ vs) : ∀ σ H Q, F.tM F.pD (dLcO f vs g ifs elt) σ H Q →
    tLc (F.tM F.pI f) (F.nox.tG g ws) (F.nox.tM F.nox.pT ifs) (F.nox.tM F.nox.pD elt) vs σ H Q := fun σ H Q ⟨Hs, E, T, S, e1, q⟩ => by
  refine ⟨Hs, E, T, S, e1, q.bind fun J items env' Hs1 H1 E1 ex1 m1 m2 p1 q1 => ?_⟩
  subst m2
  split at q1
  · rename_i hz
    intro L hL
    have S1 : F.St Hs1 (upd H1 L (.lst [])) (E1 ++ T ++ [(some (.ref L), .oo [])]) := p1.1.pushOwn (N := fun a => a = L) (Ex.new hL) (fun a o h _ _ => by rw [upd_ne (ne_of_none h hL)]; exact h) (fun a z => by subst z; exact ⟨hL, _, upd_same⟩) ⟨L, [], rfl, rfl, upd_same, List.nodup_nil, by simp, rfl⟩ (p1.1.tb.new hL rfl)
    refine ⟨fun i m H => m = items.length - i ∧ i ≤ items.length ∧ ∃ Hs2 E2 acc, F.St Hs2 H (E2 ++ (T ++ [(some (.ref L), .oo acc)])) ∧ E2.map Prod.fst = wipe σ vs ∧ Ex Hs1 Hs2 ∧ acc.length ≤ i ∧
      F.End σ Hs2 T (F.pD T) (lcEndO (E1.map Prod.snd) vs acc (lcLO vs g ifs elt (items.drop i) (E2.map Prod.snd))) Q, ⟨items.length, by simp, Nat.zero_le _, Hs1, wipeL E1 vs, [], ?_, ?_, Ex.refl _, Nat.le_refl _, ?_⟩, ?_⟩
    · rw [List.append_assoc] at S1
      exact st_wipe S1 vs
    · rw [wipeL_fst, m1]
    · rw [wipeL_snd]; exact q1
    · rintro i m H2 ⟨rfl, hi, Hs2, E2, acc, S2, k1, ex2, ha, q2⟩
      by_cases hlt : i < items.length
      · refine .inr ⟨p1.2.goes i H2 hlt (ex2.trans S2.eS), fun H' => ∃ Hs3 E3 acc', F.St Hs3 H' (E3 ++ (T ++ [(some (.ref L), .oo acc')])) ∧ E3.map Prod.fst = wipe σ vs ∧ Ex Hs1 Hs3 ∧ acc'.length ≤ i + 1 ∧
          F.End σ Hs3 T (F.pD T) (lcEndO (E1.map Prod.snd) vs acc' (lcLO vs g ifs elt (items.drop (i + 1)) (E3.map Prod.snd))) Q, fun H' h => ⟨items.length - (i + 1), by omega, rfl, hlt, h⟩, fun x H' y => ?_⟩
        obtain ⟨d, Hs3, h1, ex3, S3, r⟩ := item_comes S2 (p1.2.later ex2) hlt y
        have ed : items.drop i = d :: items.drop (i + 1) := by
          rw [List.drop_eq_getElem_cons hlt]
          rw [List.getElem?_eq_getElem hlt] at h1
          rw [Option.some.inj h1]
        rw [ed] at q2
        have q2 := q2.later ex3
        unfold lcLO at q2
        cases qg : g d (E2.map Prod.snd) with
        | none => rw [qg] at q2; exact q2.elim
        | some e2 =>
          rw [qg] at q2
          try simp only at q2
          refine ⟨Hs3, E2, _, d, e2, S3, k1, r, qg, fun E3 m3 S4 o3 => ⟨wipe_off (by rw [← k1] at *; exact o3) hw, Hs3, E3, _, S4, rfl, ?_⟩⟩
          rw [m3]
          cases qi : ifs e2 with
          | stuck => rw [qi] at q2; exact q2.elim
          | exc x e => rw [qi] at q2; exact q2.elim
          | ok b e3 =>
            rw [qi] at q2
            intro b' Hs4 H4 E4 ex4 n1 n2 p4
            obtain ⟨S5, rfl⟩ := p4
            subst n2
            have q2 := q2.later ex4
            have w4 : wipe (E4.map Prod.fst) vs = wipe σ vs := by rw [n1]; exact wipe_off (by rw [← k1] at *; exact o3) hw
            cases b' with
            | false =>
              refine iteF ⟨Hs4, wipeL E4 vs, acc, st_wipe S5 vs, by rw [wipeL_fst]; exact w4, (ex2.trans ex3).trans ex4, by omega, ?_⟩
              rw [wipeL_snd]
              exact q2
            | true =>
              refine iteT ⟨Hs4, E4, _, S5, n1, ?_⟩
              try simp only at q2
              cases qe : elt (E4.map Prod.snd) with
              | stuck => rw [qe] at q2; exact q2.elim
              | exc x e => rw [qe] at q2; exact q2.elim
              | ok s e5 =>
                rw [qe] at q2
                intro yv Hs5 H5 E5 ex5 j1 j2 p5
                subst j2
                have q2 := q2.later ex5
                cases s with
                | ol xs =>
                  have q3 : F.End σ Hs5 T (F.pD T) (lcEndO (E1.map Prod.snd) vs acc (match lcLO vs g ifs elt (items.drop (i + 1)) (wipeE (E5.map Prod.snd) vs) with
                    | .ok more e4 => .ok (xs :: more) e4
                    | _ => .stuck)) Q := q2
                  have p5 : F.St Hs5 H5 ((E5 ++ T) ++ [(some (.ref L), .oo acc)] ++ [(some yv, .ol xs)]) := by
                    have p5 : F.St Hs5 H5 ((E5 ++ (T ++ [(some (.ref L), .oo acc)])) ++ [(some yv, .ol xs)]) := p5
                    rw [← List.append_assoc] at p5
                    exact p5
                  obtain ⟨as, b, rfl, hv3, hlen, S8⟩ := p5.merge
                  refine ⟨as.map V.ref, hv3, ?_, Hs5, wipeL E5 vs, acc ++ [xs], ?_, by rw [wipeL_fst, j1, ← n1]; exact w4, (((ex2.trans ex3).trans ex4).trans ex5), by rw [List.length_append]; simp; omega, ?_⟩
                  · rw [List.length_map, hlen, sizeLine_eq]
                    have := Nat.le_of_ble_eq_true hz
                    omega
                  · rw [List.append_assoc] at S8
                    exact st_wipe S8 vs
                  · rw [wipeL_snd]
                    cases ql : lcLO vs g ifs elt (items.drop (i + 1)) (wipeE (E5.map Prod.snd) vs) with
                    | ok more e4 =>
                      rw [ql] at q3
                      have e9 : (acc ++ [xs]) ++ more = acc ++ (xs :: more) := by simp
                      show F.End σ Hs5 T (F.pD T) (.ok (.oo ((acc ++ [xs]) ++ more)) (unwipe (E1.map Prod.snd) e4 vs)) Q
                      rw [e9]
                      exact q3
                    | exc x e => rw [ql] at q3; exact q3.elim
                    | stuck => rw [ql] at q3; exact q3.elim
                | _ => exact q2.elim
      · have e : i = items.length := by omega
        subst e
        rw [List.drop_length] at q2
        refine .inl ⟨p1.2.stops H2 (ex2.trans S2.eS), ?_⟩
        have q2 : F.End σ Hs2 T (F.pD T) (.ok (.oo (acc ++ [])) (unwipe (E1.map Prod.snd) (E2.map Prod.snd) vs)) Q := q2
        rw [List.append_nil] at q2
        refine q2 (.ref L) Hs2 H2 (unwipeL E1 E2 vs) (Ex.refl _) (unwipe_fst m1 k1) (unwipeL_snd _ _ _) ?_
        have := st_unwipe p1.1 ex2 S2 vs
        rw [← List.append_assoc] at this
        exact this
  · exact q1.elim
theorem de_lcO {X : Cx} {F : Frm} {elt tg iter : Expr} {ifs : List Expr} {scope : Scope} {own : List (Str × Nat)} {pos : Pos} {f : M (List D)} {g : Tg} {ws : List Nat} {ft : M Bool} {fe : M Slot} (hc : X.calm = true) (hN : X.N.Nodup) (hi : DI X F tg iter f) (ok : BlkOk X.N X.env.scope scope own) (hw : ∀ i ∈ ws, i ∈ own.map (·.2))
    (hg : ∀ (s : Shared) (H : Hp) (C : Addr) (cl : List (Str × Addr)) (fp : List Addr), DG (X.blk s H scope (compEnvC scope cl C X.env) fp) F.nox tg g ws) (ht : ∀ (s : Shared) (H : Hp) (C : Addr) (cl : List (Str × Addr)) (fp : List Addr), DTs (X.blk s H scope (compEnvC scope cl C X.env) fp) F.nox ifs ft)
    (he : ∀ (s : Shared) (H : Hp) (C : Addr) (cl : List (Str × Addr)) (fp : List Addr), DE (X.blk s H scope (compEnvC scope cl C X.env) fp) F.nox elt fe) (hs : ∀ x, foldedSetIterable iter X.env x = pure x := by intro _; rfl) :
    DE X F (.ListComp elt [⟨tg, iter, ifs, 0⟩] scope pos) (dLcO f (own.map (·.2)) g ft fe) :=
  ⟨PE.weak (pe_lc hc hN hi.pi ok (fun s H C cl fp => (hg s H C cl fp).pg) (fun s H C cl fp => (ht s H C cl fp).pts) (fun s H C cl fp => (he s H C cl fp).pe) hs) (lcO_weak hw)⟩
theorem s_setLcO {X : Cx} {F : Frm} {i : Nat} {y : Str} {py : Pos} {elt tg iter : Expr} {ifs : List Expr} {scope : Scope} {own : List (Str × Nat)} {pos spos : Pos} {f : M (List D)} {g : Tg} {ws : List Nat} {ft : M Bool} {fe : M Slot} (hc : X.calm = true) (hN : X.N.Nodup) (hy : X.N[i]? = some y) (hyl : X.env.scope.names.lookup y = some .local)
    (hsw : swapsWith (.ListComp elt [⟨tg, iter, ifs, 0⟩] scope pos) (some (.Name y py)) spos.line X.env = pure true) (hi : DI X F tg iter f) (ok : BlkOk X.N X.env.scope scope own) (hw : ∀ i ∈ ws, i ∈ own.map (·.2))
    (hg : ∀ (s : Shared) (H : Hp) (C : Addr) (cl : List (Str × Addr)) (fp : List Addr), DG (X.blk s H scope (compEnvC scope cl C X.env) fp) F.nox tg g ws) (ht : ∀ (s : Shared) (H : Hp) (C : Addr) (cl : List (Str × Addr)) (fp : List Addr), DTs (X.blk s H scope (compEnvC scope cl C X.env) fp) F.nox ifs ft)
    (he : ∀ (s : Shared) (H : Hp) (C : Addr) (cl : List (Str × Addr)) (fp : List Addr), DE (X.blk s H scope (compEnvC scope cl C X.env) fp) F.nox elt fe) (hs : ∀ x, foldedSetIterable iter X.env x = pure x := by intro _; rfl) :
    DS X F (.Assign [.Name y py] (.ListComp elt [⟨tg, iter, ifs, 0⟩] scope pos) spos) (sSet i (dLcO f (own.map (·.2)) g ft fe)) :=
  ⟨PS.weak (ps_setLc hc hN hy hyl hsw hi.pi ok (fun s H C cl fp => (hg s H C cl fp).pg) (fun s H C cl fp => (ht s H C cl fp).pts) (fun s H C cl fp => (he s H C cl fp).pe) hs) fun D σ H ⟨Hs, E, S, e1, q⟩ => by
  refine lcO_weak hw σ H _ ⟨Hs, E, [], st_nil S, e1, EndS.bind q fun v s env' Hs1 H1 E1 ex m1 m2 p q => ?_⟩
  subst m2
  exact sSet_end p m1 q⟩
end Dl
set_option Elab.async false
set_option linter.all false
set_option maxRecDepth 100000
set_option maxHeartbeats 4000000
namespace Dl
open PySem PySem.Spec PyProof.Rows L2
/-! ### sorted(tuples of ints), any number of them, any length but 0 -/
def IsIntT (h : Heap) (v : Value) (ns : List Int) : Prop := ∃ a o xs n, v = .ref a ∧ h.get? a = some o ∧ o.cls = .type "tuple" ∧ o.data = .seq xs n ∧ IntsAre xs.toList ns
theorem IsIntT.keeps {h h' : Heap} {v : Value} {ns : List Int} (x : IsIntT h v ns) (k : ∀ b o, h.get? b = some o → o.cls = .type "tuple" → h'.get? b = some o) : IsIntT h' v ns := by
  obtain ⟨a, o, xs, n, e, ho, hc, hd, hi⟩ := x
  exact ⟨a, o, xs, n, e, k a o ho hc, hc, hd, hi⟩
section
variable {prog : Program} {w : World} {A : Around} {s : Shared}
theorem kat_ints {Q : Bool → Shared → Prop} : ∀ {ps qs : List Value} {ns ms : List Int} (i : Nat) {fin : Bool}, IntsAre ps ns → IntsAre qs ms → fin = decide (ns.length < ms.length) → Q (HT.lexLt ns ms) s → PySem.W.KatLex prog w A true fin Q (ps.zip qs) i s
  | _, _, _, _, i, fin, .nil, .nil, hf, h => PySem.W.kat_nil (by rw [hf]; exact h)
  | _, _, _, _, i, fin, .nil, .cons _ _ _, hf, h => PySem.W.kat_nil (by rw [hf]; simpa [HT.lexLt] using h)
  | _, _, _, _, i, fin, .cons _ _ _, .nil, hf, h => PySem.W.kat_nil (by rw [hf]; simpa [HT.lexLt] using h)
  | _, _, _, _, i, fin, .cons (vs := ps) (ns := ns) x t hp, .cons (vs := qs) (ns := ms) y u hq, hf, h => by
    rw [List.zip_cons_cons]
    refine PySem.W.kat_cons (SeqAt.EqAt.int_int x t y u prog w _ _ ?_)
    refine PySem.W.kat_go (fun e1 => ?_) (fun e1 => ?_)
    · have ex : x = y := by simpa using e1
      rw [HT.lexLt_cons, if_pos ex] at h
      exact PySem.W.kat_yes (kat_ints (i + 1) hp hq (by rw [hf]; simp) h)
    · have ex : ¬ x = y := by simpa using e1
      rw [HT.lexLt_cons, if_neg ex] at h
      exact PySem.W.kat_no (TS.oneLt_ints _ h)
theorem intT_cmp {vs : List Value} {k : Value → List Int} (hp : ∀ v ∈ vs, IsIntT s.heap v (k v)) : SrtO.Cmp prog w A s (tuples' true) (fun p => p.1 ∈ vs) (SrtO.lt2 fun v u => HT.lexLt (k v) (k u)) := by
  intro p q hm hm'
  have h1 := hp _ hm
  have h2 := hp _ hm'
  show wpAny (model prog w) A (keyLt' (tuples' true) p.1 q.1) (fun r s' => s' = s ∧ r = HT.lexLt (k p.1) (k q.1)) (fun _ _ => False) s
  generalize k p.1 = x at h1 ⊢
  generalize k q.1 = y at h2 ⊢
  obtain ⟨a, o, xs, n, e, ho, hc, hd, hi⟩ := h1
  obtain ⟨a', o', xs', n', e', ho', hc', hd', hi'⟩ := h2
  rw [e, e']
  refine PySem.W.kat_lt ho hd ho' hd' (kat_ints 0 hi hi' ?_ ⟨rfl, rfl⟩)
  have l1 := hi.length
  have l2 := hi'.length
  rw [Array.length_toList] at l1 l2
  rw [l1, l2]
theorem firsts_int {h : Heap} {k : Value → List Int} : ∀ {vs : List Value}, (∀ v ∈ vs, IsIntT h v (k v) ∧ k v ≠ []) → ∃ fs : List Value, PySem.W.KatTups h vs fs ∧ fs.length = vs.length ∧ ∀ f ∈ fs, ∃ x t, f = Value.int x t
  | [], _ => ⟨[], PySem.W.KatTups.nil, rfl, fun _ hm => by simp at hm⟩
  | v :: vs, hp => by
    obtain ⟨fs, h1, h2, h3⟩ := firsts_int (vs := vs) fun v' hm => hp v' (List.mem_cons_of_mem _ hm)
    obtain ⟨⟨a, o, xs, n, e, ho, hc, hd, hi⟩, hne⟩ := hp v (List.mem_cons_self ..)
    subst e
    generalize k (.ref a) = ns at hi hne
    cases ns with
    | nil => exact absurd rfl hne
    | cons m ns =>
      cases q : xs.toList with
      | nil => rw [q] at hi; cases hi
      | cons y ys =>
        rw [q] at hi
        cases hi with
        | cons _ t hi' =>
          refine ⟨.int m t :: fs, PySem.W.KatTups.cons ho hc hd ?_ h1, by rw [List.length_cons, List.length_cons, h2], fun f hm => ?_⟩
          · have z := congrArg (fun l : List Value => l[0]?) q
            simpa using z
          · rcases List.mem_cons.mp hm with rfl | hm
            · exact ⟨m, t, rfl⟩
            · exact h3 f hm
theorem intT_sortable {a : Addr} {vs : List Value} {k : Value → List Int} (h0 : 0 < vs.length) (hp : ∀ v ∈ vs, IsIntT s.heap v (k v) ∧ k v ≠ []) (ha : ∀ o, s.heap.get? a = some o → o.cls ≠ .type "tuple") : SrtO.SortableO prog w A s a vs fun v u => HT.lexLt (k v) (k u) := by
  intro h' keep
  have hp' : ∀ v ∈ vs, IsIntT h' v (k v) ∧ k v ≠ [] := fun v hm => ⟨(hp v hm).1.keeps fun b o e c => keep b o (fun z => by subst z; exact ha o e c) e, (hp v hm).2⟩
  obtain ⟨fs, h1, h2, h3⟩ := firsts_int hp'
  refine ⟨tuples' true, fun Q E hq => ?_, intT_cmp fun v hm => (hp' v hm).1⟩
  refine PySem.W.kat_kind (T := .type "int") h1 (by omega) (fun f hm => ?_) (by rfl) ?_
  · obtain ⟨x, t, rfl⟩ := h3 f hm
    exact PySem.W.Looks.now
  · have e : (Value.type "int" != Value.type "tuple") = true := by first | decide +kernel | rfl | decide
    rw [e]
    exact hq
end
def rSortLex (K : PySem.W.Frag) : List V → Hp → VK → Prop := fun vs H Q => ∃ (a : Addr) (xs : List V) (k : V → List Int), vs = [V.ref a] ∧ SqL K H a xs ∧ (∀ x ∈ xs, (∃ t, x = V.ref t ∧ SqT K H t ((k x).map V.int)) ∧ k x ≠ []) ∧
  ∀ ys p, ys.Perm xs → ys.Pairwise (fun x y => HT.lexLt (k y) (k x) = false) → H p = none → Q (.ref p) (upd H p (.lst ys))
section
variable {X : Cx} {F : Frm}
theorem cr_sortLex : CallR X (.builtin "sorted") (rSortLex X.K) := by
  intro pins s σ H vs us Q I r h
  obtain ⟨a, xs, k, rfl, hs, hx, q⟩ := h
  obtain ⟨its, rv, hl, hz⟩ := I.list hs
  obtain ⟨u, rfl, ru⟩ := L2.vals1 r
  obtain rfl : u = Value.ref a := ru
  obtain ⟨e1, e2⟩ := refs_back rv fun x m => by
    obtain ⟨⟨t, e, _⟩, _⟩ := hx x m
    exact ⟨t, e⟩
  have hk : ∀ v ∈ its, IsIntT s.heap v (k (backV v)) ∧ k (backV v) ≠ [] := fun v hv => by
    obtain ⟨t, rfl⟩ := e2 v hv
    have hm : V.ref t ∈ xs := by rw [e1]; exact List.mem_map.mpr ⟨_, hv, rfl⟩
    obtain ⟨⟨t', e, ht⟩, hne⟩ := hx _ hm
    cases e
    obtain ⟨its2, r2, ⟨o, ho, hc, n, hd⟩, _⟩ := I.tuple ht
    exact ⟨⟨t, o, _, n, rfl, ho, hc, hd, r2.ints⟩, hne⟩
  refine SrtO.sorted_ord (NtL.swo_lexL fun u => k (backV u)) hl.isList (by rw [← rv.length]; exact hz) (fun h2 h₁ a ha kk => ?_) fun out hs hb => ?_
  · refine intT_sortable (s := { s with heap := h₁ }) (by omega) (fun v hm => ⟨(hk v hm).1.keeps fun b o e _ => (kk b o e).2, (hk v hm).2⟩) fun o e => ?_
    have e' : some o = some (seqObj "list" its.toArray 0) := e.symm.trans ha
    cases e'
    intro c
    exact absurd (Value.type.inj c) (by decide)
  · have h3 : ∀ u ∈ out, ∃ a, u = Value.ref a := fun u hu => e2 u (hb.perm.mem_iff.mp hu)
    obtain ⟨n, hn⟩ := PyProof.Rows.sortedAll_at s.heap its out.toArray
    have hp : (out.map backV).Perm xs := by rw [e1]; exact hb.perm.map backV
    have hsr : (out.map backV).Pairwise (fun x y => HT.lexLt (k y) (k x) = false) := List.pairwise_map.mpr (hs.imp fun {x y} z => z)
    refine ⟨.ref _, upd H (s.heap.objs.size + 1) (.lst (out.map backV)), I.laid (t' := s.toks) (fun _ _ => PyProof.Rows.sortedAll_old) (Nat.le_succ _) ⟨?_, out, n, vals_back h3, hn⟩, rfl, q _ _ hp hsr (I.hok.fresh (Nat.le_succ _))⟩
    rw [hp.length_eq]
    exact hz
/-! on trees -/
theorem lex_eq : ∀ {xs ys : List Int}, HT.lexLt xs ys = false → HT.lexLt ys xs = false → xs = ys
  | [], [], _, _ => rfl
  | [], y :: ys, h, _ => by simp [HT.lexLt] at h
  | x :: xs, [], _, h => by simp [HT.lexLt] at h
  | x :: xs, y :: ys, h1, h2 => by
    rw [HT.lexLt_cons] at h1 h2
    by_cases e : x = y
    · rw [if_pos e] at h1; rw [if_pos e.symm] at h2
      rw [e, lex_eq h1 h2]
    · rw [if_neg e] at h1; rw [if_neg (Ne.symm e)] at h2
      have := of_decide_eq_false h1
      have := of_decide_eq_false h2
      omega
def insL (x : List Int) : List (List Int) → List (List Int)
  | [] => [x]
  | y :: l => match HT.lexLt y x with
    | false => x :: y :: l
    | true => y :: insL x l
def sortL : List (List Int) → List (List Int)
  | [] => []
  | x :: l => insL x (sortL l)
theorem insL_perm (x : List Int) : ∀ l, (insL x l).Perm (x :: l)
  | [] => List.Perm.refl _
  | y :: l => by
    unfold insL
    split
    · exact List.Perm.refl _
    · exact ((insL_perm x l).cons y).trans (List.Perm.swap x y l)
theorem sortL_perm : ∀ l, (sortL l).Perm l
  | [] => List.Perm.refl _
  | x :: l => (insL_perm x (sortL l)).trans ((sortL_perm l).cons x)
abbrev LeL (x y : List Int) : Prop := HT.lexLt y x = false
theorem insL_le {x : List Int} : ∀ {l : List (List Int)}, l.Pairwise LeL → (insL x l).Pairwise LeL
  | [], _ => List.pairwise_singleton _ _
  | y :: l, h => by
    unfold insL
    have hh := List.pairwise_cons.mp h
    split
    · rename_i z
      refine List.pairwise_cons.mpr ⟨fun a ha => ?_, h⟩
      rcases List.mem_cons.mp ha with e | e
      · rw [e]; exact z
      · exact NtL.lex_tr x y a z (hh.1 a e)
    · rename_i z
      refine List.pairwise_cons.mpr ⟨fun a ha => ?_, insL_le hh.2⟩
      rcases List.mem_cons.mp ((insL_perm x l).mem_iff.mp ha) with e | e
      · rw [e]; exact NtL.lex_asym y x z
      · exact hh.1 a e
theorem sortL_le : ∀ l, (sortL l).Pairwise LeL
  | [] => List.Pairwise.nil
  | x :: l => insL_le (sortL_le l)
theorem sortL_uniq : ∀ {l m : List (List Int)}, l.Perm m → l.Pairwise LeL → m.Pairwise LeL → l = m
  | [], m, p, _, _ => List.Perm.nil_eq p
  | x :: l, [], p, _, _ => absurd p.length_eq (by simp)
  | x :: l, y :: m, p, h1, h2 => by
    have a1 := List.pairwise_cons.mp h1
    have a2 := List.pairwise_cons.mp h2
    have rf : ∀ z : List Int, HT.lexLt z z = false := fun z => (NtL.swo_lexL (fun z => z)).refl z
    have e : x = y := by
      have b1 : HT.lexLt y x = false := by
        rcases List.mem_cons.mp (p.mem_iff.mpr (List.mem_cons_self ..) : y ∈ x :: l) with e | e
        · rw [e]; exact rf x
        · exact a1.1 y e
      have b2 : HT.lexLt x y = false := by
        rcases List.mem_cons.mp (p.mem_iff.mp (List.mem_cons_self ..) : x ∈ y :: m) with e | e
        · rw [e]; exact rf y
        · exact a2.1 x e
      exact lex_eq b2 b1
    subst e
    rw [sortL_uniq (List.Perm.cons_inv p) a1.2 a2.2]
/-- the ints of a list of tuples (t: those that have no dict) -/
def intsT (t : Bool) : D → Option (List Int)
  | .tup l => if t = true then none else intsD l
  | .tz l => if t = true then intsD l else none
  | _ => none
def intsLs (t : Bool) : List D → Option (List (List Int))
  | [] => some []
  | d :: r => match intsT t d, intsLs t r with
    | some (n :: ns), some nss => some ((n :: ns) :: nss)
    | _, _ => none
def mkT (t : Bool) (ns : List Int) : D := if t = true then .tz (ns.map .int) else .tup (ns.map .int)
theorem intsD_eq : ∀ {l : List D} {ns : List Int}, intsD l = some ns → l = ns.map .int
  | [], ns, h => by cases h; rfl
  | d :: l, ns, h => by
    cases d with
    | int b =>
      have h : (intsD l).map (b :: ·) = some ns := h
      cases q : intsD l with
      | none => rw [q] at h; cases h
      | some bs => rw [q] at h; cases h; rw [List.map_cons, ← intsD_eq q]
    | _ => cases h
theorem intsT_eq {t : Bool} {d : D} {ns : List Int} (h : intsT t d = some ns) : d = mkT t ns := by
  cases d with
  | tup l =>
    cases t with
    | true => cases h
    | false => rw [intsD_eq (show intsD l = some ns from h)]; rfl
  | tz l =>
    cases t with
    | true => rw [intsD_eq (show intsD l = some ns from h)]; rfl
    | false => cases h
  | _ => cases h
theorem intsLs_eq {t : Bool} : ∀ {l : List D} {nss : List (List Int)}, intsLs t l = some nss → l = nss.map (mkT t) ∧ ∀ ns ∈ nss, ns ≠ []
  | [], nss, h => by cases h; exact ⟨rfl, fun ns hn => by cases hn⟩
  | d :: r, nss, h => by
    unfold intsLs at h
    cases q1 : intsT t d with
    | none => rw [q1] at h; cases h
    | some ns =>
      cases ns with
      | nil => rw [q1] at h; cases h
      | cons n ns =>
        cases q2 : intsLs t r with
        | none => rw [q1, q2] at h; cases h
        | some rest =>
          rw [q1, q2] at h; cases h
          obtain ⟨e, hne⟩ := intsLs_eq q2
          refine ⟨by rw [List.map_cons, ← intsT_eq q1, ← e], fun m hm => ?_⟩
          rcases List.mem_cons.mp hm with e | e
          · rw [e]; simp
          · exact hne m e
theorem mkT_rep {G : Gx} {Hs : Hp} {t : Bool} {ns : List Int} {v : V} (r : Rep G Hs (mkT t ns) v) : ∃ a, v = .ref a ∧ ((t = false ∧ Hs a = some (.tup (ns.map V.int))) ∨ (t = true ∧ TzAt Hs a (ns.map V.int))) := by
  cases t with
  | false =>
    obtain ⟨a, vs, h1, h2, h3⟩ := (show Rep G Hs (.tup (ns.map .int)) v from r)
    rw [h3.ints] at h2
    exact ⟨a, h1, .inl ⟨rfl, h2⟩⟩
  | true =>
    obtain ⟨a, vs, h1, h2, h3⟩ := (show Rep G Hs (.tz (ns.map .int)) v from r)
    rw [h3.ints] at h2
    exact ⟨a, h1, .inr ⟨rfl, h2⟩⟩
theorem map_int_inj : ∀ {a b : List Int}, a.map V.int = b.map V.int → a = b
  | [], [], _ => rfl
  | [], _ :: _, h => by cases h
  | _ :: _, [], h => by cases h
  | x :: a, y :: b, h => by
    rw [List.map_cons, List.map_cons] at h
    injection h with h1 h2
    injection h1 with h1
    rw [h1, map_int_inj h2]
theorem mkT_uniq {G : Gx} {Hs : Hp} {t : Bool} {ns ms : List Int} {v : V} (r : Rep G Hs (mkT t ns) v) (r' : Rep G Hs (mkT t ms) v) : ns = ms := by
  obtain ⟨a, e, h⟩ := mkT_rep r
  obtain ⟨b, e', h'⟩ := mkT_rep r'
  rw [e] at e'; cases e'
  rcases h with ⟨t1, h⟩ | ⟨t1, h⟩ <;> rcases h' with ⟨t2, h'⟩ | ⟨t2, h'⟩
  · rw [h] at h'
    exact map_int_inj (HO.tup.inj (Option.some.inj h'))
  · rw [t1] at t2; cases t2
  · rw [t1] at t2; cases t2
  · obtain ⟨o, k1, _⟩ := h
    obtain ⟨o', k2, _⟩ := h'
    rw [k1] at k2
    have := HO.frz.inj (Option.some.inj k2)
    exact map_int_inj (HO.tup.inj this.2)
def gSortL (t : Bool) : List D → Option Slot := g1 fun d => match seqD d with
  | some l => (match intsLs t l with
    | some nss => some (.ol ((sortL nss).map (mkT t)))
    | none => none)
  | none => none
open Classical in
theorem opn_sortL {K : PySem.W.Frag} (t : Bool) (hK : F.G.K = K) : Opn F (rSortLex K) (gSortL t) := by
  subst hK
  refine opn1 fun Hs H L v d s Q S r h k => ?_
  cases q1 : seqD d with
  | none => rw [q1] at h; cases h
  | some l =>
    rw [q1] at h
    try simp only at h
    cases q2 : intsLs t l with
    | none => rw [q2] at h; cases h
    | some nss =>
      rw [q2] at h; cases h
      obtain ⟨a, vs, rfl, h1, h2⟩ := seqD_sq S r q1
      obtain ⟨el, hne⟩ := intsLs_eq q2
      subst el
      let kk : V → List Int := fun x => if z : ∃ ns, Rep F.G Hs (mkT t ns) x then z.choose else []
      have kok : ∀ x ns, Rep F.G Hs (mkT t ns) x → kk x = ns := fun x ns hr => by
        have z : ∃ ns, Rep F.G Hs (mkT t ns) x := ⟨ns, hr⟩
        have : kk x = z.choose := dif_pos z
        rw [this]
        exact mkT_uniq z.choose_spec hr
      have km : ∀ {nss : List (List Int)} {vs : List V}, RepL F.G Hs (nss.map (mkT t)) vs → vs.map kk = nss := by
        intro nss
        induction nss with
        | nil => intro vs h; rw [show vs = [] from h]; rfl
        | cons ns nss ih =>
          rintro vs ⟨x, rr, e, g1, g2⟩
          subst e
          rw [List.map_cons, kok x ns g1, ih g2]
      have hmem : ∀ x ∈ vs, ∃ ns ∈ nss, Rep F.G Hs (mkT t ns) x := fun x hx => by
        obtain ⟨i, hi⟩ := List.getElem?_of_mem hx
        obtain ⟨d, e1, e2⟩ := h2.get' hi
        rw [List.getElem?_map] at e1
        cases q : nss[i]? with
        | none => rw [q] at e1; cases e1
        | some ns => rw [q] at e1; cases e1; exact ⟨ns, List.mem_of_getElem? q, e2⟩
      refine ⟨a, vs, kk, rfl, h1, fun x hx => ?_, fun ys p hp hs hn => ?_⟩
      · obtain ⟨ns, hn, rx⟩ := hmem x hx
        rw [kok x ns rx]
        obtain ⟨b, eb, hb⟩ := mkT_rep rx
        refine ⟨⟨b, eb, ?_⟩, hne ns hn⟩
        rcases hb with ⟨_, hb⟩ | ⟨_, hb⟩
        · exact SqT.of (S.eS.get hb)
        · exact tz_sq (tz_ex S.eS hb)
      · have e1 : ys.map kk = sortL nss := by
          refine sortL_uniq ((hp.map kk).trans ?_) (List.pairwise_map.mpr hs) (sortL_le nss)
          rw [km h2]
          exact (sortL_perm nss).symm
        have rr : ∀ {zs : List V}, (∀ z ∈ zs, z ∈ vs) → RepL F.G Hs ((zs.map kk).map (mkT t)) zs := by
          intro zs
          induction zs with
          | nil => intro _; exact rfl
          | cons z zs ih =>
            intro hz
            obtain ⟨ns, _, rz⟩ := hmem z (hz z (List.mem_cons_self ..))
            refine ⟨z, zs, rfl, ?_, ih fun y hy => hz y (List.mem_cons_of_mem _ hy)⟩
            rw [kok z ns rz]; exact rz
        rw [← e1] at k
        exact fin_ol S (rr fun z hz => hp.mem_iff.mp hz) k p hn
end
end Dl
set_option Elab.async false
set_option linter.all false
set_option maxRecDepth 100000
set_option maxHeartbeats 4000000
namespace Dl
open PySem PySem.Spec PyProof.Rows L2
/-! ### repr(x) != repr(y) of the same data: lists and tuples of small ints, bools, None -/
def smallI (i : Int) : Bool := decide (-2 < i) && decide (i < 1000)
theorem smallI_len : ∀ n : Nat, n < 1000 → (Str.ofString (toString (Int.ofNat n))).length ≤ 4 ∧ n.log2 < 1920 := by decide +kernel
theorem smallI_ok {i : Int} (h : smallI i = true) : ((toString i : String) : Str).length ≤ 4 ∧ i.natAbs.log2 < 1920 := by
  unfold smallI at h
  rw [Bool.and_eq_true, decide_eq_true_eq, decide_eq_true_eq] at h
  cases i with
  | ofNat n =>
    have hn : n < 1000 := by have := h.2; exact Int.ofNat_lt.mp this
    exact smallI_len n hn
  | negSucc n =>
    have hn : n = 0 := by have := h.1; omega
    subst hn
    exact ⟨by decide +kernel, by decide +kernel⟩
/-- a few others: -10 to -2, 10 ** 40 and the next ones -/
def bigI (i : Int) : Bool := (decide (-12 < i) && decide (i < 0)) || (decide (10000000000000000000000000000000000000000 ≤ i) && decide (i < 10000000000000000000000000000000000000200))
theorem bigI_len : ∀ n : Nat, n < 200 → (Str.ofString (toString (Int.ofNat (10000000000000000000000000000000000000000 + n)))).length ≤ 45 ∧ (10000000000000000000000000000000000000000 + n).log2 < 1920 := by decide +kernel
theorem bigI_neg : ∀ n : Nat, n < 12 → (Str.ofString (toString (Int.negSucc n))).length ≤ 45 ∧ (n + 1).log2 < 1920 := by decide +kernel
theorem bigI_ok {i : Int} (h : bigI i = true) : ((toString i : String) : Str).length ≤ 45 ∧ i.natAbs.log2 < 1920 := by
  unfold bigI at h
  rw [Bool.or_eq_true, Bool.and_eq_true, Bool.and_eq_true, decide_eq_true_eq, decide_eq_true_eq, decide_eq_true_eq, decide_eq_true_eq] at h
  rcases h with ⟨h1, h2⟩ | ⟨h1, h2⟩
  · cases i with
    | ofNat n => have : (0 : Int) ≤ Int.ofNat n := Int.natCast_nonneg n; omega
    | negSucc n => exact bigI_neg n (by omega)
  · cases i with
    | negSucc n => omega
    | ofNat n =>
      have e1 : (10000000000000000000000000000000000000000 : Nat) ≤ n := Int.ofNat_le.mp h1
      have e2 : n < (10000000000000000000000000000000000000200 : Nat) := Int.ofNat_lt.mp h2
      obtain ⟨k, rfl⟩ : ∃ k, n = 10000000000000000000000000000000000000000 + k := ⟨n - 10000000000000000000000000000000000000000, by omega⟩
      exact bigI_len k (by omega)
mutual
/-- how long the text is at most -/
def D.rep : D → Option Nat
  | .non => some 4
  | .bl _ => some 5
  | .int i => (match smallI i with
    | true => some 4
    | false => (match bigI i with
      | true => some 45
      | false => none))
  | .str x => some (reprText x).length
  | .lst l => (repL' l).map (· + 2)
  | .fz l => (repL' l).map (· + 2)
  | .tup l => (repL' l).map (· + 4)
  | .tz l => (repL' l).map (· + 4)
  | _ => none
def repL' : List D → Option Nat
  | [] => some 0
  | d :: l => match D.rep d, repL' l with
    | some a, some b => some (a + 2 + b)
    | _, _ => none
end
theorem listText_le (ts : List Str) : (listText ts).length ≤ piled ts + 2 := by
  cases ts with
  | nil => decide +kernel
  | cons t r =>
    unfold listText
    rw [strLen_append]
    show (textFrom 1 (("[" : Str) ++ (if 0 > 0 then ", " else "" : String) ++ t) r).length + 1 ≤ _
    rw [textFrom_length_pos r 1 _ (by omega), strLen_append, strLen_append, piled_cons]
    have e1 : ("[" : Str).length = 1 := by decide +kernel
    have e2 : ((if 0 > 0 then ", " else "" : String) : Str).length = 0 := by decide +kernel
    rw [e1, e2]; omega
theorem tupleText_le (ts : List Str) : (tupleText ts).length ≤ piled ts + 4 := by
  unfold tupleText
  rw [strLen_append, strLen_append]
  have e1 : ("(" : Str).length = 1 := by decide +kernel
  have e2 : ((if ts.length == 1 then ",)" else ")" : String) : Str).length ≤ 2 := by
    split <;> decide +kernel
  have e3 : (Str.join ", " ts).length ≤ piled ts := by
    cases ts with
    | nil => decide +kernel
    | cons t r => have := join_length_add (t :: r) (by simp); omega
  omega
mutual
theorem rep_ok : ∀ (d : D) (n : Nat), d.rep = some n → (D.py d).shown.length ≤ n ∧ (D.py d).showable = true ∧ (D.py d).hasDict = false
  | d, n, h => by
    cases d with
    | non => cases h; exact ⟨by decide +kernel, by simp [D.py, PyData.showable], by simp [D.py, PyData.hasDict]⟩
    | bl b => cases h; exact ⟨by cases b <;> decide +kernel, by simp [D.py, PyData.showable], by simp [D.py, PyData.hasDict]⟩
    | int i =>
      cases q : smallI i with
      | false =>
        cases q2 : bigI i with
        | false => simp [D.rep, q, q2] at h
        | true =>
          simp only [D.rep, q, q2] at h
          cases h
          obtain ⟨h1, h2⟩ := bigI_ok q2
          exact ⟨by simpa [D.py, PyData.shown] using h1, by simp [D.py, PyData.showable, h2], by simp [D.py, PyData.hasDict]⟩
      | true =>
        simp only [D.rep, q] at h
        cases h
        obtain ⟨h1, h2⟩ := smallI_ok q
        exact ⟨by simpa [D.py, PyData.shown] using h1, by simp [D.py, PyData.showable, h2], by simp [D.py, PyData.hasDict]⟩
    | lst l =>
      cases q : repL' l with
      | none => simp [D.rep, q] at h
      | some m =>
        simp only [D.rep, q, Option.map_some, Option.some.injEq] at h
        obtain ⟨h1, h2, h3⟩ := repL_ok l m q
        have := listText_le (PyData.shownAll (pyL l))
        exact ⟨by simp only [D.py, PyData.shown]; omega, by simpa [D.py, PyData.showable] using h2, by simpa [D.py, PyData.hasDict] using h3⟩
    | fz l =>
      cases q : repL' l with
      | none => simp [D.rep, q] at h
      | some m =>
        simp only [D.rep, q, Option.map_some, Option.some.injEq] at h
        obtain ⟨h1, h2, h3⟩ := repL_ok l m q
        have := listText_le (PyData.shownAll (pyL l))
        exact ⟨by simp only [D.py, PyData.shown]; omega, by simpa [D.py, PyData.showable] using h2, by simpa [D.py, PyData.hasDict] using h3⟩
    | tup l =>
      cases q : repL' l with
      | none => simp [D.rep, q] at h
      | some m =>
        simp only [D.rep, q, Option.map_some, Option.some.injEq] at h
        obtain ⟨h1, h2, h3⟩ := repL_ok l m q
        have := tupleText_le (PyData.shownAll (pyL l))
        exact ⟨by simp only [D.py, PyData.shown]; omega, by simpa [D.py, PyData.showable] using h2, by simpa [D.py, PyData.hasDict] using h3⟩
    | tz l =>
      cases q : repL' l with
      | none => simp [D.rep, q] at h
      | some m =>
        simp only [D.rep, q, Option.map_some, Option.some.injEq] at h
        obtain ⟨h1, h2, h3⟩ := repL_ok l m q
        have := tupleText_le (PyData.shownAll (pyL l))
        exact ⟨by simp only [D.py, PyData.shown]; omega, by simpa [D.py, PyData.showable] using h2, by simpa [D.py, PyData.hasDict] using h3⟩
    | str x => cases h; exact ⟨Nat.le_refl _, by simp [D.py, PyData.showable], by simp [D.py, PyData.hasDict]⟩
    | dct t ks vs => simp [D.rep] at h
    | ins c ns vs => simp [D.rep] at h
    | exn c ns vs => simp [D.rep] at h
theorem repL_ok : ∀ (l : List D) (n : Nat), repL' l = some n → piled (PyData.shownAll (pyL l)) ≤ n ∧ PyData.showableAll (pyL l) = true ∧ PyData.hasDictAll (pyL l) = false
  | [], n, h => by simp [repL'] at h; subst h; exact ⟨by simp [pyL, PyData.shownAll, piled], by simp [pyL, PyData.showableAll], by simp [pyL, PyData.hasDictAll]⟩
  | d :: l, n, h => by
    unfold repL' at h
    cases q1 : D.rep d with
    | none => rw [q1] at h; cases h
    | some a =>
      cases q2 : repL' l with
      | none => rw [q1, q2] at h; cases h
      | some b =>
        rw [q1, q2] at h; cases h
        obtain ⟨h1, h2, h3⟩ := rep_ok d a q1
        obtain ⟨k1, k2, k3⟩ := repL_ok l b q2
        refine ⟨?_, by simp [pyL, PyData.showableAll, h2, k2], by simp [pyL, PyData.hasDictAll, h3, k3]⟩
        simp only [pyL, PyData.shownAll]
        rw [piled_cons]; omega
end
mutual
/-- the same data -/
def D.same : D → D → Bool
  | .non, .non => true
  | .bl a, .bl b => a == b
  | .int a, .int b => decide (a = b)
  | .str a, .str b => decide (a = b)
  | .lst a, .lst b => sameL a b
  | .lst a, .fz b => sameL a b
  | .fz a, .lst b => sameL a b
  | .fz a, .fz b => sameL a b
  | .tup a, .tup b => sameL a b
  | .tup a, .tz b => sameL a b
  | .tz a, .tup b => sameL a b
  | .tz a, .tz b => sameL a b
  | _, _ => false
def sameL : List D → List D → Bool
  | [], [] => true
  | a :: l, b :: m => D.same a b && sameL l m
  | _, _ => false
end
mutual
theorem same_py : ∀ (x y : D), D.same x y = true → D.py x = D.py y
  | x, y, h => by
    cases x with
    | non => cases y <;> simp [D.same] at h; rfl
    | bl a => cases y <;> simp [D.same] at h; rw [h]
    | int a => cases y <;> simp [D.same] at h; rw [h]
    | str a => cases y <;> simp [D.same] at h; rw [h]
    | dct t ks vs => cases y <;> simp [D.same] at h
    | ins c ns vs => cases y <;> simp [D.same] at h
    | exn c ns vs => cases y <;> simp [D.same] at h
    | lst a =>
      cases y with
      | lst b => simp only [D.same] at h; simp only [D.py]; rw [same_pyL a b h]
      | fz b => simp only [D.same] at h; simp only [D.py]; rw [same_pyL a b h]
      | _ => simp [D.same] at h
    | fz a =>
      cases y with
      | lst b => simp only [D.same] at h; simp only [D.py]; rw [same_pyL a b h]
      | fz b => simp only [D.same] at h; simp only [D.py]; rw [same_pyL a b h]
      | _ => simp [D.same] at h
    | tup a =>
      cases y with
      | tup b => simp only [D.same] at h; simp only [D.py]; rw [same_pyL a b h]
      | tz b => simp only [D.same] at h; simp only [D.py]; rw [same_pyL a b h]
      | _ => simp [D.same] at h
    | tz a =>
      cases y with
      | tup b => simp only [D.same] at h; simp only [D.py]; rw [same_pyL a b h]
      | tz b => simp only [D.same] at h; simp only [D.py]; rw [same_pyL a b h]
      | _ => simp [D.same] at h
theorem same_pyL : ∀ (l m : List D), sameL l m = true → pyL l = pyL m
  | [], [], _ => rfl
  | [], _ :: _, h => by simp [sameL] at h
  | _ :: _, [], h => by simp [sameL] at h
  | a :: l, b :: m, h => by
    obtain ⟨h1, h2⟩ := Bool.and_eq_true_iff.mp (show (D.same a b && sameL l m) = true by simpa [sameL] using h)
    simp only [pyL]
    rw [same_py a b h1, same_pyL l m h2]
end
section
variable {X : Cx} {F : Frm}
def rRepr (K : PySem.W.Frag) : List V → Hp → VK → Prop := fun xs H Q => ∃ v d, xs = [v] ∧ ((∃ a, v = V.ref a) ∨ ∃ i, v = V.int i ∧ d = .int i) ∧ Dp K H v d ∧ d.showable = true ∧ d.hasDict = false ∧ d.depth ≤ 64 ∧ d.shown.length ≤ sizeLine ∧ Q (.str d.shown) H
theorem call_reprD (hg : X.A.guards = some []) (hu : X.A.units + 66 < cLine) : CallR X (.builtin "repr") (rRepr X.K) := by
  intro pins s σ H xs us Q I r h
  obtain ⟨v, d, rfl, hv, hd, h1, h2, h3, h4, q⟩ := h
  rcases hv with ⟨a, rfl⟩ | ⟨i, rfl, rfl⟩
  · rw [Vals.ref1 r]
    obtain ⟨as, rd⟩ := Dp.reads I d (.ref a) (.ref a) hd rfl
    exact repr_of_reads' rd h1 (PyData.noDict_hsm h2) hg (by omega) (fun _ _ e => e) (fun h' u tk hk => ⟨.str d.shown, H, I.kept (t' := tk) hk, ⟨_, rfl⟩, q⟩) h4
  · refine SkE.call_repr_int pins s σ H [.int i] us Q I r ⟨i, rfl, ?_, q⟩
    simpa [PyData.showable] using h1
def isSq : D → Bool
  | .lst _ | .fz _ | .tup _ | .tz _ | .int _ => true
  | _ => false
def repOk (d : D) : Bool := isSq d && (D.plain 64 d && (match d.rep with
  | some n => Nat.ble n 16777216
  | none => false))
def gReprNe (x y : D) : Option Slot := match repOk x && (repOk y && D.same x y) with
  | true => some (.sh (.bl false))
  | false => none
theorem repOk_of {Hs H : Hp} {L : List Ent} {d : D} {v : V} (S : F.St Hs H L) (r : RB F.G Hs H d v) (h : repOk d = true) : ∃ (_ : (∃ a, v = V.ref a) ∨ ∃ i, v = V.int i ∧ D.py d = .int i), Dp F.G.K H v (D.py d) ∧ (D.py d).showable = true ∧ (D.py d).hasDict = false ∧ (D.py d).depth ≤ 64 ∧ (D.py d).shown.length ≤ sizeLine := by
  obtain ⟨h1, h2⟩ := Bool.and_eq_true_iff.mp h
  obtain ⟨h2, h3⟩ := Bool.and_eq_true_iff.mp h2
  cases q : d.rep with
  | none => rw [q] at h3; cases h3
  | some n =>
    rw [q] at h3
    obtain ⟨k1, k2, k3⟩ := rep_ok d n q
    have hv : (∃ a, v = V.ref a) ∨ ∃ i, v = V.int i ∧ D.py d = .int i := by
      cases d <;> first | (obtain ⟨a, vs, e, _⟩ := r; exact .inl ⟨a, e⟩) | exact .inr ⟨_, r, rfl⟩ | cases h1
    have hn := Nat.le_of_ble_eq_true h3
    exact ⟨hv, dp_of 64 d _ h2 (r.rep S.eS), k2, k3, (shaped_py 64 d h2).2, by rw [sizeLine_eq]; omega⟩
def rnB (dx : D) (ob : Opd) : M Slot := fun e => match ob.get e with
  | some dy => (match repOk dy && D.same dx dy with
    | true => .ok (.sh (.bl false)) e
    | false => .stuck)
  | none => .stuck
def rnA (fb : M Opd) (oa : Opd) : M Slot := fun e => match oa.get e with
  | some dx => (match repOk dx with
    | true => (fb e).bind (rnB dx)
    | false => .stuck)
  | none => .stuck
def dReprNe (fa fb : M Opd) : M Slot := M.bind fa (rnA fb)
theorem reprNe_weak {fa fb : M Opd} (hK : F.G.K = X.K) : ∀ σ H Q, F.tM F.pD (dReprNe fa fb) σ H Q → tOp rNe (tCB (rRepr X.K) (tCons (F.tM F.pO fa) tNil)) (tCB (rRepr X.K) (tCons (F.tM F.pO fb) tNil)) σ H Q := fun σ H Q ⟨Hs, E, T, S, e1, q⟩ => by
  refine ⟨Hs, E, T, S, e1, q.bind fun x oa env' Hs1 H1 E1 ex1 m1 m2 p1 q1 => ?_⟩
  subst m2
  unfold rnA at q1
  cases qa : oa.get (E1.map Prod.snd) with
  | none => rw [qa] at q1; exact q1.elim
  | some dx =>
    rw [qa] at q1
    try simp only at q1
    cases qr : repOk dx with
    | false => rw [qr] at q1; exact q1.elim
    | true =>
      rw [qr] at q1
      obtain ⟨hv1, h1, h2, h3, h4, h5⟩ := repOk_of p1.1 (p1.2.rb p1.1 qa) qr
      rw [hK] at h1
      refine ⟨_, _, rfl, hv1, h1, h2, h3, h4, h5, Hs1, E1, T, p1.1, m1, Frm.End.bind (show F.End σ Hs1 T (F.pD T) ((fb (E1.map Prod.snd)).bind (rnB dx)) Q from q1) fun y ob env' Hs2 H2 E2 ex2 n1 n2 p2 q2 => ?_⟩
      subst n2
      unfold rnB at q2
      cases qb : ob.get (E2.map Prod.snd) with
      | none => rw [qb] at q2; exact q2.elim
      | some dy =>
        rw [qb] at q2
        try simp only at q2
        cases qs : (repOk dy && D.same dx dy) with
        | false => rw [qs] at q2; exact q2.elim
        | true =>
          rw [qs] at q2
          obtain ⟨s1, s2⟩ := Bool.and_eq_true_iff.mp qs
          obtain ⟨hv2, g1, g2, g3, g4, g5⟩ := repOk_of p2.1 (p2.2.rb p2.1 qb) s1
          rw [hK] at g1
          refine ⟨_, _, rfl, hv2, g1, g2, g3, g4, g5, rfl, ?_⟩
          rw [same_py dx dy s2]
          have e : (!decide (V.str (D.py dy).shown = V.str (D.py dy).shown)) = false := by simp
          rw [e]
          exact q2 (.bl false) Hs2 H2 E2 (Ex.refl _) n1 rfl (p2.1.pushSh rfl)
theorem de_reprNe {a b : Expr} {fa fb : M Opd} {p p' q q' pos : Pos} (hK : F.G.K = X.K) (hgd : X.A.guards = some []) (hu : X.A.units + 66 < cLine) (hg : Gl X "repr") (hm : X.mg "repr" = none) (ha : DO X F a fa) (hb : DO X F b fb)
    (na : starEach [a] X.env = (false, eval a X.env) :: starEach [] X.env := by rfl) (nb : starEach [b] X.env = (false, eval b X.env) :: starEach [] X.env := by rfl) (pa : (backTo p' (starEach [] X.env)).any (·.1) = false := by rfl) (pb : (backTo q' (starEach [] X.env)).any (·.1) = false := by rfl)
    (hmk : behindInMarks .NotEq (.Call (.Name "repr" q) [b] [] q') = false := by rfl) :
    DE X F (.Compare (.Call (.Name "repr" p) [a] [] p') [.NotEq] [.Call (.Name "repr" q) [b] [] q'] pos) (dReprNe fa fb) :=
  ⟨PE.weak (pe_cmpR op_ne (pe_callB (call_reprD hgd hu) hg hm boot_repr (pa_cons ha.pe pa_nil na) (by decide) (by decide) na pa) (pe_callB (call_reprD hgd hu) hg hm boot_repr (pa_cons hb.pe pa_nil nb) (by decide) (by decide) nb pb) hmk) (reprNe_weak hK)⟩
theorem dt_reprNe {a b : Expr} {fa fb : M Opd} {p p' q q' pos : Pos} (hK : F.G.K = X.K) (hgd : X.A.guards = some []) (hu : X.A.units + 66 < cLine) (hg : Gl X "repr") (hm : X.mg "repr" = none) (ha : DO X F a fa) (hb : DO X F b fb)
    (na : starEach [a] X.env = (false, eval a X.env) :: starEach [] X.env := by rfl) (nb : starEach [b] X.env = (false, eval b X.env) :: starEach [] X.env := by rfl) (pa : (backTo p' (starEach [] X.env)).any (·.1) = false := by rfl) (pb : (backTo q' (starEach [] X.env)).any (·.1) = false := by rfl)
    (hmk : behindInMarks .NotEq (.Call (.Name "repr" q) [b] [] q') = false := by rfl) :
    DT X F (.Compare (.Call (.Name "repr" p) [a] [] p') [.NotEq] [.Call (.Name "repr" q) [b] [] q'] pos) (dBool (dReprNe fa fb)) :=
  ⟨PT.weak (pt_cmpR op_ne (pe_callB (call_reprD hgd hu) hg hm boot_repr (pa_cons ha.pe pa_nil na) (by decide) (by decide) na pa) (pe_callB (call_reprD hgd hu) hg hm boot_repr (pa_cons hb.pe pa_nil nb) (by decide) (by decide) nb pb) hmk) fun σ H Q ⟨Hs, E, T, S, e1, q⟩ => reprNe_weak hK σ H _ ⟨Hs, E, T, S, e1, end_bool q⟩⟩
end
end Dl
set_option Elab.async false
set_option linter.all false
set_option maxRecDepth 100000
set_option maxHeartbeats 4000000
namespace Dl
open PySem PySem.Spec PyProof.Rows L2
/-! ### a def as it is called from one place A (the law: what is around it is known; the proofs follow HandS.Call's fn_of and HandS.Ends' law_call) -/
structure FnA (P : Program) (w : World) (K : PySem.W.Frag) (mg : Str → Option Value) (base : Heap) (CX : CXT) (A : Around) (f : Addr) (fd : FuncData) (ps : List Str) (sp : Sp) : Prop where
  run : ∀ (outer : List PySem.Env) (s : Shared) (H : Hp) (args : Args) (us : List Value) (vs : List V) (Q : VK) (E : XK), Env0 P w K mg base A outer s H → BindsTo s fd args (ps.zip us) → Vals vs us → sp vs H Q E →
    codeAny (model P w) A (.call (.ref f) args) (CR CX outer P w H s Q E) s
theorem fnA_of {CX : CXT} {P : Program} {w : World} {K : PySem.W.Frag} {mg : Str → Option Value} {base : Heap} {k : Nat} {f : Addr} {name qual : Str} {params : Arguments} {body : List Stmt} {scope : Scope} {dV kV doc pm cdv ct oc : Value} {an od : Option Addr}
    {osl : Array (Option Value)} {N ps : List Str} {sp : Sp} (lk : K.lookup f = some ⟨oc, od, .func (PySem.W.fnOf name qual params body scope dV kV doc pm an cdv ct), osl⟩) (hcd : PySem.W.codeIn K cdv qual = true) (S : FnScope N ps scope)
    (len : ∀ vs H Q E, sp vs H Q E → vs.length = ps.length)
    (A : Around) (hr : Room (k + 1) A) (hbody : ∀ (outer : List PySem.Env) (s : Shared) (H : Hp) (vs : List V) (Q : VK) (E : XK), Room k (A.deeper (envOfC qual scope s.heap.objs.size f cdv)) → sp vs H Q E →
      ∃ t, PSs (cxOf CX P w K mg base N qual scope f cdv A outer s H E) body t ∧ t { nx := fun _ H' => Q .non H', rt := Q } (start N vs) H) :
    FnA P w K mg base CX A f (PySem.W.fnOf name qual params body scope dV kV doc pm an cdv ct) ps sp := by
  refine ⟨fun outer s H args us vs Q E e0 hb r hsp => ?_⟩
  have hl := len _ _ _ _ hsp
  have KX : K.In s.heap := e0.mod.kin.keeps fun b o e => (e0.bs b o e).1
  have lim : s.heap.NoLimit := e0.mod.nolimit.keeps fun b o e => (e0.bs b o e).1
  have hkind : ∀ y ∈ ps.zip us, scope.names.lookup y.1 = some .local ∨ (scope.names.lookup y.1 = some .cell ∧ ((cellsFrom (s.heap.objs.size + 1) scope.names []).lookup y.1).isSome = true) := fun ⟨n, v⟩ hy => by
    rcases S.par n (List.of_mem_zip hy).1 with q | q
    · exact .inl q
    · exact .inr ⟨q, PySem.W.cellsFrom_some _ _ _ (.inl q)⟩
  refine codeAny_call_function hr.depth (KX _ _ lk) rfl S.co S.gen rfl (PySem.W.codeRec_of KX hcd) (hb _ _ _ _ ?_)
  refine wpAny_newFunctionEnv_cells S.kind hkind fun env he s1 x => ?_
  subst he
  refine ⟨lim.keeps x.toInCall.keep, codeAny_func ?_⟩
  obtain ⟨t, ht, hq⟩ := hbody outer s H vs Q E (hr.deeper _) hsp
  have I : Inv (cxOf CX P w K mg base N qual scope f cdv A outer s H E) [] (start N vs) H s1 := inv_start S hr.hd e0 hl r x
  refine wpAny_mono (ht.run [] s1 (start N vs) H _ I hq) (fun fl s' hs => ?_) fun e s' hs => hs
  have fin : ∀ {σ' : L2.St} {H' : Hp} {v : V} {u : Value}, Inv (cxOf CX P w K mg base N qual scope f cdv A outer s H E) [] σ' H' s' → RelV v u → Q v H' → CE outer P w H s Q u s' :=
    fun {σ' H' v u} J rv q => ⟨v, H', J.os, J.bare, J.base, J.hok, rv, q⟩
  cases fl with
  | ret u =>
    obtain ⟨v, σ', H', J, rv, q⟩ := hs
    exact fin J rv q
  | next =>
    obtain ⟨σ', H', J, q⟩ := hs
    exact fin (v := V.non) (u := Value.none) J rfl q
  | brk =>
    obtain ⟨_, _, _, q⟩ := hs
    exact False.elim q
  | cont =>
    obtain ⟨_, _, _, q⟩ := hs
    exact False.elim q
theorem law_callA {P : Program} {w : World} {K : PySem.W.Frag} {mg mb : Str → Option Value} {CX : CXT} {fa a : Addr} {fd : FuncData} {x : Str} {sp : Sp} {s₁ : Shared} {vs : List Value} {ns : List Int}
    (KX : K.In s₁.heap) (hns : s₁.heap.Ns mainGlobals mg) (hb : s₁.heap.Ns builtinsNs mb) (hbb : ∀ x : Str, x ≠ "__name__" → mb x = bootBuiltins x) (hlim : s₁.heap.NoLimit) (hg : s₁.gens = #[])
    (ha : s₁.heap.get? a = some { cls := .type "list", data := .seq vs.toArray }) (hi : IntsAre vs ns) (hl : ns.length ≤ sizeLine) 
    (F : ∀ base : Heap, K.In base → base.Ns mainGlobals mg → FnA P w K mg base CX callerA fa fd [x] sp) (hbind : ∀ (s : Shared) (u : Value), BindsTo s fd ⟨[u], []⟩ [(x, u)])
    (hsp : ∀ H : Hp, Only H → SqL K H a (ns.map V.int) → sp [.ref a] H (fun v _ => v = .bl true) fun _ _ _ => False)
    (hCX : ∀ H e s', CX [] H s₁ (fun _ _ _ => False) e s' → False) :
    codeAny (model P w) callerA (.call (.ref fa) ⟨[.ref a], []⟩) (fun r s' => r = .ok (.ret (.bool true)) ∧ OldK s₁.heap s'.heap ∧ s'.os = s₁.os ∧ AllBare s'.gens) s₁ := by
  have rv := vals_ints hi
  have lenV := hi.length
  -- from an abstract heap in which nothing but the script may be tracked
  have core : ∀ H : Hp, Only H → SqL K H a (ns.map V.int) → HOk P w H s₁.heap → (∀ b, H b ≠ none → b = a) → (H a ≠ none → K.lookup a = none) →
      codeAny (model P w) callerA (.call (.ref fa) ⟨[.ref a], []⟩) (fun r s' => r = .ok (.ret (.bool true)) ∧ OldK s₁.heap s'.heap ∧ s'.os = s₁.os ∧ AllBare s'.gens) s₁ := by
    intro H hO hS hok hA hK
    have base_of : ∀ {b : Addr} {o : Obj}, s₁.heap.get? b = some o → H b = none → (hidT s₁.heap H).get? b = some o := fun e n => hidT_get e n
    have noA : ∀ {b : Addr} {o : Obj} {es : Array DictEntry} {ep : Nat}, s₁.heap.get? b = some o → o.data = .dict es ep → H b = none := fun {b o es ep} e d => by
      cases q : H b with
      | none => rfl
      | some u =>
        have e' : b = a := hA b (by rw [q]; simp)
        subst e'
        rw [ha] at e; cases e
        have d' : Data.seq vs.toArray _ = Data.dict es ep := d
        cases d'
    have nsK : ∀ {b : Addr} {m : Str → Option Value}, s₁.heap.Ns b m → (hidT s₁.heap H).Ns b m := fun {b m} ⟨o, es, ep, e, d, r⟩ => ⟨o, es, ep, base_of e (noA e d), d, r⟩
    have hKb : K.In (hidT s₁.heap H) := fun b o e => base_of (KX b o e) (by
      cases q : H b with
      | none => rfl
      | some u =>
        have e' : b = a := hA b (by rw [q]; simp)
        subst e'
        rw [hK (by rw [q]; simp)] at e; cases e)
    have hM : Mod K mg (hidT s₁.heap H) := ⟨hKb, nsK hns, ⟨mb, nsK hb, hbb⟩, let ⟨mc, h1, h2⟩ := hlim; ⟨mc, nsK h1, h2⟩⟩
    have e0 : Env0 P w K mg (hidT s₁.heap H) callerA [] s₁ H := ⟨rfl, hM, fun b o e => of_hidT e, Nat.le_of_eq (hidT_size _ _), trivial, fun b hb => absurd (show b ∈ ([] : List Addr) from hb) (by simp), hok, .of_eq hg⟩
    refine codeAny_mono ((F _ hKb (nsK hns)).run [] s₁ H ⟨[.ref a], []⟩ [.ref a] [.ref a] _ _ e0 (hbind s₁ (.ref a)) (.cons rfl .nil) (hsp H hO hS)) fun r s' h => ?_
    cases r with
    | error e => exact (hCX H e s' h).elim
    | ok fl =>
      cases fl with
      | next => exact False.elim h
      | brk => exact False.elim h
      | cont => exact False.elim h
      | ret u =>
        obtain ⟨v, H', os, bare, un, hok', r', q⟩ := h
        have q' : v = .bl true := q
        subst q'
        obtain rfl : u = Value.bool true := r'
        refine ⟨rfl, OldK.of_keep fun b o e => ?_, os, bare⟩
        cases q : H b with
        | none => exact un.keep b o e q (by intro z; exact absurd (show b ∈ ([] : List Addr) from z) (by simp)) (by simp)
        | some u =>
          rcases hO b with z | ⟨ob, xs, z⟩
          · rw [q] at z; cases z
          · have z2 := un.frzs b ob _ z
            obtain ⟨e1, _⟩ := hok b _ z
            obtain ⟨e2, _⟩ := hok' b _ z2
            rw [e] at e1; cases e1
            exact e2
  cases hk : K.lookup a with
  | some o =>
    -- the script is one of the module's own objects
    have e := KX a o hk
    rw [ha] at e
    cases e
    refine core (fun _ => none) (fun _ => .inl rfl) (.inr ⟨_, vs.toArray, _, hk, rfl, rfl, rfl, by rw [List.size_toArray, lenV]; exact hl, by simpa using rv⟩) (fun b u z => by have z' : (none : Option HO) = some u := z; cases z') (fun b z => absurd rfl z) fun z => absurd rfl z
  | none =>
    refine core (fun b => if b = a then some (.frz { cls := .type "list", data := .seq vs.toArray } (.lst (ns.map V.int))) else none) (fun b => ?_) (.inl (.inr ⟨{ cls := .type "list", data := .seq vs.toArray }, if_pos rfl⟩)) (fun b u z => ?_) (fun b z => ?_) fun _ => hk
    · by_cases hb : b = a
      · exact .inr ⟨_, _, if_pos hb⟩
      · exact .inl (if_neg hb)
    · by_cases hb : b = a
      · have z' := (if_pos hb).symm.trans z
        cases z'
        subst hb
        exact ⟨ha, by rw [List.length_map]; exact hl, vs, _, rv, ha⟩
      · have z' := (if_neg hb).symm.trans z
        cases z'
    · by_cases hb : b = a
      · exact hb
      · exact absurd (if_neg hb) z

theorem walk_ofA {l : PySem.W.OpenLaw} {n : Nat} {q : Program} {loose : List Str} {XP : (Str → Option Value) → Heap → Prop} {YP : World → Heap → Prop} {d : DefRec} {x : Str}
    (hn : l.most = some n) (hn2 : n ≤ sizeLine) (hdf : d.params.defaults = [])
    (F : ∀ (w : World) (mg : Str → Option Value) (fa : Addr) (h : Heap), YP w h → h.Ns mainGlobals mg → mg d.name = some (.ref fa) →
      ∃ (K : PySem.W.Frag) (fd : FuncData) (G : Gx) (Fn : List D → Rs), G.K = K ∧ G.T = [] ∧ K.In h ∧ (∀ (s : Shared) (u : Value), BindsTo s fd ⟨[u], []⟩ [(x, u)]) ∧
        (∀ ns : List Int, ns.length ≤ n → Fn [.fz (ns.map .int)] = .ok (.sh (.bl true))) ∧
        ∀ base : Heap, K.In base → base.Ns mainGlobals mg → FnA l.prog w K mg base (L2.CX l.prog w) callerA fa fd [x] (spP G 1 Fn)) :
    PySem.W.WalkO q loose XP YP l.row.toRowW d [] (fun f vs => PySem.call f vs) := by
  refine Att.attach_call hn hdf fun w s₀ s₁ mg mb fa o pm cd doc a vs ns G Y ho hd hcd hmg hobj hints hlen hg => ?_
  obtain ⟨K, fd, Gg, Fn, hK, hT, KX, hb, hsp, hF⟩ := F w mg fa _ Y G.T.g hmg
  refine law_callA KX G.T.g G.T.b G.T.builtins G.T.nolimit hg hobj hints (Nat.le_trans hlen hn2) hF hb (fun H hO hS => ?_) fun H e s' h => ?_
  · refine ⟨rfl, H, [.fz (ns.map .int)], Ex.refl _, ⟨fun b o e => ?_, fun p hp => (by rw [hT] at hp; cases hp)⟩, ⟨.ref a, [], rfl, ⟨a, ns.map V.int, rfl, by rw [hK]; exact hS, RepL.of_ints ns⟩, rfl⟩, ?_⟩
    · rcases hO b with z | ⟨o', xs, z⟩
      · rw [z] at e; cases e
      · rw [z] at e; cases e; rfl
    · rw [hsp ns hlen]
      intro v Hs' H' P _ _ r
      obtain ⟨v', e, rv⟩ := r
      cases e
      exact rv
  · obtain ⟨_, _, _, _, _, _, _, _, _, _, _, _, z⟩ := h
    exact z.elim

section
variable {P : Program} {w : World} {K : PySem.W.Frag} {mg : Str → Option Value} {base : Heap} {x qual : Str} {params : Arguments} {body : List Stmt} {scope : Scope} {f : Addr} {fd : FuncData} {G : Gx}
theorem fnA_pure {N ps : List Str} {k : Nat} {fS : Sm} (n : Nat) (F : FunD K x qual params body scope [] [] f fd) (Sc : FnScope N ps scope) (hn : ps.length = n) (hN : n ≤ N.length) (A : Around) (hr : Room (k + 1) A)
    (hb : ∀ (cdv : Value) (outer : List PySem.Env) (s : Shared) (H B Hs : Hp) (E : XK), Room k (A.deeper (envOfC qual scope s.heap.objs.size f cdv)) →
      DSs (cxOf (L2.CX P w) P w K mg base N qual scope f cdv A outer s H E) (frmOf G B Hs E) body fS) : FnA P w K mg base (L2.CX P w) A f fd ps (spP G n (fnP N.length fS)) := by
  obtain ⟨oc, od, dV, kV, doc, pm, an, cdv, ct, osl, rfl, lk, hcd, _, _⟩ := F.ex
  refine fnA_of lk hcd Sc (fun vs H Q E h => by rw [h.1, hn]) A hr fun outer s H vs Q E hr h => ?_
  obtain ⟨h1, Hs, ds, e, nt, r, m⟩ := h
  exact ⟨_, (hb cdv outer s H (strip H) Hs E hr).pss, pure_body (ps := ps) (by omega) e nt r m⟩
theorem FnA.impP {n : Nat} {Fn Fn' : List D → Rs} {A : Around} {ps : List Str} (h : FnA P w K mg base (L2.CX P w) A f fd ps (spP G n Fn)) (e : ∀ ds, Fn' ds ≠ .stuck → Fn ds = Fn' ds) : FnA P w K mg base (L2.CX P w) A f fd ps (spP G n Fn') := ⟨fun outer s H args us vs Q E e0 hb r hs => by
  refine h.run outer s H args us vs Q E e0 hb r ?_
  obtain ⟨h1, Hs, ds, ee, nt, rr, m⟩ := hs
  refine ⟨h1, Hs, ds, ee, nt, rr, ?_⟩
  rw [e ds (fun z => by rw [z] at m; exact m)]
  exact m⟩
end
theorem u1 {k : Nat} {A : Around} (r : Room k A) : A.units + 1 < cLine := by have := r.un; omega
theorem u0 {k : Nat} {A : Around} (r : Room k A) : A.units < cLine := by have := r.un; omega
theorem u64 {k : Nat} {A : Around} (r : Room k A) : A.units + 64 < cLine := by have := r.un; omega
theorem u65 {k : Nat} {A : Around} (r : Room k A) : A.units + 65 < cLine := by have := r.un; omega
theorem u66 {k : Nat} {A : Around} (r : Room k A) : A.units + 66 < cLine := by have := r.un; omega
end Dl
set_option Elab.async false
set_option linter.all false
set_option maxRecDepth 100000
set_option maxHeartbeats 4000000
namespace Dl
open PySem PySem.Spec PyProof.Rows L2
def gAddI : D → D → Option Slot
  | .int a, .int b => some (.sh (.int (a + b)))
  | _, _ => none
def gSubI : D → D → Option Slot
  | .int a, .int b => some (.sh (.int (a - b)))
  | _, _ => none
def gMulI : D → D → Option Slot
  | .int a, .int b => if wOk a = true ∧ wOk b = true then some (.sh (.int (a * b))) else none
  | _, _ => none
theorem op2_addI {F : Frm} : Op2 F (rI0 fun i j => .int (i + j)) gAddI := by
  intro Hs H L x y dx dy s Q S rx ry hg k
  unfold gAddI at hg
  split at hg
  · cases hg; exact ⟨_, _, rx, ry, fin_sh S (by exact rfl) k⟩
  · cases hg
theorem op2_subI {F : Frm} : Op2 F (rI0 fun i j => .int (i - j)) gSubI := by
  intro Hs H L x y dx dy s Q S rx ry hg k
  unfold gSubI at hg
  split at hg
  · cases hg; exact ⟨_, _, rx, ry, fin_sh S (by exact rfl) k⟩
  · cases hg
theorem op2_mulI {F : Frm} : Op2 F (rI CMul fun i j => .int (i * j)) gMulI := by
  intro Hs H L x y dx dy s Q S rx ry hg k
  unfold gMulI at hg
  split at hg
  · split at hg
    · rename_i ho
      cases hg
      refine ⟨_, _, rx, ry, ?_, fin_sh S (by exact rfl) k⟩
      have h1 := wOk_of ho.1
      have h2 := wOk_of ho.2
      unfold CMul
      omega
    · cases hg
  · cases hg
theorem pe_true {X : Cx} {j pos} : PE X (.Constant (.bool true) j pos) (tC (.bl true)) := pe_bl
theorem pe_false {X : Cx} {j pos} : PE X (.Constant (.bool false) j pos) (tC (.bl false)) := pe_bl
theorem pe_none {X : Cx} {j pos} : PE X (.Constant .none j pos) (tC .non) := pe_non
theorem pe_blt {X : Cx} {x : Str} {n : String} {pos : Pos} (hg : Gl X x) (hm : X.mg x = none) (hv : bootBuiltins x = some (.type n)) (hn : x ≠ "__name__" := by decide) (hd : (x == ("__debug__" : Str)) = false := by decide) : PE X (.Name x pos) (tC (.ty n)) := pe_bltn hg hm hv rfl hn hd

open Classical in
/-- what a def that writes its first argument does: it does not hang on the address -/
noncomputable def specM (N : Nat) (f : Sm) (m : Me) (ds : List D) : Rm := if ∀ a, fnM N f a m ds = fnM N f 0 m ds then fnM N f 0 m ds else .stuck
theorem specM_hf {N : Nat} {f : Sm} : ∀ a m ds, specM N f m ds ≠ .stuck → fnM N f a m ds = specM N f m ds := fun a m ds h => by
  unfold specM at h ⊢
  split at h
  · rename_i z
    rw [if_pos z]; exact z a
  · exact absurd rfl h
theorem specM_eq {N : Nat} {f : Sm} {m : Me} {ds : List D} {r : Rm} (h : ∀ a, fnM N f a m ds = r) : specM N f m ds = r := by
  unfold specM
  rw [if_pos fun a => (h a).trans (h 0).symm]
  exact h 0
end Dl
set_option Elab.async false
set_option linter.all false
set_option maxRecDepth 100000
set_option maxHeartbeats 4000000
namespace Dl
open PySem PySem.Spec PyProof.Rows L2
/-! ### what denotations come to: loops and comprehensions -/
theorem forL_inv {g : Tg} {body : Sm} : ∀ {items : List D} {e : Dl.Env} (I : Nat → Dl.Env → Prop) (k : Nat), (∀ i d e, items[i]? = some d → I (k + i) e → ∃ e1 e2, g d e = some e1 ∧ body e1 = .nx e2 ∧ I (k + (i + 1)) e2) → I k e →
    ∃ e', forL g body items e = .nx e' ∧ I (k + items.length) e'
  | [], e, I, k, _, h0 => ⟨e, rfl, h0⟩
  | d :: r, e, I, k, h, h0 => by
    obtain ⟨e1, e2, h1, h2, h3⟩ := h 0 d e rfl h0
    obtain ⟨e', k1, k2⟩ := forL_inv (items := r) (e := e2) I (k + 1) (fun i d e hd hI => by
      have := h (i + 1) d e (by simpa using hd) (by rw [show k + (i + 1) = k + 1 + i by omega]; exact hI)
      rw [show k + 1 + (i + 1) = k + (i + 1 + 1) by omega]; exact this) h3
    refine ⟨e', ?_, by rw [List.length_cons, show k + (r.length + 1) = k + 1 + r.length by omega]; exact k2⟩
    unfold forL
    rw [h1]
    simp only
    rw [h2]
    exact k1
/-- a comprehension whose every item is taken -/
theorem lcL_map {vs : List Nat} {g : Tg} {ifs : M Bool} {elt : M Slot} {e : Dl.Env} {φ : D → D} : ∀ {items : List D}, (∀ d ∈ items, ∃ e1 e2 s e3, g d e = some e1 ∧ ifs e1 = .ok true e2 ∧ elt e2 = .ok s e3 ∧ s ≠ .un ∧ s.d = φ d ∧ wipeE e3 vs = e) →
    lcL vs g ifs elt items e = .ok (items.map φ) e
  | [], _ => rfl
  | d :: r, h => by
    obtain ⟨e1, e2, s, e3, h1, h2, h3, h4, h5, h6⟩ := h d (List.mem_cons_self ..)
    have ih := lcL_map (items := r) fun d hd => h d (List.mem_cons_of_mem _ hd)
    unfold lcL
    rw [h1]
    simp only
    rw [h2]
    simp only
    rw [h3]
    cases s with
    | un => exact absurd rfl h4
    | _ => simp only; rw [h6, ih]; simp only; rw [h5]; rfl
theorem dLc_map {f : M (List D)} {vs : List Nat} {g : Tg} {ifs : M Bool} {elt : M Slot} {e e0 : Dl.Env} {items : List D} {φ : D → D} (hf : f e0 = .ok items e) (hl : lenOk items.length = true) (hu : unwipe e (wipeE e vs) vs = e)
    (h : ∀ d ∈ items, ∃ e1 e2 s e3, g d (wipeE e vs) = some e1 ∧ ifs e1 = .ok true e2 ∧ elt e2 = .ok s e3 ∧ s ≠ .un ∧ s.d = φ d ∧ wipeE e3 vs = wipeE e vs) :
    dLc f vs g ifs elt e0 = .ok (.ol (items.map φ)) e := by
  unfold dLc M.bind
  rw [hf]
  show (if lenOk items.length = true then lcEnd e vs [] (lcL vs g ifs elt items (wipeE e vs)) else .stuck) = _
  rw [if_pos hl, lcL_map h]
  show Out.ok (Slot.ol ([] ++ items.map φ)) (unwipe e (wipeE e vs) vs) = _
  rw [hu]; rfl
theorem rangeD_mem {lo : Int} {n : Nat} {d : D} (h : d ∈ rangeD lo n) : ∃ i : Nat, i < n ∧ d = .int (lo + i) := by
  obtain ⟨i, hi⟩ := List.getElem?_of_mem h
  have hn : i < n := by have := (List.getElem?_eq_some_iff.mp hi).1; rw [rangeD_len] at this; exact this
  rw [rangeD_get lo n i hn] at hi
  exact ⟨i, hn, (Option.some.inj hi).symm⟩
/-- a table of ints, n rows and columns -/
def rowD (n : Nat) (t : Nat → Nat) : D := .tz ((List.range n).map fun y => .int (t y))
def tabD (n : Nat) (t : Nat → Nat → Nat) : D := .tz ((List.range n).map fun x => rowD n (t x))
theorem atI_map {n x : Nat} {f : Nat → D} (h : x < n) : atI ((List.range n).map f) (x : Int) = some (f x) := by
  unfold atI ixN
  rw [if_pos (Int.natCast_nonneg _), List.length_map, List.length_range, if_pos (by omega)]
  show ((List.range n).map f)[(x : Int).toNat]? = _
  rw [Int.toNat_natCast, List.getElem?_map, List.getElem?_range h]; rfl
theorem gIx_tab {n x : Nat} {t : Nat → Nat → Nat} (h : x < n) : gIx (tabD n t) (.int x) = some (.sh (rowD n (t x))) := by
  show (atI _ (x : Int)).map Slot.sh = _
  rw [atI_map h]; rfl
theorem gIx_row {n y : Nat} {t : Nat → Nat} (h : y < n) : gIx (rowD n t) (.int y) = some (.sh (.int (t y))) := by
  show (atI _ (y : Int)).map Slot.sh = _
  rw [atI_map h]; rfl

/-- what follows a statement that goes on -/
def Nx (r : Fl) (Q : Dl.Env → Prop) : Prop := ∃ e, r = .nx e ∧ Q e
theorem seq_run {f g : Sm} {e : Dl.Env} {Q : Fl → Prop} (h : Nx (f e) fun e' => Q (g e')) : Q (Sm.seq f g e) := by
  obtain ⟨e', h1, h2⟩ := h
  unfold Sm.seq
  rw [h1]
  exact h2
theorem seq_nx {f g : Sm} {e : Dl.Env} {Q : Dl.Env → Prop} (h : Nx (f e) fun e' => Nx (g e') Q) : Nx (Sm.seq f g e) Q := seq_run (Q := fun r => Nx r Q) h
theorem nx_of {r : Fl} {e : Dl.Env} {Q : Dl.Env → Prop} (h : r = .nx e) (q : Q e) : Nx r Q := ⟨e, h, q⟩
theorem for_nx {f : M (List D)} {g : Tg} {body : Sm} {e0 e : Dl.Env} {items : List D} {Q : Dl.Env → Prop} (I : Nat → Dl.Env → Prop) (hf : f e0 = .ok items e) (h0 : I 0 e)
    (step : ∀ i d e, items[i]? = some d → I i e → ∃ e1, g d e = some e1 ∧ Nx (body e1) (I (i + 1))) (fin : ∀ e', I items.length e' → Q e') : Nx (sFor f g body e0) Q := by
  obtain ⟨e', k1, k2⟩ := forL_inv (g := g) (body := body) (items := items) (e := e) I 0 (fun i d e hd hI => by
    rw [Nat.zero_add] at hI ⊢
    obtain ⟨e1, h1, e2, h2, h3⟩ := step i d e hd hI
    exact ⟨e1, e2, h1, h2, h3⟩) h0
  rw [Nat.zero_add] at k2
  refine ⟨e', ?_, fin e' k2⟩
  unfold sFor
  rw [hf]
  exact k1
theorem lenOk_of {n : Nat} (h : n ≤ 16000000) : lenOk n = true := by
  unfold lenOk
  exact Nat.ble_eq_true_of_le (Nat.le_trans h (by decide))
theorem rOk_nat {n : Nat} (h : n ≤ 16000000) : rOk (n : Int) = true := Nat.ble_eq_true_of_le (Nat.le_trans h (by decide))
theorem all_true {n : Nat} : boolsD ((rangeD 0 n).map fun _ => .bl true) = some (List.replicate n true) := by
  have : ∀ (lo : Int) (n : Nat), boolsD ((rangeD lo n).map fun _ => .bl true) = some (List.replicate n true) := by
    intro lo n
    induction n generalizing lo with
    | zero => rfl
    | succ n ih =>
      show (boolsD ((rangeD (lo + 1) n).map fun _ => .bl true)).map (true :: ·) = _
      rw [ih]; rfl
  exact this 0 n
/-- all([..]) of a comprehension over a range, all true -/
theorem gAll_true {n : Nat} : gAll [.lst ((rangeD 0 n).map fun _ => .bl true)] = some (.sh (.bl true)) := by
  show (match boolsD ((rangeD 0 n).map fun _ => D.bl true) with
    | some bs => some (Slot.sh (.bl (bs.all id)))
    | none => none) = _
  rw [all_true]
  simp

/-! ### values, step by step -/
theorem fix_of {f : M Slot} {e e' : Dl.Env} {s : Slot} (h : f e = .ok s e') (hs : s ≠ .un := by intro h; cases h) : dFix f e = .ok (.val s.d) e' := by
  unfold dFix M.bind
  rw [h]
  cases s <;> first | exact absurd rfl hs | rfl
theorem op2_of {g : D → D → Option Slot} {fa fb : M Opd} {e e1 e2 : Dl.Env} {oa ob : Opd} {x y : D} {s : Slot} (ha : fa e = .ok oa e1) (hb : fb e1 = .ok ob e2) (hx : oa.get e2 = some x) (hy : ob.get e2 = some y) (hg : g x y = some s) : dOp2 g fa fb e = .ok s e2 := by
  unfold dOp2 M.bind
  rw [ha]
  show Out.bind (fb e1) _ = _
  rw [hb]
  show (match oa.get e2, ob.get e2 with
    | some x, some y => (match g x y with
      | some s => Out.ok s e2
      | none => .stuck)
    | _, _ => .stuck) = _
  rw [hx, hy]
  show (match g x y with
    | some s => Out.ok s e2
    | none => .stuck) = _
  rw [hg]
theorem blt1_of {g : List D → Option Slot} {f : M Opd} {e e' : Dl.Env} {o : Opd} {d : D} {s : Slot} (h : f e = .ok o e') (hd : o.get e' = some d) (hg : g [d] = some s) : dBlt g (dCons f dNil) e = .ok s e' := by
  unfold dBlt dCons M.bind
  rw [h]
  show bltK g [o] e' = _
  unfold bltK gets gets
  rw [hd]
  show (match g [d] with
    | some s => Out.ok s e'
    | none => .stuck) = _
  rw [hg]
theorem tr_of {f : M Opd} {e e' : Dl.Env} {o : Opd} {d : D} {b : Bool} (h : f e = .ok o e') (hd : o.get e' = some d) (ht : d.truth = some b) : dTruth f e = .ok b e' := by
  unfold dTruth M.bind
  rw [h]
  show (match o.get e' with
    | some d => (match d.truth with
      | some b => Out.ok b e'
      | none => .stuck)
    | none => .stuck) = _
  rw [hd]
  show (match d.truth with
    | some b => Out.ok b e'
    | none => .stuck) = _
  rw [ht]
theorem not_of {f : M Bool} {e e' : Dl.Env} {b : Bool} (h : f e = .ok b e') : dNot f e = .ok (!b) e' := by
  unfold dNot M.bind
  rw [h]; rfl
theorem if_f {c : M Bool} {f g : Sm} {e e' : Dl.Env} (h : c e = .ok false e') : sIf c f g e = g e' := by
  unfold sIf
  rw [h]; rfl
theorem if_t {c : M Bool} {f g : Sm} {e e' : Dl.Env} (h : c e = .ok true e') : sIf c f g e = f e' := by
  unfold sIf
  rw [h]; rfl
theorem if_not_all {L : M Slot} {E : Dl.Env} {n : Nat} {A : Sm} (h : L E = .ok (.ol ((rangeD 0 n).map fun _ => .bl true)) E) : sIf (dNot (dTruth (dFix (dBlt gAll (dCons (dFix L) dNil))))) A sNext E = .nx E := by
  have h1 := fix_of h
  have h2 := fix_of (blt1_of (g := gAll) h1 rfl gAll_true)
  exact if_f (not_of (tr_of h2 rfl rfl))

/-- two fors: every outer item is taken, psi tells what the inner loop gives -/
theorem lcL2_map {vs vs1 : List Nat} {g : Tg} {ifs : M Bool} {f1 : M (List D)} {g1 : Tg} {ifs1 : M Bool} {elt : M Slot} {e : Dl.Env} {psi : D → List D} : ∀ {items : List D}, (∀ d ∈ items, ∃ e1 e2 items1 e3 e4, g d e = some e1 ∧ ifs e1 = .ok true e2 ∧ f1 e2 = .ok items1 e3 ∧ lcL vs1 g1 ifs1 elt items1 (wipeE e3 vs1) = .ok (psi d) e4 ∧ wipeE e4 vs = e) →
    lcL2 vs vs1 g ifs f1 g1 ifs1 elt items e = .ok (items.map psi).flatten e
  | [], _ => rfl
  | d :: r, h => by
    obtain ⟨e1, e2, items1, e3, e4, h1, h2, h3, h4, h5⟩ := h d (List.mem_cons_self ..)
    have ih := lcL2_map (items := r) fun d hd => h d (List.mem_cons_of_mem _ hd)
    unfold lcL2
    rw [h1]
    simp only
    rw [h2]
    simp only
    rw [h3]
    simp only
    rw [h4]
    simp only
    rw [h5, ih]
    rfl
theorem dLc2_map {f : M (List D)} {vs vs1 : List Nat} {g : Tg} {ifs : M Bool} {f1 : M (List D)} {g1 : Tg} {ifs1 : M Bool} {elt : M Slot} {e e0 : Dl.Env} {items : List D} {psi : D → List D} (hf : f e0 = .ok items e) (hl : (items.map psi).flatten.length ≤ 16000000) (hu : unwipe e (wipeE e vs) vs = e)
    (h : ∀ d ∈ items, ∃ e1 e2 items1 e3 e4, g d (wipeE e vs) = some e1 ∧ ifs e1 = .ok true e2 ∧ f1 e2 = .ok items1 e3 ∧ lcL vs1 g1 ifs1 elt items1 (wipeE e3 vs1) = .ok (psi d) e4 ∧ wipeE e4 vs = wipeE e vs) :
    dLc2 f vs vs1 g ifs f1 g1 ifs1 elt e0 = .ok (.ol (items.map psi).flatten) e := by
  unfold dLc2 M.bind
  rw [hf]
  show lcEnd2 e vs [] (lcL2 vs vs1 g ifs f1 g1 ifs1 elt items (wipeE e vs)) = _
  rw [lcL2_map h]
  show (if lenOk ([] ++ (items.map psi).flatten).length = true then Out.ok (Slot.ol ([] ++ (items.map psi).flatten)) (unwipe e (wipeE e vs) vs) else .stuck) = _
  rw [List.nil_append, if_pos (lenOk_of hl), hu]
theorem boolsD_rep' {l : List D} (h : ∀ d ∈ l, d = .bl true) : boolsD l = some (List.replicate l.length true) := by
  induction l with
  | nil => rfl
  | cons d l ih =>
    have e := h d (List.mem_cons_self ..)
    subst e
    show (boolsD l).map (true :: ·) = _
    rw [ih fun d hd => h d (List.mem_cons_of_mem _ hd)]; rfl
theorem gAll_of {l : List D} (h : ∀ d ∈ l, d = .bl true) : gAll [.lst l] = some (.sh (.bl true)) := by
  show (match boolsD l with
    | some bs => some (Slot.sh (.bl (bs.all id)))
    | none => none) = _
  rw [boolsD_rep' h]
  simp
theorem if_not_allL {L : M Slot} {E : Dl.Env} {l : List D} {A : Sm} (hl : ∀ d ∈ l, d = .bl true) (h : L E = .ok (.ol l) E) : sIf (dNot (dTruth (dFix (dBlt gAll (dCons (dFix L) dNil))))) A sNext E = .nx E := by
  have h1 := fix_of h
  have h2 := fix_of (blt1_of (g := gAll) h1 rfl (gAll_of hl))
  exact if_f (not_of (tr_of h2 rfl rfl))
theorem cons_of {f : M Opd} {g : M (List Opd)} {e e1 e2 : Dl.Env} {o : Opd} {os : List Opd} (h : f e = .ok o e1) (h2 : g e1 = .ok os e2) : dCons f g e = .ok (o :: os) e2 := by
  unfold dCons M.bind
  rw [h]
  show Out.bind (g e1) _ = _
  rw [h2]; rfl
end Dl
set_option Elab.async false
namespace Dl
open PySem PySem.Spec PyProof.Rows L2
theorem call_of {n : Nat} {Fn : List D → Rs} {fa : M (List Opd)} {e e' : Dl.Env} {os : List Opd} {ds : List D} {s : Slot} (h : fa e = .ok os e') (hv : vals os = some ds) (hl : Nat.beq ds.length n = true) (hF : Fn ds = .ok s) : dCall n Fn fa e = .ok s e' := by
  unfold dCall M.bind
  rw [h]
  show callK n Fn os e' = _
  unfold callK
  rw [hv]
  show (match Nat.beq ds.length n, Fn ds with
    | true, .ok s => Out.ok s e'
    | true, .exc x => .exc x e'
    | _, _ => .stuck) = _
  rw [hl, hF]
theorem and_of {f g : M Slot} {e e' : Dl.Env} {r : Out Slot} (h : f e = .ok (.sh (.bl true)) e') (h2 : g e' = r) : dAndV f g e = r := by
  unfold dAndV M.bind
  rw [h]; exact h2
theorem or_f {f g : M Bool} {e e' : Dl.Env} {r : Out Bool} (h : f e = .ok false e') (h2 : g e' = r) : dOr f g e = r := by
  unfold dOr M.bind
  rw [h]; exact h2
end Dl
set_option Elab.async false
namespace Dl
open PySem PySem.Spec PyProof.Rows L2
/-- self.f = value, self at 0 -/
theorem fld_of {x : Addr} {c f : Str} {cs ns ns' : List Str} {l l' : List D} {r : Dl.Env} {fv : M Opd} {dv : D} (hv : fv (.me x (.i c ns l) :: r) = .ok (.val dv) (.me x (.i c ns l) :: r)) (hc : hasF cs c = true) (hn : Nat.blt ns.length 1000 = true) (hp : putFs f dv ns l = (ns', l')) :
    sFldD 0 cs f fv (.me x (.i c ns l) :: r) = .nx (.me x (.i c ns' l') :: r) := by
  unfold sFldD
  rw [hv]
  show fldE 0 cs f (.val dv) (.me x (.i c ns l) :: r) = _
  unfold fldE
  show (match hasF cs c, Nat.blt ns.length 1000 with
    | true, true => Dl.putAt 0 (.i c (putFs f dv ns l).1 (putFs f dv ns l).2) (.me x (.i c ns l) :: r)
    | _, _ => .stuck) = _
  rw [hc, hn, hp]
  rfl
end Dl
set_option Elab.async false
namespace Dl
open PySem PySem.Spec PyProof.Rows L2
/-! a test of equality of trees, for evaluation in the kernel -/
mutual
def eqT : D → D → Bool
  | .non, .non => true
  | .bl a, .bl b => a == b
  | .int a, .int b => decide (a = b)
  | .str a, .str b => decide (a = b)
  | .tup l, .tup m => eqTL l m
  | .lst l, .lst m => eqTL l m
  | .fz l, .fz m => eqTL l m
  | .tz l, .tz m => eqTL l m
  | _, _ => false
def eqTL : List D → List D → Bool
  | [], [] => true
  | x :: l, y :: m => eqT x y && eqTL l m
  | _, _ => false
end
mutual
theorem eqT_eq : ∀ {x y : D}, eqT x y = true → x = y
  | .non, y, h => by cases y <;> simp [eqT] at h ⊢
  | .bl a, y, h => by cases y <;> simp [eqT] at h ⊢; exact h
  | .int a, y, h => by cases y <;> simp [eqT] at h ⊢; exact h
  | .str a, y, h => by cases y <;> simp [eqT] at h ⊢; exact h
  | .tup l, y, h => by cases y <;> simp [eqT] at h ⊢; exact eqTL_eq h
  | .lst l, y, h => by cases y <;> simp [eqT] at h ⊢; exact eqTL_eq h
  | .fz l, y, h => by cases y <;> simp [eqT] at h ⊢; exact eqTL_eq h
  | .tz l, y, h => by cases y <;> simp [eqT] at h ⊢; exact eqTL_eq h
  | .dct _ _ _, y, h => by cases y <;> simp [eqT] at h
  | .ins _ _ _, y, h => by cases y <;> simp [eqT] at h
theorem eqTL_eq : ∀ {x y : List D}, eqTL x y = true → x = y
  | [], y, h => by cases y <;> simp [eqTL] at h ⊢
  | a :: l, y, h => by
    cases y with
    | nil => simp [eqTL] at h
    | cons b m =>
      simp [eqTL] at h
      rw [eqT_eq h.1, eqTL_eq h.2]
end
def eqTR (r : Rs) (d : D) : Bool := match r with
  | .ok (.sh x) => eqT x d
  | _ => false
theorem eqTR_eq {r : Rs} {d : D} (h : eqTR r d = true) : r = .ok (.sh d) := by
  unfold eqTR at h
  split at h
  · rw [eqT_eq h]
  · cases h
end Dl
set_option Elab.async false
set_option linter.all false
namespace Dl
open PySem PySem.Spec PyProof.Rows L2
/-! ### what is told with less known holds with more: slots that are unknown are `un` -/
inductive Le : Dl.Env → Dl.Env → Prop
  | nil : Le [] []
  | un {s : Slot} {e0 e : Dl.Env} : Le e0 e → Le (.un :: e0) (s :: e)
  | eq {s : Slot} {e0 e : Dl.Env} : Le e0 e → Le (s :: e0) (s :: e)
theorem Le.refl : ∀ e, Le e e
  | [] => .nil
  | _ :: e => .eq (Le.refl e)
theorem Le.trans {a b c : Dl.Env} (h : Le a b) (h' : Le b c) : Le a c := by
  induction h generalizing c with
  | nil => exact h'
  | un h ih => cases h' with
    | un h' => exact .un (ih h')
    | eq h' => exact .un (ih h')
  | eq h ih => cases h' with
    | un h' => exact .un (ih h')
    | eq h' => exact .eq (ih h')
theorem Le.len {a b : Dl.Env} (h : Le a b) : a.length = b.length := by
  induction h with
  | nil => rfl
  | un _ ih => exact congrArg (· + 1) ih
  | eq _ ih => exact congrArg (· + 1) ih
theorem Le.get {a b : Dl.Env} {i : Nat} {s : Slot} (h : Le a b) (hs : a[i]? = some s) (hn : s ≠ .un) : b[i]? = some s := by
  induction h generalizing i with
  | nil => cases hs
  | un h ih => cases i with
    | zero => cases hs; exact absurd rfl hn
    | succ i => exact ih (i := i) hs
  | eq h ih => cases i with
    | zero => exact hs
    | succ i => exact ih (i := i) hs
theorem Le.set {a b : Dl.Env} {i : Nat} {s : Slot} (h : Le a b) : Le (a.set i s) (b.set i s) := by
  induction h generalizing i with
  | nil => exact .nil
  | un h ih => cases i with
    | zero => exact .eq h
    | succ i => exact .un (ih (i := i))
  | eq h ih => cases i with
    | zero => exact .eq h
    | succ i => exact .eq (ih (i := i))
theorem Le.setU {a b : Dl.Env} {i : Nat} {s : Slot} (h : Le a b) : Le (a.set i .un) (b.set i s) := by
  induction h generalizing i with
  | nil => exact .nil
  | un h ih => cases i with
    | zero => exact .un h
    | succ i => exact .un (ih (i := i))
  | eq h ih => cases i with
    | zero => exact .un h
    | succ i => exact .eq (ih (i := i))
theorem Le.wipe {a b : Dl.Env} (h : Le a b) : ∀ vs, Le (wipeE a vs) (wipeE b vs)
  | [] => h
  | v :: vs => (Le.wipe h vs).set
theorem Le.unwipe {a0 b0 a b : Dl.Env} (h0 : Le a0 b0) (h : Le a b) : ∀ vs, Le (unwipe a0 a vs) (unwipe b0 b vs)
  | [] => h
  | v :: vs => by
    have ih := Le.unwipe h0 h vs
    show Le ((Dl.unwipe a0 a vs).set v _) ((Dl.unwipe b0 b vs).set v _)
    cases q : a0[v]? with
    | none => exact ih.setU
    | some s =>
      by_cases z : s = .un
      · subst z; exact ih.setU
      · rw [h0.get q z]; exact ih.set
def OLe {α : Type} (r0 r : Out α) : Prop := match r0 with
  | .ok x e0 => ∃ e, r = .ok x e ∧ Le e0 e
  | .exc x e0 => ∃ e, r = .exc x e ∧ Le e0 e
  | .stuck => True
class Mo {α : Type} (m : M α) : Prop where
  mo : ∀ {e0 e : Dl.Env}, Le e0 e → OLe (m e0) (m e)
def FLe (r0 r : Fl) : Prop := match r0 with
  | .nx e0 => ∃ e, r = .nx e ∧ Le e0 e
  | .rt s e0 => ∃ e, r = .rt s e ∧ Le e0 e
  | .bk e0 => ∃ e, r = .bk e ∧ Le e0 e
  | .ct e0 => ∃ e, r = .ct e ∧ Le e0 e
  | .exc x e0 => ∃ e, r = .exc x e ∧ Le e0 e
  | .stuck => True
class MoS (s : Sm) : Prop where
  mo : ∀ {e0 e : Dl.Env}, Le e0 e → FLe (s e0) (s e)
def GLe (r0 r : Option Dl.Env) : Prop := match r0 with
  | some e0 => ∃ e, r = some e ∧ Le e0 e
  | none => True
class MoG (g : Tg) : Prop where
  mo : ∀ (d : D) {e0 e : Dl.Env}, Le e0 e → GLe (g d e0) (g d e)
class MoGs (g : List D → Dl.Env → Option Dl.Env) : Prop where
  mo : ∀ (d : List D) {e0 e : Dl.Env}, Le e0 e → GLe (g d e0) (g d e)
theorem OLe.bind {α β : Type} {r0 r : Out α} {k : α → M β} (h : OLe r0 r) (hk : ∀ a, Mo (k a)) : OLe (r0.bind k) (r.bind k) := by
  cases r0 with
  | ok x e0 => obtain ⟨e, rfl, l⟩ := h; exact (hk x).mo l
  | exc x e0 => obtain ⟨e, rfl, l⟩ := h; exact ⟨e, rfl, l⟩
  | stuck => trivial
theorem OLe.fl {α : Type} {r0 r : Out α} {k : α → Sm} (h : OLe r0 r) (hk : ∀ a, MoS (k a)) : FLe (r0.fl k) (r.fl k) := by
  cases r0 with
  | ok x e0 => obtain ⟨e, rfl, l⟩ := h; exact (hk x).mo l
  | exc x e0 => obtain ⟨e, rfl, l⟩ := h; exact ⟨e, rfl, l⟩
  | stuck => trivial
theorem mo_bind {α β : Type} {m : M α} {k : α → M β} [h : Mo m] (hk : ∀ a, Mo (k a)) : Mo (M.bind m k) := ⟨fun l => (h.mo l).bind hk⟩
theorem mo_ok {α : Type} {a : α} : Mo (fun e => Out.ok a e : M α) := ⟨fun l => ⟨_, rfl, l⟩⟩
theorem mo_no {α : Type} : Mo (fun _ => Out.stuck : M α) := ⟨fun _ => trivial⟩
theorem get_le {o : Opd} {e0 e : Dl.Env} {d : D} (l : Le e0 e) (h : o.get e0 = some d) : o.get e = some d := by
  cases o with
  | val d' => exact h
  | «at» i =>
    have h : (match e0[i]? with | some s => s.rd | none => none) = some d := h
    show (match e[i]? with | some s => s.rd | none => none) = some d
    cases q : e0[i]? with
    | none => rw [q] at h; cases h
    | some s =>
      rw [q] at h
      rw [l.get q (fun z => by subst z; cases h)]; exact h
/-- of what is read -/
theorem mo_get {α : Type} {o : Opd} {k : D → M α} (hk : ∀ d, Mo (k d)) : Mo (fun e => match o.get e with | some d => k d e | none => .stuck : M α) := ⟨fun {e0 e} l => by
  show OLe (match o.get e0 with | some d => k d e0 | none => .stuck) (match o.get e with | some d => k d e | none => .stuck)
  cases q : o.get e0 with
  | none => trivial
  | some d => rw [get_le l q]; exact (hk d).mo l⟩
theorem mo_opt {α β : Type} {x : Option β} {k : β → M α} (hk : ∀ d, Mo (k d)) : Mo (fun e => match x with | some d => k d e | none => .stuck : M α) := by
  cases x with
  | none => exact mo_no
  | some d => exact hk d
theorem mo_ite {α : Type} {c : Prop} [Decidable c] {f g : M α} (hf : Mo f) (hg : Mo g) : Mo (fun e => if c then f e else g e : M α) := by
  by_cases h : c
  · simp only [if_pos h]; exact hf
  · simp only [if_neg h]; exact hg
instance {i : Nat} : Mo (dName i) := ⟨fun {e0 e} l => by
  unfold dName
  cases q : e0[i]? with
  | none => trivial
  | some s => cases s with
    | un => trivial
    | _ => rw [l.get q Slot.noConfusion]; exact ⟨_, rfl, l⟩⟩
instance {i : Nat} : Mo (dTake i) := ⟨fun {e0 e} l => by
  unfold dTake
  cases q : e0[i]? with
  | none => trivial
  | some s => cases s with
    | un => trivial
    | sh d => rw [l.get q Slot.noConfusion]; exact ⟨_, rfl, l⟩
    | _ => rw [l.get q Slot.noConfusion]; exact ⟨_, rfl, l.set⟩⟩
instance {d : D} : Mo (dVal d) := mo_ok
instance {d : D} : Mo (dSh d) := mo_ok
instance : Mo dYes := mo_ok
instance : Mo dNil := mo_ok
instance : Mo dNo := mo_ok
instance {f : M Slot} [Mo f] : Mo (dFix f) := mo_bind fun s => by cases s <;> first | exact mo_no | exact mo_ok
theorem mo_pair {g : D → D → Option Slot} {oa ob : Opd} : Mo (fun e => match oa.get e, ob.get e with
  | some x, some y => (match g x y with
    | some s => .ok s e
    | none => .stuck)
  | _, _ => .stuck : M Slot) := ⟨fun {e0 e} l => by
  show OLe (match oa.get e0, ob.get e0 with
  | some x, some y => (match g x y with
    | some s => Out.ok s e0
    | none => .stuck)
  | _, _ => .stuck) (match oa.get e, ob.get e with
  | some x, some y => (match g x y with
    | some s => Out.ok s e
    | none => .stuck)
  | _, _ => .stuck)
  cases qa : oa.get e0 with
  | none => trivial
  | some x =>
    cases qb : ob.get e0 with
    | none => trivial
    | some y =>
      rw [get_le l qa, get_le l qb]
      simp only
      cases g x y with
      | none => trivial
      | some s => exact ⟨_, rfl, l⟩⟩
instance {g : D → D → Option Slot} {fa fb : M Opd} [Mo fa] [Mo fb] : Mo (dOp2 g fa fb) := mo_bind fun oa => mo_bind fun ob => mo_pair
instance {g : D → Option Slot} {fa : M Opd} [Mo fa] : Mo (dOp1 g fa) := mo_bind fun o => mo_get fun d => by cases g d <;> first | exact mo_no | exact mo_ok
theorem int_le {o : Opd} {e0 e : Dl.Env} {d : Int} (l : Le e0 e) (h : o.int e0 = some d) : o.int e = some d := by
  unfold Opd.int at h ⊢
  cases q : o.get e0 with
  | none => rw [q] at h; cases h
  | some x => rw [q] at h; rw [get_le l q]; exact h
instance {f : M Opd} [Mo f] : Mo (dPart f) := mo_bind fun o => ⟨fun {e0 e} l => by
  show OLe (match o.int e0 with | some i => Out.ok (some i) e0 | none => .stuck) (match o.int e with | some i => Out.ok (some i) e | none => .stuck)
  cases q : o.int e0 with
  | none => trivial
  | some i => rw [int_le l q]; exact ⟨_, rfl, l⟩⟩
instance {fa : M Opd} {fl fh : M (Option Int)} [Mo fa] [Mo fl] [Mo fh] : Mo (dSl fa fl fh) := mo_bind fun o => mo_bind fun lo => mo_bind fun hi => mo_get fun d => by cases gSl d lo hi <;> first | exact mo_no | exact mo_ok
instance {f : M Opd} [Mo f] : Mo (dTruth f) := mo_bind fun o => mo_get fun d => by cases d.truth <;> first | exact mo_no | exact mo_ok
instance {f : M Slot} [Mo f] : Mo (dBool f) := mo_bind fun s => by
  cases s with
  | sh d => cases d with
    | bl b => exact mo_ok
    | _ => exact mo_no
  | _ => exact mo_no
instance {f : M Bool} [Mo f] : Mo (dNot f) := mo_bind fun s => mo_ok
instance {f g : M Bool} [Mo f] [hg : Mo g] : Mo (dAnd f g) := mo_bind fun b => by
  cases b with
  | true => exact hg
  | false => exact mo_ok
instance {f g : M Bool} [Mo f] [hg : Mo g] : Mo (dOr f g) := mo_bind fun b => by
  cases b with
  | true => exact mo_ok
  | false => exact hg
instance {f g : M Slot} [Mo f] [hg : Mo g] : Mo (dAndV f g) := mo_bind fun s => by
  cases s with
  | sh d => cases d with
    | bl b => cases b with
      | true => exact hg
      | false => exact mo_ok
    | _ => exact mo_no
  | _ => exact mo_no
instance {f g : M Slot} [Mo f] [hg : Mo g] : Mo (dOrV f g) := mo_bind fun s => by
  cases s with
  | sh d => cases d with
    | bl b => cases b with
      | true => exact mo_ok
      | false => exact hg
    | _ => exact mo_no
  | _ => exact mo_no
instance {f : M Slot} [Mo f] : Mo (dNotV f) := mo_bind fun s => by
  cases s with
  | sh d => cases d with
    | bl b => exact mo_ok
    | _ => exact mo_no
  | _ => exact mo_no
instance {α : Type} {c : M Bool} {f g : M α} [Mo c] [hf : Mo f] [hg : Mo g] : Mo (dIf c f g) := mo_bind fun b => by
  cases b with
  | true => exact hf
  | false => exact hg
instance {f : M Opd} {g : M (List Opd)} [Mo f] [Mo g] : Mo (dCons f g) := mo_bind fun o => mo_bind fun os => mo_ok
instance {f : M (List Opd)} [Mo f] : Mo (dTup f) := mo_bind fun os => by cases vals os <;> first | exact mo_no | exact mo_ite mo_ok mo_no
instance {f : M (List Opd)} [Mo f] : Mo (dLst f) := mo_bind fun os => by cases vals os <;> first | exact mo_no | exact mo_ite mo_ok mo_no
instance {n : Nat} {Fn : List D → Rs} {fa : M (List Opd)} [Mo fa] : Mo (dCall n Fn fa) := mo_bind fun os => by
  unfold callK
  cases vals os with
  | none => exact mo_no
  | some ds =>
    simp only
    cases Nat.beq ds.length n <;> cases Fn ds <;> first | exact mo_ok | exact mo_no | exact ⟨fun l => ⟨_, rfl, l⟩⟩
theorem gets_le {os : List Opd} {e0 e : Dl.Env} {ds : List D} (l : Le e0 e) (h : gets os e0 = some ds) : gets os e = some ds := by
  induction os generalizing ds with
  | nil => exact h
  | cons o os ih =>
    unfold gets at h ⊢
    cases q : o.get e0 with
    | none => rw [q] at h; cases h
    | some d =>
      rw [q] at h
      rw [get_le l q]
      cases q2 : gets os e0 with
      | none => rw [q2] at h; cases h
      | some ds' => rw [q2] at h; rw [ih q2]; exact h
theorem ints_le {os : List Opd} {e0 e : Dl.Env} {ds : List Int} (l : Le e0 e) (h : opInts os e0 = some ds) : opInts os e = some ds := by
  induction os generalizing ds with
  | nil => exact h
  | cons o os ih =>
    unfold opInts at h ⊢
    cases q : o.int e0 with
    | none => rw [q] at h; cases h
    | some d =>
      rw [q] at h
      rw [int_le l q]
      cases q2 : opInts os e0 with
      | none => rw [q2] at h; cases h
      | some ds' => rw [q2] at h; rw [ih q2]; exact h
instance {g : List D → Option Slot} {fa : M (List Opd)} [Mo fa] : Mo (dBlt g fa) := mo_bind fun os => ⟨fun {e0 e} l => by
  unfold bltK
  cases q : gets os e0 with
  | none => trivial
  | some ds =>
    rw [gets_le l q]
    simp only
    cases g ds with
    | none => trivial
    | some s => exact ⟨_, rfl, l⟩⟩
instance {tab : D → Option Bool} {fa : M Opd} [Mo fa] : Mo (dIsi tab fa) := mo_bind fun o => mo_get fun d => by cases tab d <;> first | exact mo_no | exact mo_ok
instance {f : M Opd} [Mo f] : Mo (dItems f) := mo_bind fun o => by
  cases o with
  | val d => simp only; cases items d <;> first | exact mo_no | exact mo_ok
  | «at» i => exact mo_no
instance {f : M (List Opd)} [Mo f] : Mo (dEnum f) := mo_bind fun os => by
  match vals os with
  | none => exact mo_no
  | some [] => exact mo_no
  | some [d] => simp only; cases items d <;> first | exact mo_no | exact mo_ok
  | some (_ :: _ :: _) => exact mo_no
instance {f : M (List Opd)} [Mo f] : Mo (dZip f) := mo_bind fun os => by
  match vals os with
  | none => exact mo_no
  | some [] => exact mo_no
  | some [d] => exact mo_no
  | some [d, d'] => simp only; cases items d <;> cases items d' <;> first | exact mo_no | exact mo_ok
  | some (_ :: _ :: _ :: _) => exact mo_no
theorem mo_ints {α : Type} {os : List Opd} {k : Option (List Int) → M α} (hk : ∀ d, Mo (k (some d))) (hn : k none = fun _ => .stuck) : Mo (fun e => k (opInts os e) e : M α) := ⟨fun {e0 e} l => by
  show OLe (k (opInts os e0) e0) (k (opInts os e) e)
  cases q : opInts os e0 with
  | none => rw [hn]; trivial
  | some d => rw [ints_le l q]; exact (hk d).mo l⟩
instance {f : M (List Opd)} [Mo f] : Mo (dRange1 f) := mo_bind fun os => mo_ints (k := fun x e => match x with
  | some [j] => if rOk j = true then .ok (rangeD 0 j.toNat) e else .stuck
  | _ => .stuck) (fun d => by
    match d with
    | [j] => exact mo_ite mo_ok mo_no
    | [] => exact mo_no
    | _ :: _ :: _ => exact mo_no) rfl
instance {f : M (List Opd)} [Mo f] : Mo (dRange2 f) := mo_bind fun os => mo_ints (k := fun x e => match x with
  | some [i, j] => if (rOk i && rOk j) = true then .ok (rangeD i (j - i).toNat) e else .stuck
  | _ => .stuck) (fun d => by
    match d with
    | [i, j] => exact mo_ite mo_ok mo_no
    | [] => exact mo_no
    | [_] => exact mo_no
    | _ :: _ :: _ :: _ => exact mo_no) rfl
instance {fa fb : M Opd} [Mo fa] [hb : Mo fb] : Mo (dReprNe fa fb) := mo_bind fun oa => mo_get fun dx => by
  cases repOk dx with
  | true => exact ⟨fun l => (hb.mo l).bind fun ob => mo_get fun dy => by
      cases repOk dy && D.same dx dy with
      | true => exact mo_ok
      | false => exact mo_no⟩
  | false => exact mo_no
instance {g : D → D → Option Slot} {is : D → Bool} {fo : M Opd} {fa : M (List Opd)} [Mo fo] [ha : Mo fa] : Mo (dIndex g is fo fa) := mo_bind fun o => mo_get fun d => by
  cases is d with
  | true => exact ⟨fun l => (ha.mo l).bind fun os => ⟨fun {e0 e} l => by
      unfold idxK
      cases qa : o.get e0 with
      | none => trivial
      | some x =>
        cases qb : gets os e0 with
        | none => trivial
        | some ys =>
          rw [get_le l qa, gets_le l qb]
          match ys with
          | [] => trivial
          | [y] =>
            simp only
            cases g x y with
            | none => trivial
            | some s => exact ⟨_, rfl, l⟩
          | _ :: _ :: _ => trivial⟩⟩
  | false => exact mo_no
/-! targets -/
instance {i : Nat} : MoG (gSet i) := ⟨fun d {e0 e} l => by
  unfold gSet
  by_cases h : i < e0.length
  · rw [if_pos h, if_pos (by rw [← l.len]; exact h)]; exact ⟨_, rfl, l.set⟩
  · rw [if_neg h]; trivial⟩
instance : MoGs gsNil := ⟨fun d {e0 e} l => by
  cases d with
  | nil => exact ⟨_, rfl, l⟩
  | cons _ _ => trivial⟩
instance {g : Tg} {k : List D → Dl.Env → Option Dl.Env} [hg : MoG g] [hk : MoGs k] : MoGs (gsCons g k) := ⟨fun d {e0 e} l => by
  cases d with
  | nil => trivial
  | cons d r =>
    show GLe (match g d e0 with | some e' => k r e' | none => none) (match g d e with | some e' => k r e' | none => none)
    have := hg.mo d l
    cases q : g d e0 with
    | none => trivial
    | some e1 =>
      rw [q] at this
      obtain ⟨e2, h1, h2⟩ := this
      rw [h1]
      exact hk.mo r h2⟩
instance {n : Nat} {k : List D → Dl.Env → Option Dl.Env} [hk : MoGs k] : MoG (gTupD n k) := ⟨fun d {e0 e} l => by
  cases d with
  | tup ds =>
    show GLe (if ds.length = n then k ds e0 else none) (if ds.length = n then k ds e else none)
    split
    · exact hk.mo ds l
    · trivial
  | tz ds =>
    show GLe (if ds.length = n then k ds e0 else none) (if ds.length = n then k ds e else none)
    split
    · exact hk.mo ds l
    · trivial
  | _ => trivial⟩
/-! comprehensions -/
theorem lcL_mo {vs : List Nat} {g : Tg} {ifs : M Bool} {elt : M Slot} [hg : MoG g] [hi : Mo ifs] [he : Mo elt] : ∀ (l : List D) {e0 e : Dl.Env}, Le e0 e → OLe (lcL vs g ifs elt l e0) (lcL vs g ifs elt l e)
  | [], e0, e, l => ⟨_, rfl, l⟩
  | d :: r, e0, e, l => by
    unfold lcL
    have h1 := hg.mo d l
    cases q1 : g d e0 with
    | none => trivial
    | some e1 =>
      rw [q1] at h1
      obtain ⟨f1, g1, l1⟩ := h1
      rw [g1]
      simp only
      have h2 := hi.mo l1
      cases q2 : ifs e1 with
      | stuck => trivial
      | exc x e2 => trivial
      | ok b e2 =>
        rw [q2] at h2
        obtain ⟨f2, g2, l2⟩ := h2
        rw [g2]
        cases b with
        | false => simp only; exact lcL_mo r (l2.wipe vs)
        | true =>
          simp only
          have h3 := he.mo l2
          cases q3 : elt e2 with
          | stuck => trivial
          | exc x e3 => trivial
          | ok s e3 =>
            rw [q3] at h3
            obtain ⟨f3, g3, l3⟩ := h3
            rw [g3]
            have h4 := lcL_mo (vs := vs) (g := g) (ifs := ifs) (elt := elt) r (l3.wipe vs)
            cases s with
            | un => trivial
            | _ =>
              simp only
              cases q4 : lcL vs g ifs elt r (wipeE e3 vs) with
              | stuck => trivial
              | exc x e4 => trivial
              | ok more e4 =>
                rw [q4] at h4
                obtain ⟨f4, g4, l4⟩ := h4
                rw [g4]
                exact ⟨_, rfl, l4⟩
instance {f : M (List D)} {vs : List Nat} {g : Tg} {ifs : M Bool} {elt : M Slot} [Mo f] [MoG g] [Mo ifs] [Mo elt] : Mo (dLc f vs g ifs elt) := mo_bind fun items => ⟨fun {e0 e} l => by
  split
  · have h := lcL_mo (vs := vs) (g := g) (ifs := ifs) (elt := elt) items (l.wipe vs)
    cases q : lcL vs g ifs elt items (wipeE e0 vs) with
    | stuck => trivial
    | exc x e1 => trivial
    | ok more e1 =>
      rw [q] at h
      obtain ⟨f1, g1, l1⟩ := h
      rw [g1]
      exact ⟨_, rfl, Le.unwipe l l1 vs⟩
  · trivial⟩
/-! statements -/
instance : MoS sNext := ⟨fun l => ⟨_, rfl, l⟩⟩
theorem mos_no : MoS (fun _ => Fl.stuck : Sm) := ⟨fun _ => trivial⟩
instance : MoS (fun _ => Fl.stuck : Sm) := mos_no
instance {f g : Sm} [hf : MoS f] [hg : MoS g] : MoS (Sm.seq f g) := ⟨fun {e0 e} l => by
  unfold Sm.seq
  have h := hf.mo l
  cases q : f e0 with
  | nx e1 => rw [q] at h; obtain ⟨f1, g1, l1⟩ := h; rw [g1]; exact hg.mo l1
  | rt s e1 => rw [q] at h; obtain ⟨f1, g1, l1⟩ := h; rw [g1]; exact ⟨_, rfl, l1⟩
  | bk e1 => rw [q] at h; obtain ⟨f1, g1, l1⟩ := h; rw [g1]; exact ⟨_, rfl, l1⟩
  | ct e1 => rw [q] at h; obtain ⟨f1, g1, l1⟩ := h; rw [g1]; exact ⟨_, rfl, l1⟩
  | exc s e1 => rw [q] at h; obtain ⟨f1, g1, l1⟩ := h; rw [g1]; exact ⟨_, rfl, l1⟩
  | stuck => trivial⟩
instance {f : M Slot} [hf : Mo f] : MoS (sExpr f) := ⟨fun l => (hf.mo l).fl fun _ => ⟨fun l => ⟨_, rfl, l⟩⟩⟩
instance {f : M Slot} [hf : Mo f] : MoS (sRet f) := ⟨fun l => (hf.mo l).fl fun _ => ⟨fun l => ⟨_, rfl, l⟩⟩⟩
instance {i : Nat} : MoS (sRetN i) := ⟨fun {e0 e} l => by
  unfold sRetN
  cases q : e0[i]? with
  | none => trivial
  | some s => cases s with
    | un => trivial
    | _ => rw [l.get q Slot.noConfusion]; exact ⟨_, rfl, l.set⟩⟩
instance {c : M Bool} {f g : Sm} [hc : Mo c] [hf : MoS f] [hg : MoS g] : MoS (sIf c f g) := ⟨fun l => (hc.mo l).fl fun b => by
  cases b with
  | true => exact hf
  | false => exact hg⟩
instance {i : Nat} {s : Slot} : MoS (sPut i s) := by
  unfold sPut
  cases s with
  | un => exact mos_no
  | _ => exact ⟨fun {e0 e} l => by
    simp only
    by_cases h : i < e0.length
    · rw [if_pos h, if_pos (by rw [← l.len]; exact h)]; exact ⟨_, rfl, l.set⟩
    · rw [if_neg h]; trivial⟩
instance {i : Nat} {f : M Slot} [hf : Mo f] : MoS (sSet i f) := ⟨fun l => (hf.mo l).fl fun s => inferInstance⟩
instance {g : Tg} {f : M Opd} [hg : MoG g] [hf : Mo f] : MoS (sTo g f) := ⟨fun l => (hf.mo l).fl fun o => by
  cases o with
  | val d => exact ⟨fun {e0 e} l => by
      have h := hg.mo d l
      show FLe (match g d e0 with | some e => .nx e | none => .stuck) (match g d e with | some e => .nx e | none => .stuck)
      cases q : g d e0 with
      | none => trivial
      | some e1 => rw [q] at h; obtain ⟨f1, g1, l1⟩ := h; rw [g1]; exact ⟨_, rfl, l1⟩⟩
  | «at» i => exact mos_no⟩
theorem forL_mo {g : Tg} {body : Sm} [hg : MoG g] [hb : MoS body] : ∀ (l : List D) {e0 e : Dl.Env}, Le e0 e → FLe (forL g body l e0) (forL g body l e)
  | [], e0, e, l => ⟨_, rfl, l⟩
  | d :: r, e0, e, l => by
    unfold forL
    have h1 := hg.mo d l
    cases q1 : g d e0 with
    | none => trivial
    | some e1 =>
      rw [q1] at h1
      obtain ⟨f1, g1, l1⟩ := h1
      rw [g1]
      simp only
      have h := hb.mo l1
      cases q : body e1 with
      | nx e1 => rw [q] at h; obtain ⟨f1, g1, l1⟩ := h; rw [g1]; exact forL_mo r l1
      | ct e1 => rw [q] at h; obtain ⟨f1, g1, l1⟩ := h; rw [g1]; exact forL_mo r l1
      | bk e1 => rw [q] at h; obtain ⟨f1, g1, l1⟩ := h; rw [g1]; exact ⟨_, rfl, l1⟩
      | rt s e1 => rw [q] at h; obtain ⟨f1, g1, l1⟩ := h; rw [g1]; exact ⟨_, rfl, l1⟩
      | exc s e1 => rw [q] at h; obtain ⟨f1, g1, l1⟩ := h; rw [g1]; exact ⟨_, rfl, l1⟩
      | stuck => trivial
instance {f : M (List D)} {g : Tg} {body : Sm} [hf : Mo f] [hg : MoG g] [hb : MoS body] : MoS (sFor f g body) := ⟨fun l => (hf.mo l).fl fun items => ⟨fun l => forL_mo items l⟩⟩
/-! ### evaluation in the kernel -/
/-- less known, by evaluation -/
def eqS : Slot → Slot → Bool
  | .un, _ => true
  | .sh a, .sh b => eqT a b
  | .ol a, .ol b => eqTL a b
  | _, _ => false
def leB : Dl.Env → Dl.Env → Bool
  | [], [] => true
  | a :: r, b :: s => eqS a b && leB r s
  | _, _ => false
theorem leB_le : ∀ {a b : Dl.Env}, leB a b = true → Le a b
  | [], [], _ => .nil
  | [], _ :: _, h => by cases h
  | _ :: _, [], h => by cases h
  | a :: r, b :: s, h => by
    unfold leB at h
    rw [Bool.and_eq_true] at h
    have ih := leB_le h.2
    cases a with
    | un => exact .un ih
    | sh d => cases b with
      | sh d' => rw [eqT_eq h.1]; exact .eq ih
      | _ => cases h.1
    | ol d => cases b with
      | ol d' => rw [eqTL_eq h.1]; exact .eq ih
      | _ => cases h.1
    | _ => cases b <;> cases h.1
def nxB (r : Fl) (e1 : Dl.Env) : Bool := match r with
  | .nx e => leB e1 e
  | _ => false
/-- a statement that was run with less known goes on so with more -/
theorem nx_mo {s : Sm} [h : MoS s] {e0 e1 e : Dl.Env} (hb : nxB (s e0) e1 = true) (l : Le e0 e) : ∃ e', s e = .nx e' ∧ Le e1 e' := by
  have m := h.mo l
  cases q : s e0 with
  | nx e2 =>
    rw [q] at hb m
    obtain ⟨f1, g1, l1⟩ := m
    exact ⟨f1, g1, (leB_le hb).trans l1⟩
  | _ => rw [q] at hb; cases hb
end Dl
set_option Elab.async false
set_option linter.all false
namespace Dl
open PySem PySem.Spec PyProof.Rows L2
/-! ### shared slots stay as they are, but those of W -/
variable {V : List Nat}
def Kx (W V : List Nat) (e e' : Dl.Env) : Prop := e'.length = e.length ∧ (∀ i d, i ∉ W → e[i]? = some (.sh d) → e'[i]? = some (.sh d)) ∧ ∀ i s, i ∉ W → i ∉ V → e[i]? = some s → e'[i]? = some s
theorem Kx.refl {W : List Nat} (e : Dl.Env) : Kx W V e e := ⟨rfl, fun _ _ _ h => h, fun _ _ _ _ h => h⟩
theorem Kx.trans {W : List Nat} {a b c : Dl.Env} (h : Kx W V a b) (h' : Kx W V b c) : Kx W V a c := ⟨h'.1.trans h.1, fun i d hi q => h'.2.1 i d hi (h.2.1 i d hi q), fun i d hi hv q => h'.2.2 i d hi hv (h.2.2 i d hi hv q)⟩
theorem Kx.mono {W : List Nat} {a b : Dl.Env} (h : Kx [] V a b) : Kx W V a b := ⟨h.1, fun i d _ q => h.2.1 i d (by simp) q, fun i d _ hv q => h.2.2 i d (by simp) hv q⟩
theorem Kx.setW {W : List Nat} {e : Dl.Env} {i : Nat} {s : Slot} (h : i ∈ W) : Kx W V e (e.set i s) := ⟨List.length_set, fun j d hj q => by rw [List.getElem?_set_ne fun z => hj (by rw [← z]; exact h)]; exact q, fun j d hj _ q => by rw [List.getElem?_set_ne fun z => hj (by rw [← z]; exact h)]; exact q⟩
class Ke {α : Type} (V : List Nat) (m : M α) : Prop where
  ke : ∀ {e : Dl.Env} {x : α} {e' : Dl.Env}, m e = .ok x e' → Kx [] V e e'
class KeG (W : List Nat) (g : Tg) : Prop where
  ke : ∀ {d : D} {e e' : Dl.Env}, g d e = some e' → ∀ {V : List Nat}, Kx W V e e'
class KeGs (W : List Nat) (g : List D → Dl.Env → Option Dl.Env) : Prop where
  ke : ∀ {d : List D} {e e' : Dl.Env}, g d e = some e' → ∀ {V : List Nat}, Kx W V e e'
class KeS (W V : List Nat) (s : Sm) : Prop where
  ke : ∀ {e e' : Dl.Env}, s e = .nx e' ∨ s e = .ct e' ∨ s e = .bk e' → Kx W V e e'
class SubW (vs V : List Nat) : Prop where
  sub : ∀ v ∈ vs, v ∈ V
class InW (i : Nat) (W : List Nat) : Prop where
  mem : i ∈ W
instance {i : Nat} {W : List Nat} : InW i (i :: W) := ⟨List.mem_cons_self ..⟩
instance {i j : Nat} {W : List Nat} [h : InW i W] : InW i (j :: W) := ⟨List.mem_cons_of_mem _ h.mem⟩
instance : SubW [] V := ⟨fun v h => by cases h⟩
instance {i : Nat} {vs : List Nat} [h : InW i V] [h2 : SubW vs V] : SubW (i :: vs) V := ⟨fun v hv => by
  rcases List.mem_cons.mp hv with rfl | hv
  · exact h.mem
  · exact h2.sub v hv⟩
theorem ke_bind {α β : Type} {m : M α} {k : α → M β} [h : Ke V m] (hk : ∀ a, Ke V (k a)) : Ke V (M.bind m k) := ⟨fun {e x e'} q => by
  have q : (m e).bind k = .ok x e' := q
  cases z : m e with
  | ok a e1 => rw [z] at q; exact (h.ke z).trans ((hk a).ke q)
  | exc a e1 => rw [z] at q; cases q
  | stuck => rw [z] at q; cases q⟩
theorem ke_same {α : Type} {m : M α} (h : ∀ e x e', m e = .ok x e' → e' = e) : Ke V m := ⟨fun q => by rw [h _ _ _ q]; exact Kx.refl _⟩
instance {i : Nat} : Ke V (dName i) := ke_same fun e x e' h => by
  unfold dName at h
  split at h
  · cases h
  · cases h; rfl
  · cases h
instance {i : Nat} [hv : InW i V] : Ke V (dTake i) := ⟨fun {e x e'} h => by
  unfold dTake at h
  split at h
  · cases h
  · cases h; exact Kx.refl _
  · rename_i s h1 h2 hs
    cases h
    refine ⟨List.length_set, fun j d _ q => ?_, fun j d _ hj q => ?_⟩
    · by_cases z : i = j
      · subst z
        rw [hs] at q
        cases q
        exact absurd rfl (h2 d)
      · rw [List.getElem?_set_ne z]; exact q
    · rw [List.getElem?_set_ne fun z => hj (by rw [← z]; exact hv.mem)]; exact q
  · cases h⟩
instance {d : D} : Ke V (dVal d) := ke_same fun e x e' h => by cases h; rfl
instance {d : D} : Ke V (dSh d) := ke_same fun e x e' h => by cases h; rfl
instance : Ke V dYes := ke_same fun e x e' h => by cases h; rfl
instance : Ke V dNil := ke_same fun e x e' h => by cases h; rfl
instance : Ke V dNo := ke_same fun e x e' h => by cases h; rfl
instance {f : M Slot} [Ke V f] : Ke V (dFix f) := ke_bind fun s => ke_same fun e x e' h => by cases s <;> cases h <;> rfl
instance {g : D → D → Option Slot} {fa fb : M Opd} [Ke V fa] [Ke V fb] : Ke V (dOp2 g fa fb) := ke_bind fun oa => ke_bind fun ob => ke_same fun e x e' h => by
  split at h
  · split at h
    · cases h; rfl
    · cases h
  · cases h
instance {g : D → Option Slot} {fa : M Opd} [Ke V fa] : Ke V (dOp1 g fa) := ke_bind fun o => ke_same fun e x e' h => by
  split at h
  · split at h
    · cases h; rfl
    · cases h
  · cases h
instance {f : M Opd} [Ke V f] : Ke V (dPart f) := ke_bind fun o => ke_same fun e x e' h => by
  split at h
  · cases h; rfl
  · cases h
instance {fa : M Opd} {fl fh : M (Option Int)} [Ke V fa] [Ke V fl] [Ke V fh] : Ke V (dSl fa fl fh) := ke_bind fun o => ke_bind fun lo => ke_bind fun hi => ke_same fun e x e' h => by
  split at h
  · split at h
    · cases h; rfl
    · cases h
  · cases h
instance {f : M Opd} [Ke V f] : Ke V (dTruth f) := ke_bind fun o => ke_same fun e x e' h => by
  split at h
  · split at h
    · cases h; rfl
    · cases h
  · cases h
instance {f : M Slot} [Ke V f] : Ke V (dBool f) := ke_bind fun s => ke_same fun e x e' h => by
  split at h
  · cases h; rfl
  · cases h
instance {f : M Bool} [Ke V f] : Ke V (dNot f) := ke_bind fun s => ke_same fun e x e' h => by cases h; rfl
instance {f g : M Bool} [Ke V f] [hg : Ke V g] : Ke V (dAnd f g) := ke_bind fun b => by
  cases b with
  | true => exact hg
  | false => exact ke_same fun e x e' h => by cases h; rfl
instance {f g : M Bool} [Ke V f] [hg : Ke V g] : Ke V (dOr f g) := ke_bind fun b => by
  cases b with
  | false => exact hg
  | true => exact ke_same fun e x e' h => by cases h; rfl
instance {α : Type} {c : M Bool} {f g : M α} [Ke V c] [hf : Ke V f] [hg : Ke V g] : Ke V (dIf c f g) := ke_bind fun b => by
  cases b with
  | true => exact hf
  | false => exact hg
instance {f : M Opd} {g : M (List Opd)} [Ke V f] [Ke V g] : Ke V (dCons f g) := ke_bind fun o => ke_bind fun os => ke_same fun e x e' h => by cases h; rfl
instance {f : M (List Opd)} [Ke V f] : Ke V (dTup f) := ke_bind fun os => ke_same fun e x e' h => by
  split at h
  · split at h
    · cases h; rfl
    · cases h
  · cases h
instance {f : M (List Opd)} [Ke V f] : Ke V (dLst f) := ke_bind fun os => ke_same fun e x e' h => by
  split at h
  · split at h
    · cases h; rfl
    · cases h
  · cases h
instance {n : Nat} {Fn : List D → Rs} {fa : M (List Opd)} [Ke V fa] : Ke V (dCall n Fn fa) := ke_bind fun os => ke_same fun e x e' h => by
  unfold callK at h
  split at h
  · split at h
    · cases h; rfl
    · cases h
    · cases h
  · cases h
instance {g : List D → Option Slot} {fa : M (List Opd)} [Ke V fa] : Ke V (dBlt g fa) := ke_bind fun os => ke_same fun e x e' h => by
  unfold bltK at h
  split at h
  · split at h
    · cases h; rfl
    · cases h
  · cases h
instance {f : M Opd} [Ke V f] : Ke V (dItems f) := ke_bind fun o => ke_same fun e x e' h => by
  split at h
  · split at h
    · cases h; rfl
    · cases h
  · cases h
instance {f : M (List Opd)} [Ke V f] : Ke V (dRange1 f) := ke_bind fun os => ke_same fun e x e' h => by
  split at h
  · split at h
    · cases h; rfl
    · cases h
  · cases h
instance {f : M (List Opd)} [Ke V f] : Ke V (dRange2 f) := ke_bind fun os => ke_same fun e x e' h => by
  split at h
  · split at h
    · cases h; rfl
    · cases h
  · cases h
instance {fa fb : M Opd} [Ke V fa] [hb : Ke V fb] : Ke V (dReprNe fa fb) := ke_bind fun oa => ⟨fun {e x e'} h => by
  unfold rnA at h
  split at h
  · split at h
    · skip
      cases z : fb e with
      | ok ob e1 =>
        rw [z] at h
        refine (hb.ke z).trans ?_
        have h : rnB _ ob e1 = .ok x e' := h
        unfold rnB at h
        split at h
        · split at h
          · cases h; exact Kx.refl _
          · cases h
        · cases h
      | exc a e1 => rw [z] at h; cases h
      | stuck => rw [z] at h; cases h
    · cases h
  · cases h⟩
instance {g : D → D → Option Slot} {is : D → Bool} {fo : M Opd} {fa : M (List Opd)} [Ke V fo] [ha : Ke V fa] : Ke V (dIndex g is fo fa) := ke_bind fun o => ⟨fun {e x e'} h => by
  unfold idxM at h
  split at h
  · split at h
    · cases z : fa e with
      | ok os e1 =>
        rw [z] at h
        refine (ha.ke z).trans ?_
        have h : idxK g o os e1 = .ok x e' := h
        unfold idxK at h
        split at h
        · split at h
          · cases h; exact Kx.refl _
          · cases h
        · cases h
      | exc a e1 => rw [z] at h; cases h
      | stuck => rw [z] at h; cases h
    · cases h
  · cases h⟩
instance {i : Nat} {W : List Nat} [h : InW i W] : KeG W (gSet i) := ⟨fun {d e e'} q => by
  unfold gSet at q
  split at q
  · cases q; exact Kx.setW h.mem
  · cases q⟩
instance {W : List Nat} : KeGs W gsNil := ⟨fun {d e e'} q => by
  unfold gsNil at q
  split at q
  · cases q; exact Kx.refl _
  · cases q⟩
instance {W : List Nat} {g : Tg} {k : List D → Dl.Env → Option Dl.Env} [hg : KeG W g] [hk : KeGs W k] : KeGs W (gsCons g k) := ⟨fun {d e e'} q => by
  unfold gsCons at q
  split at q
  · cases q
  · split at q
    · rename_i z; exact (hg.ke z).trans (hk.ke q)
    · cases q⟩
instance {W : List Nat} {n : Nat} {k : List D → Dl.Env → Option Dl.Env} [hk : KeGs W k] : KeG W (gTupD n k) := ⟨fun {d e e'} q => by
  unfold gTupD at q
  split at q
  · split at q
    · exact hk.ke q
    · cases q
  · split at q
    · exact hk.ke q
    · cases q
  · cases q⟩
theorem Kx.wipe {W : List Nat} (e : Dl.Env) : ∀ vs, (∀ v ∈ vs, v ∈ W) → Kx W V e (wipeE e vs)
  | [], _ => Kx.refl _
  | v :: vs, h => (Kx.wipe e vs fun x hx => h x (List.mem_cons_of_mem _ hx)).trans (Kx.setW (h v (List.mem_cons_self ..)))
theorem unwipe_len {e0 e : Dl.Env} : ∀ vs, (Dl.unwipe e0 e vs).length = e.length
  | [] => rfl
  | v :: vs => by
    show ((Dl.unwipe e0 e vs).set v _).length = _
    rw [List.length_set, unwipe_len vs]
theorem unwipe_get {e0 e : Dl.Env} (hl : e.length = e0.length) {i : Nat} {d : D} (h0 : e0[i]? = some (.sh d)) : ∀ vs, (i ∈ vs ∨ e[i]? = some (.sh d)) → (Dl.unwipe e0 e vs)[i]? = some (.sh d)
  | [], h => by
    rcases h with h | h
    · cases h
    · exact h
  | v :: vs, h => by
    show ((Dl.unwipe e0 e vs).set v _)[i]? = _
    by_cases z : v = i
    · subst z
      rw [List.getElem?_set_self (by rw [unwipe_len, hl]; exact (List.getElem?_eq_some_iff.mp h0).1), h0]
      rfl
    · rw [List.getElem?_set_ne z]
      refine unwipe_get hl h0 vs ?_
      rcases h with h | h
      · rcases List.mem_cons.mp h with h | h
        · exact absurd h.symm z
        · exact .inl h
      · exact .inr h
theorem lcL_ke {vs : List Nat} {g : Tg} {ifs : M Bool} {elt : M Slot} [hg : KeG vs g] [hi : Ke V ifs] [he : Ke V elt] : ∀ {l : List D} {e e' : Dl.Env} {x : List D}, lcL vs g ifs elt l e = .ok x e' → Kx vs V e e'
  | [], e, e', x, h => by cases h; exact Kx.refl _
  | d :: r, e, e', x, h => by
    unfold lcL at h
    split at h
    · cases h
    · rename_i e1 h1
      have k1 : Kx vs V e e1 := hg.ke h1
      split at h
      · rename_i e2 h2
        have k2 : Kx vs V e e2 := k1.trans (hi.ke h2).mono
        split at h
        · cases h
        · rename_i s e3 _ h3
          have k3 : Kx vs V e e3 := k2.trans (he.ke h3).mono
          split at h
          · rename_i more e4 h4
            cases h
            exact (k3.trans (Kx.wipe e3 vs fun _ h => h)).trans (lcL_ke h4)
          · cases h
        · cases h
      · rename_i e2 h2
        have k2 : Kx vs V e e2 := k1.trans (hi.ke h2).mono
        exact (k2.trans (Kx.wipe e2 vs fun _ h => h)).trans (lcL_ke h)
      · cases h
theorem unwipe_other {e0 e : Dl.Env} {i : Nat} : ∀ vs, i ∉ vs → (Dl.unwipe e0 e vs)[i]? = e[i]?
  | [], _ => rfl
  | v :: vs, h => by
    show ((Dl.unwipe e0 e vs).set v _)[i]? = _
    rw [List.getElem?_set_ne fun z => h (by rw [z]; exact List.mem_cons_self ..)]
    exact unwipe_other vs fun z => h (List.mem_cons_of_mem _ z)
instance {f : M (List D)} {vs : List Nat} {g : Tg} {ifs : M Bool} {elt : M Slot} [Ke V f] [KeG vs g] [Ke V ifs] [Ke V elt] [hsub : SubW vs V] : Ke V (dLc f vs g ifs elt) := ke_bind fun items => ⟨fun {e x e'} h => by
  split at h
  · unfold lcEnd at h
    split at h
    · rename_i more e1 h1
      cases h
      have k : Kx vs V e e1 := (Kx.wipe e vs fun _ h => h).trans (lcL_ke h1)
      refine ⟨(unwipe_len vs).trans k.1, fun i d _ q => unwipe_get k.1 q vs ?_, fun i s _ hv q => ?_⟩
      · by_cases z : i ∈ vs
        · exact .inl z
        · exact .inr (k.2.1 i d z q)
      · have z : i ∉ vs := fun z => hv (hsub.sub i z)
        rw [unwipe_other vs z]
        exact k.2.2 i s z hv q
    · cases h
  · cases h⟩
/-! statements -/
theorem fl_nx {α : Type} {r : Out α} {k : α → Sm} {e' : Dl.Env} (h : r.fl k = .nx e' ∨ r.fl k = .ct e' ∨ r.fl k = .bk e') : ∃ x e1, r = .ok x e1 ∧ (k x e1 = .nx e' ∨ k x e1 = .ct e' ∨ k x e1 = .bk e') := by
  cases r with
  | ok x e1 => exact ⟨x, e1, rfl, h⟩
  | exc x e1 => rcases h with h | h | h <;> cases h
  | stuck => rcases h with h | h | h <;> cases h
instance {W : List Nat} : KeS W V sNext := ⟨fun h => by rcases h with h | h | h <;> cases h; exact Kx.refl _⟩
instance {W : List Nat} : KeS W V (fun _ => Fl.stuck : Sm) := ⟨fun h => by rcases h with h | h | h <;> cases h⟩
instance {W : List Nat} {f : M Slot} : KeS W V (sRet f) := ⟨fun h => by
  obtain ⟨x, e1, _, h⟩ := fl_nx h
  rcases h with h | h | h <;> cases h⟩
instance {W : List Nat} {i : Nat} {f : M Slot} [hf : Ke V f] [hi : InW i W] : KeS W V (sSet i f) := ⟨fun h => by
  obtain ⟨x, e1, h1, h⟩ := fl_nx h
  refine (hf.ke h1).mono.trans ?_
  unfold sPut at h
  cases x with
  | un => rcases h with h | h | h <;> cases h
  | _ =>
    simp only at h
    split at h
    · rcases h with h | h | h <;> cases h; exact Kx.setW hi.mem
    · rcases h with h | h | h <;> cases h⟩
instance {W : List Nat} {f g : Sm} [hf : KeS W V f] [hg : KeS W V g] : KeS W V (Sm.seq f g) := ⟨fun {e e'} h => by
  unfold Sm.seq at h
  cases q : f e with
  | nx e1 => rw [q] at h; exact (hf.ke (.inl q)).trans (hg.ke h)
  | ct e1 => rw [q] at h; rcases h with h | h | h <;> cases h; exact hf.ke (.inr (.inl q))
  | bk e1 => rw [q] at h; rcases h with h | h | h <;> cases h; exact hf.ke (.inr (.inr q))
  | rt s e1 => rw [q] at h; rcases h with h | h | h <;> cases h
  | exc s e1 => rw [q] at h; rcases h with h | h | h <;> cases h
  | stuck => rw [q] at h; rcases h with h | h | h <;> cases h⟩
instance {W : List Nat} {c : M Bool} {f g : Sm} [hc : Ke V c] [hf : KeS W V f] [hg : KeS W V g] : KeS W V (sIf c f g) := ⟨fun h => by
  obtain ⟨x, e1, h1, h⟩ := fl_nx h
  refine (hc.ke h1).mono.trans ?_
  cases x with
  | true => exact hf.ke h
  | false => exact hg.ke h⟩
theorem forL_ke {W : List Nat} {g : Tg} {body : Sm} [hg : KeG W g] [hb : KeS W V body] : ∀ {l : List D} {e e' : Dl.Env}, (forL g body l e = .nx e' ∨ forL g body l e = .ct e' ∨ forL g body l e = .bk e') → Kx W V e e'
  | [], e, e', h => by rcases h with h | h | h <;> cases h; exact Kx.refl _
  | d :: r, e, e', h => by
    unfold forL at h
    cases q1 : g d e with
    | none => rw [q1] at h; rcases h with h | h | h <;> cases h
    | some e1 =>
      rw [q1] at h
      simp only at h
      cases q : body e1 with
      | nx e2 => rw [q] at h; exact ((hg.ke q1).trans (hb.ke (.inl q))).trans (forL_ke h)
      | ct e2 => rw [q] at h; exact ((hg.ke q1).trans (hb.ke (.inr (.inl q)))).trans (forL_ke h)
      | bk e2 => rw [q] at h; rcases h with h | h | h <;> cases h; exact (hg.ke q1).trans (hb.ke (.inr (.inr q)))
      | rt s e1 => rw [q] at h; rcases h with h | h | h <;> cases h
      | exc s e1 => rw [q] at h; rcases h with h | h | h <;> cases h
      | stuck => rw [q] at h; rcases h with h | h | h <;> cases h
instance {W : List Nat} {f : M (List D)} {g : Tg} {body : Sm} [hf : Ke V f] [KeG W g] [KeS W V body] : KeS W V (sFor f g body) := ⟨fun h => by
  obtain ⟨x, e1, h1, h⟩ := fl_nx h
  exact (hf.ke h1).mono.trans (forL_ke h)⟩
/-- a slot that is known comes to what is known -/
theorem Le.know {a b : Dl.Env} {i : Nat} {s : Slot} (h : Le a b) (hb : b[i]? = some s) : Le (a.set i s) b := by
  induction h generalizing i with
  | nil => exact .nil
  | un h ih => cases i with
    | zero => cases hb; exact .eq h
    | succ i => exact .un (ih (i := i) hb)
  | eq h ih => cases i with
    | zero => cases hb; exact .eq h
    | succ i => exact .eq (ih (i := i) hb)
/-- what is not known may be anything -/
theorem Le.any {a b : Dl.Env} {i : Nat} {s : Slot} (h : Le a b) (ha : a[i]? = some .un) : Le a (b.set i s) := by
  induction h generalizing i with
  | nil => exact .nil
  | un h ih => cases i with
    | zero => exact .un h
    | succ i => exact .un (ih (i := i) ha)
  | eq h ih => cases i with
    | zero => cases ha; exact .un h
    | succ i => exact .eq (ih (i := i) ha)
end Dl
set_option Elab.async false
set_option linter.all false
namespace Dl
open PySem PySem.Spec PyProof.Rows L2
/-! ### the same, quicker in the kernel -/
noncomputable def nthQ {α : Type} (l : List α) (i : Nat) : Option α := Nat.rec (motive := fun _ => List α → Option α) (fun l => List.rec (motive := fun _ => Option α) none (fun h _ _ => some h) l) (fun _ ih l => List.rec (motive := fun _ => Option α) none (fun _ t _ => ih t) l) i l
theorem nthQ_eq {α : Type} : ∀ (i : Nat) (l : List α), nthQ l i = l[i]?
  | 0, [] => rfl
  | 0, _ :: _ => rfl
  | _ + 1, [] => rfl
  | i + 1, _ :: t => (show nthQ _ (i + 1) = nthQ t i from rfl).trans ((nthQ_eq i t).trans (by simp))
noncomputable def setQ {α : Type} (l : List α) (i : Nat) (s : α) : List α := Nat.rec (motive := fun _ => List α → List α) (fun l => List.rec (motive := fun _ => List α) [] (fun _ t _ => s :: t) l) (fun _ ih l => List.rec (motive := fun _ => List α) [] (fun h t _ => h :: ih t) l) i l
theorem setQ_eq {α : Type} {s : α} : ∀ (i : Nat) (l : List α), setQ l i s = l.set i s
  | 0, [] => rfl
  | 0, _ :: _ => rfl
  | _ + 1, [] => rfl
  | i + 1, h :: t => by
    show h :: setQ t i s = h :: t.set i s
    rw [setQ_eq i t]
noncomputable def lenQ {α : Type} (l : List α) : Nat := List.rec (motive := fun _ => Nat) 0 (fun _ _ n => Nat.succ n) l
theorem lenQ_eq {α : Type} : ∀ (l : List α), lenQ l = l.length
  | [] => rfl
  | _ :: t => congrArg Nat.succ (lenQ_eq t)
noncomputable def getQ (o : Opd) (e : Dl.Env) : Option D := Opd.rec (motive := fun _ => Option D) (fun i => Option.rec (motive := fun _ => Option D) none (fun s => Slot.rec (motive := fun _ => Option D) s.rd (fun d => some d) (fun _ => s.rd) (fun _ _ _ => s.rd) (fun _ => s.rd) (fun _ _ _ => s.rd) (fun _ _ => s.rd) s) (nthQ e i)) (fun d => some d) o
theorem getQ_eq (o : Opd) (e : Dl.Env) : getQ o e = o.get e := by
  cases o with
  | val d => rfl
  | «at» i =>
    show @Option.rec _ (fun _ => Option D) _ _ (nthQ e i) = (match e[i]? with | some s => s.rd | none => none)
    rw [nthQ_eq]
    cases e[i]? with
    | none => rfl
    | some s => cases s <;> rfl
noncomputable def dNameQ (i : Nat) : M Opd := fun e => Option.rec (motive := fun _ => Out Opd) .stuck (fun s => Slot.rec (motive := fun _ => Out Opd) .stuck (fun _ => .ok (.at i) e) (fun _ => .ok (.at i) e) (fun _ _ _ => .ok (.at i) e) (fun _ => .ok (.at i) e) (fun _ _ _ => .ok (.at i) e) (fun _ _ => .ok (.at i) e) s) (nthQ e i)
theorem dNameQ_eq : dNameQ = dName := by
  funext i e
  unfold dNameQ dName
  rw [nthQ_eq]
  cases e[i]? with
  | none => rfl
  | some s => cases s <;> rfl
noncomputable def dTakeQ (i : Nat) : M Slot := fun e => Option.rec (motive := fun _ => Out Slot) .stuck (fun s => Slot.rec (motive := fun _ => Out Slot) .stuck (fun d => .ok (.sh d) e) (fun _ => dTake i e) (fun _ _ _ => dTake i e) (fun _ => dTake i e) (fun _ _ _ => dTake i e) (fun _ _ => dTake i e) s) (nthQ e i)
theorem dTakeQ_eq : dTakeQ = dTake := by
  funext i e
  unfold dTakeQ
  rw [nthQ_eq]
  cases q : e[i]? with
  | none => unfold dTake; rw [q]
  | some s => cases s <;> first | rfl | (unfold dTake; rw [q])
/-- a name's value, to be shared -/
noncomputable def takeF (i : Nat) : M Opd := fun e => Option.rec (motive := fun _ => Out Opd) .stuck (fun s => Slot.rec (motive := fun _ => Out Opd) .stuck (fun d => .ok (.val d) e) (fun _ => dFix (dTake i) e) (fun _ _ _ => dFix (dTake i) e) (fun _ => dFix (dTake i) e) (fun _ _ _ => dFix (dTake i) e) (fun _ _ => dFix (dTake i) e) s) (nthQ e i)
theorem takeF_eq : takeF = fun i => dFix (dTake i) := by
  funext i e
  unfold takeF
  rw [nthQ_eq]
  cases q : e[i]? with
  | none => unfold dFix M.bind dTake; rw [q]; rfl
  | some s => cases s <;> first | rfl | (unfold dFix M.bind dTake; rw [q]; rfl)
noncomputable def op2K (g : D → D → Option Slot) (x y : Option D) (e : Dl.Env) : Out Slot := Option.rec (motive := fun _ => Out Slot) .stuck (fun x => Option.rec (motive := fun _ => Out Slot) .stuck (fun y => Option.rec (motive := fun _ => Out Slot) .stuck (fun s => .ok s e) (g x y)) y) x
theorem op2K_eq {g : D → D → Option Slot} {x y : Option D} {e : Dl.Env} : op2K g x y e = (match x, y with
    | some x, some y => (match g x y with
      | some s => .ok s e
      | none => .stuck)
    | _, _ => .stuck) := by
  cases x with
  | none => rfl
  | some x => cases y with
    | none => rfl
    | some y =>
      show @Option.rec _ (fun _ => Out Slot) _ _ (g x y) = _
      simp only
      cases g x y <;> rfl
noncomputable def dOp2Q (g : D → D → Option Slot) (fa fb : M Opd) : M Slot := fun e => Out.rec (motive := fun _ => Out Slot) (fun oa e1 => Out.rec (motive := fun _ => Out Slot) (fun ob e2 => op2K g (getQ oa e2) (getQ ob e2) e2) (fun x e => .exc x e) .stuck (fb e1)) (fun x e => .exc x e) .stuck (fa e)
theorem dOp2Q_eq : dOp2Q = dOp2 := by
  funext g fa fb e
  unfold dOp2Q dOp2 M.bind
  cases fa e with
  | ok oa e1 =>
    show @Out.rec _ (fun _ => Out Slot) _ _ _ (fb e1) = Out.bind (fb e1) _
    cases fb e1 with
    | ok ob e2 =>
      show op2K g (getQ oa e2) (getQ ob e2) e2 = _
      rw [op2K_eq, getQ_eq, getQ_eq]; rfl
    | exc x e => rfl
    | stuck => rfl
  | exc x e => rfl
  | stuck => rfl
/-- both are names -/
noncomputable def op2nn (g : D → D → Option Slot) (i j : Nat) : M Slot := fun e => Out.rec (motive := fun _ => Out Slot) (fun oa _ => Out.rec (motive := fun _ => Out Slot) (fun ob _ => op2K g (getQ oa e) (getQ ob e) e) (fun x e => .exc x e) .stuck (dNameQ j e)) (fun x e => .exc x e) .stuck (dNameQ i e)
theorem name_env {i : Nat} {e e1 : Dl.Env} {o : Opd} (h : dName i e = .ok o e1) : e1 = e ∧ o = .at i := by
  unfold dName at h
  split at h <;> cases h
  exact ⟨rfl, rfl⟩
theorem name_exc {i : Nat} {e e1 : Dl.Env} {x : Exn} (h : dName i e = .exc x e1) : False := by
  unfold dName at h
  split at h <;> cases h
noncomputable def dFixQ (f : M Slot) : M Opd := fun e => Out.rec (motive := fun _ => Out Opd) (fun s e => Slot.rec (motive := fun _ => Out Opd) .stuck (fun d => .ok (.val d) e) (fun _ => .ok (.val s.d) e) (fun _ _ _ => .ok (.val s.d) e) (fun _ => .ok (.val s.d) e) (fun _ _ _ => .ok (.val s.d) e) (fun _ _ => .ok (.val s.d) e) s) (fun x e => .exc x e) .stuck (f e)
theorem dFixQ_eq : dFixQ = dFix := by
  funext f e
  unfold dFixQ dFix M.bind
  cases f e with
  | ok s e => cases s <;> rfl
  | exc x e => rfl
  | stuck => rfl
noncomputable def dConsQ (f : M Opd) (g : M (List Opd)) : M (List Opd) := fun e => Out.rec (motive := fun _ => Out (List Opd)) (fun o e => Out.rec (motive := fun _ => Out (List Opd)) (fun os e => .ok (o :: os) e) (fun x e => .exc x e) .stuck (g e)) (fun x e => .exc x e) .stuck (f e)
theorem dConsQ_eq : dConsQ = dCons := by
  funext f g e
  unfold dConsQ dCons M.bind
  cases f e with
  | ok o e1 =>
    show @Out.rec _ (fun _ => Out (List Opd)) _ _ _ (g e1) = Out.bind (g e1) _
    cases g e1 <;> rfl
  | exc x e => rfl
  | stuck => rfl
/-! targets -/
noncomputable def gSetQ (i : Nat) : Tg := fun d e => Bool.rec (motive := fun _ => Option Dl.Env) none (some (setQ e i (.sh d))) (Nat.blt i (lenQ e))
theorem gSetQ_eq : gSetQ = gSet := by
  funext i d e
  unfold gSetQ gSet
  rw [setQ_eq, lenQ_eq]
  by_cases h : i < e.length
  · rw [if_pos h, show Nat.blt i e.length = true from Nat.ble_eq_true_of_le h]
  · rw [if_neg h, show Nat.blt i e.length = false from by
      cases q : Nat.blt i e.length with
      | false => rfl
      | true => exact absurd (Nat.le_of_ble_eq_true q) h]
noncomputable def wipeQ (e : Dl.Env) (vs : List Nat) : Dl.Env := List.rec (motive := fun _ => Dl.Env) e (fun v _ ih => setQ ih v .un) vs
theorem wipeQ_eq {e : Dl.Env} : ∀ vs, wipeQ e vs = wipeE e vs
  | [] => rfl
  | v :: vs => by
    show setQ (wipeQ e vs) v .un = (wipeE e vs).set v .un
    rw [setQ_eq, wipeQ_eq vs]
noncomputable def unwipeQ (e0 e : Dl.Env) (vs : List Nat) : Dl.Env := List.rec (motive := fun _ => Dl.Env) e (fun v _ ih => setQ ih v (Option.rec (motive := fun _ => Slot) .un (fun s => keepSh s) (nthQ e0 v))) vs
theorem unwipeQ_eq {e0 e : Dl.Env} : ∀ vs, unwipeQ e0 e vs = unwipe e0 e vs
  | [] => rfl
  | v :: vs => by
    show setQ (unwipeQ e0 e vs) v (@Option.rec _ (fun _ => Slot) _ _ (nthQ e0 v)) = (unwipe e0 e vs).set v (match e0[v]? with
    | some s => keepSh s
    | none => .un)
    rw [setQ_eq, unwipeQ_eq vs, nthQ_eq]
    cases e0[v]? <;> rfl
/-! comprehensions and loops -/
noncomputable def lcLQ (vs : List Nat) (g : Tg) (ifs : M Bool) (elt : M Slot) (l : List D) : M (List D) := List.rec (motive := fun _ => M (List D)) (fun e => .ok [] e)
  (fun d _ ih e => Option.rec (motive := fun _ => Out (List D)) .stuck (fun e1 => Out.rec (motive := fun _ => Out (List D)) (fun b e2 => Bool.rec (motive := fun _ => Out (List D)) (ih (wipeQ e2 vs))
    (Out.rec (motive := fun _ => Out (List D)) (fun s e3 => Out.rec (motive := fun _ => Out (List D)) (fun more e4 => Slot.rec (motive := fun _ => Out (List D)) .stuck (fun d => .ok (d :: more) e4) (fun _ => .ok (s.d :: more) e4) (fun _ _ _ => .ok (s.d :: more) e4) (fun _ => .ok (s.d :: more) e4) (fun _ _ _ => .ok (s.d :: more) e4) (fun _ _ => .ok (s.d :: more) e4) s) (fun _ _ => .stuck) .stuck (ih (wipeQ e3 vs))) (fun _ _ => .stuck) .stuck (elt e2)) b) (fun _ _ => .stuck) .stuck (ifs e1)) (g d e)) l
theorem lcLQ_eq {vs : List Nat} {g : Tg} {ifs : M Bool} {elt : M Slot} : ∀ (l : List D) (e : Dl.Env), lcLQ vs g ifs elt l e = lcL vs g ifs elt l e
  | [], e => rfl
  | d :: r, e => by
    unfold lcL
    show @Option.rec _ (fun _ => Out (List D)) _ _ (g d e) = _
    cases g d e with
    | none => rfl
    | some e1 =>
      show @Out.rec _ (fun _ => Out (List D)) _ _ _ (ifs e1) = _
      simp only
      cases ifs e1 with
      | exc x e => rfl
      | stuck => rfl
      | ok b e2 =>
        cases b with
        | false =>
          show lcLQ vs g ifs elt r (wipeQ e2 vs) = lcL vs g ifs elt r (wipeE e2 vs)
          rw [lcLQ_eq r, wipeQ_eq]
        | true =>
          show @Out.rec _ (fun _ => Out (List D)) _ _ _ (elt e2) = _
          simp only
          cases elt e2 with
          | exc x e => rfl
          | stuck => rfl
          | ok s e3 =>
            show @Out.rec _ (fun _ => Out (List D)) _ _ _ (lcLQ vs g ifs elt r (wipeQ e3 vs)) = _
            rw [lcLQ_eq r, wipeQ_eq]
            cases s with
            | un => cases lcL vs g ifs elt r (wipeE e3 vs) <;> rfl
            | _ => simp only; cases lcL vs g ifs elt r (wipeE e3 vs) <;> rfl
noncomputable def dLcQ (f : M (List D)) (vs : List Nat) (g : Tg) (ifs : M Bool) (elt : M Slot) : M Slot := fun e => Out.rec (motive := fun _ => Out Slot)
  (fun items e => Bool.rec (motive := fun _ => Out Slot) .stuck (Out.rec (motive := fun _ => Out Slot) (fun more e1 => .ok (.ol more) (unwipeQ e e1 vs)) (fun _ _ => .stuck) .stuck (lcLQ vs g ifs elt items (wipeQ e vs))) (Nat.ble (lenQ items) 16777216)) (fun x e => .exc x e) .stuck (f e)
theorem dLcQ_eq : dLcQ = dLc := by
  funext f vs g ifs elt e
  unfold dLcQ dLc M.bind
  cases f e with
  | exc x e => rfl
  | stuck => rfl
  | ok items e =>
    show @Bool.rec (fun _ => Out Slot) _ _ (Nat.ble (lenQ items) 16777216) = (if lenOk items.length = true then lcEnd e vs [] (lcL vs g ifs elt items (wipeE e vs)) else .stuck)
    rw [lenQ_eq, show Nat.ble items.length 16777216 = lenOk items.length from rfl]
    cases lenOk items.length with
    | false => rfl
    | true =>
      rw [if_pos rfl]
      show @Out.rec _ (fun _ => Out Slot) _ _ _ (lcLQ vs g ifs elt items (wipeQ e vs)) = _
      rw [lcLQ_eq, wipeQ_eq]
      cases lcL vs g ifs elt items (wipeE e vs) with
      | exc x e => rfl
      | stuck => rfl
      | ok more e1 =>
        show Out.ok (Slot.ol more) (unwipeQ e e1 vs) = .ok (.ol ([] ++ more)) (unwipe e e1 vs)
        rw [unwipeQ_eq]; rfl
noncomputable def forLQ (g : Tg) (body : Sm) (l : List D) : Sm := List.rec (motive := fun _ => Sm) (fun e => .nx e) (fun d _ ih e => Option.rec (motive := fun _ => Fl) .stuck (fun e1 => Fl.rec (motive := fun _ => Fl) (fun e2 => ih e2) (fun s e => .rt s e) (fun e => .nx e) (fun e2 => ih e2) (fun x e => .exc x e) .stuck (body e1)) (g d e)) l
theorem forLQ_eq {g : Tg} {body : Sm} : ∀ (l : List D) (e : Dl.Env), forLQ g body l e = forL g body l e
  | [], e => rfl
  | d :: r, e => by
    unfold forL
    show @Option.rec _ (fun _ => Fl) _ _ (g d e) = _
    cases g d e with
    | none => rfl
    | some e1 =>
      show @Fl.rec (fun _ => Fl) _ _ _ _ _ _ (body e1) = _
      simp only
      cases body e1 with
      | nx e2 => exact forLQ_eq r e2
      | ct e2 => exact forLQ_eq r e2
      | _ => rfl
noncomputable def sForQ (f : M (List D)) (g : Tg) (body : Sm) : Sm := fun e => Out.rec (motive := fun _ => Fl) (fun items e => forLQ g body items e) (fun x e => .exc x e) .stuck (f e)
theorem sForQ_eq : sForQ = sFor := by
  funext f g body e
  unfold sForQ sFor
  cases f e with
  | ok items e => exact forLQ_eq items e
  | exc x e => rfl
  | stuck => rfl
noncomputable def putQ (i : Nat) (s : Slot) (e : Dl.Env) : Fl := Bool.rec (motive := fun _ => Fl) .stuck (.nx (setQ e i s)) (Nat.blt i (lenQ e))
theorem putQ_eq {i : Nat} {s : Slot} {e : Dl.Env} : putQ i s e = if i < e.length then .nx (e.set i s) else .stuck := by
  unfold putQ
  rw [setQ_eq, lenQ_eq]
  by_cases h : i < e.length
  · rw [if_pos h, show Nat.blt i e.length = true from Nat.ble_eq_true_of_le h]
  · rw [if_neg h, show Nat.blt i e.length = false from by
      cases q : Nat.blt i e.length with
      | false => rfl
      | true => exact absurd (Nat.le_of_ble_eq_true q) h]
noncomputable def sSetQ (i : Nat) (f : M Slot) : Sm := fun e => Out.rec (motive := fun _ => Fl) (fun s e => Slot.rec (motive := fun _ => Fl) .stuck (fun d => putQ i (.sh d) e) (fun l => putQ i (.ol l) e) (fun _ _ _ => putQ i s e) (fun _ => putQ i s e) (fun _ _ _ => putQ i s e) (fun _ _ => putQ i s e) s) (fun x e => .exc x e) .stuck (f e)
theorem sSetQ_eq : sSetQ = sSet := by
  funext i f e
  unfold sSetQ sSet
  cases f e with
  | ok s e =>
    cases s with
    | un => rfl
    | _ => exact putQ_eq
  | exc x e => rfl
  | stuck => rfl
noncomputable def seqQ (f g : Sm) : Sm := fun e => Fl.rec (motive := fun _ => Fl) (fun e => g e) (fun s e => .rt s e) (fun e => .bk e) (fun e => .ct e) (fun x e => .exc x e) .stuck (f e)
theorem seqQ_eq : seqQ = Sm.seq := by
  funext f g e
  unfold seqQ Sm.seq
  cases f e <;> rfl
/-! a place in a sequence -/
noncomputable def atQ (l : List D) (i : Int) : Option D := Int.rec (motive := fun _ => Option D) (fun n => nthQ l n) (fun _ => atI l i) i
theorem atQ_eq (l : List D) (i : Int) : atQ l i = atI l i := by
  cases i with
  | negSucc n => rfl
  | ofNat n =>
    show nthQ l n = _
    rw [nthQ_eq]
    show l[n]? = atI l ((n : Nat) : Int)
    unfold atI ixN
    rw [if_pos (Int.natCast_nonneg n)]
    by_cases h : ((n : Nat) : Int) < l.length
    · rw [if_pos h]; rfl
    · rw [if_neg h, List.getElem?_eq_none (by omega)]; rfl
noncomputable def gIxQ (x y : D) : Option Slot := D.rec (motive_1 := fun _ => Option Slot) (motive_2 := fun _ => PUnit) (gIx x y) (fun _ => gIx x y) (fun _ => gIx x y) (fun _ => gIx x y)
  (fun l _ => D.rec (motive_1 := fun _ => Option Slot) (motive_2 := fun _ => PUnit) (gIx x y) (fun _ => gIx x y) (fun i => Option.rec (motive := fun _ => Option Slot) none (fun d => some (.sh d)) (atQ l i)) (fun _ => gIx x y) (fun _ _ => gIx x y) (fun _ _ => gIx x y) (fun _ _ => gIx x y) (fun _ _ => gIx x y) (fun _ _ _ _ => gIx x y) (fun _ _ _ _ => gIx x y) (fun _ _ _ _ => gIx x y) .unit (fun _ _ _ _ => .unit) y)
  (fun l _ => D.rec (motive_1 := fun _ => Option Slot) (motive_2 := fun _ => PUnit) (gIx x y) (fun _ => gIx x y) (fun i => Option.rec (motive := fun _ => Option Slot) none (fun d => some (.sh d)) (atQ l i)) (fun _ => gIx x y) (fun _ _ => gIx x y) (fun _ _ => gIx x y) (fun _ _ => gIx x y) (fun _ _ => gIx x y) (fun _ _ _ _ => gIx x y) (fun _ _ _ _ => gIx x y) (fun _ _ _ _ => gIx x y) .unit (fun _ _ _ _ => .unit) y)
  (fun _ _ => gIx x y)
  (fun l _ => D.rec (motive_1 := fun _ => Option Slot) (motive_2 := fun _ => PUnit) (gIx x y) (fun _ => gIx x y) (fun i => Option.rec (motive := fun _ => Option Slot) none (fun d => some (.sh d)) (atQ l i)) (fun _ => gIx x y) (fun _ _ => gIx x y) (fun _ _ => gIx x y) (fun _ _ => gIx x y) (fun _ _ => gIx x y) (fun _ _ _ _ => gIx x y) (fun _ _ _ _ => gIx x y) (fun _ _ _ _ => gIx x y) .unit (fun _ _ _ _ => .unit) y)
  (fun _ _ _ _ => gIx x y) (fun _ _ _ _ => gIx x y) (fun _ _ _ _ => gIx x y) .unit (fun _ _ _ _ => .unit) x
theorem ixK_eq (l : List D) (i : Int) : Option.rec (motive := fun _ => Option Slot) none (fun d => some (.sh d)) (atQ l i) = (atI l i).map Slot.sh := by
  rw [atQ_eq]
  cases atI l i <;> rfl
theorem gIxQ_eq : gIxQ = gIx := by
  funext x y
  cases x with
  | tup l => cases y <;> first | exact ixK_eq l _ | rfl
  | lst l => cases y <;> first | exact ixK_eq l _ | rfl
  | tz l => cases y <;> first | exact ixK_eq l _ | rfl
  | _ => rfl
end Dl
set_option Elab.async false
set_option linter.all false
set_option maxRecDepth 100000
set_option maxHeartbeats 4000000
namespace Dl
open PySem PySem.Spec PyProof.Rows L2
/-! ### several clauses 'except X as n' (from HandS.TryMany and HandS.Exc's ps_try_as) -/
abbrev HdL := List (Value × Nat × (Addr → Value → Option Addr → TS))
def endsAt (i : Nat) (D : Ends) : Ends := { nx := fun σ' H' => D.nx (σ'.set i none) H', rt := D.rt, bk := fun σ' H' => D.bk (σ'.set i none) H', ct := fun σ' H' => D.ct (σ'.set i none) H' }
def wManyA (K : PySem.W.Frag) (Wout : WX) (D : Ends) : HdL → WX
  | [] => Wout
  | (c, i, ts) :: r => fun cls d σ H => ∃ b, PySem.W.exmOne K cls c = some b ∧ (b = true → ∀ a, H a = none → ts a cls d (endsAt i D) (σ.set i (some (.ref a))) H) ∧ (b = false → wManyA K Wout D r cls d σ H)
inductive HdsA (X : Cx) : List ExceptHandler → HdL → Prop
  | nil : HdsA X [] []
  | cons {x n : Str} {c : Value} {i : Nat} {ts : Addr → Value → Option Addr → TS} {b₀ : Stmt} {suite : List Stmt} {np pos' : Pos} {hds : List ExceptHandler} {l : HdL} (hc : Names X x c) (hi : X.N[i]? = some n) (hln : X.env.kindOf n = some .local)
      (hsu : ∀ (a : Addr) (oe : Obj) (cls : Value) (d : Option Addr) (pn : List (Addr × Obj)), Zc cls d oe → (∃ vs, oe.data = .fields vs) → PSs (X.suite a ((a, oe) :: pn)) (b₀ :: suite) (ts a cls d)) (r : HdsA X hds l) :
      HdsA X (.ExceptHandler (some (.Name x np)) (some n) (b₀ :: suite) pos' :: hds) ((c, i, ts) :: l)
section
variable {X : Cx} {body : List Stmt} {h₀ : ExceptHandler} {hds : List ExceptHandler} {l : HdL} {pos : Pos} {tb : WX → TS} {Wout : WX}
theorem ps_try_manyA (hs : X.stack = X.env :: X.outer) (hf : X.env.frame = some X.env.locals) (hN : X.N.Nodup) (tk : L2.Takes X Wout)
    (hb : ∀ (W : WX) (pn : List (Addr × Obj)) (xe : Value → Shared → Prop), L2.Takes (X.tr pn xe) W → PassesOwn (model X.prog X.w) X.A X.env xe → PSs (X.tr pn xe) body (tb W))
    (hh : HdsA X (h₀ :: hds) l) : PS X (.Try body (h₀ :: hds) [] [] pos) (fun D σ H => tb (wManyA X.K Wout D l) D σ H) := by
  refine ⟨fun pins s σ H D I h => ?_⟩
  have ok := I.ok
  have hfr : X.A.frames = some (X.env :: X.outer) := by rw [ok.frames, hs]
  refine wpAny_Try_except ?_
  refine wpAny_mono ((hb (wManyA X.K Wout D l) (X.pn ++ pins) (fun e s₁ => wpAny (model X.prog X.w) X.A (noteFrame e X.env) (fun _ s₂ => wpAny (model X.prog X.w) X.A (setFlight e none) (fun _ s₃ =>
    wpAny (model X.prog X.w) X.A (handleBy e X.env (h₀ :: hds)) (SP X pins D) X.xe s₃) X.xe s₂) X.xe s₁) (fun u s' xx => ?_) PassesOwn.looking).run [] s σ H D (I.toTry _) h) (fun f s1 hsp => ?_) (fun e s1 he => he)
  · obtain ⟨a, B, sI, pins', σ', H', cls, d, rfl, J', nb, up, sky, na, os, ag, w⟩ := xx
    have J : Inv X pins σ' H' sI := J'.ofTry ok
    have sky' : Sky B (X.env :: X.outer) a (Zc cls d) X.env.locals s'.heap := by rw [← hs]; exact sky
    show wpAny (model X.prog X.w) X.A (noteFrame (.ref a) X.env) _ _ _
    refine Sky.land Zc.steady hfr hf sky' fun h3 fl3 up3 => ?_
    have J3 : Inv X pins σ' H' { s' with heap := h3 } := J.landed nb fl3.1 (up.trans up3) os ag
    obtain ⟨oe3, vs3, he3, hz3, hd3⟩ := fl3.there
    have notFr : ∀ {h : Heap} {o : Obj} {vs : Array Value}, h.FunFrames B (X.env :: X.outer) → h.get? a = some o → o.data = .fields vs → a ∉ frs (X.env :: X.outer) := fun {h o vs} ff e dd hm => by
      obtain ⟨_, o', e', hnf⟩ := ff.mem hm
      rw [e] at e'; cases e'
      exact hnf _ dd
    have nfr := notFr fl3.2.2.1 he3 hd3
    have nL : a ≠ X.env.locals := fun z => nfr (List.mem_filterMap.mpr ⟨X.env, List.mem_cons_self, by rw [hf, z]⟩)
    have nF : a ∉ X.fs := fun hm => by
      obtain ⟨e, he, q⟩ := List.mem_filterMap.mp hm
      exact nfr (List.mem_filterMap.mpr ⟨e, List.mem_cons_of_mem _ he, q⟩)
    have S3 := J3.suite he3 hd3 na nL nF
    have go : ∀ {hds' : List ExceptHandler} {l' : HdL}, HdsA X hds' l' → wManyA X.K Wout D l' cls d σ' H' →
        wpAny (model X.prog X.w) X.A (handleBy (.ref a) X.env hds') (SP X pins D) X.xe { s' with heap := h3 } := by
      intro hds' l' hk
      induction hk with
      | nil =>
        intro w
        refine wpAny_handleBy_nil ?_
        obtain ⟨k1, k2, k3, oe, vs, T, oT, ts', he, hz, hd, h1, hr⟩ := id fl3
        unfold PySem.passOn
        refine wpAny_bind (wpAny_field he hd h1 ?_)
        rw [if_neg (show ¬ ((Value.ref T == Value.none) = true) from by simp)]
        have fin : wpAny (model X.prog X.w) X.A (setFlight (.ref a) X.env.frame) (fun _ s4 => wpAny (model X.prog X.w) X.A (throw (.ref a) : Sem Flow) (SP X pins D) X.xe s4) X.xe { s' with heap := h3 } := by
          rw [hf]
          refine HandSPX.setFlight_upZ fl3 fun h4 hh4 up4 => wpAny_throw (tk _ _ ?_)
          exact ⟨a, B, sI, pins, σ', H', cls, d, rfl, J, nb, (up.trans up3).trans up4, .inr (.inr (by rw [hs]; exact hh4)), na, os, ag, w⟩
        first
          | exact wpAny_bind (wpAny_pure (wpAny_bind fin))
          | exact wpAny_bind fin
      | @cons x n c i ts b₀ suite np pos' hds2 l2 hc hi hln hsu r ih =>
        intro w
        have hloc : Loc X.env.scope n := .inl hln
        obtain ⟨b, hb1, hyes, hno⟩ := w
        refine wpAny_handleBy_cons (codeAny_handlers_test ?_) (by intro q; cases q)
        have LT : PySem.W.Looks (model X.prog X.w) h3 (typeOf (.ref a)) cls := fun A Q E s k q => wpAny_typeOf_ref (k _ _ he3) (by rw [hz3.1]; exact q)
        have LM := PySem.W.exm_one (M := model X.prog X.w) (J3.kIn) LT hb1
        have test : ∀ {Q : Value → Shared → Prop} {E : Value → Shared → Prop}, Q c { s' with heap := h3 } → wpAny (model X.prog X.w) (X.A.mark (some (.ref a))) (eval (.Name x np) X.env) Q E { s' with heap := h3 } := fun {Q E} q => by
          obtain ⟨hg, hdbg, hm | ⟨hm, hv, hnn⟩⟩ := hc
          · exact ld_glob (X := X.suite a ((a, oe3) :: (X.pn ++ pins))) S3 hg hm q hdbg
          · exact ld_blt (X := X.suite a ((a, oe3) :: (X.pn ++ pins))) S3 hg hm hv q hnn hdbg
        refine test (LM.here ?_)
        cases b with
        | true =>
          refine codeAny_handlers_suite_as ?_
          refine HandSPX.lands_againZ fl3 fun h4 fl4 up4 => ?_
          have J4 : Inv X pins σ' H' { s' with heap := h4 } := J.landed nb fl4.1 ((up.trans up3).trans up4) os ag
          obtain ⟨oe4, vs4, he4, hz4, hd4⟩ := fl4.there
          have S4 := J4.suite he4 hd4 na nL nF
          refine store_ok (X := X.suite a ((a, oe4) :: (X.pn ++ pins))) (v := .ref a) S4 hN hi hloc rfl (fun s5 S5 => ?_) (.inr hln)
          refine wpAny_mono ((hsu a oe4 cls d (X.pn ++ pins) hz4 ⟨_, hd4⟩).run [] s5 _ H' _ S5 (hyes rfl a na)) (fun f s6 hsp => ?_) (fun _ _ z => False.elim z)
          have end_ : ∀ {σ6 : L2.St} {H6 : Hp} {Q : Shared → Prop}, Inv (X.suite a ((a, oe4) :: (X.pn ++ pins))) [] σ6 H6 s6 → (∀ s7, Inv X pins (σ6.set i none) H6 s7 → Q s7) →
              wpAny (model X.prog X.w) X.A (do bindName X.env n .none; unbindBehindTheSuite X.env n pos') (fun _ s7 => Q s7) X.xe s6 := fun {σ6 H6 Q} S6 hq => gone_ok (S6.unsuite ok) hN hi hln hq
          cases f with
          | next =>
            obtain ⟨σ6, H6, S6, q6⟩ := hsp
            exact end_ S6 fun s7 J7 => ⟨_, _, J7, q6⟩
          | brk =>
            obtain ⟨σ6, H6, S6, q6⟩ := hsp
            exact end_ S6 fun s7 J7 => ⟨_, _, J7, q6⟩
          | cont =>
            obtain ⟨σ6, H6, S6, q6⟩ := hsp
            exact end_ S6 fun s7 J7 => ⟨_, _, J7, q6⟩
          | ret u =>
            obtain ⟨v6, σ6, H6, S6, r6, q6⟩ := hsp
            exact end_ S6 fun s7 J7 => ⟨_, _, _, J7, r6, q6⟩
        | false =>
          show wpAny _ X.A (handleBy (.ref a) X.env hds2) _ _ _
          exact ih (hno rfl)
    exact go hh w
  · cases f with
    | next =>
      obtain ⟨σ', H', J', q⟩ := hsp
      exact wpAny_execs_nil ⟨σ', H', J'.ofTry ok, q⟩
    | brk =>
      obtain ⟨σ', H', J', q⟩ := hsp
      exact ⟨σ', H', J'.ofTry ok, q⟩
    | cont =>
      obtain ⟨σ', H', J', q⟩ := hsp
      exact ⟨σ', H', J'.ofTry ok, q⟩
    | ret u =>
      obtain ⟨v, σ', H', J', r, q⟩ := hsp
      exact ⟨v, σ', H', J'.ofTry ok, r, q⟩
end
end Dl
set_option Elab.async false
set_option linter.all false
set_option maxRecDepth 100000
set_option maxHeartbeats 4000000
namespace Dl
open PySem PySem.Spec PyProof.Rows L2
/-! ### own exceptions with an __init__ of one or two fields -/
/-- what __init__ keeps -/
def spI (K : PySem.W.Frag) (C : Addr) (fs : List Str) : Sp := fun vs H Q E => ∃ a ws, vs = .ref a :: ws ∧ ws.length = fs.length ∧ H a = some (exo a C none) ∧ OexC K C ∧ (∀ f ∈ fs, PySem.W.findIn K (.ref C) f = some none) ∧
  ∀ dx H', H dx = none → dx ≠ a → H' a = some (exo a C (some dx)) → H' dx = some (exd dx (fs.zip ws).reverse) → (∀ b, b ≠ a → b ≠ dx → H' b = H b) → Q .non H'
theorem spI_len {K : PySem.W.Frag} {C : Addr} {fs : List Str} {vs : List V} {H : Hp} {Q : VK} {E : XK} (h : spI K C fs vs H Q E) : vs.length = fs.length + 1 := by
  obtain ⟨a, ws, rfl, h, _⟩ := h
  rw [List.length_cons, h]
theorem init1 {K : PySem.W.Frag} {C : Addr} {f p0 p1 : Str} {vs : List V} {H : Hp} {Q : VK} {E : XK} (h : spI K C [f] vs H Q E) : tOst K f (tVar 0) (tVar 1) { nx := fun _ H' => Q .non H', rt := Q } (start [p0, p1] vs) H := by
  obtain ⟨a, ws, rfl, hl, ha, T, hno, q⟩ := h
  match ws, hl with
  | [y], _ =>
    refine ⟨y, rfl, .ref a, rfl, a, C, rfl, T, hno f (List.mem_cons_self ..), .inl ⟨ha, fun dx n1 n2 => ?_⟩⟩
    refine q dx _ n1 n2 upd_same (by rw [upd_ne n2, upd_same]; rfl) fun b h1 h2 => by rw [upd_ne h1, upd_ne h2]
theorem init2 {K : PySem.W.Frag} {C : Addr} {f g p0 p1 p2 : Str} {vs : List V} {H : Hp} {Q : VK} {E : XK} (h : spI K C [f, g] vs H Q E) : tSeq (tOst K f (tVar 0) (tVar 1)) (tOst K g (tVar 0) (tVar 2)) { nx := fun _ H' => Q .non H', rt := Q } (start [p0, p1, p2] vs) H := by
  obtain ⟨a, ws, rfl, hl, ha, T, hno, q⟩ := h
  match ws, hl with
  | [y, z], _ =>
    refine ⟨y, rfl, .ref a, rfl, a, C, rfl, T, hno f (List.mem_cons_self ..), .inl ⟨ha, fun dx n1 n2 => ?_⟩⟩
    refine ⟨z, rfl, .ref a, rfl, a, C, rfl, T, hno g (List.mem_cons_of_mem _ (List.mem_cons_self ..)), .inr ⟨dx, [(f, y)], upd_same, by rw [upd_ne n2, upd_same], (by show (1 : Nat) ≤ 900; omega), ?_⟩⟩
    refine q dx _ n1 n2 (by rw [upd_ne (Ne.symm n2), upd_same]) (by rw [upd_same]; rfl) fun b h1 h2 => by rw [upd_ne h2, upd_ne h1, upd_ne h2]
/-- raise C(..) -/
def sRaise (c : Str) (ns : List Str) (fa : M (List Opd)) : Sm := fun e => (fa e).fl fun os e => match vals os with
  | some ds => (match Nat.beq ds.length ns.length with
    | true => .exc ⟨c, ns.reverse, ds.reverse⟩ e
    | false => .stuck)
  | none => .stuck
theorem zip_rev {α β : Type} : ∀ {l : List α} {m : List β}, l.length = m.length → (l.zip m).reverse = l.reverse.zip m.reverse
  | [], [], _ => rfl
  | a :: l, b :: m, h => by
    have h : l.length = m.length := by simpa using h
    rw [List.zip_cons_cons, List.reverse_cons, List.reverse_cons, List.reverse_cons, zip_rev h, List.zip_append (by rw [List.length_reverse, List.length_reverse, h])]
    rfl
theorem repL_rev {G : Gx} {H : Hp} : ∀ {ds : List D} {vs : List V}, RepL G H ds vs → RepL G H ds.reverse vs.reverse
  | [], vs, h => by rw [show vs = [] from h]; exact rfl
  | d :: ds, vs, h => by
    obtain ⟨v, r, rfl, h1, h2⟩ := h
    rw [List.reverse_cons, List.reverse_cons]
    exact (repL_rev h2).append (RepL.cons h1 RepL.nil)
section
variable {X : Cx} {F : Frm}
theorem s_raise {c : Str} {ns : List Str} {C fI : Addr} {k : Nat} {fd : FuncData} {ps : List Str} {e : Expr} {es : List Expr} {fa : M (List Opd)} {p pos pos' : Pos} (hcl : F.G.cl c = some C) (hc : X.calm = true) (tk : L2.Takes X F.W) (T : OexC X.K C)
    (iC : PySem.W.findIn X.K (.ref C) "__init__" = some (some (.ref fI))) (tI : PySem.W.typeIn X.K (.ref fI) = some (.type "function")) (hno : ∀ f ∈ ns, PySem.W.findIn X.K (.ref C) f = some none) (hn : ns.length ≤ 100)
    (F1 : FnOk X.prog X.w X.K X.mg X.base (L2.CX X.prog X.w) k fI fd ps (spI X.K C ns)) (hr : Room (k + 1) X.A) (hb : L2.Binds X.K fd ps []) (hx : Passes (L2.CX X.prog X.w) X (fun _ _ _ => False)) (hg : Gl X c) (hm : X.mg c = some (.ref C)) (ha : DA X F (e :: es) fa)
    (hdb : (c == ("__debug__" : Str)) = false := by decide) (he : starEach (e :: es) X.env = (false, eval e X.env) :: starEach es X.env := by rfl) (hpl : (backTo pos (starEach es X.env)).any (·.1) = false := by rfl) :
    DS X F (.Raise (some (.Call (.Name c p) (e :: es) [] pos)) none pos') (sRaise c ns fa) := ⟨PS.weak (ps_raise hc tk (pmk_oex T iC tI F1 hr hb .nil hx hg hm ha.pa hdb he hpl)) fun D σ H ⟨Hs, E, S, e1, q⟩ => by
  refine ⟨Hs, E, [], st_nil S, e1, EndS.bind q fun vs os env' Hs1 H1 E1 ex m1 m2 p q => ?_⟩
  subst m2
  obtain ⟨S1, ro⟩ := p
  have S1 := nil_st S1
  cases qv : vals os with
  | none => rw [qv] at q; exact q.elim
  | some ds =>
    rw [qv] at q
    simp only at q
    have rl := vals_rep ro qv
    cases qn : Nat.beq ds.length ns.length with
    | false => rw [qn] at q; exact q.elim
    | true =>
      rw [qn] at q
      have hlen : vs.length = ns.length := by rw [← rl.length]; exact Nat.eq_of_beq_eq_true qn
      refine ⟨by omega, fun a ha => ?_⟩
      rw [List.append_nil]
      refine ⟨a, vs, rfl, hlen, upd_same, T, hno, fun dx H' n1 n2 h1 h2 h3 => ⟨rfl, dx, _, h1, h2, ?_, ?_⟩⟩
      · rw [upd_ne n2] at n1; exact n1
      · have n1 : H1 dx = none := by rw [upd_ne n2] at n1; exact n1
        have eh : upd (del H' a) dx (.xd (ns.zip vs).reverse) = upd H1 dx (.xd (ns.zip vs).reverse) := by
          funext b
          by_cases z : b = dx
          · subst z; rw [upd_same, upd_same]
          · rw [upd_ne z, upd_ne z]
            by_cases y : b = a
            · subst y; rw [del_same, ha]
            · rw [del_ne y, h3 b y z, upd_ne y]
        rw [eh]
        have exs := S1.shEx (o := .xd (ns.zip vs).reverse) n1
        have S2 := S1.allocSh (o := .xd (ns.zip vs).reverse) n1 rfl
        have q : F.EndS Hs1 (.exc ⟨c, ns.reverse, ds.reverse⟩ (E1.map Prod.snd)) D := q
        have := q (.ref C) (some dx) _ _ E1 exs rfl S2 ⟨C, rfl, hcl, .inr ⟨dx, vs.reverse, rfl, by rw [upd_same, zip_rev hlen.symm], by rw [List.length_reverse, List.length_reverse, hlen], (repL_rev rl).ex exs⟩⟩
        rw [m1] at this
        exact this⟩
end
end Dl
set_option Elab.async false
set_option linter.all false
set_option maxRecDepth 100000
set_option maxHeartbeats 4000000
namespace Dl
open PySem PySem.Spec PyProof.Rows L2
theorem ExcAt.ex {G : Gx} {Hs Hs' H H' : Hp} {x : Exn} {cls : Value} {d : Option Addr} (e : Ex Hs Hs') (h : ExcAt G Hs H x cls d) : ExcAt G Hs' H' x cls d := by
  obtain ⟨C, h1, h2, h3⟩ := h
  refine ⟨C, h1, h2, ?_⟩
  rcases h3 with h3 | ⟨dx, vs, e1, e2, e3, e4⟩
  · exact .inl h3
  · exact .inr ⟨dx, vs, e1, (e _ _ e2).1 rfl, e3, e4.ex e⟩
/-! ### within a suite of 'except C as n': n is at slot i, the exception at a -/
section
variable (F : Frm) (i : Nat) (a : Addr) (x : Exn) (cls : Value) (d : Option Addr)
def Frm.tX {α β : Type} (post : List Ent → β → α → Hp → Hp → List Ent → Prop) (m : M α) : L2.St → Hp → (β → Hp → Prop) → Prop := fun σ H Q =>
  σ[i]? = some (some (.ref a)) ∧ ∃ (Hs : Hp) (E T : List Ent), ExcAt F.G Hs H x cls d ∧ F.St Hs H (E ++ T) ∧ E.map Prod.fst = σ ∧ F.End σ Hs T (post T) (m (E.map Prod.snd)) Q
structure DEX (X : Cx) (e : Expr) (f : M Slot) : Prop where
  pe : PE X e (F.tX i a x cls d F.pD f)
structure DOX (X : Cx) (e : Expr) (f : M Opd) : Prop where
  pe : PE X e (F.tX i a x cls d F.pO f)
structure DAX (X : Cx) (es : List Expr) (f : M (List Opd)) : Prop where
  pa : PA X es (F.tX i a x cls d F.pA f)
def Frm.tSX (f : Sm) : TS := fun D σ H => σ[i]? = some (some (.ref a)) ∧ ∃ (Hs : Hp) (E : List Ent), ExcAt F.G Hs H x cls d ∧ F.St Hs H E ∧ E.map Prod.fst = σ ∧ F.EndS Hs (f (E.map Prod.snd)) D
structure DSX (X : Cx) (s : Stmt) (f : Sm) : Prop where
  ps : PS X s (F.tSX i a x cls d f)
end
section
variable {X : Cx} {F : Frm} {i : Nat} {a : Addr} {x : Exn} {cls : Value} {d : Option Addr}
theorem dex_of {e : Expr} {f : M Slot} (h : DE X F e f) : DEX F i a x cls d X e f := ⟨PE.weak h.pe fun σ H Q ⟨_, Hs, E, T, _, S, e1, q⟩ => ⟨Hs, E, T, S, e1, q⟩⟩
theorem dox_of {e : Expr} {f : M Opd} (h : DO X F e f) : DOX F i a x cls d X e f := ⟨PE.weak h.pe fun σ H Q ⟨_, Hs, E, T, _, S, e1, q⟩ => ⟨Hs, E, T, S, e1, q⟩⟩
theorem dax_nil : DAX F i a x cls d X [] dNil := ⟨PA.weak pa_nil fun σ H Q ⟨_, Hs, E, T, _, S, e1, q⟩ => q [] Hs H E (Ex.refl _) e1 rfl ⟨S, rfl⟩⟩
theorem dax_cons {e : Expr} {es : List Expr} {f : M Opd} {g : M (List Opd)} (h : DOX F i a x cls d X e f) (h2 : DAX F i a x cls d X es g) (hs : starEach (e :: es) X.env = (false, eval e X.env) :: starEach es X.env := by rfl) : DAX F i a x cls d X (e :: es) (dCons f g) := ⟨PA.weak (pa_cons h.pe h2.pa hs) fun σ H Q ⟨hi, Hs, E, T, xa, S, e1, q⟩ =>
  ⟨hi, Hs, E, T, xa, S, e1, q.bind fun x o env' Hs1 H1 E1 ex1 m1 m2 p1 q1 => by
    subst m2
    exact ⟨hi, Hs1, E1, T, xa.ex ex1, p1.1, m1, q1.bind fun xs os env' Hs2 H2 E2 ex2 n1 n2 p2 q2 => by
      subst n2
      exact q2 (x :: xs) Hs2 H2 E2 (Ex.refl _) n1 rfl ⟨p2.1, o, os, rfl, p1.2.later ex2 (m1.trans n1.symm), p2.2⟩⟩⟩⟩
theorem dex_bin {op : Operator} {r : R2} {g : D → D → Option Slot} {b c : Expr} {fa fb : M Opd} {pos : Pos} (ho : OpR X (binaryOp op) r) (hg : Op2 F r g) (ha : DOX F i a x cls d X b fa) (hb : DOX F i a x cls d X c fb) : DEX F i a x cls d X (.BinOp b op c pos) (dOp2 g fa fb) :=
  ⟨PE.weak (pe_op ho ha.pe hb.pe) fun σ H Q ⟨hi, Hs, E, T, xa, S, e1, q⟩ => by
    refine ⟨hi, Hs, E, T, xa, S, e1, q.bind fun x oa env' Hs1 H1 E1 ex1 m1 m2 p1 q1 => ?_⟩
    subst m2
    refine ⟨hi, Hs1, E1, T, xa.ex ex1, p1.1, m1, q1.bind fun y ob env' Hs2 H2 E2 ex2 n1 n2 p2 q2 => ?_⟩
    subst n2
    exact end_op2 hg p2.1 n1 (p1.2.later ex2 (m1.trans n1.symm)) p2.2 q2⟩
theorem dox_fix {e : Expr} {f : M Slot} (h : DEX F i a x cls d X e f) : DOX F i a x cls d X e (dFix f) := ⟨PE.weak h.pe fun σ H Q ⟨hi, Hs, E, T, xa, S, e1, q⟩ => by
  refine ⟨hi, Hs, E, T, xa, S, e1, q.bind fun v s env' Hs' H' E' ex m1 m2 p q => ?_⟩
  have p' : F.St Hs' H' ((E' ++ T) ++ [(some v, s)]) := p
  have hs : s ≠ .un := fun z => by subst z; exact q.elim
  have q2 : F.End σ Hs' T (F.pO T) (.ok (.val s.d) env') Q := by
    cases s <;> first | exact q | exact absurd rfl hs
  have hi : ((E' ++ T) ++ [(some v, s)])[(E' ++ T).length]? = some (some v, s) := by rw [List.getElem?_append_right (Nat.le_refl _), Nat.sub_self]; rfl
  obtain ⟨Hs2, e2, S2⟩ := p'.freeze hi hs
  have e3 : ((E' ++ T) ++ [(some v, s)]).set (E' ++ T).length (some v, .sh s.d) = (E' ++ T) ++ [(some v, .sh s.d)] := by
    rw [List.set_append_right _ _ (Nat.le_refl _), Nat.sub_self]; rfl
  rw [e3] at S2
  obtain ⟨v', z, r⟩ := S2.sh (i := (E' ++ T).length) (d := s.d) (by rw [List.getElem?_append_right (Nat.le_refl _), Nat.sub_self]; rfl)
  cases z
  exact q2 v Hs2 H' E' e2 m1 m2 ⟨S2.pop, r⟩⟩
theorem dex_tup {es : List Expr} {f : M (List Opd)} {x1} {pos : Pos} (h : DAX F i a x cls d X es f) : DEX F i a x cls d X (.Tuple es x1 pos) (dTup f) := ⟨PE.weak (pe_tup h.pa) fun σ H Q ⟨hi, Hs, E, T, xa, S, e1, q⟩ =>
  ⟨hi, Hs, E, T, xa, S, e1, q.bind fun vs os env' Hs1 H1 E1 ex1 m1 m2 p1 q1 => by
    subst m2
    try simp only at q1
    cases qv : vals os with
    | none => rw [qv] at q1; exact q1.elim
    | some ds =>
      rw [qv] at q1
      try simp only at q1
      have r := vals_rep p1.2 qv
      split at q1
      · rename_i ho
        exact ⟨by rw [← r.length]; exact lenOk_le ho, fin_tup p1.1 r fun v Hs' H' ex S' => q1 v Hs' H' E1 ex m1 rfl S'⟩
      · exact q1.elim⟩⟩
theorem dex_bty {T : String} {r : List V → Hp → VK → Prop} {g : List D → Option Slot} {y : Str} {e : Expr} {es : List Expr} {fa : M (List Opd)} {p pos : Pos} (hc : CallR X (.builtin T) r) (ho : Opn F r g) (hg : Gl X y) (hm : X.mg y = none) (hv : bootBuiltins y = some (.builtin T)) (ha : DAX F i a x cls d X (e :: es) fa)
    (hn : y ≠ "__name__" := by decide) (hdb : (y == ("__debug__" : Str)) = false := by decide) (he : starEach (e :: es) X.env = (false, eval e X.env) :: starEach es X.env := by rfl) (hpl : (backTo pos (starEach es X.env)).any (·.1) = false := by rfl) :
    DEX F i a x cls d X (.Call (.Name y p) (e :: es) [] pos) (dBlt g fa) := ⟨PE.weak (pe_callB hc hg hm hv ha.pa hn hdb he hpl) fun σ H Q ⟨hi, Hs, E, T, xa, S, e1, q⟩ => by
  refine ⟨hi, Hs, E, T, xa, S, e1, q.bind fun vs os env' Hs1 H1 E1 ex m1 m2 p q => ?_⟩
  subst m2
  unfold bltK at q
  cases qg : gets os (E1.map Prod.snd) with
  | none => rw [qg] at q; exact q.elim
  | some ds =>
    rw [qg] at q
    try simp only at q
    cases qs : g ds with
    | none => rw [qs] at q; exact q.elim
    | some s =>
      rw [qs] at q
      exact ho Hs1 H1 (E1 ++ T) vs ds s Q p.1 (gets_rb p.1 p.2 qg) qs fun v Hs' H' ex' S' => q v Hs' H' E1 ex' m1 rfl S'⟩
/-- e.f, e the exception at hand -/
def lookX (f : Str) : List Str → List D → Option D
  | n :: ns, d :: ds => if f = n then some d else lookX f ns ds
  | _, _ => none
def dXF (y f : Str) (x : Exn) : M Opd := fun e => match decide (x.c = y), lookX f x.ns x.fs with
  | true, some d => .ok (.val d) e
  | _, _ => .stuck
theorem lookX_rep {G : Gx} {H : Hp} {f : Str} {dd : D} : ∀ {ns : List Str} {ds : List D} {vs : List V}, lookX f ns ds = some dd → RepL G H ds vs → ns.length = vs.length → ∃ v, (ns.zip vs).lookup f = some v ∧ Rep G H dd v
  | [], _, _, h, _, _ => by cases h
  | _ :: _, [], _, h, _, _ => by cases h
  | n :: ns, d :: ds, vs, h, r, hl => by
    obtain ⟨v, vs', rfl, r1, r2⟩ := r
    have h : (if f = n then some d else lookX f ns ds) = some dd := h
    show ∃ v', (match f == n with | true => some v | false => (ns.zip vs').lookup f) = some v' ∧ _
    by_cases z : f = n
    · rw [if_pos z] at h
      cases h
      rw [show (f == n) = true from by rw [z]; exact beq_self_eq_true n]
      exact ⟨v, rfl, r1⟩
    · rw [if_neg z] at h
      rw [show (f == n) = false from by
        cases q : (f == n) with
        | false => rfl
        | true => exact absurd (eq_of_beq q) z]
      exact lookX_rep h r2 (by simpa using hl)
theorem dox_fld {X0 : Cx} {pn : List (Addr × Obj)} {oe : Obj} {C : Addr} {y f n : Str} {p pos : Pos} (hcl : F.G.cl y = some C) (T : XfC X0.K C) (hno : PySem.W.findIn X0.K (.ref C) f = some none) (hz : Zc cls d oe) (hf : ∃ vs, oe.data = .fields vs)
    (he : PE (X0.suite a ((a, oe) :: pn)) (.Name n p) (tVar i)) (hb : attributeBase (.Name n p) f X0.env (eval (.Name n p) X0.env) = eval (.Name n p) X0.env := by rfl) : DOX F i a x cls d (X0.suite a ((a, oe) :: pn)) (.Attribute (.Name n p) f pos) (dXF y f x) :=
  ⟨PE.weak (pe_xf T hno hz hf he hb) fun σ H Q ⟨hi, Hs, E, T', xa, S, e1, q⟩ => by
    unfold dXF at q
    cases qd : decide (x.c = y) with
    | false => rw [qd] at q; exact q.elim
    | true =>
      cases ql : lookX f x.ns x.fs with
      | none => rw [qd, ql] at q; exact q.elim
      | some dd =>
        rw [qd, ql] at q
        obtain ⟨C1, c1, c2, c3⟩ := xa
        have ey := of_decide_eq_true qd
        rw [ey, hcl] at c2
        cases c2
        rcases c3 with ⟨n1, _, _⟩ | ⟨dx, vs, e2, e3, e4, e5⟩
        · rw [n1] at ql; cases ql
        · obtain ⟨v, l1, l2⟩ := lookX_rep ql e5 e4
          exact ⟨_, hi, rfl, c1, dx, _, v, e2, S.eS.get e3, l1, q v Hs H E (Ex.refl _) e1 rfl ⟨S, l2⟩⟩⟩
theorem sx_ret {e : Expr} {f : M Slot} {pos : Pos} (h : DEX F i a x cls d X e f) : DSX F i a x cls d X (.Return (some e) pos) (sRet f) := ⟨PS.weak (ps_ret h.pe) fun D σ H ⟨hi, Hs, E, xa, S, e1, q⟩ => by
  refine ⟨hi, Hs, E, [], xa, st_nil S, e1, EndS.bind q fun v s env' Hs1 H1 E1 ex m1 m2 p q => ?_⟩
  have p : F.St Hs1 H1 ((E1 ++ []) ++ [(some v, s)]) := p
  rw [List.append_nil] at p
  exact q v Hs1 H1 E1 (Ex.refl _) m2 p⟩
theorem sx_set {j : Nat} {y : Str} {e : Expr} {f : M Slot} {pos pos' : Pos} (hN : X.N.Nodup) (hi : X.N[j]? = some y) (hx : Loc X.env.scope y) (he : DEX F i a x cls d X e f) (hs : swapsWith e (some (.Name y pos')) pos.line X.env = pure false := by rfl) (hf : X.fn y = true ∨ X.env.scope.names.lookup y = some .local := by first | exact .inl rfl | exact .inr rfl | assumption) :
    DSX F i a x cls d X (.Assign [.Name y pos'] e pos) (sSet j f) := ⟨PS.weak (ps_set hN hi hx he.pe hs hf) fun D σ H ⟨hi, Hs, E, xa, S, e1, q⟩ => by
  refine ⟨hi, Hs, E, [], xa, st_nil S, e1, EndS.bind q fun v s env' Hs1 H1 E1 ex m1 m2 p q => ?_⟩
  subst m2
  exact sSet_end p m1 q⟩
end
/-! ### the clauses -/
abbrev HdS := List (Str × Nat × (Exn → Sm))
def unb (i : Nat) : Fl → Fl
  | .nx e => .nx (e.set i .un)
  | .bk e => .bk (e.set i .un)
  | .ct e => .ct (e.set i .un)
  | .rt s e => .rt s e
  | _ => .stuck
def tryH (sub : Str → Str → Option Bool) : HdS → Exn → Sm
  | [], x => fun e => .exc x e
  | h :: r, x => fun e => match Nat.blt h.2.1 e.length, sub x.c h.1 with
    | true, some true => unb h.2.1 (h.2.2 x (e.set h.2.1 .un))
    | true, some false => tryH sub r x e
    | _, _ => .stuck
def sTry (f : Sm) (sub : Str → Str → Option Bool) (hs : HdS) : Sm := fun e => match f e with
  | .exc x e1 => tryH sub hs x e1
  | r => r
def Frm.no (F : Frm) : Frm := { F with W := fun _ _ _ _ => False }
def Frm.tSu (F : Frm) (i : Nat) (g : Exn → Sm) (a : Addr) (cls : Value) (d : Option Addr) : TS := fun D σ H => ∃ x, F.no.tSX i a x cls d (g x) D σ H
theorem su_one {X : Cx} {F : Frm} {i : Nat} {g : Exn → Sm} {a : Addr} {cls : Value} {d : Option Addr} {s : Stmt} (h : ∀ x, DSX F.no i a x cls d X s (g x)) : PSs X [s] (F.tSu i g a cls d) :=
  pss_one ⟨fun pins s σ H D I ⟨x, q⟩ => (h x).ps.run pins s σ H D I q⟩
inductive DHds (X : Cx) (F : Frm) (sub : Str → Str → Option Bool) : List ExceptHandler → HdS → Prop
  | nil : DHds X F sub [] []
  | cons {y n : Str} {C : Addr} {i : Nat} {g : Exn → Sm} {b₀ : Stmt} {suite : List Stmt} {np pos' : Pos} {hds : List ExceptHandler} {l : HdS} (hc : Names X y (.ref C)) (hi : X.N[i]? = some n) (hln : X.env.kindOf n = some .local)
      (hx : ∀ c1 C1 b, F.G.cl c1 = some C1 → sub c1 y = some b → PySem.W.exmOne X.K (.ref C1) (.ref C) = some b)
      (hsu : ∀ (a : Addr) (oe : Obj) (cls : Value) (d : Option Addr) (pn : List (Addr × Obj)), Zc cls d oe → (∃ vs, oe.data = .fields vs) → PSs (X.suite a ((a, oe) :: pn)) (b₀ :: suite) (F.tSu i g a cls d)) (r : DHds X F sub hds l) :
      DHds X F sub (.ExceptHandler (some (.Name y np)) (some n) (b₀ :: suite) pos' :: hds) ((y, i, g) :: l)
theorem hds_ok {X : Cx} {F : Frm} {sub : Str → Str → Option Bool} {hds : List ExceptHandler} {hs : HdS} (h : DHds X F sub hds hs) : ∃ l, HdsA X hds l ∧ ∀ (D : Ends) (σ : L2.St) (Hs H : Hp) (E : List Ent) (x : Exn) (cls : Value) (d : Option Addr), F.St Hs H E → E.map Prod.fst = σ → ExcAt F.G Hs H x cls d →
    F.EndS Hs (tryH sub hs x (E.map Prod.snd)) D → wManyA X.K F.W D l cls d σ H := by
  induction h with
  | nil => exact ⟨[], .nil, fun D σ Hs H E x cls d S e1 xa q => by rw [← e1]; exact q cls d Hs H E (Ex.refl _) rfl S xa⟩
  | @cons y n C i g b₀ suite np pos' hds l hc hi hln hx hsu r ih =>
    obtain ⟨l', k1, k2⟩ := ih
    refine ⟨(.ref C, i, F.tSu i g) :: l', .cons hc hi hln hsu k1, fun D σ Hs H E x cls d S e1 xa q => ?_⟩
    unfold tryH at q
    cases qb : Nat.blt i (E.map Prod.snd).length with
    | false => rw [qb] at q; exact q.elim
    | true =>
      have hlt : i < E.length := by have := Nat.le_of_ble_eq_true qb; rw [List.length_map] at this; exact this
      cases qs : sub x.c y with
      | none => rw [qb, qs] at q; exact q.elim
      | some b =>
        have xa0 := xa
        obtain ⟨C1, c1, c2, c3⟩ := xa
        have hm := hx x.c C1 b c2 qs
        rw [← c1] at hm
        refine ⟨b, hm, fun hb a ha => ?_, fun hb => ?_⟩
        · subst hb
          rw [qb, qs] at q
          have q : F.EndS Hs (unb i (g x ((E.map Prod.snd).set i .un))) D := q
          refine ⟨x, ?_, Hs, E.set i (some (.ref a), .un), xa0, StR.drop S, by rw [map_fst_set', e1], ?_⟩
          · rw [List.getElem?_set_self (by rw [← e1, List.length_map]; exact hlt)]
          · rw [map_snd_set]
            have put : ∀ {E' : List Ent} {e2 : Dl.Env}, E'.map Prod.snd = e2 → (E'.set i (none, Slot.un)).map Prod.snd = e2.set i .un := fun z => by rw [map_snd_set, z]
            cases qg : g x ((E.map Prod.snd).set i .un) with
            | nx e2 =>
              rw [qg] at q
              intro Hs' H' E' ex m S'
              have := q Hs' H' (E'.set i (none, .un)) ex (put m) (StR.drop S')
              rw [map_fst_set'] at this
              exact this
            | bk e2 =>
              rw [qg] at q
              intro Hs' H' E' ex m S'
              have := q Hs' H' (E'.set i (none, .un)) ex (put m) (StR.drop S')
              rw [map_fst_set'] at this
              exact this
            | ct e2 =>
              rw [qg] at q
              intro Hs' H' E' ex m S'
              have := q Hs' H' (E'.set i (none, .un)) ex (put m) (StR.drop S')
              rw [map_fst_set'] at this
              exact this
            | rt s e2 => rw [qg] at q; exact q
            | exc x e2 => rw [qg] at q; exact q.elim
            | stuck => rw [qg] at q; exact q.elim
        · subst hb
          rw [qb, qs] at q
          exact k2 D σ Hs H E x cls d S e1 xa0 q
theorem s_try {X : Cx} {F : Frm} {sub : Str → Str → Option Bool} {body : List Stmt} {h₀ : ExceptHandler} {hds : List ExceptHandler} {hs : HdS} {f : Sm} {pos : Pos} (hst : X.stack = X.env :: X.outer) (hf : X.env.frame = some X.env.locals) (hN : X.N.Nodup) (tk : L2.Takes X F.W)
    (hb : ∀ (W : WX) (pn : List (Addr × Obj)) (xe : Value → Shared → Prop), L2.Takes (X.tr pn xe) W → PassesOwn (model X.prog X.w) X.A X.env xe → DSs (X.tr pn xe) { F with W := W } body f)
    (hh : DHds X F sub (h₀ :: hds) hs) : DS X F (.Try body (h₀ :: hds) [] [] pos) (sTry f sub hs) := by
  obtain ⟨l, k1, k2⟩ := hds_ok hh
  refine ⟨PS.weak (ps_try_manyA (tb := fun W => ({ F with W := W } : Frm).tS f) hst hf hN tk (fun W pn xe t po => (hb W pn xe t po).pss) k1) fun D σ H ⟨Hs, E, S, e1, q⟩ => ?_⟩
  refine ⟨Hs, E, S, e1, ?_⟩
  unfold sTry at q
  cases qf : f (E.map Prod.snd) with
  | nx e2 => rw [qf] at q; exact q
  | rt s e2 => rw [qf] at q; exact q
  | bk e2 => rw [qf] at q; exact q
  | ct e2 => rw [qf] at q; exact q
  | stuck => rw [qf] at q; exact q.elim
  | exc x e2 =>
    rw [qf] at q
    intro cls d Hs' H' E' ex m S' xa
    have q : F.EndS Hs (tryH sub hs x e2) D := q
    refine k2 D _ Hs' H' E' x cls d S' rfl xa ?_
    rw [m]
    exact Frm.EndS.later q ex
end Dl
set_option Elab.async false
set_option linter.all false
set_option maxRecDepth 100000
set_option maxHeartbeats 4000000
namespace Dl
open PySem PySem.Spec PyProof.Rows L2
/-! ### a lambda without parameters, handed to a def that calls it within a try -/
def gFrm (G : Gx) (B Hs0 : Hp) : Frm := ⟨G, B, Hs0, fun _ _ _ _ => False⟩
inductive DHdG (X : Cx) (G : Gx) (sub : Str → Str → Option Bool) : List ExceptHandler → HdS → Prop
  | nil : DHdG X G sub [] []
  | cons {y n : Str} {C : Addr} {i : Nat} {g : Exn → Sm} {b₀ : Stmt} {suite : List Stmt} {np pos' : Pos} {hds : List ExceptHandler} {l : HdS} (hc : Names X y (.ref C)) (hi : X.N[i]? = some n) (hln : X.env.kindOf n = some .local)
      (hx : ∀ c1 C1 b, G.cl c1 = some C1 → sub c1 y = some b → PySem.W.exmOne X.K (.ref C1) (.ref C) = some b)
      (hsu : ∀ (B Hs0 : Hp) (a : Addr) (oe : Obj) (cls : Value) (d : Option Addr) (pn : List (Addr × Obj)), Zc cls d oe → (∃ vs, oe.data = .fields vs) → PSs (X.suite a ((a, oe) :: pn)) (b₀ :: suite) ((gFrm G B Hs0).tSu i g a cls d)) (r : DHdG X G sub hds l) :
      DHdG X G sub (.ExceptHandler (some (.Name y np)) (some n) (b₀ :: suite) pos' :: hds) ((y, i, g) :: l)
theorem hdsG_ok {X : Cx} {G : Gx} {sub : Str → Str → Option Bool} {hds : List ExceptHandler} {hs : HdS} (h : DHdG X G sub hds hs) : ∃ l, HdsA X hds l ∧ ∀ (B Hs0 : Hp) (D : Ends) (σ : L2.St) (Hs H : Hp) (E : List Ent) (x : Exn) (cls : Value) (d : Option Addr), StR G B Hs0 Hs H E → E.map Prod.fst = σ → ExcAt G Hs H x cls d →
    (gFrm G B Hs0).EndS Hs (tryH sub hs x (E.map Prod.snd)) D → wManyA X.K (fun _ _ _ _ => False) D l cls d σ H := by
  induction h with
  | nil => exact ⟨[], .nil, fun B Hs0 D σ Hs H E x cls d S e1 xa q => q cls d Hs H E (Ex.refl _) rfl S xa⟩
  | @cons y n C i g b₀ suite np pos' hds l hc hi hln hx hsu r ih =>
    obtain ⟨l', k1, k2⟩ := ih
    refine ⟨(.ref C, i, fun a cls d D σ H => ∃ B Hs0, (gFrm G B Hs0).tSu i g a cls d D σ H) :: l', .cons hc hi hln (fun a oe cls d pn hz hf => ⟨fun pins s σ H D I ⟨B, Hs0, q⟩ => (hsu B Hs0 a oe cls d pn hz hf).run pins s σ H D I q⟩) k1, fun B Hs0 D σ Hs H E x cls d S e1 xa q => ?_⟩
    unfold tryH at q
    cases qb : Nat.blt i (E.map Prod.snd).length with
    | false => rw [qb] at q; exact q.elim
    | true =>
      have hlt : i < E.length := by have := Nat.le_of_ble_eq_true qb; rw [List.length_map] at this; exact this
      cases qs : sub x.c y with
      | none => rw [qb, qs] at q; exact q.elim
      | some b =>
        have xa0 := xa
        obtain ⟨C1, c1, c2, c3⟩ := xa
        have hm := hx x.c C1 b c2 qs
        rw [← c1] at hm
        refine ⟨b, hm, fun hb a ha => ?_, fun hb => ?_⟩
        · subst hb
          rw [qb, qs] at q
          have q : (gFrm G B Hs0).EndS Hs (unb i (g x ((E.map Prod.snd).set i .un))) D := q
          refine ⟨B, Hs0, x, ?_, Hs, E.set i (some (.ref a), .un), xa0, StR.drop S, by rw [map_fst_set', e1], ?_⟩
          · rw [List.getElem?_set_self (by rw [← e1, List.length_map]; exact hlt)]
          · rw [map_snd_set]
            have put : ∀ {E' : List Ent} {e2 : Dl.Env}, E'.map Prod.snd = e2 → (E'.set i (none, Slot.un)).map Prod.snd = e2.set i .un := fun z => by rw [map_snd_set, z]
            cases qg : g x ((E.map Prod.snd).set i .un) with
            | nx e2 =>
              rw [qg] at q
              intro Hs' H' E' ex m S'
              have := q Hs' H' (E'.set i (none, .un)) ex (put m) (StR.drop S')
              rw [map_fst_set'] at this
              exact this
            | bk e2 =>
              rw [qg] at q
              intro Hs' H' E' ex m S'
              have := q Hs' H' (E'.set i (none, .un)) ex (put m) (StR.drop S')
              rw [map_fst_set'] at this
              exact this
            | ct e2 =>
              rw [qg] at q
              intro Hs' H' E' ex m S'
              have := q Hs' H' (E'.set i (none, .un)) ex (put m) (StR.drop S')
              rw [map_fst_set'] at this
              exact this
            | rt s e2 => rw [qg] at q; exact q
            | exc x e2 => rw [qg] at q; exact q.elim
            | stuck => rw [qg] at q; exact q.elim
        · subst hb
          rw [qb, qs] at q
          exact k2 B Hs0 D σ Hs H E x cls d S e1 xa0 q
theorem st_uns {G : Gx} {B Hs0 Hs H : Hp} {L : List Ent} (S : StR G B Hs0 Hs H L) (σ : L2.St) : StR G B Hs0 Hs H (σ.map fun y => (y, Slot.un)) := by
  obtain ⟨A, a1, a2, a3⟩ := S.own
  refine ⟨S.eB, S.eS, S.e0, S.nt, S.nw, S.tb, S.nb, A, a1, a2, fun i x s h => ?_⟩
  rw [List.getElem?_map] at h
  cases q : σ[i]? with
  | none => rw [q] at h; cases h
  | some y => rw [q] at h; cases h; trivial
theorem st_new {G : Gx} {B Hs0 Hs H : Hp} {L : List Ent} (S : StR G B Hs0 Hs H L) : StR G (strip H) Hs Hs H [] :=
  ⟨strip_ex H, S.eS, Ex.refl _, S.nt, fun a o h => .inl ⟨o, h⟩, S.tb, strip_nt H, fun _ _ => False, fun _ _ _ z => z.elim, fun _ _ z => z.elim, fun i x s h => by cases h⟩
theorem st_ext {G : Gx} {B Hs0 Hs H H1 : Hp} {L : List Ent} (S : StR G B Hs0 Hs H L) (e : LamX.ExtN H H1) (t : TbOk G H1) : StR G B Hs0 Hs H1 L := by
  obtain ⟨A, a1, a2, a3⟩ := S.own
  have kp : ∀ a o, H a = some o → notTbl o = true → H1 a = some o := fun a o h n => e a o h fun ps z => by subst z; cases n
  refine ⟨fun a o h => ?_, fun a o h => ?_, S.e0, S.nt, S.nw, t, S.nb, fun i a => A i a ∧ ∃ o, H a = some o ∧ notTbl o = true, fun i j a h1 h2 => a1 i j a h1.1 h2.1, fun i a h => ?_, fun i x s h => ?_⟩
  · have n := S.nb a o h
    have := kp a o (S.eB.get h n) n
    exact ⟨fun _ => this, o, this⟩
  · have n := S.nt a o h
    have := kp a o (S.eS.get h n) n
    exact ⟨fun _ => this, o, this⟩
  · obtain ⟨h, o, q, n⟩ := h
    exact ⟨(a2 i a h).1, (a2 i a h).2.1, o, kp a o q n⟩
  · exact (a3 i x s h).nt.mono (Ex.refl Hs) (fun a o pa q => by
      obtain ⟨_, o', z1, z2⟩ := pa
      rw [z1] at q; cases q
      exact kp a _ z1 z2) fun a pa => pa
def EchG (G : Gx) (sub : Str → Str → Option Bool) (hs : HdS) (n : Nat) (Q : VK) : XK := fun cls d H' => ∃ B Hs0 Hs x, StR G B Hs0 Hs H' [] ∧ ExcAt G Hs H' x cls d ∧ (gFrm G B Hs0).EndS Hs (tryH sub hs x (List.replicate n .un)) { nx := fun _ H' => Q .non H', rt := Q }
def TTm (G : Gx) (sub : Str → Str → Option Bool) (hs : HdS) (n : Nat) : (XK → Hp → VK → Prop) → Hp → VK → Prop := fun tl H Q => tl (EchG G sub hs n Q) H Q
section
variable {X : Cx} {F : Frm}
theorem met_gives {G : Gx} {sub : Str → Str → Option Bool} {hs : HdS} {h₀ : ExceptHandler} {hds : List ExceptHandler} {Ng : List Str} {x a q : Str} {sg : Scope} {g : Addr} {cdg : Value} {p1 p2 p3 p8 : Pos} (hN : Ng.Nodup) (h0 : ∀ f : Addr, (L2.start Ng [V.ref f])[0]? = some (some (V.ref f)))
    (hh : ∀ (s : Shared) (H : Hp), DHdG (cxOf C8.CX0 X.prog X.w X.K X.mg X.base Ng x sg g cdg X.A X.stack s H C8.E0).nox G sub (h₀ :: hds) hs) :
    LamX.GivesTo X Ng x sg g cdg [.Try [.Return (some (.Call (.Name a p1) [] [] p2)) p3] (h₀ :: hds) [] [] p8] a q (TTm G sub hs Ng.length) := by
  intro f c' s H Q tl act hc h
  obtain ⟨l, k1, k2⟩ := hdsG_ok (hh s H)
  refine ⟨_, pss_one (ps_try_manyA (X := (cxOf C8.CX0 X.prog X.w X.K X.mg X.base Ng x sg g cdg X.A X.stack s H C8.E0).nox) (Wout := fun _ _ _ _ => False)
      (tb := fun W D σ H => ∃ Ech : XK, (∀ cls d (σ' : L2.St) H', σ'.length = Ng.length → Ech cls d H' → W cls d σ' H') ∧ σ[0]? = some (some (.ref f)) ∧ H c' = some (LamX.CodeO c' q) ∧ tl Ech H D.rt)
      rfl rfl hN LamX.takes0 (fun W pn xe tk _ => ?_) k1), ?_⟩
  · refine ⟨fun pins s' σ H' D I h' => ?_⟩
    obtain ⟨Ech, hW, h1, h2, h3⟩ := h'
    have tk' : L2.Takes ((cxOf C8.CX0 X.prog X.w X.K X.mg X.base Ng x sg g cdg X.A X.stack s H C8.E0).tr pn xe) (fun cls d σ H => σ.length = Ng.length → W cls d σ H) := fun u s' ⟨a, B, sI, pins, σ, H, cls, d, e, I, nb, up, sky, na, os, ag, w⟩ =>
      tk u s' ⟨a, B, sI, pins, σ, H, cls, d, e, I, nb, up, sky, na, os, ag, w I.len⟩
    have hp := act (fun cls d σ H => σ.length = Ng.length → W cls d σ H) pn xe Ech p1 p2 tk' (fun cls d σ' H' he hl => hW cls d σ' H' hl he)
    have hq := pss_one (ps_ret (pos := p3) hp)
    exact hq.run pins s' σ H' D I ⟨h1, h2, h3⟩
  · refine ⟨EchG G sub hs Ng.length Q, fun cls d σ' H' hl ⟨B, Hs0, Hs, x, S, xa, q⟩ => ?_, h0 f, hc, h⟩
    refine k2 B Hs0 _ σ' Hs H' (σ'.map fun y => (y, Slot.un)) x cls d (st_uns S σ') (by rw [List.map_map]; exact List.map_id _) xa ?_
    rw [List.map_map, show (List.map (Prod.snd ∘ fun y : Option V => (y, Slot.un)) σ') = List.replicate Ng.length .un from by rw [← hl]; exact List.map_const' ..]
    exact q
def dMet (fl : M Slot) (sub : Str → Str → Option Bool) (hs : HdS) (n : Nat) : M Slot := fun e => match fl e with
  | .ok s e1 => .ok s e1
  | .exc x e1 => (match tryH sub hs x (List.replicate n .un) with
    | .rt s _ => .ok s e1
    | _ => .stuck)
  | .stuck => .stuck
theorem de_lam {sub : Str → Str → Option Bool} {hs : HdS} {x a : Str} {g c P : Addr} {k : Nat} {pg : Arguments} {bg : List Stmt} {sg : Scope} {dV kV doc pm cdv ct oc : Value} {an od : Option Addr} {osl : Array (Option Value)} {Ng : List Str}
    {params : Arguments} {body : Expr} {scope : Scope} {fl : M Slot} {p lpos pos : Pos} (hg : Gl X x) (hm : X.mg x = some (.ref g)) (hk : PySem.W.keepIn X.K (.ref g) = true)
    (lk : X.K.lookup g = some ⟨oc, od, .func (PySem.W.fnOf x x pg bg sg dV kV doc pm an cdv ct), osl⟩) (hcg : PySem.W.codeIn X.K cdv x = true) (hb : L2.Binds X.K (PySem.W.fnOf x x pg bg sg dV kV doc pm an cdv ct) [a] []) (Sg : FnScope Ng [a] sg) (hNg : Ng[0]? = some a) (hva : Vis sg a)
    (hG : LamX.GivesTo X Ng x sg g cdv bg a (X.env.qual ++ "<lambda>") (TTm F.G sub hs Ng.length))
    (TB : LamX.TabB X.base X.mg c P) (hcode : X.env.code = .ref c) (hmT : (P, X.env.qual ++ "<lambda>") ∈ F.G.T) (hu : ∀ p ∈ F.G.T, p.1 = P → p.2 = X.env.qual ++ "<lambda>") (hr : Room (k + 2) X.A) (L : LamX.LamS X.env.scope scope) (hdef : defaultsOf params X.env = ([], []))
    (hbind : ∀ (q : Str) (cl : List (Str × Addr)) (pm cv ctv : Value), bindArgs (PySem.W.kla_fn "<lambda>" q params body scope cl pm cv ctv) ⟨[], []⟩ = pure [])
    (hbody : ∀ (A : Around) (outer : List PySem.Env) (s : Shared) (H : Hp) (E : XK) (f c' : Addr), Room k (A.deeper (LamX.lamEnv X scope s.heap.objs.size f c')) → DE (LamX.lamCx X A outer s H E scope f c') { F with W := fun cls d _ H' => E cls d H' } body fl)
    (hdb : (x == ("__debug__" : Str)) = false := by decide) (hd : (a == ("__debug__" : Str)) = false := by decide) (hcd : (a == ("__classdict__" : Str)) = false := by decide) :
    DE X F (.Call (.Name x p) [.Lambda params body scope lpos] [] pos) (dMet fl sub hs Ng.length) :=
  ⟨PE.weak (LamX.pe_lamcall (T := F.G.T) (TT := TTm F.G sub hs Ng.length) (t := fun E => ({ F with W := fun cls d _ H' => E cls d H' } : Frm).tM F.pD fl) hg hm hk lk hcg hb Sg hNg hva hG TB hcode hmT hu hr L hdef hbind (fun A outer s H E f c' r => (hbody A outer s H E f c' r).pe) hdb hd hcd) fun σ H Q ⟨Hs, E, T, S, e1, q⟩ => ⟨S.tb, fun H1 eN T1 => by
    refine ⟨Hs, E, T, st_ext S eN T1, e1, ?_⟩
    unfold dMet at q
    cases qf : fl (E.map Prod.snd) with
    | ok s e' => rw [qf] at q; exact q
    | stuck => rw [qf] at q; exact q.elim
    | exc x e' =>
      rw [qf] at q
      simp only at q
      intro cls d Hs' H' E' ex m1 m2 S' xa
      refine ⟨strip H', Hs', Hs', x, st_new S', xa, ?_⟩
      cases qt : tryH sub hs x (List.replicate Ng.length .un) with
      | rt s e2 =>
        rw [qt] at q
        intro v Hs3 H3 E3 ex3 m3 S3
        obtain ⟨P, f1, r1⟩ := st_last S3
        have lf := st_left S3
        exact q v Hs3 H3 E' (ex.trans lf.eS) m1 m2 (StR.call0 S' lf f1 r1)
      | _ => rw [qt] at q; exact q.elim⟩⟩
end
end Dl
set_option Elab.async false
set_option linter.all false
set_option maxRecDepth 100000
set_option maxHeartbeats 4000000
namespace Dl
open PySem PySem.Spec PyProof.Rows L2
theorem passes0 {X : Cx} : Passes (L2.CX X.prog X.w) X (fun _ _ _ => False) := fun pins σ H s e s' I x => by
  obtain ⟨_, _, _, _, _, _, _, _, _, _, _, _, z⟩ := x
  exact z.elim
section
variable {P : Program} {w : World} {K : PySem.W.Frag} {mg : Str → Option Value} {base : Heap} {x qual : Str} {params : Arguments} {body : List Stmt} {scope : Scope} {f : Addr} {fd : FuncData} {G : Gx}
/-- a def whose code object is known -/
theorem fn_pureL {N ps : List Str} {k : Nat} {fS : Sm} {c : Addr} (n : Nat) (F : FunD K x qual params body scope [] [] f fd) (hc : fd.code = .ref c) (Sc : FnScope N ps scope) (hn : ps.length = n) (hN : n ≤ N.length)
    (hb : ∀ (A : Around) (outer : List PySem.Env) (s : Shared) (H B Hs : Hp) (E : XK), Room k (A.deeper (envOfC qual scope s.heap.objs.size f (.ref c))) →
      DSs (cxOf (L2.CX P w) P w K mg base N qual scope f (.ref c) A outer s H E) (frmOf G B Hs E) body fS) : FnOk P w K mg base (L2.CX P w) (k + 1) f fd ps (spP G n (fnP N.length fS)) := by
  obtain ⟨oc, od, dV, kV, doc, pm, an, cdv, ct, osl, rfl, lk, hcd, _, _⟩ := F.ex
  have e : cdv = .ref c := hc
  subst e
  refine fn_of lk hcd Sc (fun vs H Q E h => by rw [h.1, hn]) fun A outer s H vs Q E hr h => ?_
  obtain ⟨h1, Hs, ds, e, nt, r, m⟩ := h
  exact ⟨_, (hb A outer s H (strip H) Hs E hr).pss, pure_body (ps := ps) (by omega) e nt r m⟩
theorem fnA_pureL {N ps : List Str} {k : Nat} {fS : Sm} {c : Addr} (n : Nat) (F : FunD K x qual params body scope [] [] f fd) (hc : fd.code = .ref c) (Sc : FnScope N ps scope) (hn : ps.length = n) (hN : n ≤ N.length) (A : Around) (hr : Room (k + 1) A)
    (hb : ∀ (outer : List PySem.Env) (s : Shared) (H B Hs : Hp) (E : XK), Room k (A.deeper (envOfC qual scope s.heap.objs.size f (.ref c))) →
      DSs (cxOf (L2.CX P w) P w K mg base N qual scope f (.ref c) A outer s H E) (frmOf G B Hs E) body fS) : FnA P w K mg base (L2.CX P w) A f fd ps (spP G n (fnP N.length fS)) := by
  obtain ⟨oc, od, dV, kV, doc, pm, an, cdv, ct, osl, rfl, lk, hcd, _, _⟩ := F.ex
  have e : cdv = .ref c := hc
  subst e
  refine fnA_of lk hcd Sc (fun vs H Q E h => by rw [h.1, hn]) A hr fun outer s H vs Q E hr h => ?_
  obtain ⟨h1, Hs, ds, e, nt, r, m⟩ := h
  exact ⟨_, (hb outer s H (strip H) Hs E hr).pss, pure_body (ps := ps) (by omega) e nt r m⟩
/-- an __init__ of an own exception, one field -/
theorem fn_init1 {C : Addr} {g p0 p1 : Str} {k : Nat} (F : FunD K x qual params body scope [] [] f fd) (Sc : FnScope [p0, p1] [p0, p1] scope)
    (hb : ∀ (cdv : Value) (A : Around) (outer : List PySem.Env) (s : Shared) (H : Hp) (E : XK), Room k (A.deeper (envOfC qual scope s.heap.objs.size f cdv)) →
      PSs (cxOf (L2.CX P w) P w K mg base [p0, p1] qual scope f cdv A outer s H E) body (tOst K g (tVar 0) (tVar 1))) : FnOk P w K mg base (L2.CX P w) (k + 1) f fd [p0, p1] (spI K C [g]) :=
  F.ok Sc (fun vs H Q E h => (by have z := spI_len h; exact z)) fun cdv A outer s H vs Q E hr h => ⟨_, hb cdv A outer s H E hr, init1 h⟩
theorem fn_init2 {C : Addr} {g g' p0 p1 p2 : Str} {k : Nat} (F : FunD K x qual params body scope [] [] f fd) (Sc : FnScope [p0, p1, p2] [p0, p1, p2] scope)
    (hb : ∀ (cdv : Value) (A : Around) (outer : List PySem.Env) (s : Shared) (H : Hp) (E : XK), Room k (A.deeper (envOfC qual scope s.heap.objs.size f cdv)) →
      PSs (cxOf (L2.CX P w) P w K mg base [p0, p1, p2] qual scope f cdv A outer s H E) body (tSeq (tOst K g (tVar 0) (tVar 1)) (tOst K g' (tVar 0) (tVar 2)))) : FnOk P w K mg base (L2.CX P w) (k + 1) f fd [p0, p1, p2] (spI K C [g, g']) :=
  F.ok Sc (fun vs H Q E h => (by have z := spI_len h; exact z)) fun cdv A outer s H vs Q E hr h => ⟨_, hb cdv A outer s H E hr, init2 h⟩
end
section
variable {X : Cx} {F : Frm}
/-- g(lambda: body), g a def of the module -/
theorem de_lamF {sub : Str → Str → Option Bool} {hs : HdS} {x a : Str} {g c P : Addr} {fd : FuncData} {k : Nat} {pg : Arguments} {bg : List Stmt} {sg : Scope} {Ng : List Str} {h₀ : ExceptHandler} {hds : List ExceptHandler} {p1 p2 p3 p8 : Pos}
    {params : Arguments} {body : Expr} {scope : Scope} {fl : M Slot} {p lpos pos : Pos} (D : FunD X.K x x pg bg sg [] [] g fd) (hbg : bg = [.Try [.Return (some (.Call (.Name a p1) [] [] p2)) p3] (h₀ :: hds) [] [] p8]) (hg : Gl X x) (hm : X.mg x = some (.ref g))
    (hb : L2.Binds X.K fd [a] []) (Sg : FnScope Ng [a] sg) (hNg : Ng[0]? = some a) (hva : Vis sg a) (h0 : ∀ f : Addr, (L2.start Ng [V.ref f])[0]? = some (some (V.ref f)))
    (hh : ∀ (cdg : Value) (s : Shared) (H : Hp), DHdG (cxOf C8.CX0 X.prog X.w X.K X.mg X.base Ng x sg g cdg X.A X.stack s H C8.E0).nox F.G sub (h₀ :: hds) hs)
    (TB : LamX.TabB X.base X.mg c P) (hcode : X.env.code = .ref c) (hmT : (P, X.env.qual ++ "<lambda>") ∈ F.G.T) (hu : ∀ p ∈ F.G.T, p.1 = P → p.2 = X.env.qual ++ "<lambda>") (hr : Room (k + 2) X.A) (L : LamX.LamS X.env.scope scope) (hdef : defaultsOf params X.env = ([], []))
    (hbind : ∀ (q : Str) (cl : List (Str × Addr)) (pm cv ctv : Value), bindArgs (PySem.W.kla_fn "<lambda>" q params body scope cl pm cv ctv) ⟨[], []⟩ = pure [])
    (hbody : ∀ (A : Around) (outer : List PySem.Env) (s : Shared) (H : Hp) (E : XK) (f c' : Addr), Room k (A.deeper (LamX.lamEnv X scope s.heap.objs.size f c')) → DE (LamX.lamCx X A outer s H E scope f c') { F with W := fun cls d _ H' => E cls d H' } body fl)
    (hdb : (x == ("__debug__" : Str)) = false := by decide) (hd : (a == ("__debug__" : Str)) = false := by decide) (hcd : (a == ("__classdict__" : Str)) = false := by decide) :
    DE X F (.Call (.Name x p) [.Lambda params body scope lpos] [] pos) (dMet fl sub hs Ng.length) := by
  obtain ⟨oc, od, dV, kV, doc, pm, an, cdv, ct, osl, rfl, lk, hcd', _, _⟩ := D.ex
  subst hbg
  exact de_lam hg hm D.kp lk hcd' hb Sg hNg hva (met_gives Sg.nd h0 fun s H => hh cdv s H) TB hcode hmT hu hr L hdef hbind hbody hdb hd hcd
end
end Dl
set_option Elab.async false
set_option linter.all false
set_option maxRecDepth 100000
set_option maxHeartbeats 4000000
namespace Dl
open PySem PySem.Spec PyProof.Rows L2
section
variable {F : Frm}
def gAbs : List D → Option Slot := g1 fun d => match d with
  | .int i => some (.sh (.int (if i < 0 then -i else i)))
  | _ => none
theorem opn_abs : Opn F (fun xs H Q => ∃ i, xs = [.int i] ∧ Q (.int (if i < 0 then -i else i)) H) gAbs := by
  refine opn1 fun Hs H L v d s Q S r h k => ?_
  cases d with
  | int i => cases h; cases (show v = .int i from r); exact ⟨i, rfl, fin_sh S (by exact rfl) k⟩
  | _ => cases h
end

section
variable {X : Cx} {F : Frm}
/-- a, b, c = x, y, z of plain names: shared values -/
def sPar3 (i j l : Nat) (fa : M (List Opd)) : Sm := fun e => (fa e).fl fun os e => match vals os with
  | some [d1, d2, d3] => if i < e.length ∧ j < e.length ∧ l < e.length then .nx (((e.set i (.sh d1)).set j (.sh d2)).set l (.sh d3)) else .stuck
  | _ => .stuck
theorem s_par3 {i j l : Nat} {x y z : Str} {a b c : Expr} {fa : M (List Opd)} {px py pz pt pos : Pos} {kt k2 pt2} (hc : X.calm = true) (hN : X.N.Nodup) (hi : X.N[i]? = some x) (hj : X.N[j]? = some y) (hl : X.N[l]? = some z) (hij : i ≠ j) (hil : i ≠ l) (hjl : j ≠ l)
    (hx : X.env.scope.names.lookup x = some .local) (hy : X.env.scope.names.lookup y = some .local) (hz : X.env.scope.names.lookup z = some .local) (ha : DA X F [a, b, c] fa)
    (hw : swappedStores [.Tuple [.Name x px, .Name y py, .Name z pz] kt pt] (.Tuple [a, b, c] k2 pt2) X.env = pure (some [x, y, z]))
    (hs : swapsWithSole [.Tuple [.Name x px, .Name y py, .Name z pz] kt pt] (.Tuple [a, b, c] k2 pt2) pos.line X.env = pure false := by rfl) :
    DS X F (.Assign [.Tuple [.Name x px, .Name y py, .Name z pz] kt pt] (.Tuple [a, b, c] k2 pt2) pos) (sPar3 i j l fa) := ⟨PS.weak (ps_par3 hc hN hi hj hl hij hil hjl hx hy hz ha.pa hw hs) fun D σ H ⟨Hs, E, S, e1, q⟩ => by
  refine ⟨Hs, E, [], st_nil S, e1, EndS.bind q fun vs os env' Hs1 H1 E1 ex m1 m2 p q => ?_⟩
  subst m2
  obtain ⟨S1, ro⟩ := p
  have S1 := nil_st S1
  cases qv : vals os with
  | none => rw [qv] at q; exact q.elim
  | some ds =>
    rw [qv] at q
    have rl := vals_rep ro qv
    match ds, rl, q with
    | [d1, d2, d3], ⟨v1, r1, e1', h1, v2, r2, e2', h2, v3, r3, e3', h3, e4'⟩, q =>
      subst e1' e2' e3'
      cases (show r3 = [] from e4')
      have q : F.EndS Hs1 (if i < (E1.map Prod.snd).length ∧ j < (E1.map Prod.snd).length ∧ l < (E1.map Prod.snd).length then .nx ((((E1.map Prod.snd).set i (.sh d1)).set j (.sh d2)).set l (.sh d3)) else .stuck) D := q
      split at q
      · rename_i hlen
        obtain ⟨l1, l2, l3⟩ := hlen
        rw [List.length_map] at l1 l2 l3
        refine ⟨v1, v2, v3, rfl, ?_⟩
        have S2 : F.St Hs1 H1 (E1.set i (some v1, .sh d1)) := StR.move (StR.pushSh S1 h1) l1
        have S3 : F.St Hs1 H1 ((E1.set i (some v1, .sh d1)).set j (some v2, .sh d2)) := StR.move (StR.pushSh S2 h2) (by rw [List.length_set]; exact l2)
        have S4 : F.St Hs1 H1 (((E1.set i (some v1, .sh d1)).set j (some v2, .sh d2)).set l (some v3, .sh d3)) := StR.move (StR.pushSh S3 h3) (by rw [List.length_set, List.length_set]; exact l3)
        have := q Hs1 H1 _ (Ex.refl _) (by rw [map_snd_set, map_snd_set, map_snd_set]) S4
        rw [map_fst_set', map_fst_set', map_fst_set', m1] at this
        exact this
      · exact q.elim
    | [], _, q => exact q.elim
    | [_], _, q => exact q.elim
    | [_, _], _, q => exact q.elim
    | _ :: _ :: _ :: _ :: _, _, q => exact q.elim⟩
end
end Dl
set_option Elab.async false
set_option linter.all false
set_option maxRecDepth 100000
set_option maxHeartbeats 4000000
namespace PySem
open Sem (wp)
namespace F
theorem args_sum2 (a b : Value) : argsOk "sum" ⟨[a, b], []⟩ := by unfold argsOk; kernel_rfl
end F
/-! ### sum(lists, list) -/
section
variable {prog : Program} {w : World} {A : Around} {R : Result → Shared → Prop} {l : Addr} {as : List Addr}
theorem codeAny_sum_lists (hh : A.handled = none) (iss : Nat → Array Value) (cap : Nat → Nat) (h0 : Heap) (hil : h0.IsList l (as.map Value.ref).toArray) (his : ∀ i a, as[i]? = some a → IsL h0 a (iss i) (cap i))
    (acc : Nat → Array Value) (hacc : ∀ i, i < as.length → acc (i + 1) = acc i ++ iss i) (hz : ∀ i, i < as.length → (acc i).size + (iss i).size ≤ sizeLine) :
    ∀ (k i : Nat) (s : Shared) (t n c : Nat), as.length - i = k → i ≤ as.length → s.heap.IsListIter h0.objs.size l i → s.heap.get? (h0.objs.size + 1) = some { cls := .type "list", dict := none, data := .seq #[.ref t] c, slots := #[] } → IsL s.heap t (acc i) n →
      (t ≠ h0.objs.size ∧ t ≠ h0.objs.size + 1) → (0 < i → h0.objs.size ≤ t) → (∀ b o, h0.get? b = some o → s.heap.get? b = some o) →
      (∀ h' tk t' n', (∀ b o, h0.get? b = some o → h'.get? b = some o) → IsL h' t' (acc as.length) n' → (0 < as.length → h0.objs.size ≤ t') → R (.ok (.ret (.ref t'))) { s with heap := h', toks := tk }) →
      codeAny (model prog w) A (.builtin "sum.loop" ⟨[.ref h0.objs.size, .ref (h0.objs.size + 1), rawInt 2, rawInt 0], []⟩) R s := by
  have hh1 : A.in1.handled = none := hh
  have hne : l ≠ h0.objs.size := by obtain ⟨_, e, _⟩ := hil; exact Nat.ne_of_lt (Heap.lt_size e)
  intro k
  induction k with
  | zero =>
    intro i s t n c hk hi hit hS ht hts hti hold hR
    have hin : i = as.length := by omega
    subst hin
    have hl : s.heap.IsList l (as.map Value.ref).toArray := hil.at fun o e => hold l o e
    refine codeAny_builtin F.entry_sum_loop ?_
    rw [Around.under_plainId F.plain_sum_loop _]
    show wpAny _ A.in1 (seqItems? (.ref (h0.objs.size + 1)) >>= _) _ _ s
    refine wpAny_bind (wpAny_seqItems hS rfl ?_)
    show wpAny _ A.in1 (tryCatch (pyNext (.ref h0.objs.size)) _ >>= _) _ _ s
    refine wpAny_bind (wpAny_tryCatch (wpAny_pyNext_list_end hh1 hit hl (by simp) fun h' he' => ?_))
    refine wpAny_pure (hR h' s.toks t n (fun b o e => he' b o (Nat.ne_of_lt (Heap.lt_size e)) (hold b o e)) ?_ hti)
    exact he' t _ hts.1 ht
  | succ k ih =>
    intro i s t n c hk hi hit hS ht hts hti hold hR
    have hlt : i < as.length := by omega
    have hl : s.heap.IsList l (as.map Value.ref).toArray := hil.at fun o e => hold l o e
    have ha : as[i]? = some as[i] := List.getElem?_eq_getElem hlt
    refine codeAny_builtin F.entry_sum_loop ?_
    rw [Around.under_plainId F.plain_sum_loop _]
    show wpAny _ A.in1 (seqItems? (.ref (h0.objs.size + 1)) >>= _) _ _ s
    refine wpAny_bind (wpAny_seqItems hS rfl ?_)
    show wpAny _ A.in1 (tryCatch (pyNext (.ref h0.objs.size)) _ >>= _) _ _ s
    refine wpAny_bind (wpAny_tryCatch (wpAny_pyNext_list_item hit hl (x := .ref as[i]) (by simp [hlt]) fun h' hit' hs' => ?_))
    have hk' : ∀ b o, b ≠ h0.objs.size → s.heap.get? b = some o → h'.get? b = some o := fun b o hb e => hs'.extBut b o hb e
    have hold' : ∀ b o, h0.get? b = some o → h'.get? b = some o := fun b o e => hk' b o (Nat.ne_of_lt (Heap.lt_size e)) (hold b o e)
    have hS' := hk' _ _ (Nat.succ_ne_self _) hS
    have ht' : IsL h' t (acc i) n := hk' t _ hts.1 ht
    have hb' : IsL h' as[i] (iss i) (cap i) := hold' _ _ (his i _ ha)
    show wpAny _ A.in1 ((holding [Value.ref as[i]] (binaryOp .Add (.ref t) (.ref as[i]))).attempt >>= _) _ _ _
    refine wpAny_bind (wpAny_attempt (wpAny_holding (PySem.P.add_list ht' hb' ?_ (hz i hlt))))
    have hsz : h0.objs.size + 1 < h'.objs.size := Heap.lt_size hS'
    have hS2 : (h'.push { cls := .type "list", data := .seq (acc i ++ iss i) }).get? (h0.objs.size + 1) = _ := Heap.get?_push_of_some _ hS'
    show wpAny _ A.in1 (updateSeq (h0.objs.size + 1) (fun _ => #[.ref h'.objs.size]) >>= _) _ _ _
    refine wpAny_bind ?_
    refine wpAny_updateSeq hS2 rfl ?_
    have hS3 := Heap.get?_update_self (Obj.mapSeq fun _ => #[Value.ref h'.objs.size]) hS2 rfl
    refine wpAny_bind (wpAny_letGo ?_)
    refine wpAny_bind ?_
    refine wpAny_updateSeq hS3 rfl (wpAny_pure ⟨plainId_quiet F.plain_sum_loop _, ?_⟩)
    have o2 : ∀ b o, b ≠ h0.objs.size + 1 → (h'.push { cls := .type "list", data := .seq (acc i ++ iss i) }).get? b = some o → (((h'.push { cls := .type "list", data := .seq (acc i ++ iss i) }).update (h0.objs.size + 1) (Obj.mapSeq fun _ => #[Value.ref h'.objs.size])).update (h0.objs.size + 1) (Obj.mapSeq fun _ => #[Value.ref h'.objs.size])).get? b = some o :=
      fun b o hb e => (Heap.get?_update_other _ _ (Ne.symm hb)).trans ((Heap.get?_update_other _ _ (Ne.symm hb)).trans e)
    refine ih (i + 1) _ h'.objs.size 0 _ (by omega) hlt (hit'.at fun o e => o2 _ _ (Nat.ne_of_lt (Nat.lt_succ_self _)) (Heap.get?_push_of_some _ e)) (Heap.get?_update_self _ hS3 rfl) ?_ ⟨by omega, by omega⟩ (fun _ => by omega)
      (fun b o e => o2 b o (Nat.ne_of_lt (Nat.lt_succ_of_lt (Heap.lt_size e))) (Heap.get?_push_of_some _ (hold' b o e))) fun h'' tk t' n' e1 e2 e3 => ?_
    · rw [hacc i hlt]
      exact o2 _ _ (by omega) (Heap.get?_push_size _ rfl)
    · exact hR h'' tk t' n' e1 e2 e3
end

theorem sub_list_str' : isSubtype (.type "list") (.type "str") = pure false := by rw [isSubtype_type]; kernel_rfl
theorem sub_list_bytes' : isSubtype (.type "list") (.type "bytes") = pure false := by rw [isSubtype_type]; kernel_rfl
theorem sub_list_bytearray' : isSubtype (.type "list") (.type "bytearray") = pure false := by rw [isSubtype_type]; kernel_rfl
section
variable {prog : Program} {w : World} {A : Around} {E : Value → Shared → Prop} {s : Shared} {l st : Addr} {as : List Addr}
theorem call_sum_lists (hh : A.handled = none) (iss : Nat → Array Value) (cap : Nat → Nat) (hil : s.heap.IsList l (as.map Value.ref).toArray) (his : ∀ i a, as[i]? = some a → IsL s.heap a (iss i) (cap i))
    (acc : Nat → Array Value) (hacc : ∀ i, i < as.length → acc (i + 1) = acc i ++ iss i) (hz : ∀ i, i < as.length → (acc i).size + (iss i).size ≤ sizeLine) {n : Nat} (hst : IsL s.heap st (acc 0) n) {Q : Value → Shared → Prop}
    (h : ∀ h' tk t' n', (∀ b o, s.heap.get? b = some o → h'.get? b = some o) → IsL h' t' (acc as.length) n' → (0 < as.length → s.heap.objs.size ≤ t') → Q (.ref t') { s with heap := h', toks := tk }) :
    wpAny (model prog w) A (call (.builtin "sum") [.ref l, .ref st]) Q E s := by
  refine call_function_tree F.kind_sum F.plain_sum F.entry_sum (F.args_sum2 _ _) ?_
  unfold Builtin.«sum»
  simp only [List.length_cons, List.length_nil]
  rw [if_neg (by decide)]
  refine wpAny_bind (wpAny_of_eq (show Builtin.Builtins.bindParams "sum" ["start"] 0 ⟨[.ref st], []⟩ = pure [some (.ref st)] from rfl) ?_)
  have hlt : l < s.heap.objs.size := by obtain ⟨_, e, _⟩ := hil; exact Heap.lt_size e
  refine wpAny_bind (wpAny_pyIter_list hil ?_)
  have hts : ∀ (s' : Shared), s'.heap.get? st = some { cls := .type "list", dict := none, data := .seq (acc 0) n, slots := #[] } → s'.TypeIs (.ref st) "list" := fun s' e => ⟨_, e, rfl⟩
  have h2 : (s.heap.push { cls := .type "list_iterator", data := .fields #[.ref l, .int 0 0] }).get? st = _ := Heap.get?_push_of_some _ hst
  refine wpAny_bind (wpAny_pure ?_)
  simp only [List.forIn_cons, List.forIn_nil]
  refine wpAny_bind (wpAny_bind (wpAny_bind (wpAny_isInstance (T := "list") (b := false) (hts _ h2) sub_list_str' ?_)))
  simp only [Bool.false_eq_true, if_false]
  refine wpAny_pure (wpAny_bind (wpAny_bind (wpAny_isInstance (T := "list") (b := false) (hts _ h2) sub_list_bytes' ?_)))
  simp only [Bool.false_eq_true, if_false]
  refine wpAny_pure (wpAny_bind (wpAny_bind (wpAny_isInstance (T := "list") (b := false) (hts _ h2) sub_list_bytearray' ?_)))
  simp only [Bool.false_eq_true, if_false]
  refine wpAny_pure (wpAny_pure ?_)
  refine wpAny_bind (wpAny_newObj_type ?_)
  have e1 : (s.heap.push { cls := .type "list_iterator", data := .fields #[.ref l, .int 0 0] }).objs.size = s.heap.objs.size + 1 := Heap.size_push ..
  refine wpAny_pure ⟨plainId_quiet F.plain_sum_loop _, ?_⟩
  show codeAny _ _ (.builtin "sum.loop" ⟨[.ref s.heap.objs.size, .ref (s.heap.push { cls := .type "list_iterator", data := .fields #[.ref l, .int 0 0] }).objs.size, rawInt 2, rawInt 0], []⟩) _ _
  rw [e1]
  have old : ∀ b o, s.heap.get? b = some o → ((s.heap.push { cls := .type "list_iterator", data := .fields #[.ref l, .int 0 0] }).push { cls := .type "list", data := .seq #[.ref st] }).get? b = some o := fun b o e => Heap.get?_push_of_some _ (Heap.get?_push_of_some _ e)
  have ls : st < s.heap.objs.size := Heap.lt_size hst
  refine codeAny_sum_lists hh iss cap s.heap hil his acc hacc hz as.length 0 _ st n 0 (by omega) (Nat.zero_le _) ⟨_, Heap.get?_push_of_some _ (Heap.get?_push_size _ rfl), rfl, rfl⟩ ?_ (old _ _ hst) ⟨Nat.ne_of_lt ls, Nat.ne_of_lt (Nat.lt_succ_of_lt ls)⟩ (fun z => absurd z (Nat.lt_irrefl _)) old fun h' tk t' n' k1 k2 k3 => ?_
  · have := Heap.get?_push_size (s.heap.push { cls := .type "list_iterator", data := .fields #[.ref l, .int 0 0] }) (o := { cls := .type "list", data := .seq #[.ref st] }) rfl
    rw [e1] at this
    exact this
  · exact h h' tk t' n' k1 k2 k3
end
end PySem

namespace Dl
open PySem PySem.Spec PyProof.Rows L2
/-! ### sum(lists, []) by values -/
def rSumL : List V → Hp → VK → Prop := fun xs H Q => ∃ (l b : Addr) (as : List Addr) (xss : List (List V)), xs = [.ref l, .ref b] ∧ H l = some (.lst (as.map V.ref)) ∧ as ≠ [] ∧ H b = some (.lst []) ∧ as.length = xss.length ∧ (∀ (i : Nat) (a : Addr) (ys : List V), as[i]? = some a → xss[i]? = some ys → H a = some (.lst ys)) ∧ xss.flatten.length ≤ sizeLine ∧
  ∀ p, H p = none → Q (.ref p) (upd H p (.lst xss.flatten))
theorem refs_vals : ∀ {as : List Addr} {us : List Value}, Vals (as.map V.ref) us → us = as.map Value.ref
  | [], us, h => by cases h; rfl
  | a :: as, us, h => by
    cases h with
    | cons r t =>
      rw [refs_vals t]
      cases r
      rfl
theorem take_flat {α : Type} {ll : List (List α)} {i : Nat} (h : i < ll.length) : (ll.take (i + 1)).flatten = (ll.take i).flatten ++ ll[i] := by
  rw [List.take_succ, List.getElem?_eq_getElem h, List.flatten_append]
  simp
theorem vals_flat : ∀ {xss : List (List V)} {iss : List (List Value)}, xss.length = iss.length → (∀ (i : Nat) (xs : List V) (us : List Value), xss[i]? = some xs → iss[i]? = some us → Vals xs us) → Vals xss.flatten iss.flatten
  | [], [], _, _ => .nil
  | [], _ :: _, h, _ => by simp at h
  | _ :: _, [], h, _ => by simp at h
  | xs :: xss, us :: iss, h, r => by
    rw [List.flatten_cons, List.flatten_cons]
    exact (r 0 xs us rfl rfl).append (vals_flat (by simpa using h) fun i xs us h1 h2 => r (i + 1) xs us (by simpa using h1) (by simpa using h2))
theorem pick_all {α β : Type} {P : Nat → α → β → Prop} : ∀ {l : List α}, (∀ (i : Nat) (a : α), l[i]? = some a → ∃ b, P i a b) → ∃ m : List β, m.length = l.length ∧ ∀ (i : Nat) (a : α) (b : β), l[i]? = some a → m[i]? = some b → P i a b
  | [], _ => ⟨[], rfl, fun i a b h => by simp at h⟩
  | a :: l, h => by
    obtain ⟨b, hb⟩ := h 0 a rfl
    obtain ⟨m, h1, h2⟩ := pick_all (P := fun i => P (i + 1)) (l := l) fun i a h3 => h (i + 1) a (by simpa using h3)
    refine ⟨b :: m, by simp [h1], fun i a b h3 h4 => ?_⟩
    cases i with
    | zero => simp at h3 h4; subst h3 h4; exact hb
    | succ i => exact h2 i a b (by simpa using h3) (by simpa using h4)
section
variable {X : Cx} {F : Frm}
theorem cr_sumL (hc : X.calm = true) : CallR X (.builtin "sum") rSumL := by
  intro pins s σ H vs us Q I r h
  obtain ⟨l, b, as, xss, rfl, hl, hne, hb, hlen, hH, hz, q⟩ := h
  obtain rfl : us = [.ref l, .ref b] := by
    cases r with
    | cons r1 t1 => cases t1 with
      | cons r2 t2 => cases t2; cases r1; cases r2; rfl
  obtain ⟨_, its, _, rv, _, el⟩ := I.lstM hl
  have e := refs_vals rv
  subst e
  obtain ⟨_, its0, n0, rv0, _, eb⟩ := I.lstM hb
  cases rv0
  obtain ⟨m, hm, hmp⟩ := pick_all (P := fun i (a : Addr) (p : List Value × Nat) => ∀ ys, xss[i]? = some ys → Vals ys p.1 ∧ IsL s.heap a p.1.toArray p.2) (l := as) fun i a ha => by
    have hi : i < xss.length := by rw [← hlen]; exact (List.getElem?_eq_some_iff.mp ha).1
    obtain ⟨_, its, n, rr, _, ee⟩ := I.lstM (hH i a xss[i] ha (List.getElem?_eq_getElem hi))
    exact ⟨(its, n), fun ys hy => by rw [List.getElem?_eq_getElem hi] at hy; cases hy; exact ⟨rr, ee⟩⟩
  have hget : ∀ i, (h : i < as.length) → Vals (xss[i]'(by omega)) (m[i]'(by omega)).1 ∧ IsL s.heap as[i] (m[i]'(by omega)).1.toArray (m[i]'(by omega)).2 := fun i h => hmp i _ _ (List.getElem?_eq_getElem h) (List.getElem?_eq_getElem (by omega)) _ (List.getElem?_eq_getElem (by omega))
  have hv : Vals xss.flatten (m.map Prod.fst).flatten := vals_flat (by simp; omega) fun i xs us h1 h2 => by
    have hi : i < xss.length := (List.getElem?_eq_some_iff.mp h1).1
    rw [List.getElem?_eq_getElem hi] at h1
    cases h1
    rw [List.getElem?_map, List.getElem?_eq_getElem (by omega)] at h2
    cases h2
    exact (hget i (by omega)).1
  have hvl : (m.map Prod.fst).flatten.length ≤ sizeLine := by rw [← hv.length]; exact hz
  have hacc : ∀ i, i < as.length → ((m.map Prod.fst).take (i + 1)).flatten = ((m.map Prod.fst).take i).flatten ++ ((m[i]?).getD ([], 0)).1 := fun i h => by
    rw [take_flat (by simp; omega), List.getElem?_eq_getElem (by omega)]
    simp
  have hpre : ∀ i, ((m.map Prod.fst).take i).flatten.length ≤ (m.map Prod.fst).flatten.length := fun i => by
    conv => rhs; rw [← List.take_append_drop i (m.map Prod.fst), List.flatten_append, List.length_append]
    omega
  refine call_sum_lists (I.ok.hd hc) (as := as) (iss := fun i => ((m[i]?).getD ([], 0)).1.toArray) (cap := fun i => ((m[i]?).getD ([], 0)).2) (acc := fun i => ((m.map Prod.fst).take i).flatten.toArray) (n := n0) ⟨_, el, rfl, _, rfl⟩ (fun i a ha => ?_) (fun i hi => ?_) (fun i hi => ?_) eb fun h' tk t' n' k1 k2 k3 => ?_
  · have hi := (List.getElem?_eq_some_iff.mp ha).1
    rw [List.getElem?_eq_getElem hi] at ha
    cases ha
    have := (hget i hi).2
    rw [List.getElem?_eq_getElem (by omega)]
    exact this
  · show ((m.map Prod.fst).take (i + 1)).flatten.toArray = _
    rw [hacc i hi]; simp
  · have := hpre (i + 1)
    rw [hacc i hi, List.length_append] at this
    show ((m.map Prod.fst).take i).flatten.toArray.size + ((m[i]?).getD ([], 0)).1.toArray.size ≤ _
    simp only [List.size_toArray]
    omega
  · have e2 : ((m.map Prod.fst).take as.length).flatten = (m.map Prod.fst).flatten := by rw [List.take_of_length_le (by simp; omega)]
    have k2 : IsL h' t' ((m.map Prod.fst).take as.length).flatten.toArray n' := k2
    rw [e2] at k2
    have hp : s.heap.objs.size ≤ t' := k3 (List.length_pos_iff.mpr hne)
    exact ⟨.ref t', upd H t' (.lst xss.flatten), I.laid (t' := tk) k1 hp ⟨hz, (m.map Prod.fst).flatten, n', hv, k2⟩, rfl, q t' (I.hok.fresh hp)⟩
end
end Dl
namespace Dl
open PySem PySem.Spec PyProof.Rows L2
def lstsD : List D → Option (List (List D))
  | [] => some []
  | .lst l :: r => (lstsD r).map (l :: ·)
  | _ => none
def gSumL : List D → Option Slot
  | [.lst (d :: l), .lst []] => (match lstsD (d :: l) with
    | some ll => (match lenOk ll.flatten.length with
      | true => some (.ol ll.flatten)
      | false => none)
    | none => none)
  | _ => none
theorem lsts_rep {G : Gx} {H : Hp} : ∀ {l : List D} {ll : List (List D)} {vs : List V}, RepL G H l vs → lstsD l = some ll → ∃ (as : List Addr) (xss : List (List V)), vs = as.map V.ref ∧ as.length = xss.length ∧ as.length = l.length ∧ (∀ (i : Nat) (a : Addr) (ys : List V), as[i]? = some a → xss[i]? = some ys → H a = some (.lst ys)) ∧ RepL G H ll.flatten xss.flatten
  | [], ll, vs, h, e => by
    cases e
    cases (show vs = [] from h)
    exact ⟨[], [], rfl, rfl, rfl, fun i a ys h => by simp at h, rfl⟩
  | d :: l, ll, vs, h, e => by
    cases d with
    | lst l' =>
      obtain ⟨v, r, rfl, ⟨a, ws, rfl, h1, h2⟩, h3⟩ := h
      cases q : lstsD l with
      | none => simp [lstsD, q] at e
      | some ll' =>
        simp only [lstsD, q, Option.map_some, Option.some.injEq] at e
        subst e
        obtain ⟨as, xss, rfl, k1, k2, k3, k4⟩ := lsts_rep h3 q
        refine ⟨a :: as, ws :: xss, rfl, by simp [k1], by simp [k2], fun i b ys g1 g2 => ?_, ?_⟩
        · cases i with
          | zero => simp at g1 g2; subst g1 g2; exact h1
          | succ i => exact k3 i b ys (by simpa using g1) (by simpa using g2)
        · rw [List.flatten_cons, List.flatten_cons]
          exact h2.append k4
    | _ => simp [lstsD] at e
section
variable {F : Frm}
theorem opn_sumL : Opn F rSumL gSumL := by
  intro Hs H L xs ds s Q S rr h k
  unfold gSumL at h
  split at h
  · rename_i d l
    cases q1 : lstsD (d :: l) with
    | none => rw [q1] at h; cases h
    | some ll =>
      rw [q1] at h
      simp only at h
      cases q2 : lenOk ll.flatten.length with
      | false => rw [q2] at h; cases h
      | true =>
        rw [q2] at h; cases h
        obtain ⟨v, r, rfl, ⟨a, vs, rfl, h1, h2⟩, v2, r2, rfl, ⟨b, ws, rfl, g1, g2⟩, h3⟩ := rr
        cases (show r2 = [] from h3)
        cases (show ws = [] from g2)
        obtain ⟨as, xss, rfl, k1, k2, k3, k4⟩ := lsts_rep h2 q1
        refine ⟨a, b, as, xss, rfl, h1, fun z => by rw [z] at k2; simp at k2, g1, k1, fun i c ys e1 e2 => S.eS.get (k3 i c ys e1 e2), by rw [← k4.length]; exact lenOk_le q2, fin_ol S k4 k⟩
  · cases h
end
end Dl
set_option Elab.async false
set_option linter.all false
set_option maxRecDepth 100000
set_option maxHeartbeats 4000000
namespace Dl
open PySem PySem.Spec PyProof.Rows L2
/-! ### calls of a def that is served from this place alone -/
section
variable {X : Cx} {F : Frm} {f : Addr} {fd : FuncData} {ps : List Str} {x : Str} {p pos : Pos} {e : Expr} {es : List Expr} {sp : Sp} {E : L2.St → XK} {t : TA}
theorem pe_callAt (FO : FnA X.prog X.w X.K X.mg X.base (L2.CX X.prog X.w) X.A f fd ps sp) (len : ∀ vs H Q E, sp vs H Q E → vs.length = ps.length) (hg : Gl X x) (hm : X.mg x = some (.ref f)) (hk : PySem.W.keepIn X.K (.ref f) = true) (hb : Binds X.K fd ps [])
    (hx : ∀ σ, PassesAt (L2.CX X.prog X.w) X σ (E σ)) (ha : PA X (e :: es) t) (hdb : (x == ("__debug__" : Str)) = false := by decide) (he : starEach (e :: es) X.env = (false, eval e X.env) :: starEach es X.env := by rfl) (hpl : (backTo pos (starEach es X.env)).any (·.1) = false := by rfl) :
    PE X (.Call (.Name x p) (e :: es) [] pos) (tCallSD sp [] E t) := by
  refine ⟨fun pins s σ H Q I h => ?_⟩
  refine wpAny_Call_Name_kw (ld_glob I hg hm ?_ hdb)
  refine PySem.W.callWith_K (h₀ := X.base) I.ok.mod.kin hk (thn (ha.run pos pins s σ H _ I h) fun us s1 ⟨vs, H1, I1, r, q⟩ => ⟨I1.kIn, ?_⟩) he hpl
  have q : sp (vs ++ []) H1 Q (E σ) := q
  rw [List.append_nil] at q
  show wpAny (model X.prog X.w) X.A (call (.ref f) us) (EP X pins σ Q) X.xe s1
  have hl : (us ++ []).length = ps.length := by rw [List.append_nil, ← r.length]; exact len _ _ _ _ q
  have b := hb s1 us I1.kIn hl
  rw [List.append_nil] at b
  refine wpAny_call (codeAny_mono (FO.run X.stack s1 H1 ⟨us, []⟩ us vs Q (E σ) I1.env0 b r q) fun r s' hq => ?_)
  cases r with
  | error e => exact hx σ pins H1 s1 e s' I1 hq
  | ok fl =>
    cases fl with
    | ret u => exact I1.after hq
    | next => exact False.elim hq
    | brk => exact False.elim hq
    | cont => exact False.elim hq
theorem de_callA {G : Gx} {Fn : List D → Rs} {n : Nat} {fa : M (List Opd)} (FO : FnA X.prog X.w X.K X.mg X.base (L2.CX X.prog X.w) X.A f fd ps (spP G n Fn)) (hn : ps.length = n) (hG : F.G = G) (hg : Gl X x) (hm : X.mg x = some (.ref f)) (hk : PySem.W.keepIn X.K (.ref f) = true)
    (hb : Binds X.K fd ps []) (tk : Takes X F.W) (ha : DA X F (e :: es) fa) (hdb : (x == ("__debug__" : Str)) = false := by decide) (he : starEach (e :: es) X.env = (false, eval e X.env) :: starEach es X.env := by rfl) (hpl : (backTo pos (starEach es X.env)).any (·.1) = false := by rfl) :
    DE X F (.Call (.Name x p) (e :: es) [] pos) (dCall n Fn fa) := ⟨PE.weak (pe_callAt (E := fun σ cls d H => F.W cls d σ H) FO (fun vs H Q E h => by rw [h.1, hn]) hg hm hk hb (fun σ => passAt tk σ) ha.pa hdb he hpl) fun σ H Q ⟨Hs, E, T, S, e1, q⟩ => by
  refine ⟨Hs, E, T, S, e1, q.bind fun vs os env' Hs1 H1 E1 ex m1 m2 p q => ?_⟩
  subst m2
  rw [List.append_nil]
  exact end_call hG p.1 m1 p.2 q⟩
end
section
variable {P : Program} {w : World} {K : PySem.W.Frag} {mg : Str → Option Value} {base : Heap} {x qual : Str} {params : Arguments} {body : List Stmt} {scope : Scope} {f : Addr} {fd : FuncData} {G : Gx}
/-- as fnA_pure, fnA_pureL, from every place where repr may be asked -/
theorem fnG_pure {N ps : List Str} {k : Nat} {fS : Sm} (n : Nat) (F : FunD K x qual params body scope [] [] f fd) (Sc : FnScope N ps scope) (hn : ps.length = n) (hN : n ≤ N.length)
    (hb : ∀ (A : Around) (cdv : Value) (outer : List PySem.Env) (s : Shared) (H B Hs : Hp) (E : XK), A.guards = some [] → Room k (A.deeper (envOfC qual scope s.heap.objs.size f cdv)) →
      DSs (cxOf (L2.CX P w) P w K mg base N qual scope f cdv A outer s H E) (frmOf G B Hs E) body fS) : ∀ A : Around, Room (k + 1) A → A.guards = some [] → FnA P w K mg base (L2.CX P w) A f fd ps (spP G n (fnP N.length fS)) :=
  fun A hr hg => fnA_pure n F Sc hn hN A hr fun cdv outer s H B Hs E hr => hb A cdv outer s H B Hs E hg hr
theorem fnG_pureL {N ps : List Str} {k : Nat} {fS : Sm} {c : Addr} (n : Nat) (F : FunD K x qual params body scope [] [] f fd) (hc : fd.code = .ref c) (Sc : FnScope N ps scope) (hn : ps.length = n) (hN : n ≤ N.length)
    (hb : ∀ (A : Around) (outer : List PySem.Env) (s : Shared) (H B Hs : Hp) (E : XK), A.guards = some [] → Room k (A.deeper (envOfC qual scope s.heap.objs.size f (.ref c))) →
      DSs (cxOf (L2.CX P w) P w K mg base N qual scope f (.ref c) A outer s H E) (frmOf G B Hs E) body fS) : ∀ A : Around, Room (k + 1) A → A.guards = some [] → FnA P w K mg base (L2.CX P w) A f fd ps (spP G n (fnP N.length fS)) :=
  fun A hr hg => fnA_pureL n F hc Sc hn hN A hr fun outer s H B Hs E hr => hb A outer s H B Hs E hg hr
end
/-- an own class, asked of any value -/
def baseT : List String := ["NoneType", "bool", "int", "str", "tuple", "list", "dict"]
theorem isi_ownT {X : Cx} {F : Frm} {c0 : Str} {C : Addr} (h0 : F.G.cl c0 = some C) (hI : InsOk X.K C) (hv : ∀ t ∈ baseT, PySem.W.kitOne X.K (.type t) (.ref C) = some false) : IsiOk X F (.ref C) (isOwn c0 true) := by
  refine ⟨fun d b t h ty => ?_, fun c ns l C' b h h1 => ?_, fun _ _ _ => rfl⟩
  · cases d with
    | ins c ns l =>
      obtain ⟨C', h1, rfl⟩ := ty
      obtain ⟨z, rfl⟩ := isOwn_ins h
      subst z
      rw [h0] at h1; cases h1
      unfold PySem.W.kitOne
      rw [if_pos (by simp)]
    | exn c ns l => cases h
    | _ => cases h; cases ty; exact hv _ (by decide)
  · obtain ⟨z, _⟩ := isOwn_ins h
    subst z
    rw [h0] at h1; cases h1
    exact hI
end Dl
set_option Elab.async false
set_option linter.all false
set_option maxRecDepth 100000
set_option maxHeartbeats 4000000
namespace Dl
open PySem PySem.Spec PyProof.Rows L2
/-! ### min(i, j), max(i, j) -/
def g2i (f : Int → Int → Int) : List D → Option Slot
  | [.int i, .int j] => some (.sh (.int (f i j)))
  | _ => none
def gMin2 : List D → Option Slot := g2i fun i j => if j < i then j else i
def gMax2 : List D → Option Slot := g2i fun i j => if j > i then j else i
section
variable {F : Frm}
theorem opn_g2i {f : Int → Int → Int} : Opn F (fun xs H Q => ∃ i j, xs = [.int i, .int j] ∧ Q (.int (f i j)) H) (g2i f) := fun Hs H L xs ds s Q S rr h k => by
  match ds, h, rr with
  | [.int i, .int j], h, rr =>
    obtain ⟨v, r, rfl, h1, v2, r2, rfl, h2, rfl⟩ := rr
    cases h
    cases (show v = .int i from h1)
    cases (show v2 = .int j from h2)
    exact ⟨i, j, rfl, fin_sh S (by exact rfl) k⟩
theorem opn_min2 : Opn F (fun xs H Q => ∃ i j, xs = [.int i, .int j] ∧ Q (.int (if j < i then j else i)) H) gMin2 := opn_g2i
theorem opn_max2 : Opn F (fun xs H Q => ∃ i j, xs = [.int i, .int j] ∧ Q (.int (if j > i then j else i)) H) gMax2 := opn_g2i
end
end Dl
set_option Elab.async false
set_option linter.all false
set_option maxRecDepth 100000
set_option maxHeartbeats 4000000
namespace Dl
open PySem PySem.Spec PyProof.Rows L2
/-! ### exceptions held as values (HandS has them in except suites; here they stand in the abstract heap as exo, exd) -/
section
variable {X : Cx} {pins : List (Addr × Obj)} {σ : L2.St} {H : Hp} {s : Shared}
theorem exo_inst {a C dx : Addr} {fs : List (Str × V)} (I : Inv X pins σ H s) (ha : H a = some (exo a C (some dx))) (hd : H dx = some (exd dx fs)) : ∃ oe ob, PySem.W.InstAt s.heap a oe C (some ob) ∧ ∀ f, ∃ m, RelO (fs.lookup f) m ∧ PySem.W.lookIn f ob = some m := by
  obtain ⟨⟨t1, ho⟩, _, _⟩ := I.hok a _ ha
  obtain ⟨⟨mA, hns, hr⟩, _, _⟩ := I.hok dx _ hd
  obtain ⟨ob, hb, hl⟩ := lookIn_ns hns
  exact ⟨_, ob, ⟨ho, rfl, rfl, hb⟩, fun f => ⟨mA f, hr f, hl f⟩⟩
theorem exo_inst0 {a C : Addr} (I : Inv X pins σ H s) (ha : H a = some (exo a C none)) : ∃ oe, PySem.W.InstAt s.heap a oe C none := by
  obtain ⟨⟨t1, ho⟩, _, _⟩ := I.hok a _ ha
  exact ⟨_, ⟨ho, rfl, rfl, trivial⟩⟩
/-- e.f -/
theorem pe_xfv {e : Expr} {te : TE} {pos : Pos} {n : Str} (he : PE X e te) (hb : attributeBase e n X.env (eval e X.env) = eval e X.env := by rfl) :
    PE X (.Attribute e n pos) (fun σ H Q => te σ H fun x H1 => ∃ (a C dx : Addr) (fs : List (Str × V)) (v : V), x = .ref a ∧ XfC X.K C ∧ PySem.W.findIn X.K (.ref C) n = some none ∧ H1 a = some (exo a C (some dx)) ∧ H1 dx = some (exd dx fs) ∧ fs.lookup n = some v ∧ Q v H1) := by
  refine ⟨fun pins s σ H Q I h => attr_of hb (thn (he.run pins s σ H _ I h) fun u s1 hh => ?_)⟩
  obtain ⟨x, H1, I1, rx, a, C, dx, fs, v, rfl, T, hno, ea, ed, l, q⟩ := hh
  obtain rfl : u = Value.ref a := rx
  obtain ⟨oe, ob, J, hl⟩ := exo_inst I1 ea ed
  obtain ⟨m, hr, hm⟩ := hl n
  obtain ⟨u, hu, ru⟩ := RelO.some_of (v := v) (o := m) (by rw [← l]; exact hr)
  subst hu
  exact HandSPX.exc_get I1.kIn J T.ga T.gg T.exC (PySem.W.findObj_own T.hdC hno rfl hm) (handed_of ru) ⟨v, H1, I1.tok _, ru, q⟩
/-- isinstance(e, c) -/
def rIsV (K : PySem.W.Frag) : List V → Hp → VK → Prop := fun xs H Q => ∃ (a C : Addr) (c : V) (cv : Value) (b : Bool), xs = [.ref a, c] ∧ ExcC K C ∧ (H a = some (exo a C none) ∨ ∃ dx fs, H a = some (exo a C (some dx)) ∧ H dx = some (exd dx fs)) ∧ (∀ u, RelV c u → u = cv) ∧ PySem.W.kitOne K (.ref C) cv = some b ∧ Q (.bl b) H
theorem call_isV : CallR X (.builtin "isinstance") (rIsV X.K) := by
  intro pins s σ H xs us Q I r h
  obtain ⟨a, C, c, cv, b, rfl, T, hx, hcv, e, q⟩ := h
  cases r with
  | cons rx rr =>
    cases rr with
    | cons rt rr =>
      cases rr
      cases rx
      have ec := hcv _ rt
      subst ec
      have hcl : (PySem.W.clsIn X.K C).isSome = true := by
        obtain ⟨cd, hc, _⟩ := PySem.W.any_some T.hd
        rw [hc]; rfl
      rcases hx with ha | ⟨dx, fs, ha, hd⟩
      · obtain ⟨oe, J⟩ := exo_inst0 I ha
        exact PySem.W.kia_one (PySem.W.kitx_exc hcl T.hg T.hk T.hs T.ha T.hn T.ht T.hm) I.kIn J e (fun z => nomatch z) fun tk => ⟨.bl b, H, I.kept (t' := tk) fun _ _ z => z, rfl, q⟩
      · obtain ⟨oe, ob, J, _⟩ := exo_inst I ha hd
        exact PySem.W.kia_one (PySem.W.kitx_exc hcl T.hg T.hk T.hs T.ha T.hn T.ht T.hm) I.kIn J e (fun z => nomatch z) fun tk => ⟨.bl b, H, I.kept (t' := tk) fun _ _ z => z, rfl, q⟩
/-- C(..), a class with an __init__ of its own -/
def tNewE (C : Addr) (sp : Sp) (ta : TA) : TE := fun σ H Q => ta σ H fun vs H1 => vs.length ≤ 1000 ∧ ∀ a, H1 a = none → sp (.ref a :: vs) (upd H1 a (exo a C none)) (fun v H2 => v = .non ∧ Q (.ref a) H2) fun _ _ _ => False
theorem pe_newE {CX : CXT} {x : Str} {e : Expr} {es : List Expr} {ta : TA} {p pos : Pos} {C fI : Addr} {k : Nat} {fd : FuncData} {ps : List Str} {sp : Sp} (T : OexC X.K C) (iC : PySem.W.findIn X.K (.ref C) "__init__" = some (some (.ref fI))) (tI : PySem.W.typeIn X.K (.ref fI) = some (.type "function"))
    (F1 : FnOk X.prog X.w X.K X.mg X.base CX k fI fd ps sp) (hr : Room (k + 1) X.A) (hb : Binds X.K fd ps []) (hx : Passes CX X (fun _ _ _ => False)) (hg : Gl X x) (hm : X.mg x = some (.ref C)) (ha : PA X (e :: es) ta)
    (hdb : (x == ("__debug__" : Str)) = false := by decide) (he : starEach (e :: es) X.env = (false, eval e X.env) :: starEach es X.env := by rfl) (hpl : (backTo pos (starEach es X.env)).any (·.1) = false := by rfl) :
    PE X (.Call (.Name x p) (e :: es) [] pos) (tNewE C sp ta) := by
  refine ⟨fun pins s σ H Q I h => ?_⟩
  obtain ⟨nm, q, N, bs, bm, sn, sub, ab, col, dd, k0, k1, k2, k3, k5, hC, hbm⟩ := T.cls
  refine wpAny_Call_Name_kw (ld_glob I hg hm ?_ hdb)
  refine PySem.W.callWith_K (h₀ := X.base) I.ok.mod.kin T.kC (thn (ha.run pos pins s σ H _ I h) fun us s1 ⟨vs, H1, I1, r1, hz, q1⟩ => ⟨I1.kIn, ?_⟩) he hpl
  show wpAny _ _ (call (.ref C) us) _ _ _
  obtain ⟨hp, g, dr, tk, os⟩ := s1
  have big : hp.objs.size ≤ hp.objs.size + 1 := Nat.le_succ _
  have new : H1 (hp.objs.size + 1) = none := I1.hok.fresh big
  have go := q1 _ new
  have kk : ∀ b o, hp.get? b = some o → ((hp.push (PySem.W.kdv_tup us)).push (PySem.HandSPX.excO C hp.objs.size)).get? b = some o := fun b o e => Heap.get?_push_of_some _ (Heap.get?_push_of_some _ e)
  have at_ : ((hp.push (PySem.W.kdv_tup us)).push (PySem.HandSPX.excO C hp.objs.size)).get? (hp.objs.size + 1) = some (PySem.HandSPX.excO C hp.objs.size) := by heap_get
  have I2 : Inv X pins σ (upd H1 (hp.objs.size + 1) (exo (hp.objs.size + 1) C none)) ⟨(hp.push (PySem.W.kdv_tup us)).push (PySem.HandSPX.excO C hp.objs.size), g, dr, tk, os⟩ := I1.laid (t' := tk) kk big (exo_ok at_)
  have r2 : Vals (V.ref (hp.objs.size + 1) :: vs) (Value.ref (hp.objs.size + 1) :: us) := .cons rfl r1
  have hl : (Value.ref (hp.objs.size + 1) :: us).length = ps.length := by
    have e := r2.length
    rw [F1.len _ _ _ _ go] at e
    exact e.symm
  have hus : us.length ≤ sizeLine := by
    rw [← Paired.length r1, sizeLine_eq]; omega
  have hbind := hb ⟨_, g, dr, tk, os⟩ (Value.ref (hp.objs.size + 1) :: us) I2.kIn (by simpa using hl)
  rw [List.append_nil] at hbind
  refine wpAny_call (PySem.HandSPX.call_own F.excBase_ValueError (fun Y => PySem.HandSPX.refsVE_contains Y bm hbm) (I1.kIn _ _ hC) (PySem.W.looks_findIn I1.kIn iC) (fun self => PySem.W.bind_fn I1.kIn self tI) hus
    (codeAny_mono (F1.run _ X.stack _ _ ⟨Value.ref (hp.objs.size + 1) :: us, []⟩ (Value.ref (hp.objs.size + 1) :: us) _ _ (fun _ _ _ => False) (hr.make C us []) (I2.env0.make C us []) hbind r2 go) fun r s' hq' => ?_))
  match r, hq' with
  | .error er, hq' => exact hx pins σ _ _ er s' I2 hq'
  | .ok (.ret u), hq' =>
    obtain ⟨v, H2, os2, bare2, un2, hok2, rv, ev, q2⟩ := hq'
    subst ev
    obtain ⟨h2, g2, d2, t2, os'⟩ := s'
    exact ⟨rv, .ref _, H2, I2.call' (ch := []) os2 un2 hok2 bare2 (fun b z => absurd z (by simp)), rfl, q2⟩
  | .ok .next, hq' => exact False.elim hq'
  | .ok .brk, hq' => exact False.elim hq'
  | .ok .cont, hq' => exact False.elim hq'
/-- C(), a class without an __init__ of its own -/
theorem pe_newE0 {C : Addr} {bmB : List Value} {B newId initId : String} {x : Str} {p pos : Pos} (F : ExcBaseFacts B newId initId bmB) (q : PySem.W.excIn X.K C bmB newId = true) (gC : X.mg x = some (.ref C)) (kC : PySem.W.keepIn X.K (.ref C) = true) (hg : Gl X x)
    (hdb : (x == ("__debug__" : Str)) = false := by decide) :
    PE X (.Call (.Name x p) [] [] pos) (fun σ H Q => ∀ a, H a = none → Q (.ref a) (upd H a (exo a C none))) := by
  refine ⟨fun pins s σ H Q I h => ?_⟩
  refine wpAny_Call_Name_kw (ld_glob I hg gC ?_ hdb)
  refine PySem.W.callWith_K0 I.kIn kC ?_
  show wpAny _ _ (call (.ref C) []) _ _ _
  obtain ⟨bm, N, nm, qn, bs, hdct, sn, sub, ab, col, dd, k0, k1, k2, k3, k5, mN, hC, hN, hni, T⟩ := exc_obj I.kIn q
  obtain ⟨hp, g, dr, tk, os⟩ := s
  refine wpAny_call_exc_subT F T hC hN hni (fun h' a hm => ?_) (by show 0 ≤ sizeLine; omega)
  have hn : H a = none := I.hok.gone hm.new
  obtain ⟨t, ht, _, _⟩ := hm.there
  exact ⟨.ref a, upd H a (exo a C none), I.laidN hm.keeps hm.new hn (exo_ok ht), rfl, h a hn⟩
end
end Dl
set_option Elab.async false
set_option linter.all false
set_option maxRecDepth 100000
set_option maxHeartbeats 4000000
namespace Dl
open PySem PySem.Spec PyProof.Rows L2
section
variable {X : Cx} {F : Frm}
/-! ### C(..), C() -/
def exnK (c : Str) (ns : List Str) (os : List Opd) : M Slot := fun e => match vals os with
  | some ds => (match Nat.beq ds.length ns.length with
    | true => .ok (.sh (.exn c ns.reverse ds.reverse)) e
    | false => .stuck)
  | none => .stuck
def dExn (c : Str) (ns : List Str) (fa : M (List Opd)) : M Slot := M.bind fa (exnK c ns)
theorem de_exn {c : Str} {ns : List Str} {C fI : Addr} {k : Nat} {fd : FuncData} {ps : List Str} {e : Expr} {es : List Expr} {fa : M (List Opd)} {p pos : Pos} (hcl : F.G.cl c = some C) (T : OexC X.K C)
    (iC : PySem.W.findIn X.K (.ref C) "__init__" = some (some (.ref fI))) (tI : PySem.W.typeIn X.K (.ref fI) = some (.type "function")) (hno : ∀ f ∈ ns, PySem.W.findIn X.K (.ref C) f = some none) (hn : ns.length ≤ 100)
    (F1 : FnOk X.prog X.w X.K X.mg X.base (L2.CX X.prog X.w) k fI fd ps (spI X.K C ns)) (hr : Room (k + 1) X.A) (hb : L2.Binds X.K fd ps []) (hx : Passes (L2.CX X.prog X.w) X (fun _ _ _ => False)) (hg : Gl X c) (hm : X.mg c = some (.ref C)) (ha : DA X F (e :: es) fa)
    (hdb : (c == ("__debug__" : Str)) = false := by decide) (he : starEach (e :: es) X.env = (false, eval e X.env) :: starEach es X.env := by rfl) (hpl : (backTo pos (starEach es X.env)).any (·.1) = false := by rfl) :
    DE X F (.Call (.Name c p) (e :: es) [] pos) (dExn c ns fa) := ⟨PE.weak (pe_newE T iC tI F1 hr hb hx hg hm ha.pa hdb he hpl) fun σ H Q ⟨Hs, E, TT, S, e1, q⟩ => by
  refine ⟨Hs, E, TT, S, e1, q.bind fun vs os env' Hs1 H1 E1 ex m1 m2 p q => ?_⟩
  subst m2
  obtain ⟨S1, ro⟩ := p
  unfold exnK at q
  cases qv : vals os with
  | none => rw [qv] at q; exact q.elim
  | some ds =>
    rw [qv] at q
    simp only at q
    have rl := vals_rep ro qv
    cases qn : Nat.beq ds.length ns.length with
    | false => rw [qn] at q; exact q.elim
    | true =>
      rw [qn] at q
      have hlen : vs.length = ns.length := by rw [← rl.length]; exact Nat.eq_of_beq_eq_true qn
      refine ⟨by omega, fun a ha => ?_⟩
      refine ⟨a, vs, rfl, hlen, upd_same, T, hno, fun dx H' n1 n2 h1 h2 h3 => ⟨rfl, ?_⟩⟩
      have n1 : H1 dx = none := by rw [upd_ne n2] at n1; exact n1
      have eh : H' = upd (upd H1 dx (exd dx (ns.zip vs).reverse)) a (exo a C (some dx)) := by
        funext b
        by_cases y : b = a
        · subst y; rw [upd_same, h1]
        · rw [upd_ne y]
          by_cases z : b = dx
          · subst z; rw [upd_same, h2]
          · rw [upd_ne z, h3 b y z, upd_ne y]
      have x1 := S1.shEx (o := exd dx (ns.zip vs).reverse) n1
      have S2 := S1.allocSh (o := exd dx (ns.zip vs).reverse) n1 rfl
      have na : upd H1 dx (exd dx (ns.zip vs).reverse) a = none := by rw [upd_ne (Ne.symm n2)]; exact ha
      have x2 := S2.shEx (o := exo a C (some dx)) na
      have S3 := S2.allocSh (o := exo a C (some dx)) na rfl
      rw [eh]
      refine q (.ref a) _ _ E1 (x1.trans x2) m1 rfl (S3.pushSh ⟨a, C, vs.reverse, rfl, hcl, .inr ⟨dx, upd_same, ?_⟩, by rw [List.length_reverse, List.length_reverse, hlen], (repL_rev rl).ex (x1.trans x2)⟩)
      rw [upd_ne n2, upd_same, zip_rev hlen.symm]⟩
def dExn0 (c : Str) : M Slot := fun e => .ok (.sh (.exn c [] [])) e
theorem de_exn0 {C : Addr} {bmB : List Value} {c : Str} {p pos : Pos} {B0 n0 i0 : String} (FB : ExcBaseFacts B0 n0 i0 bmB) (q : PySem.W.excIn X.K C bmB n0 = true) (hcl : F.G.cl c = some C) (gC : X.mg c = some (.ref C)) (kC : PySem.W.keepIn X.K (.ref C) = true) (hg : Gl X c)
    (hdb : (c == ("__debug__" : Str)) = false := by decide) : DE X F (.Call (.Name c p) [] [] pos) (dExn0 c) := ⟨PE.weak (pe_newE0 FB q gC kC hg hdb) fun σ H Q ⟨Hs, E, T, S, e1, q⟩ a ha => by
  have x1 := S.shEx (o := exo a C none) ha
  have S1 := S.allocSh (o := exo a C none) ha rfl
  exact q (.ref a) _ _ E x1 e1 rfl (S1.pushSh ⟨a, C, [], rfl, hcl, .inl ⟨rfl, upd_same⟩, rfl, rfl⟩)⟩
/-! ### e.f -/
def gXf (cs : List Str) (f : Str) : D → Option Slot
  | .exn c ns l => (match hasF cs c, fldD ns l f with
    | true, some d => some (.sh d)
    | _, _ => none)
  | _ => none
def XfdOk (X : Cx) (F : Frm) (cs : List Str) (f : Str) : Prop := ∀ c C, hasF cs c = true → F.G.cl c = some C → XfC X.K C ∧ PySem.W.findIn X.K (.ref C) f = some none
theorem de_xf {e : Expr} {fa : M Opd} {cs : List Str} {f : Str} {pos : Pos} (hf : XfdOk X F cs f) (ha : DO X F e fa) (hb : attributeBase e f X.env (eval e X.env) = eval e X.env := by rfl) : DE X F (.Attribute e f pos) (dOp1 (gXf cs f) fa) :=
  ⟨PE.weak (pe_xfv ha.pe hb) (op1_weak (ta := F.tM F.pO fa) (r := fun x H1 Q => ∃ (a C dx : Addr) (fs : List (Str × V)) (v : V), x = .ref a ∧ XfC X.K C ∧ PySem.W.findIn X.K (.ref C) f = some none ∧ H1 a = some (exo a C (some dx)) ∧ H1 dx = some (exd dx fs) ∧ fs.lookup f = some v ∧ Q v H1) (fun Hs H L x dx s Q S r h k => by
    cases dx with
    | exn c ns l =>
      obtain ⟨a, C, vs, rfl, h1, h2, h3, h4⟩ := r
      have h : (match hasF cs c, fldD ns l f with
        | true, some d => some (Slot.sh d)
        | _, _ => none) = some s := h
      cases q1 : hasF cs c with
      | false => rw [q1] at h; cases h
      | true =>
        cases q2 : fldD ns l f with
        | none => rw [q1, q2] at h; cases h
        | some d =>
          rw [q1, q2] at h; cases h
          obtain ⟨k1, k2⟩ := hf c C q1 h1
          obtain ⟨v, g1, g2⟩ := fld_rep h4 h3 q2
          rcases h2 with ⟨z, _⟩ | ⟨dd, e1, e2⟩
          · subst z; cases l <;> cases q2
          · exact ⟨a, C, dd, _, v, rfl, k1, k2, S.eS.get e1, S.eS.get e2, g1, fin_sh S g2 k⟩
    | _ => cases h) (fun _ _ _ h => h))⟩
/-! ### isinstance(e, C) -/
def isExn (t : List (Str × Bool)) : D → Option Bool
  | .exn c _ _ => t.lookup c
  | _ => none
def IsvOk (X : Cx) (F : Frm) (u : Value) (t : List (Str × Bool)) : Prop := ∀ q ∈ t, ∃ C, F.G.cl q.1 = some C ∧ ExcC X.K C ∧ PySem.W.kitOne X.K (.ref C) u = some q.2
theorem lookup_mem' {α β : Type} [BEq α] [LawfulBEq α] {a : α} {b : β} : ∀ {l : List (α × β)}, l.lookup a = some b → (a, b) ∈ l
  | [], h => by cases h
  | (x, y) :: l, h => by
    rw [List.lookup_cons] at h
    split at h
    · rename_i e
      have e := eq_of_beq e
      subst e
      cases h
      exact List.mem_cons_self ..
    · exact List.mem_cons_of_mem _ (lookup_mem' h)
theorem de_isv {t : List (Str × Bool)} {a cc : Expr} {fa : M Opd} {c : V} {u : Value} {p pos : Pos} (hK : F.G.K = X.K) (hg : Gl X "isinstance") (hm : X.mg "isinstance" = none) (ha : DO X F a fa) (hc : PE X cc (tC c)) (k : ClsV c u) (ok : IsvOk X F u t)
    (he : starEach [a, cc] X.env = (false, eval a X.env) :: starEach [cc] X.env := by rfl) (he2 : starEach [cc] X.env = (false, eval cc X.env) :: starEach [] X.env := by rfl) (hpl : (backTo pos (starEach [cc] X.env)).any (·.1) = false := by rfl) :
    DE X F (.Call (.Name "isinstance" p) [a, cc] [] pos) (dIsi (isExn t) fa) := ⟨PE.weak (pe_callB call_isV hg hm boot_isinstance (pa_cons ha.pe (pa_cons hc pa_nil he2) he) (by decide) (by decide) he hpl) fun σ H Q ⟨Hs, E, T, S, e1, q⟩ => by
  refine ⟨Hs, E, T, S, e1, q.bind fun v o env' Hs1 H1 E1 ex m1 m2 p q => ?_⟩
  subst m2
  unfold isiK at q
  cases qo : o.get (E1.map Prod.snd) with
  | none => rw [qo] at q; exact q.elim
  | some d =>
    rw [qo] at q
    try simp only at q
    cases qt : isExn t d with
    | none => rw [qt] at q; exact q.elim
    | some b =>
      rw [qt] at q
      cases d with
      | exn c0 ns l =>
        obtain ⟨a, C, vs, rfl, h1, h2, h3, h4⟩ := p.2.rb p.1 qo
        obtain ⟨C', k1, k2, k3⟩ := ok (c0, b) (lookup_mem' qt)
        have e := h1.symm.trans k1
        cases e
        refine ⟨a, C, c, u, b, rfl, k2, ?_, ?_, k3, q (.bl b) Hs1 H1 E1 (Ex.refl _) m1 rfl (p.1.pushSh rfl)⟩
        · rcases h2 with ⟨_, z⟩ | ⟨dx, z1, z2⟩
          · exact .inl (p.1.eS.get z)
          · exact .inr ⟨dx, _, p.1.eS.get z1, p.1.eS.get z2⟩
        · intro u' hu'; cases k <;> exact hu'
      | _ => cases qt⟩
/-! ### repr(x), as a text -/
def dRepr (fa : M Opd) : M Slot := M.bind fa fun o e => match o.get e with
  | some d => (match repOk d with
    | true => .ok (.sh (.str (D.py d).shown)) e
    | false => .stuck)
  | none => .stuck
theorem de_repr {a : Expr} {fa : M Opd} {p pos : Pos} (hK : F.G.K = X.K) (hgd : X.A.guards = some []) (hu : X.A.units + 66 < cLine) (hg : Gl X "repr") (hm : X.mg "repr" = none) (ha : DO X F a fa)
    (na : starEach [a] X.env = (false, eval a X.env) :: starEach [] X.env := by rfl) (pa : (backTo pos (starEach [] X.env)).any (·.1) = false := by rfl) :
    DE X F (.Call (.Name "repr" p) [a] [] pos) (dRepr fa) := ⟨PE.weak (pe_callB (call_reprD hgd hu) hg hm boot_repr (pa_cons ha.pe pa_nil na) (by decide) (by decide) na pa) fun σ H Q ⟨Hs, E, T, S, e1, q⟩ => by
  refine ⟨Hs, E, T, S, e1, q.bind fun x oa env' Hs1 H1 E1 ex1 m1 m2 p1 q1 => ?_⟩
  subst m2
  cases qa : oa.get (E1.map Prod.snd) with
  | none => rw [qa] at q1; exact q1.elim
  | some dx =>
    rw [qa] at q1
    try simp only at q1
    cases qr : repOk dx with
    | false => rw [qr] at q1; exact q1.elim
    | true =>
      rw [qr] at q1
      obtain ⟨hv1, h1, h2, h3, h4, h5⟩ := repOk_of p1.1 (p1.2.rb p1.1 qa) qr
      rw [hK] at h1
      exact ⟨_, _, rfl, hv1, h1, h2, h3, h4, h5, q1 (.str (D.py dx).shown) Hs1 H1 E1 (Ex.refl _) m1 rfl (p1.1.pushSh rfl)⟩⟩
/-- x != y of texts -/
def gNeS : D → D → Option Slot
  | .str x, .str y => some (.sh (.bl (!decide (x = y))))
  | _, _ => none
theorem op2_neS : Op2 F rNe gNeS := by
  intro Hs H L x y dx dy s Q S rx ry hg k
  match dx, dy, hg with
  | .str a, .str b, hg =>
    cases hg
    cases (show x = .str a from rx)
    cases (show y = .str b from ry)
    refine ⟨rfl, ?_⟩
    have e : decide (V.str a = V.str b) = decide (a = b) := by
      rw [Bool.eq_iff_iff]; simp
    rw [e]
    exact fin_sh S (by exact rfl) k
end
end Dl
set_option Elab.async false
set_option linter.all false
set_option maxRecDepth 100000
set_option maxHeartbeats 0
namespace Tp
open PySem PySem.Spec PyProof.Rows L2 Dl
def top (i : Nat) : Stmt := PySem.Challenge.pw_tenpoints_k00_errors.main.body.getD i (.Pass ⟨0, 0, 0, 0⟩)
structure Facts (K : PySem.W.Frag) (mg : Str → Option Value) where
  f__law_other : Addr
  d__law_other : FuncData
  D__law_other : FunD K "_law_other" "_law_other" (defArgs (top 24)) (defBody (top 24)) (defScope (top 24)) [] [] f__law_other d__law_other
  g__law_other : mg "_law_other" = some (.ref f__law_other)
  f__law_one : Addr
  d__law_one : FuncData
  D__law_one : FunD K "_law_one" "_law_one" (defArgs (top 23)) (defBody (top 23)) (defScope (top 23)) [] [] f__law_one d__law_one
  g__law_one : mg "_law_one" = some (.ref f__law_one)
  f__law_which : Addr
  d__law_which : FuncData
  D__law_which : FunD K "_law_which" "_law_which" (defArgs (top 25)) (defBody (top 25)) (defScope (top 25)) [] [] f__law_which d__law_which
  g__law_which : mg "_law_which" = some (.ref f__law_which)
  f__law_draw : Addr
  d__law_draw : FuncData
  D__law_draw : FunD K "_law_draw" "_law_draw" (defArgs (top 21)) (defBody (top 21)) (defScope (top 21)) [] [] f__law_draw d__law_draw
  g__law_draw : mg "_law_draw" = some (.ref f__law_draw)
  f__law_pick : Addr
  d__law_pick : FuncData
  D__law_pick : FunD K "_law_pick" "_law_pick" (defArgs (top 22)) (defBody (top 22)) (defScope (top 22)) [] [] f__law_pick d__law_pick
  g__law_pick : mg "_law_pick" = some (.ref f__law_pick)
  f__law_pen : Addr
  d__law_pen : FuncData
  D__law_pen : FunD K "_law_pen" "_law_pen" (defArgs (top 20)) (defBody (top 20)) (defScope (top 20)) [] [] f__law_pen d__law_pen
  g__law_pen : mg "_law_pen" = some (.ref f__law_pen)
  f_law : Addr
  d_law : FuncData
  D_law : FunD K "law" "law" (defArgs (top 26)) (defBody (top 26)) (defScope (top 26)) [] [] f_law d_law
  g_law : mg "law" = some (.ref f_law)
  f_BadText___init__ : Addr
  d_BadText___init__ : FuncData
  D_BadText___init__ : FunD K "__init__" "BadText.__init__" (defArgs (inClass (top 2) 0)) (defBody (inClass (top 2) 0)) (defScope (inClass (top 2) 0)) [] [] f_BadText___init__ d_BadText___init__
  f_BadPaper___init__ : Addr
  d_BadPaper___init__ : FuncData
  D_BadPaper___init__ : FunD K "__init__" "BadPaper.__init__" (defArgs (inClass (top 15) 0)) (defBody (inClass (top 15) 0)) (defScope (inClass (top 15) 0)) [] [] f_BadPaper___init__ d_BadPaper___init__
  f_BadNumber___init__ : Addr
  d_BadNumber___init__ : FuncData
  D_BadNumber___init__ : FunD K "__init__" "BadNumber.__init__" (defArgs (inClass (top 3) 0)) (defBody (inClass (top 3) 0)) (defScope (inClass (top 3) 0)) [] [] f_BadNumber___init__ d_BadNumber___init__
  f_NotKept___init__ : Addr
  d_NotKept___init__ : FuncData
  D_NotKept___init__ : FunD K "__init__" "NotKept.__init__" (defArgs (inClass (top 16) 0)) (defBody (inClass (top 16) 0)) (defScope (inClass (top 16) 0)) [] [] f_NotKept___init__ d_NotKept___init__
  f_BadPlane___init__ : Addr
  d_BadPlane___init__ : FuncData
  D_BadPlane___init__ : FunD K "__init__" "BadPlane.__init__" (defArgs (inClass (top 8) 0)) (defBody (inClass (top 8) 0)) (defScope (inClass (top 8) 0)) [] [] f_BadPlane___init__ d_BadPlane___init__
  f_BadRing___init__ : Addr
  d_BadRing___init__ : FuncData
  D_BadRing___init__ : FunD K "__init__" "BadRing.__init__" (defArgs (inClass (top 12) 0)) (defBody (inClass (top 12) 0)) (defScope (inClass (top 12) 0)) [] [] f_BadRing___init__ d_BadRing___init__
  f_BadRow___init__ : Addr
  d_BadRow___init__ : FuncData
  D_BadRow___init__ : FunD K "__init__" "BadRow.__init__" (defArgs (inClass (top 13) 0)) (defBody (inClass (top 13) 0)) (defScope (inClass (top 13) 0)) [] [] f_BadRow___init__ d_BadRow___init__
  f_BadName___init__ : Addr
  d_BadName___init__ : FuncData
  D_BadName___init__ : FunD K "__init__" "BadName.__init__" (defArgs (inClass (top 4) 0)) (defBody (inClass (top 4) 0)) (defScope (inClass (top 4) 0)) [] [] f_BadName___init__ d_BadName___init__
  f_BadMove___init__ : Addr
  d_BadMove___init__ : FuncData
  D_BadMove___init__ : FunD K "__init__" "BadMove.__init__" (defArgs (inClass (top 14) 0)) (defBody (inClass (top 14) 0)) (defScope (inClass (top 14) 0)) [] [] f_BadMove___init__ d_BadMove___init__
  f_NoName___init__ : Addr
  d_NoName___init__ : FuncData
  D_NoName___init__ : FunD K "__init__" "NoName.__init__" (defArgs (inClass (top 5) 0)) (defBody (inClass (top 5) 0)) (defScope (inClass (top 5) 0)) [] [] f_NoName___init__ d_NoName___init__
  f_BadLines___init__ : Addr
  d_BadLines___init__ : FuncData
  D_BadLines___init__ : FunD K "__init__" "BadLines.__init__" (defArgs (inClass (top 7) 0)) (defBody (inClass (top 7) 0)) (defScope (inClass (top 7) 0)) [] [] f_BadLines___init__ d_BadLines___init__
  f_BadField___init__ : Addr
  d_BadField___init__ : FuncData
  D_BadField___init__ : FunD K "__init__" "BadField.__init__" (defArgs (inClass (top 11) 0)) (defBody (inClass (top 11) 0)) (defScope (inClass (top 11) 0)) [] [] f_BadField___init__ d_BadField___init__
  f_BadTable___init__ : Addr
  d_BadTable___init__ : FuncData
  D_BadTable___init__ : FunD K "__init__" "BadTable.__init__" (defArgs (inClass (top 9) 0)) (defBody (inClass (top 9) 0)) (defScope (inClass (top 9) 0)) [] [] f_BadTable___init__ d_BadTable___init__
  f_BadLoop___init__ : Addr
  d_BadLoop___init__ : FuncData
  D_BadLoop___init__ : FunD K "__init__" "BadLoop.__init__" (defArgs (inClass (top 10) 0)) (defBody (inClass (top 10) 0)) (defScope (inClass (top 10) 0)) [] [] f_BadLoop___init__ d_BadLoop___init__
  f_TakenName___init__ : Addr
  d_TakenName___init__ : FuncData
  D_TakenName___init__ : FunD K "__init__" "TakenName.__init__" (defArgs (inClass (top 6) 0)) (defBody (inClass (top 6) 0)) (defScope (inClass (top 6) 0)) [] [] f_TakenName___init__ d_TakenName___init__
  C_BadField : Addr
  g_BadField : mg "BadField" = some (.ref C_BadField)
  X_BadField : OexC K C_BadField
  x_BadField : XfC K C_BadField
  i_BadField : PySem.W.findIn K (.ref C_BadField) "__init__" = some (some (.ref f_BadField___init__))
  t_BadField : PySem.W.typeIn K (.ref f_BadField___init__) = some (.type "function")
  n_BadField : ∀ f ∈ (["field"] : List Str), PySem.W.findIn K (.ref C_BadField) f = some none
  C_BadLines : Addr
  g_BadLines : mg "BadLines" = some (.ref C_BadLines)
  X_BadLines : OexC K C_BadLines
  x_BadLines : XfC K C_BadLines
  i_BadLines : PySem.W.findIn K (.ref C_BadLines) "__init__" = some (some (.ref f_BadLines___init__))
  t_BadLines : PySem.W.typeIn K (.ref f_BadLines___init__) = some (.type "function")
  n_BadLines : ∀ f ∈ (["lines"] : List Str), PySem.W.findIn K (.ref C_BadLines) f = some none
  C_BadLoop : Addr
  g_BadLoop : mg "BadLoop" = some (.ref C_BadLoop)
  X_BadLoop : OexC K C_BadLoop
  x_BadLoop : XfC K C_BadLoop
  i_BadLoop : PySem.W.findIn K (.ref C_BadLoop) "__init__" = some (some (.ref f_BadLoop___init__))
  t_BadLoop : PySem.W.typeIn K (.ref f_BadLoop___init__) = some (.type "function")
  n_BadLoop : ∀ f ∈ (["loop"] : List Str), PySem.W.findIn K (.ref C_BadLoop) f = some none
  C_BadMove : Addr
  g_BadMove : mg "BadMove" = some (.ref C_BadMove)
  X_BadMove : OexC K C_BadMove
  x_BadMove : XfC K C_BadMove
  i_BadMove : PySem.W.findIn K (.ref C_BadMove) "__init__" = some (some (.ref f_BadMove___init__))
  t_BadMove : PySem.W.typeIn K (.ref f_BadMove___init__) = some (.type "function")
  n_BadMove : ∀ f ∈ (["led"] : List Str), PySem.W.findIn K (.ref C_BadMove) f = some none
  C_BadName : Addr
  g_BadName : mg "BadName" = some (.ref C_BadName)
  X_BadName : OexC K C_BadName
  x_BadName : XfC K C_BadName
  i_BadName : PySem.W.findIn K (.ref C_BadName) "__init__" = some (some (.ref f_BadName___init__))
  t_BadName : PySem.W.typeIn K (.ref f_BadName___init__) = some (.type "function")
  n_BadName : ∀ f ∈ (["name"] : List Str), PySem.W.findIn K (.ref C_BadName) f = some none
  C_BadNumber : Addr
  g_BadNumber : mg "BadNumber" = some (.ref C_BadNumber)
  X_BadNumber : OexC K C_BadNumber
  x_BadNumber : XfC K C_BadNumber
  i_BadNumber : PySem.W.findIn K (.ref C_BadNumber) "__init__" = some (some (.ref f_BadNumber___init__))
  t_BadNumber : PySem.W.typeIn K (.ref f_BadNumber___init__) = some (.type "function")
  n_BadNumber : ∀ f ∈ (["what", "number"] : List Str), PySem.W.findIn K (.ref C_BadNumber) f = some none
  C_BadPaper : Addr
  g_BadPaper : mg "BadPaper" = some (.ref C_BadPaper)
  X_BadPaper : OexC K C_BadPaper
  x_BadPaper : XfC K C_BadPaper
  i_BadPaper : PySem.W.findIn K (.ref C_BadPaper) "__init__" = some (some (.ref f_BadPaper___init__))
  t_BadPaper : PySem.W.typeIn K (.ref f_BadPaper___init__) = some (.type "function")
  n_BadPaper : ∀ f ∈ (["paper"] : List Str), PySem.W.findIn K (.ref C_BadPaper) f = some none
  C_BadPlane : Addr
  g_BadPlane : mg "BadPlane" = some (.ref C_BadPlane)
  X_BadPlane : OexC K C_BadPlane
  x_BadPlane : XfC K C_BadPlane
  i_BadPlane : PySem.W.findIn K (.ref C_BadPlane) "__init__" = some (some (.ref f_BadPlane___init__))
  t_BadPlane : PySem.W.typeIn K (.ref f_BadPlane___init__) = some (.type "function")
  n_BadPlane : ∀ f ∈ (["plane"] : List Str), PySem.W.findIn K (.ref C_BadPlane) f = some none
  C_BadRing : Addr
  g_BadRing : mg "BadRing" = some (.ref C_BadRing)
  X_BadRing : OexC K C_BadRing
  x_BadRing : XfC K C_BadRing
  i_BadRing : PySem.W.findIn K (.ref C_BadRing) "__init__" = some (some (.ref f_BadRing___init__))
  t_BadRing : PySem.W.typeIn K (.ref f_BadRing___init__) = some (.type "function")
  n_BadRing : ∀ f ∈ (["ring"] : List Str), PySem.W.findIn K (.ref C_BadRing) f = some none
  C_BadRow : Addr
  g_BadRow : mg "BadRow" = some (.ref C_BadRow)
  X_BadRow : OexC K C_BadRow
  x_BadRow : XfC K C_BadRow
  i_BadRow : PySem.W.findIn K (.ref C_BadRow) "__init__" = some (some (.ref f_BadRow___init__))
  t_BadRow : PySem.W.typeIn K (.ref f_BadRow___init__) = some (.type "function")
  n_BadRow : ∀ f ∈ (["row"] : List Str), PySem.W.findIn K (.ref C_BadRow) f = some none
  C_BadTable : Addr
  g_BadTable : mg "BadTable" = some (.ref C_BadTable)
  X_BadTable : OexC K C_BadTable
  x_BadTable : XfC K C_BadTable
  i_BadTable : PySem.W.findIn K (.ref C_BadTable) "__init__" = some (some (.ref f_BadTable___init__))
  t_BadTable : PySem.W.typeIn K (.ref f_BadTable___init__) = some (.type "function")
  n_BadTable : ∀ f ∈ (["table"] : List Str), PySem.W.findIn K (.ref C_BadTable) f = some none
  C_BadText : Addr
  g_BadText : mg "BadText" = some (.ref C_BadText)
  X_BadText : OexC K C_BadText
  x_BadText : XfC K C_BadText
  i_BadText : PySem.W.findIn K (.ref C_BadText) "__init__" = some (some (.ref f_BadText___init__))
  t_BadText : PySem.W.typeIn K (.ref f_BadText___init__) = some (.type "function")
  n_BadText : ∀ f ∈ (["line", "column"] : List Str), PySem.W.findIn K (.ref C_BadText) f = some none
  C_NoName : Addr
  g_NoName : mg "NoName" = some (.ref C_NoName)
  X_NoName : OexC K C_NoName
  x_NoName : XfC K C_NoName
  i_NoName : PySem.W.findIn K (.ref C_NoName) "__init__" = some (some (.ref f_NoName___init__))
  t_NoName : PySem.W.typeIn K (.ref f_NoName___init__) = some (.type "function")
  n_NoName : ∀ f ∈ (["name"] : List Str), PySem.W.findIn K (.ref C_NoName) f = some none
  C_NotKept : Addr
  g_NotKept : mg "NotKept" = some (.ref C_NotKept)
  X_NotKept : OexC K C_NotKept
  x_NotKept : XfC K C_NotKept
  i_NotKept : PySem.W.findIn K (.ref C_NotKept) "__init__" = some (some (.ref f_NotKept___init__))
  t_NotKept : PySem.W.typeIn K (.ref f_NotKept___init__) = some (.type "function")
  n_NotKept : ∀ f ∈ (["promise", "witness"] : List Str), PySem.W.findIn K (.ref C_NotKept) f = some none
  C_TakenName : Addr
  g_TakenName : mg "TakenName" = some (.ref C_TakenName)
  X_TakenName : OexC K C_TakenName
  x_TakenName : XfC K C_TakenName
  i_TakenName : PySem.W.findIn K (.ref C_TakenName) "__init__" = some (some (.ref f_TakenName___init__))
  t_TakenName : PySem.W.typeIn K (.ref f_TakenName___init__) = some (.type "function")
  n_TakenName : ∀ f ∈ (["name"] : List Str), PySem.W.findIn K (.ref C_TakenName) f = some none
  C_NothingToRedo : Addr
  g_NothingToRedo : mg "NothingToRedo" = some (.ref C_NothingToRedo)
  q_NothingToRedo : PySem.W.excIn K C_NothingToRedo PySem.HandSPX.veTail "ValueError.__new__" = true
  kp_NothingToRedo : PySem.W.keepIn K (.ref C_NothingToRedo) = true
  C_NothingToUndo : Addr
  g_NothingToUndo : mg "NothingToUndo" = some (.ref C_NothingToUndo)
  q_NothingToUndo : PySem.W.excIn K C_NothingToUndo PySem.HandSPX.veTail "ValueError.__new__" = true
  kp_NothingToUndo : PySem.W.keepIn K (.ref C_NothingToUndo) = true
  C_PlaneError : Addr
  g_PlaneError : mg "PlaneError" = some (.ref C_PlaneError)
  E_BadField : ExcC K C_BadField
  E_BadLines : ExcC K C_BadLines
  E_BadLoop : ExcC K C_BadLoop
  E_BadMove : ExcC K C_BadMove
  E_BadName : ExcC K C_BadName
  E_BadNumber : ExcC K C_BadNumber
  E_BadPaper : ExcC K C_BadPaper
  E_BadPlane : ExcC K C_BadPlane
  E_BadRing : ExcC K C_BadRing
  E_BadRow : ExcC K C_BadRow
  E_BadTable : ExcC K C_BadTable
  E_BadText : ExcC K C_BadText
  E_NoName : ExcC K C_NoName
  E_NotKept : ExcC K C_NotKept
  E_TakenName : ExcC K C_TakenName
  E_NothingToRedo : ExcC K C_NothingToRedo
  E_NothingToUndo : ExcC K C_NothingToUndo
  w_BadField : ∀ q ∈ ([(C_BadField, true), (C_BadLines, false), (C_BadLoop, false), (C_BadMove, false), (C_BadName, false), (C_BadNumber, false), (C_BadPaper, false), (C_BadPlane, false), (C_BadRing, false), (C_BadRow, false), (C_BadTable, false), (C_BadText, false), (C_NoName, false), (C_NotKept, false), (C_TakenName, false), (C_NothingToRedo, false), (C_NothingToUndo, false)] : List (Addr × Bool)), PySem.W.kitOne K (.ref q.1) (.ref C_BadField) = some q.2
  w_BadLines : ∀ q ∈ ([(C_BadField, false), (C_BadLines, true), (C_BadLoop, false), (C_BadMove, false), (C_BadName, false), (C_BadNumber, false), (C_BadPaper, false), (C_BadPlane, false), (C_BadRing, false), (C_BadRow, false), (C_BadTable, false), (C_BadText, false), (C_NoName, false), (C_NotKept, false), (C_TakenName, false), (C_NothingToRedo, false), (C_NothingToUndo, false)] : List (Addr × Bool)), PySem.W.kitOne K (.ref q.1) (.ref C_BadLines) = some q.2
  w_BadLoop : ∀ q ∈ ([(C_BadField, false), (C_BadLines, false), (C_BadLoop, true), (C_BadMove, false), (C_BadName, false), (C_BadNumber, false), (C_BadPaper, false), (C_BadPlane, false), (C_BadRing, false), (C_BadRow, false), (C_BadTable, false), (C_BadText, false), (C_NoName, false), (C_NotKept, false), (C_TakenName, false), (C_NothingToRedo, false), (C_NothingToUndo, false)] : List (Addr × Bool)), PySem.W.kitOne K (.ref q.1) (.ref C_BadLoop) = some q.2
  w_BadMove : ∀ q ∈ ([(C_BadField, false), (C_BadLines, false), (C_BadLoop, false), (C_BadMove, true), (C_BadName, false), (C_BadNumber, false), (C_BadPaper, false), (C_BadPlane, false), (C_BadRing, false), (C_BadRow, false), (C_BadTable, false), (C_BadText, false), (C_NoName, false), (C_NotKept, false), (C_TakenName, false), (C_NothingToRedo, false), (C_NothingToUndo, false)] : List (Addr × Bool)), PySem.W.kitOne K (.ref q.1) (.ref C_BadMove) = some q.2
  w_BadName : ∀ q ∈ ([(C_BadField, false), (C_BadLines, false), (C_BadLoop, false), (C_BadMove, false), (C_BadName, true), (C_BadNumber, false), (C_BadPaper, false), (C_BadPlane, false), (C_BadRing, false), (C_BadRow, false), (C_BadTable, false), (C_BadText, false), (C_NoName, false), (C_NotKept, false), (C_TakenName, false), (C_NothingToRedo, false), (C_NothingToUndo, false)] : List (Addr × Bool)), PySem.W.kitOne K (.ref q.1) (.ref C_BadName) = some q.2
  w_BadNumber : ∀ q ∈ ([(C_BadField, false), (C_BadLines, false), (C_BadLoop, false), (C_BadMove, false), (C_BadName, false), (C_BadNumber, true), (C_BadPaper, false), (C_BadPlane, false), (C_BadRing, false), (C_BadRow, false), (C_BadTable, false), (C_BadText, false), (C_NoName, false), (C_NotKept, false), (C_TakenName, false), (C_NothingToRedo, false), (C_NothingToUndo, false)] : List (Addr × Bool)), PySem.W.kitOne K (.ref q.1) (.ref C_BadNumber) = some q.2
  w_BadPaper : ∀ q ∈ ([(C_BadField, false), (C_BadLines, false), (C_BadLoop, false), (C_BadMove, false), (C_BadName, false), (C_BadNumber, false), (C_BadPaper, true), (C_BadPlane, false), (C_BadRing, false), (C_BadRow, false), (C_BadTable, false), (C_BadText, false), (C_NoName, false), (C_NotKept, false), (C_TakenName, false), (C_NothingToRedo, false), (C_NothingToUndo, false)] : List (Addr × Bool)), PySem.W.kitOne K (.ref q.1) (.ref C_BadPaper) = some q.2
  w_BadPlane : ∀ q ∈ ([(C_BadField, false), (C_BadLines, false), (C_BadLoop, false), (C_BadMove, false), (C_BadName, false), (C_BadNumber, false), (C_BadPaper, false), (C_BadPlane, true), (C_BadRing, false), (C_BadRow, false), (C_BadTable, false), (C_BadText, false), (C_NoName, false), (C_NotKept, false), (C_TakenName, false), (C_NothingToRedo, false), (C_NothingToUndo, false)] : List (Addr × Bool)), PySem.W.kitOne K (.ref q.1) (.ref C_BadPlane) = some q.2
  w_BadRing : ∀ q ∈ ([(C_BadField, false), (C_BadLines, false), (C_BadLoop, false), (C_BadMove, false), (C_BadName, false), (C_BadNumber, false), (C_BadPaper, false), (C_BadPlane, false), (C_BadRing, true), (C_BadRow, false), (C_BadTable, false), (C_BadText, false), (C_NoName, false), (C_NotKept, false), (C_TakenName, false), (C_NothingToRedo, false), (C_NothingToUndo, false)] : List (Addr × Bool)), PySem.W.kitOne K (.ref q.1) (.ref C_BadRing) = some q.2
  w_BadRow : ∀ q ∈ ([(C_BadField, false), (C_BadLines, false), (C_BadLoop, false), (C_BadMove, false), (C_BadName, false), (C_BadNumber, false), (C_BadPaper, false), (C_BadPlane, false), (C_BadRing, false), (C_BadRow, true), (C_BadTable, false), (C_BadText, false), (C_NoName, false), (C_NotKept, false), (C_TakenName, false), (C_NothingToRedo, false), (C_NothingToUndo, false)] : List (Addr × Bool)), PySem.W.kitOne K (.ref q.1) (.ref C_BadRow) = some q.2
  w_BadTable : ∀ q ∈ ([(C_BadField, false), (C_BadLines, false), (C_BadLoop, false), (C_BadMove, false), (C_BadName, false), (C_BadNumber, false), (C_BadPaper, false), (C_BadPlane, false), (C_BadRing, false), (C_BadRow, false), (C_BadTable, true), (C_BadText, false), (C_NoName, false), (C_NotKept, false), (C_TakenName, false), (C_NothingToRedo, false), (C_NothingToUndo, false)] : List (Addr × Bool)), PySem.W.kitOne K (.ref q.1) (.ref C_BadTable) = some q.2
  w_BadText : ∀ q ∈ ([(C_BadField, false), (C_BadLines, false), (C_BadLoop, false), (C_BadMove, false), (C_BadName, false), (C_BadNumber, false), (C_BadPaper, false), (C_BadPlane, false), (C_BadRing, false), (C_BadRow, false), (C_BadTable, false), (C_BadText, true), (C_NoName, false), (C_NotKept, false), (C_TakenName, false), (C_NothingToRedo, false), (C_NothingToUndo, false)] : List (Addr × Bool)), PySem.W.kitOne K (.ref q.1) (.ref C_BadText) = some q.2
  w_NoName : ∀ q ∈ ([(C_BadField, false), (C_BadLines, false), (C_BadLoop, false), (C_BadMove, false), (C_BadName, false), (C_BadNumber, false), (C_BadPaper, false), (C_BadPlane, false), (C_BadRing, false), (C_BadRow, false), (C_BadTable, false), (C_BadText, false), (C_NoName, true), (C_NotKept, false), (C_TakenName, false), (C_NothingToRedo, false), (C_NothingToUndo, false)] : List (Addr × Bool)), PySem.W.kitOne K (.ref q.1) (.ref C_NoName) = some q.2
  w_NotKept : ∀ q ∈ ([(C_BadField, false), (C_BadLines, false), (C_BadLoop, false), (C_BadMove, false), (C_BadName, false), (C_BadNumber, false), (C_BadPaper, false), (C_BadPlane, false), (C_BadRing, false), (C_BadRow, false), (C_BadTable, false), (C_BadText, false), (C_NoName, false), (C_NotKept, true), (C_TakenName, false), (C_NothingToRedo, false), (C_NothingToUndo, false)] : List (Addr × Bool)), PySem.W.kitOne K (.ref q.1) (.ref C_NotKept) = some q.2
  w_NothingToRedo : ∀ q ∈ ([(C_BadField, false), (C_BadLines, false), (C_BadLoop, false), (C_BadMove, false), (C_BadName, false), (C_BadNumber, false), (C_BadPaper, false), (C_BadPlane, false), (C_BadRing, false), (C_BadRow, false), (C_BadTable, false), (C_BadText, false), (C_NoName, false), (C_NotKept, false), (C_TakenName, false), (C_NothingToRedo, true), (C_NothingToUndo, false)] : List (Addr × Bool)), PySem.W.kitOne K (.ref q.1) (.ref C_NothingToRedo) = some q.2
  w_NothingToUndo : ∀ q ∈ ([(C_BadField, false), (C_BadLines, false), (C_BadLoop, false), (C_BadMove, false), (C_BadName, false), (C_BadNumber, false), (C_BadPaper, false), (C_BadPlane, false), (C_BadRing, false), (C_BadRow, false), (C_BadTable, false), (C_BadText, false), (C_NoName, false), (C_NotKept, false), (C_TakenName, false), (C_NothingToRedo, false), (C_NothingToUndo, true)] : List (Addr × Bool)), PySem.W.kitOne K (.ref q.1) (.ref C_NothingToUndo) = some q.2
  w_PlaneError : ∀ q ∈ ([(C_BadField, true), (C_BadLines, true), (C_BadLoop, true), (C_BadMove, true), (C_BadName, true), (C_BadNumber, true), (C_BadPaper, true), (C_BadPlane, true), (C_BadRing, true), (C_BadRow, true), (C_BadTable, true), (C_BadText, true), (C_NoName, true), (C_NotKept, true), (C_TakenName, true), (C_NothingToRedo, true), (C_NothingToUndo, true)] : List (Addr × Bool)), PySem.W.kitOne K (.ref q.1) (.ref C_PlaneError) = some q.2
  w_TakenName : ∀ q ∈ ([(C_BadField, false), (C_BadLines, false), (C_BadLoop, false), (C_BadMove, false), (C_BadName, false), (C_BadNumber, false), (C_BadPaper, false), (C_BadPlane, false), (C_BadRing, false), (C_BadRow, false), (C_BadTable, false), (C_BadText, false), (C_NoName, false), (C_NotKept, false), (C_TakenName, true), (C_NothingToRedo, false), (C_NothingToUndo, false)] : List (Addr × Bool)), PySem.W.kitOne K (.ref q.1) (.ref C_TakenName) = some q.2
  w_ValueError : ∀ q ∈ ([(C_BadField, true), (C_BadLines, true), (C_BadLoop, true), (C_BadMove, true), (C_BadName, true), (C_BadNumber, true), (C_BadPaper, true), (C_BadPlane, true), (C_BadRing, true), (C_BadRow, true), (C_BadTable, true), (C_BadText, true), (C_NoName, true), (C_NotKept, true), (C_TakenName, true), (C_NothingToRedo, true), (C_NothingToUndo, true)] : List (Addr × Bool)), PySem.W.kitOne K (.ref q.1) (.type "ValueError") = some q.2
  b_ValueError : mg "ValueError" = none
  b_int : mg "int" = none
  b_isinstance : mg "isinstance" = none
  b_len : mg "len" = none
  b_list : mg "list" = none
  b_range : mg "range" = none
  b_repr : mg "repr" = none
def Cs : List Str := []
def Facts.G {K : PySem.W.Frag} {mg : Str → Option Value} (T : Facts K mg) : Gx := ⟨K, fun c => ([("BadField", T.C_BadField), ("BadLines", T.C_BadLines), ("BadLoop", T.C_BadLoop), ("BadMove", T.C_BadMove), ("BadName", T.C_BadName), ("BadNumber", T.C_BadNumber), ("BadPaper", T.C_BadPaper), ("BadPlane", T.C_BadPlane), ("BadRing", T.C_BadRing), ("BadRow", T.C_BadRow), ("BadTable", T.C_BadTable), ("BadText", T.C_BadText), ("NoName", T.C_NoName), ("NotKept", T.C_NotKept), ("TakenName", T.C_TakenName), ("NothingToRedo", T.C_NothingToRedo), ("NothingToUndo", T.C_NothingToUndo)] : List (Str × Addr)).lookup c, []⟩
variable {P : Program} {w : World} {K : PySem.W.Frag} {mg : Str → Option Value} {base : Heap}
def tl_BadField : List (Str × Bool) := [("BadField", true), ("BadLines", false), ("BadLoop", false), ("BadMove", false), ("BadName", false), ("BadNumber", false), ("BadPaper", false), ("BadPlane", false), ("BadRing", false), ("BadRow", false), ("BadTable", false), ("BadText", false), ("NoName", false), ("NotKept", false), ("TakenName", false), ("NothingToRedo", false), ("NothingToUndo", false)]
theorem Facts.isv_BadField {X : Cx} {F : Frm} (T : Facts K mg) (hG : F.G = T.G) (hK : X.K = K) : IsvOk X F (.ref T.C_BadField) tl_BadField := fun q hq => by
  rw [hG, hK]
  unfold tl_BadField at hq
  simp only [List.mem_cons, List.not_mem_nil, or_false] at hq
  rcases hq with rfl | rfl | rfl | rfl | rfl | rfl | rfl | rfl | rfl | rfl | rfl | rfl | rfl | rfl | rfl | rfl | rfl
  · exact ⟨T.C_BadField, by rfl, T.E_BadField, T.w_BadField (T.C_BadField, true) (List.mem_of_getElem? (i := 0) rfl)⟩
  · exact ⟨T.C_BadLines, by rfl, T.E_BadLines, T.w_BadField (T.C_BadLines, false) (List.mem_of_getElem? (i := 1) rfl)⟩
  · exact ⟨T.C_BadLoop, by rfl, T.E_BadLoop, T.w_BadField (T.C_BadLoop, false) (List.mem_of_getElem? (i := 2) rfl)⟩
  · exact ⟨T.C_BadMove, by rfl, T.E_BadMove, T.w_BadField (T.C_BadMove, false) (List.mem_of_getElem? (i := 3) rfl)⟩
  · exact ⟨T.C_BadName, by rfl, T.E_BadName, T.w_BadField (T.C_BadName, false) (List.mem_of_getElem? (i := 4) rfl)⟩
  · exact ⟨T.C_BadNumber, by rfl, T.E_BadNumber, T.w_BadField (T.C_BadNumber, false) (List.mem_of_getElem? (i := 5) rfl)⟩
  · exact ⟨T.C_BadPaper, by rfl, T.E_BadPaper, T.w_BadField (T.C_BadPaper, false) (List.mem_of_getElem? (i := 6) rfl)⟩
  · exact ⟨T.C_BadPlane, by rfl, T.E_BadPlane, T.w_BadField (T.C_BadPlane, false) (List.mem_of_getElem? (i := 7) rfl)⟩
  · exact ⟨T.C_BadRing, by rfl, T.E_BadRing, T.w_BadField (T.C_BadRing, false) (List.mem_of_getElem? (i := 8) rfl)⟩
  · exact ⟨T.C_BadRow, by rfl, T.E_BadRow, T.w_BadField (T.C_BadRow, false) (List.mem_of_getElem? (i := 9) rfl)⟩
  · exact ⟨T.C_BadTable, by rfl, T.E_BadTable, T.w_BadField (T.C_BadTable, false) (List.mem_of_getElem? (i := 10) rfl)⟩
  · exact ⟨T.C_BadText, by rfl, T.E_BadText, T.w_BadField (T.C_BadText, false) (List.mem_of_getElem? (i := 11) rfl)⟩
  · exact ⟨T.C_NoName, by rfl, T.E_NoName, T.w_BadField (T.C_NoName, false) (List.mem_of_getElem? (i := 12) rfl)⟩
  · exact ⟨T.C_NotKept, by rfl, T.E_NotKept, T.w_BadField (T.C_NotKept, false) (List.mem_of_getElem? (i := 13) rfl)⟩
  · exact ⟨T.C_TakenName, by rfl, T.E_TakenName, T.w_BadField (T.C_TakenName, false) (List.mem_of_getElem? (i := 14) rfl)⟩
  · exact ⟨T.C_NothingToRedo, by rfl, T.E_NothingToRedo, T.w_BadField (T.C_NothingToRedo, false) (List.mem_of_getElem? (i := 15) rfl)⟩
  · exact ⟨T.C_NothingToUndo, by rfl, T.E_NothingToUndo, T.w_BadField (T.C_NothingToUndo, false) (List.mem_of_getElem? (i := 16) rfl)⟩
def tl_BadLines : List (Str × Bool) := [("BadField", false), ("BadLines", true), ("BadLoop", false), ("BadMove", false), ("BadName", false), ("BadNumber", false), ("BadPaper", false), ("BadPlane", false), ("BadRing", false), ("BadRow", false), ("BadTable", false), ("BadText", false), ("NoName", false), ("NotKept", false), ("TakenName", false), ("NothingToRedo", false), ("NothingToUndo", false)]
theorem Facts.isv_BadLines {X : Cx} {F : Frm} (T : Facts K mg) (hG : F.G = T.G) (hK : X.K = K) : IsvOk X F (.ref T.C_BadLines) tl_BadLines := fun q hq => by
  rw [hG, hK]
  unfold tl_BadLines at hq
  simp only [List.mem_cons, List.not_mem_nil, or_false] at hq
  rcases hq with rfl | rfl | rfl | rfl | rfl | rfl | rfl | rfl | rfl | rfl | rfl | rfl | rfl | rfl | rfl | rfl | rfl
  · exact ⟨T.C_BadField, by rfl, T.E_BadField, T.w_BadLines (T.C_BadField, false) (List.mem_of_getElem? (i := 0) rfl)⟩
  · exact ⟨T.C_BadLines, by rfl, T.E_BadLines, T.w_BadLines (T.C_BadLines, true) (List.mem_of_getElem? (i := 1) rfl)⟩
  · exact ⟨T.C_BadLoop, by rfl, T.E_BadLoop, T.w_BadLines (T.C_BadLoop, false) (List.mem_of_getElem? (i := 2) rfl)⟩
  · exact ⟨T.C_BadMove, by rfl, T.E_BadMove, T.w_BadLines (T.C_BadMove, false) (List.mem_of_getElem? (i := 3) rfl)⟩
  · exact ⟨T.C_BadName, by rfl, T.E_BadName, T.w_BadLines (T.C_BadName, false) (List.mem_of_getElem? (i := 4) rfl)⟩
  · exact ⟨T.C_BadNumber, by rfl, T.E_BadNumber, T.w_BadLines (T.C_BadNumber, false) (List.mem_of_getElem? (i := 5) rfl)⟩
  · exact ⟨T.C_BadPaper, by rfl, T.E_BadPaper, T.w_BadLines (T.C_BadPaper, false) (List.mem_of_getElem? (i := 6) rfl)⟩
  · exact ⟨T.C_BadPlane, by rfl, T.E_BadPlane, T.w_BadLines (T.C_BadPlane, false) (List.mem_of_getElem? (i := 7) rfl)⟩
  · exact ⟨T.C_BadRing, by rfl, T.E_BadRing, T.w_BadLines (T.C_BadRing, false) (List.mem_of_getElem? (i := 8) rfl)⟩
  · exact ⟨T.C_BadRow, by rfl, T.E_BadRow, T.w_BadLines (T.C_BadRow, false) (List.mem_of_getElem? (i := 9) rfl)⟩
  · exact ⟨T.C_BadTable, by rfl, T.E_BadTable, T.w_BadLines (T.C_BadTable, false) (List.mem_of_getElem? (i := 10) rfl)⟩
  · exact ⟨T.C_BadText, by rfl, T.E_BadText, T.w_BadLines (T.C_BadText, false) (List.mem_of_getElem? (i := 11) rfl)⟩
  · exact ⟨T.C_NoName, by rfl, T.E_NoName, T.w_BadLines (T.C_NoName, false) (List.mem_of_getElem? (i := 12) rfl)⟩
  · exact ⟨T.C_NotKept, by rfl, T.E_NotKept, T.w_BadLines (T.C_NotKept, false) (List.mem_of_getElem? (i := 13) rfl)⟩
  · exact ⟨T.C_TakenName, by rfl, T.E_TakenName, T.w_BadLines (T.C_TakenName, false) (List.mem_of_getElem? (i := 14) rfl)⟩
  · exact ⟨T.C_NothingToRedo, by rfl, T.E_NothingToRedo, T.w_BadLines (T.C_NothingToRedo, false) (List.mem_of_getElem? (i := 15) rfl)⟩
  · exact ⟨T.C_NothingToUndo, by rfl, T.E_NothingToUndo, T.w_BadLines (T.C_NothingToUndo, false) (List.mem_of_getElem? (i := 16) rfl)⟩
def tl_BadLoop : List (Str × Bool) := [("BadField", false), ("BadLines", false), ("BadLoop", true), ("BadMove", false), ("BadName", false), ("BadNumber", false), ("BadPaper", false), ("BadPlane", false), ("BadRing", false), ("BadRow", false), ("BadTable", false), ("BadText", false), ("NoName", false), ("NotKept", false), ("TakenName", false), ("NothingToRedo", false), ("NothingToUndo", false)]
theorem Facts.isv_BadLoop {X : Cx} {F : Frm} (T : Facts K mg) (hG : F.G = T.G) (hK : X.K = K) : IsvOk X F (.ref T.C_BadLoop) tl_BadLoop := fun q hq => by
  rw [hG, hK]
  unfold tl_BadLoop at hq
  simp only [List.mem_cons, List.not_mem_nil, or_false] at hq
  rcases hq with rfl | rfl | rfl | rfl | rfl | rfl | rfl | rfl | rfl | rfl | rfl | rfl | rfl | rfl | rfl | rfl | rfl
  · exact ⟨T.C_BadField, by rfl, T.E_BadField, T.w_BadLoop (T.C_BadField, false) (List.mem_of_getElem? (i := 0) rfl)⟩
  · exact ⟨T.C_BadLines, by rfl, T.E_BadLines, T.w_BadLoop (T.C_BadLines, false) (List.mem_of_getElem? (i := 1) rfl)⟩
  · exact ⟨T.C_BadLoop, by rfl, T.E_BadLoop, T.w_BadLoop (T.C_BadLoop, true) (List.mem_of_getElem? (i := 2) rfl)⟩
  · exact ⟨T.C_BadMove, by rfl, T.E_BadMove, T.w_BadLoop (T.C_BadMove, false) (List.mem_of_getElem? (i := 3) rfl)⟩
  · exact ⟨T.C_BadName, by rfl, T.E_BadName, T.w_BadLoop (T.C_BadName, false) (List.mem_of_getElem? (i := 4) rfl)⟩
  · exact ⟨T.C_BadNumber, by rfl, T.E_BadNumber, T.w_BadLoop (T.C_BadNumber, false) (List.mem_of_getElem? (i := 5) rfl)⟩
  · exact ⟨T.C_BadPaper, by rfl, T.E_BadPaper, T.w_BadLoop (T.C_BadPaper, false) (List.mem_of_getElem? (i := 6) rfl)⟩
  · exact ⟨T.C_BadPlane, by rfl, T.E_BadPlane, T.w_BadLoop (T.C_BadPlane, false) (List.mem_of_getElem? (i := 7) rfl)⟩
  · exact ⟨T.C_BadRing, by rfl, T.E_BadRing, T.w_BadLoop (T.C_BadRing, false) (List.mem_of_getElem? (i := 8) rfl)⟩
  · exact ⟨T.C_BadRow, by rfl, T.E_BadRow, T.w_BadLoop (T.C_BadRow, false) (List.mem_of_getElem? (i := 9) rfl)⟩
  · exact ⟨T.C_BadTable, by rfl, T.E_BadTable, T.w_BadLoop (T.C_BadTable, false) (List.mem_of_getElem? (i := 10) rfl)⟩
  · exact ⟨T.C_BadText, by rfl, T.E_BadText, T.w_BadLoop (T.C_BadText, false) (List.mem_of_getElem? (i := 11) rfl)⟩
  · exact ⟨T.C_NoName, by rfl, T.E_NoName, T.w_BadLoop (T.C_NoName, false) (List.mem_of_getElem? (i := 12) rfl)⟩
  · exact ⟨T.C_NotKept, by rfl, T.E_NotKept, T.w_BadLoop (T.C_NotKept, false) (List.mem_of_getElem? (i := 13) rfl)⟩
  · exact ⟨T.C_TakenName, by rfl, T.E_TakenName, T.w_BadLoop (T.C_TakenName, false) (List.mem_of_getElem? (i := 14) rfl)⟩
  · exact ⟨T.C_NothingToRedo, by rfl, T.E_NothingToRedo, T.w_BadLoop (T.C_NothingToRedo, false) (List.mem_of_getElem? (i := 15) rfl)⟩
  · exact ⟨T.C_NothingToUndo, by rfl, T.E_NothingToUndo, T.w_BadLoop (T.C_NothingToUndo, false) (List.mem_of_getElem? (i := 16) rfl)⟩
def tl_BadMove : List (Str × Bool) := [("BadField", false), ("BadLines", false), ("BadLoop", false), ("BadMove", true), ("BadName", false), ("BadNumber", false), ("BadPaper", false), ("BadPlane", false), ("BadRing", false), ("BadRow", false), ("BadTable", false), ("BadText", false), ("NoName", false), ("NotKept", false), ("TakenName", false), ("NothingToRedo", false), ("NothingToUndo", false)]
theorem Facts.isv_BadMove {X : Cx} {F : Frm} (T : Facts K mg) (hG : F.G = T.G) (hK : X.K = K) : IsvOk X F (.ref T.C_BadMove) tl_BadMove := fun q hq => by
  rw [hG, hK]
  unfold tl_BadMove at hq
  simp only [List.mem_cons, List.not_mem_nil, or_false] at hq
  rcases hq with rfl | rfl | rfl | rfl | rfl | rfl | rfl | rfl | rfl | rfl | rfl | rfl | rfl | rfl | rfl | rfl | rfl
  · exact ⟨T.C_BadField, by rfl, T.E_BadField, T.w_BadMove (T.C_BadField, false) (List.mem_of_getElem? (i := 0) rfl)⟩
  · exact ⟨T.C_BadLines, by rfl, T.E_BadLines, T.w_BadMove (T.C_BadLines, false) (List.mem_of_getElem? (i := 1) rfl)⟩
  · exact ⟨T.C_BadLoop, by rfl, T.E_BadLoop, T.w_BadMove (T.C_BadLoop, false) (List.mem_of_getElem? (i := 2) rfl)⟩
  · exact ⟨T.C_BadMove, by rfl, T.E_BadMove, T.w_BadMove (T.C_BadMove, true) (List.mem_of_getElem? (i := 3) rfl)⟩
  · exact ⟨T.C_BadName, by rfl, T.E_BadName, T.w_BadMove (T.C_BadName, false) (List.mem_of_getElem? (i := 4) rfl)⟩
  · exact ⟨T.C_BadNumber, by rfl, T.E_BadNumber, T.w_BadMove (T.C_BadNumber, false) (List.mem_of_getElem? (i := 5) rfl)⟩
  · exact ⟨T.C_BadPaper, by rfl, T.E_BadPaper, T.w_BadMove (T.C_BadPaper, false) (List.mem_of_getElem? (i := 6) rfl)⟩
  · exact ⟨T.C_BadPlane, by rfl, T.E_BadPlane, T.w_BadMove (T.C_BadPlane, false) (List.mem_of_getElem? (i := 7) rfl)⟩
  · exact ⟨T.C_BadRing, by rfl, T.E_BadRing, T.w_BadMove (T.C_BadRing, false) (List.mem_of_getElem? (i := 8) rfl)⟩
  · exact ⟨T.C_BadRow, by rfl, T.E_BadRow, T.w_BadMove (T.C_BadRow, false) (List.mem_of_getElem? (i := 9) rfl)⟩
  · exact ⟨T.C_BadTable, by rfl, T.E_BadTable, T.w_BadMove (T.C_BadTable, false) (List.mem_of_getElem? (i := 10) rfl)⟩
  · exact ⟨T.C_BadText, by rfl, T.E_BadText, T.w_BadMove (T.C_BadText, false) (List.mem_of_getElem? (i := 11) rfl)⟩
  · exact ⟨T.C_NoName, by rfl, T.E_NoName, T.w_BadMove (T.C_NoName, false) (List.mem_of_getElem? (i := 12) rfl)⟩
  · exact ⟨T.C_NotKept, by rfl, T.E_NotKept, T.w_BadMove (T.C_NotKept, false) (List.mem_of_getElem? (i := 13) rfl)⟩
  · exact ⟨T.C_TakenName, by rfl, T.E_TakenName, T.w_BadMove (T.C_TakenName, false) (List.mem_of_getElem? (i := 14) rfl)⟩
  · exact ⟨T.C_NothingToRedo, by rfl, T.E_NothingToRedo, T.w_BadMove (T.C_NothingToRedo, false) (List.mem_of_getElem? (i := 15) rfl)⟩
  · exact ⟨T.C_NothingToUndo, by rfl, T.E_NothingToUndo, T.w_BadMove (T.C_NothingToUndo, false) (List.mem_of_getElem? (i := 16) rfl)⟩
def tl_BadName : List (Str × Bool) := [("BadField", false), ("BadLines", false), ("BadLoop", false), ("BadMove", false), ("BadName", true), ("BadNumber", false), ("BadPaper", false), ("BadPlane", false), ("BadRing", false), ("BadRow", false), ("BadTable", false), ("BadText", false), ("NoName", false), ("NotKept", false), ("TakenName", false), ("NothingToRedo", false), ("NothingToUndo", false)]
theorem Facts.isv_BadName {X : Cx} {F : Frm} (T : Facts K mg) (hG : F.G = T.G) (hK : X.K = K) : IsvOk X F (.ref T.C_BadName) tl_BadName := fun q hq => by
  rw [hG, hK]
  unfold tl_BadName at hq
  simp only [List.mem_cons, List.not_mem_nil, or_false] at hq
  rcases hq with rfl | rfl | rfl | rfl | rfl | rfl | rfl | rfl | rfl | rfl | rfl | rfl | rfl | rfl | rfl | rfl | rfl
  · exact ⟨T.C_BadField, by rfl, T.E_BadField, T.w_BadName (T.C_BadField, false) (List.mem_of_getElem? (i := 0) rfl)⟩
  · exact ⟨T.C_BadLines, by rfl, T.E_BadLines, T.w_BadName (T.C_BadLines, false) (List.mem_of_getElem? (i := 1) rfl)⟩
  · exact ⟨T.C_BadLoop, by rfl, T.E_BadLoop, T.w_BadName (T.C_BadLoop, false) (List.mem_of_getElem? (i := 2) rfl)⟩
  · exact ⟨T.C_BadMove, by rfl, T.E_BadMove, T.w_BadName (T.C_BadMove, false) (List.mem_of_getElem? (i := 3) rfl)⟩
  · exact ⟨T.C_BadName, by rfl, T.E_BadName, T.w_BadName (T.C_BadName, true) (List.mem_of_getElem? (i := 4) rfl)⟩
  · exact ⟨T.C_BadNumber, by rfl, T.E_BadNumber, T.w_BadName (T.C_BadNumber, false) (List.mem_of_getElem? (i := 5) rfl)⟩
  · exact ⟨T.C_BadPaper, by rfl, T.E_BadPaper, T.w_BadName (T.C_BadPaper, false) (List.mem_of_getElem? (i := 6) rfl)⟩
  · exact ⟨T.C_BadPlane, by rfl, T.E_BadPlane, T.w_BadName (T.C_BadPlane, false) (List.mem_of_getElem? (i := 7) rfl)⟩
  · exact ⟨T.C_BadRing, by rfl, T.E_BadRing, T.w_BadName (T.C_BadRing, false) (List.mem_of_getElem? (i := 8) rfl)⟩
  · exact ⟨T.C_BadRow, by rfl, T.E_BadRow, T.w_BadName (T.C_BadRow, false) (List.mem_of_getElem? (i := 9) rfl)⟩
  · exact ⟨T.C_BadTable, by rfl, T.E_BadTable, T.w_BadName (T.C_BadTable, false) (List.mem_of_getElem? (i := 10) rfl)⟩
  · exact ⟨T.C_BadText, by rfl, T.E_BadText, T.w_BadName (T.C_BadText, false) (List.mem_of_getElem? (i := 11) rfl)⟩
  · exact ⟨T.C_NoName, by rfl, T.E_NoName, T.w_BadName (T.C_NoName, false) (List.mem_of_getElem? (i := 12) rfl)⟩
  · exact ⟨T.C_NotKept, by rfl, T.E_NotKept, T.w_BadName (T.C_NotKept, false) (List.mem_of_getElem? (i := 13) rfl)⟩
  · exact ⟨T.C_TakenName, by rfl, T.E_TakenName, T.w_BadName (T.C_TakenName, false) (List.mem_of_getElem? (i := 14) rfl)⟩
  · exact ⟨T.C_NothingToRedo, by rfl, T.E_NothingToRedo, T.w_BadName (T.C_NothingToRedo, false) (List.mem_of_getElem? (i := 15) rfl)⟩
  · exact ⟨T.C_NothingToUndo, by rfl, T.E_NothingToUndo, T.w_BadName (T.C_NothingToUndo, false) (List.mem_of_getElem? (i := 16) rfl)⟩
def tl_BadNumber : List (Str × Bool) := [("BadField", false), ("BadLines", false), ("BadLoop", false), ("BadMove", false), ("BadName", false), ("BadNumber", true), ("BadPaper", false), ("BadPlane", false), ("BadRing", false), ("BadRow", false), ("BadTable", false), ("BadText", false), ("NoName", false), ("NotKept", false), ("TakenName", false), ("NothingToRedo", false), ("NothingToUndo", false)]
theorem Facts.isv_BadNumber {X : Cx} {F : Frm} (T : Facts K mg) (hG : F.G = T.G) (hK : X.K = K) : IsvOk X F (.ref T.C_BadNumber) tl_BadNumber := fun q hq => by
  rw [hG, hK]
  unfold tl_BadNumber at hq
  simp only [List.mem_cons, List.not_mem_nil, or_false] at hq
  rcases hq with rfl | rfl | rfl | rfl | rfl | rfl | rfl | rfl | rfl | rfl | rfl | rfl | rfl | rfl | rfl | rfl | rfl
  · exact ⟨T.C_BadField, by rfl, T.E_BadField, T.w_BadNumber (T.C_BadField, false) (List.mem_of_getElem? (i := 0) rfl)⟩
  · exact ⟨T.C_BadLines, by rfl, T.E_BadLines, T.w_BadNumber (T.C_BadLines, false) (List.mem_of_getElem? (i := 1) rfl)⟩
  · exact ⟨T.C_BadLoop, by rfl, T.E_BadLoop, T.w_BadNumber (T.C_BadLoop, false) (List.mem_of_getElem? (i := 2) rfl)⟩
  · exact ⟨T.C_BadMove, by rfl, T.E_BadMove, T.w_BadNumber (T.C_BadMove, false) (List.mem_of_getElem? (i := 3) rfl)⟩
  · exact ⟨T.C_BadName, by rfl, T.E_BadName, T.w_BadNumber (T.C_BadName, false) (List.mem_of_getElem? (i := 4) rfl)⟩
  · exact ⟨T.C_BadNumber, by rfl, T.E_BadNumber, T.w_BadNumber (T.C_BadNumber, true) (List.mem_of_getElem? (i := 5) rfl)⟩
  · exact ⟨T.C_BadPaper, by rfl, T.E_BadPaper, T.w_BadNumber (T.C_BadPaper, false) (List.mem_of_getElem? (i := 6) rfl)⟩
  · exact ⟨T.C_BadPlane, by rfl, T.E_BadPlane, T.w_BadNumber (T.C_BadPlane, false) (List.mem_of_getElem? (i := 7) rfl)⟩
  · exact ⟨T.C_BadRing, by rfl, T.E_BadRing, T.w_BadNumber (T.C_BadRing, false) (List.mem_of_getElem? (i := 8) rfl)⟩
  · exact ⟨T.C_BadRow, by rfl, T.E_BadRow, T.w_BadNumber (T.C_BadRow, false) (List.mem_of_getElem? (i := 9) rfl)⟩
  · exact ⟨T.C_BadTable, by rfl, T.E_BadTable, T.w_BadNumber (T.C_BadTable, false) (List.mem_of_getElem? (i := 10) rfl)⟩
  · exact ⟨T.C_BadText, by rfl, T.E_BadText, T.w_BadNumber (T.C_BadText, false) (List.mem_of_getElem? (i := 11) rfl)⟩
  · exact ⟨T.C_NoName, by rfl, T.E_NoName, T.w_BadNumber (T.C_NoName, false) (List.mem_of_getElem? (i := 12) rfl)⟩
  · exact ⟨T.C_NotKept, by rfl, T.E_NotKept, T.w_BadNumber (T.C_NotKept, false) (List.mem_of_getElem? (i := 13) rfl)⟩
  · exact ⟨T.C_TakenName, by rfl, T.E_TakenName, T.w_BadNumber (T.C_TakenName, false) (List.mem_of_getElem? (i := 14) rfl)⟩
  · exact ⟨T.C_NothingToRedo, by rfl, T.E_NothingToRedo, T.w_BadNumber (T.C_NothingToRedo, false) (List.mem_of_getElem? (i := 15) rfl)⟩
  · exact ⟨T.C_NothingToUndo, by rfl, T.E_NothingToUndo, T.w_BadNumber (T.C_NothingToUndo, false) (List.mem_of_getElem? (i := 16) rfl)⟩
def tl_BadPaper : List (Str × Bool) := [("BadField", false), ("BadLines", false), ("BadLoop", false), ("BadMove", false), ("BadName", false), ("BadNumber", false), ("BadPaper", true), ("BadPlane", false), ("BadRing", false), ("BadRow", false), ("BadTable", false), ("BadText", false), ("NoName", false), ("NotKept", false), ("TakenName", false), ("NothingToRedo", false), ("NothingToUndo", false)]
theorem Facts.isv_BadPaper {X : Cx} {F : Frm} (T : Facts K mg) (hG : F.G = T.G) (hK : X.K = K) : IsvOk X F (.ref T.C_BadPaper) tl_BadPaper := fun q hq => by
  rw [hG, hK]
  unfold tl_BadPaper at hq
  simp only [List.mem_cons, List.not_mem_nil, or_false] at hq
  rcases hq with rfl | rfl | rfl | rfl | rfl | rfl | rfl | rfl | rfl | rfl | rfl | rfl | rfl | rfl | rfl | rfl | rfl
  · exact ⟨T.C_BadField, by rfl, T.E_BadField, T.w_BadPaper (T.C_BadField, false) (List.mem_of_getElem? (i := 0) rfl)⟩
  · exact ⟨T.C_BadLines, by rfl, T.E_BadLines, T.w_BadPaper (T.C_BadLines, false) (List.mem_of_getElem? (i := 1) rfl)⟩
  · exact ⟨T.C_BadLoop, by rfl, T.E_BadLoop, T.w_BadPaper (T.C_BadLoop, false) (List.mem_of_getElem? (i := 2) rfl)⟩
  · exact ⟨T.C_BadMove, by rfl, T.E_BadMove, T.w_BadPaper (T.C_BadMove, false) (List.mem_of_getElem? (i := 3) rfl)⟩
  · exact ⟨T.C_BadName, by rfl, T.E_BadName, T.w_BadPaper (T.C_BadName, false) (List.mem_of_getElem? (i := 4) rfl)⟩
  · exact ⟨T.C_BadNumber, by rfl, T.E_BadNumber, T.w_BadPaper (T.C_BadNumber, false) (List.mem_of_getElem? (i := 5) rfl)⟩
  · exact ⟨T.C_BadPaper, by rfl, T.E_BadPaper, T.w_BadPaper (T.C_BadPaper, true) (List.mem_of_getElem? (i := 6) rfl)⟩
  · exact ⟨T.C_BadPlane, by rfl, T.E_BadPlane, T.w_BadPaper (T.C_BadPlane, false) (List.mem_of_getElem? (i := 7) rfl)⟩
  · exact ⟨T.C_BadRing, by rfl, T.E_BadRing, T.w_BadPaper (T.C_BadRing, false) (List.mem_of_getElem? (i := 8) rfl)⟩
  · exact ⟨T.C_BadRow, by rfl, T.E_BadRow, T.w_BadPaper (T.C_BadRow, false) (List.mem_of_getElem? (i := 9) rfl)⟩
  · exact ⟨T.C_BadTable, by rfl, T.E_BadTable, T.w_BadPaper (T.C_BadTable, false) (List.mem_of_getElem? (i := 10) rfl)⟩
  · exact ⟨T.C_BadText, by rfl, T.E_BadText, T.w_BadPaper (T.C_BadText, false) (List.mem_of_getElem? (i := 11) rfl)⟩
  · exact ⟨T.C_NoName, by rfl, T.E_NoName, T.w_BadPaper (T.C_NoName, false) (List.mem_of_getElem? (i := 12) rfl)⟩
  · exact ⟨T.C_NotKept, by rfl, T.E_NotKept, T.w_BadPaper (T.C_NotKept, false) (List.mem_of_getElem? (i := 13) rfl)⟩
  · exact ⟨T.C_TakenName, by rfl, T.E_TakenName, T.w_BadPaper (T.C_TakenName, false) (List.mem_of_getElem? (i := 14) rfl)⟩
  · exact ⟨T.C_NothingToRedo, by rfl, T.E_NothingToRedo, T.w_BadPaper (T.C_NothingToRedo, false) (List.mem_of_getElem? (i := 15) rfl)⟩
  · exact ⟨T.C_NothingToUndo, by rfl, T.E_NothingToUndo, T.w_BadPaper (T.C_NothingToUndo, false) (List.mem_of_getElem? (i := 16) rfl)⟩
def tl_BadPlane : List (Str × Bool) := [("BadField", false), ("BadLines", false), ("BadLoop", false), ("BadMove", false), ("BadName", false), ("BadNumber", false), ("BadPaper", false), ("BadPlane", true), ("BadRing", false), ("BadRow", false), ("BadTable", false), ("BadText", false), ("NoName", false), ("NotKept", false), ("TakenName", false), ("NothingToRedo", false), ("NothingToUndo", false)]
theorem Facts.isv_BadPlane {X : Cx} {F : Frm} (T : Facts K mg) (hG : F.G = T.G) (hK : X.K = K) : IsvOk X F (.ref T.C_BadPlane) tl_BadPlane := fun q hq => by
  rw [hG, hK]
  unfold tl_BadPlane at hq
  simp only [List.mem_cons, List.not_mem_nil, or_false] at hq
  rcases hq with rfl | rfl | rfl | rfl | rfl | rfl | rfl | rfl | rfl | rfl | rfl | rfl | rfl | rfl | rfl | rfl | rfl
  · exact ⟨T.C_BadField, by rfl, T.E_BadField, T.w_BadPlane (T.C_BadField, false) (List.mem_of_getElem? (i := 0) rfl)⟩
  · exact ⟨T.C_BadLines, by rfl, T.E_BadLines, T.w_BadPlane (T.C_BadLines, false) (List.mem_of_getElem? (i := 1) rfl)⟩
  · exact ⟨T.C_BadLoop, by rfl, T.E_BadLoop, T.w_BadPlane (T.C_BadLoop, false) (List.mem_of_getElem? (i := 2) rfl)⟩
  · exact ⟨T.C_BadMove, by rfl, T.E_BadMove, T.w_BadPlane (T.C_BadMove, false) (List.mem_of_getElem? (i := 3) rfl)⟩
  · exact ⟨T.C_BadName, by rfl, T.E_BadName, T.w_BadPlane (T.C_BadName, false) (List.mem_of_getElem? (i := 4) rfl)⟩
  · exact ⟨T.C_BadNumber, by rfl, T.E_BadNumber, T.w_BadPlane (T.C_BadNumber, false) (List.mem_of_getElem? (i := 5) rfl)⟩
  · exact ⟨T.C_BadPaper, by rfl, T.E_BadPaper, T.w_BadPlane (T.C_BadPaper, false) (List.mem_of_getElem? (i := 6) rfl)⟩
  · exact ⟨T.C_BadPlane, by rfl, T.E_BadPlane, T.w_BadPlane (T.C_BadPlane, true) (List.mem_of_getElem? (i := 7) rfl)⟩
  · exact ⟨T.C_BadRing, by rfl, T.E_BadRing, T.w_BadPlane (T.C_BadRing, false) (List.mem_of_getElem? (i := 8) rfl)⟩
  · exact ⟨T.C_BadRow, by rfl, T.E_BadRow, T.w_BadPlane (T.C_BadRow, false) (List.mem_of_getElem? (i := 9) rfl)⟩
  · exact ⟨T.C_BadTable, by rfl, T.E_BadTable, T.w_BadPlane (T.C_BadTable, false) (List.mem_of_getElem? (i := 10) rfl)⟩
  · exact ⟨T.C_BadText, by rfl, T.E_BadText, T.w_BadPlane (T.C_BadText, false) (List.mem_of_getElem? (i := 11) rfl)⟩
  · exact ⟨T.C_NoName, by rfl, T.E_NoName, T.w_BadPlane (T.C_NoName, false) (List.mem_of_getElem? (i := 12) rfl)⟩
  · exact ⟨T.C_NotKept, by rfl, T.E_NotKept, T.w_BadPlane (T.C_NotKept, false) (List.mem_of_getElem? (i := 13) rfl)⟩
  · exact ⟨T.C_TakenName, by rfl, T.E_TakenName, T.w_BadPlane (T.C_TakenName, false) (List.mem_of_getElem? (i := 14) rfl)⟩
  · exact ⟨T.C_NothingToRedo, by rfl, T.E_NothingToRedo, T.w_BadPlane (T.C_NothingToRedo, false) (List.mem_of_getElem? (i := 15) rfl)⟩
  · exact ⟨T.C_NothingToUndo, by rfl, T.E_NothingToUndo, T.w_BadPlane (T.C_NothingToUndo, false) (List.mem_of_getElem? (i := 16) rfl)⟩
def tl_BadRing : List (Str × Bool) := [("BadField", false), ("BadLines", false), ("BadLoop", false), ("BadMove", false), ("BadName", false), ("BadNumber", false), ("BadPaper", false), ("BadPlane", false), ("BadRing", true), ("BadRow", false), ("BadTable", false), ("BadText", false), ("NoName", false), ("NotKept", false), ("TakenName", false), ("NothingToRedo", false), ("NothingToUndo", false)]
theorem Facts.isv_BadRing {X : Cx} {F : Frm} (T : Facts K mg) (hG : F.G = T.G) (hK : X.K = K) : IsvOk X F (.ref T.C_BadRing) tl_BadRing := fun q hq => by
  rw [hG, hK]
  unfold tl_BadRing at hq
  simp only [List.mem_cons, List.not_mem_nil, or_false] at hq
  rcases hq with rfl | rfl | rfl | rfl | rfl | rfl | rfl | rfl | rfl | rfl | rfl | rfl | rfl | rfl | rfl | rfl | rfl
  · exact ⟨T.C_BadField, by rfl, T.E_BadField, T.w_BadRing (T.C_BadField, false) (List.mem_of_getElem? (i := 0) rfl)⟩
  · exact ⟨T.C_BadLines, by rfl, T.E_BadLines, T.w_BadRing (T.C_BadLines, false) (List.mem_of_getElem? (i := 1) rfl)⟩
  · exact ⟨T.C_BadLoop, by rfl, T.E_BadLoop, T.w_BadRing (T.C_BadLoop, false) (List.mem_of_getElem? (i := 2) rfl)⟩
  · exact ⟨T.C_BadMove, by rfl, T.E_BadMove, T.w_BadRing (T.C_BadMove, false) (List.mem_of_getElem? (i := 3) rfl)⟩
  · exact ⟨T.C_BadName, by rfl, T.E_BadName, T.w_BadRing (T.C_BadName, false) (List.mem_of_getElem? (i := 4) rfl)⟩
  · exact ⟨T.C_BadNumber, by rfl, T.E_BadNumber, T.w_BadRing (T.C_BadNumber, false) (List.mem_of_getElem? (i := 5) rfl)⟩
  · exact ⟨T.C_BadPaper, by rfl, T.E_BadPaper, T.w_BadRing (T.C_BadPaper, false) (List.mem_of_getElem? (i := 6) rfl)⟩
  · exact ⟨T.C_BadPlane, by rfl, T.E_BadPlane, T.w_BadRing (T.C_BadPlane, false) (List.mem_of_getElem? (i := 7) rfl)⟩
  · exact ⟨T.C_BadRing, by rfl, T.E_BadRing, T.w_BadRing (T.C_BadRing, true) (List.mem_of_getElem? (i := 8) rfl)⟩
  · exact ⟨T.C_BadRow, by rfl, T.E_BadRow, T.w_BadRing (T.C_BadRow, false) (List.mem_of_getElem? (i := 9) rfl)⟩
  · exact ⟨T.C_BadTable, by rfl, T.E_BadTable, T.w_BadRing (T.C_BadTable, false) (List.mem_of_getElem? (i := 10) rfl)⟩
  · exact ⟨T.C_BadText, by rfl, T.E_BadText, T.w_BadRing (T.C_BadText, false) (List.mem_of_getElem? (i := 11) rfl)⟩
  · exact ⟨T.C_NoName, by rfl, T.E_NoName, T.w_BadRing (T.C_NoName, false) (List.mem_of_getElem? (i := 12) rfl)⟩
  · exact ⟨T.C_NotKept, by rfl, T.E_NotKept, T.w_BadRing (T.C_NotKept, false) (List.mem_of_getElem? (i := 13) rfl)⟩
  · exact ⟨T.C_TakenName, by rfl, T.E_TakenName, T.w_BadRing (T.C_TakenName, false) (List.mem_of_getElem? (i := 14) rfl)⟩
  · exact ⟨T.C_NothingToRedo, by rfl, T.E_NothingToRedo, T.w_BadRing (T.C_NothingToRedo, false) (List.mem_of_getElem? (i := 15) rfl)⟩
  · exact ⟨T.C_NothingToUndo, by rfl, T.E_NothingToUndo, T.w_BadRing (T.C_NothingToUndo, false) (List.mem_of_getElem? (i := 16) rfl)⟩
def tl_BadRow : List (Str × Bool) := [("BadField", false), ("BadLines", false), ("BadLoop", false), ("BadMove", false), ("BadName", false), ("BadNumber", false), ("BadPaper", false), ("BadPlane", false), ("BadRing", false), ("BadRow", true), ("BadTable", false), ("BadText", false), ("NoName", false), ("NotKept", false), ("TakenName", false), ("NothingToRedo", false), ("NothingToUndo", false)]
theorem Facts.isv_BadRow {X : Cx} {F : Frm} (T : Facts K mg) (hG : F.G = T.G) (hK : X.K = K) : IsvOk X F (.ref T.C_BadRow) tl_BadRow := fun q hq => by
  rw [hG, hK]
  unfold tl_BadRow at hq
  simp only [List.mem_cons, List.not_mem_nil, or_false] at hq
  rcases hq with rfl | rfl | rfl | rfl | rfl | rfl | rfl | rfl | rfl | rfl | rfl | rfl | rfl | rfl | rfl | rfl | rfl
  · exact ⟨T.C_BadField, by rfl, T.E_BadField, T.w_BadRow (T.C_BadField, false) (List.mem_of_getElem? (i := 0) rfl)⟩
  · exact ⟨T.C_BadLines, by rfl, T.E_BadLines, T.w_BadRow (T.C_BadLines, false) (List.mem_of_getElem? (i := 1) rfl)⟩
  · exact ⟨T.C_BadLoop, by rfl, T.E_BadLoop, T.w_BadRow (T.C_BadLoop, false) (List.mem_of_getElem? (i := 2) rfl)⟩
  · exact ⟨T.C_BadMove, by rfl, T.E_BadMove, T.w_BadRow (T.C_BadMove, false) (List.mem_of_getElem? (i := 3) rfl)⟩
  · exact ⟨T.C_BadName, by rfl, T.E_BadName, T.w_BadRow (T.C_BadName, false) (List.mem_of_getElem? (i := 4) rfl)⟩
  · exact ⟨T.C_BadNumber, by rfl, T.E_BadNumber, T.w_BadRow (T.C_BadNumber, false) (List.mem_of_getElem? (i := 5) rfl)⟩
  · exact ⟨T.C_BadPaper, by rfl, T.E_BadPaper, T.w_BadRow (T.C_BadPaper, false) (List.mem_of_getElem? (i := 6) rfl)⟩
  · exact ⟨T.C_BadPlane, by rfl, T.E_BadPlane, T.w_BadRow (T.C_BadPlane, false) (List.mem_of_getElem? (i := 7) rfl)⟩
  · exact ⟨T.C_BadRing, by rfl, T.E_BadRing, T.w_BadRow (T.C_BadRing, false) (List.mem_of_getElem? (i := 8) rfl)⟩
  · exact ⟨T.C_BadRow, by rfl, T.E_BadRow, T.w_BadRow (T.C_BadRow, true) (List.mem_of_getElem? (i := 9) rfl)⟩
  · exact ⟨T.C_BadTable, by rfl, T.E_BadTable, T.w_BadRow (T.C_BadTable, false) (List.mem_of_getElem? (i := 10) rfl)⟩
  · exact ⟨T.C_BadText, by rfl, T.E_BadText, T.w_BadRow (T.C_BadText, false) (List.mem_of_getElem? (i := 11) rfl)⟩
  · exact ⟨T.C_NoName, by rfl, T.E_NoName, T.w_BadRow (T.C_NoName, false) (List.mem_of_getElem? (i := 12) rfl)⟩
  · exact ⟨T.C_NotKept, by rfl, T.E_NotKept, T.w_BadRow (T.C_NotKept, false) (List.mem_of_getElem? (i := 13) rfl)⟩
  · exact ⟨T.C_TakenName, by rfl, T.E_TakenName, T.w_BadRow (T.C_TakenName, false) (List.mem_of_getElem? (i := 14) rfl)⟩
  · exact ⟨T.C_NothingToRedo, by rfl, T.E_NothingToRedo, T.w_BadRow (T.C_NothingToRedo, false) (List.mem_of_getElem? (i := 15) rfl)⟩
  · exact ⟨T.C_NothingToUndo, by rfl, T.E_NothingToUndo, T.w_BadRow (T.C_NothingToUndo, false) (List.mem_of_getElem? (i := 16) rfl)⟩
def tl_BadTable : List (Str × Bool) := [("BadField", false), ("BadLines", false), ("BadLoop", false), ("BadMove", false), ("BadName", false), ("BadNumber", false), ("BadPaper", false), ("BadPlane", false), ("BadRing", false), ("BadRow", false), ("BadTable", true), ("BadText", false), ("NoName", false), ("NotKept", false), ("TakenName", false), ("NothingToRedo", false), ("NothingToUndo", false)]
theorem Facts.isv_BadTable {X : Cx} {F : Frm} (T : Facts K mg) (hG : F.G = T.G) (hK : X.K = K) : IsvOk X F (.ref T.C_BadTable) tl_BadTable := fun q hq => by
  rw [hG, hK]
  unfold tl_BadTable at hq
  simp only [List.mem_cons, List.not_mem_nil, or_false] at hq
  rcases hq with rfl | rfl | rfl | rfl | rfl | rfl | rfl | rfl | rfl | rfl | rfl | rfl | rfl | rfl | rfl | rfl | rfl
  · exact ⟨T.C_BadField, by rfl, T.E_BadField, T.w_BadTable (T.C_BadField, false) (List.mem_of_getElem? (i := 0) rfl)⟩
  · exact ⟨T.C_BadLines, by rfl, T.E_BadLines, T.w_BadTable (T.C_BadLines, false) (List.mem_of_getElem? (i := 1) rfl)⟩
  · exact ⟨T.C_BadLoop, by rfl, T.E_BadLoop, T.w_BadTable (T.C_BadLoop, false) (List.mem_of_getElem? (i := 2) rfl)⟩
  · exact ⟨T.C_BadMove, by rfl, T.E_BadMove, T.w_BadTable (T.C_BadMove, false) (List.mem_of_getElem? (i := 3) rfl)⟩
  · exact ⟨T.C_BadName, by rfl, T.E_BadName, T.w_BadTable (T.C_BadName, false) (List.mem_of_getElem? (i := 4) rfl)⟩
  · exact ⟨T.C_BadNumber, by rfl, T.E_BadNumber, T.w_BadTable (T.C_BadNumber, false) (List.mem_of_getElem? (i := 5) rfl)⟩
  · exact ⟨T.C_BadPaper, by rfl, T.E_BadPaper, T.w_BadTable (T.C_BadPaper, false) (List.mem_of_getElem? (i := 6) rfl)⟩
  · exact ⟨T.C_BadPlane, by rfl, T.E_BadPlane, T.w_BadTable (T.C_BadPlane, false) (List.mem_of_getElem? (i := 7) rfl)⟩
  · exact ⟨T.C_BadRing, by rfl, T.E_BadRing, T.w_BadTable (T.C_BadRing, false) (List.mem_of_getElem? (i := 8) rfl)⟩
  · exact ⟨T.C_BadRow, by rfl, T.E_BadRow, T.w_BadTable (T.C_BadRow, false) (List.mem_of_getElem? (i := 9) rfl)⟩
  · exact ⟨T.C_BadTable, by rfl, T.E_BadTable, T.w_BadTable (T.C_BadTable, true) (List.mem_of_getElem? (i := 10) rfl)⟩
  · exact ⟨T.C_BadText, by rfl, T.E_BadText, T.w_BadTable (T.C_BadText, false) (List.mem_of_getElem? (i := 11) rfl)⟩
  · exact ⟨T.C_NoName, by rfl, T.E_NoName, T.w_BadTable (T.C_NoName, false) (List.mem_of_getElem? (i := 12) rfl)⟩
  · exact ⟨T.C_NotKept, by rfl, T.E_NotKept, T.w_BadTable (T.C_NotKept, false) (List.mem_of_getElem? (i := 13) rfl)⟩
  · exact ⟨T.C_TakenName, by rfl, T.E_TakenName, T.w_BadTable (T.C_TakenName, false) (List.mem_of_getElem? (i := 14) rfl)⟩
  · exact ⟨T.C_NothingToRedo, by rfl, T.E_NothingToRedo, T.w_BadTable (T.C_NothingToRedo, false) (List.mem_of_getElem? (i := 15) rfl)⟩
  · exact ⟨T.C_NothingToUndo, by rfl, T.E_NothingToUndo, T.w_BadTable (T.C_NothingToUndo, false) (List.mem_of_getElem? (i := 16) rfl)⟩
def tl_BadText : List (Str × Bool) := [("BadField", false), ("BadLines", false), ("BadLoop", false), ("BadMove", false), ("BadName", false), ("BadNumber", false), ("BadPaper", false), ("BadPlane", false), ("BadRing", false), ("BadRow", false), ("BadTable", false), ("BadText", true), ("NoName", false), ("NotKept", false), ("TakenName", false), ("NothingToRedo", false), ("NothingToUndo", false)]
theorem Facts.isv_BadText {X : Cx} {F : Frm} (T : Facts K mg) (hG : F.G = T.G) (hK : X.K = K) : IsvOk X F (.ref T.C_BadText) tl_BadText := fun q hq => by
  rw [hG, hK]
  unfold tl_BadText at hq
  simp only [List.mem_cons, List.not_mem_nil, or_false] at hq
  rcases hq with rfl | rfl | rfl | rfl | rfl | rfl | rfl | rfl | rfl | rfl | rfl | rfl | rfl | rfl | rfl | rfl | rfl
  · exact ⟨T.C_BadField, by rfl, T.E_BadField, T.w_BadText (T.C_BadField, false) (List.mem_of_getElem? (i := 0) rfl)⟩
  · exact ⟨T.C_BadLines, by rfl, T.E_BadLines, T.w_BadText (T.C_BadLines, false) (List.mem_of_getElem? (i := 1) rfl)⟩
  · exact ⟨T.C_BadLoop, by rfl, T.E_BadLoop, T.w_BadText (T.C_BadLoop, false) (List.mem_of_getElem? (i := 2) rfl)⟩
  · exact ⟨T.C_BadMove, by rfl, T.E_BadMove, T.w_BadText (T.C_BadMove, false) (List.mem_of_getElem? (i := 3) rfl)⟩
  · exact ⟨T.C_BadName, by rfl, T.E_BadName, T.w_BadText (T.C_BadName, false) (List.mem_of_getElem? (i := 4) rfl)⟩
  · exact ⟨T.C_BadNumber, by rfl, T.E_BadNumber, T.w_BadText (T.C_BadNumber, false) (List.mem_of_getElem? (i := 5) rfl)⟩
  · exact ⟨T.C_BadPaper, by rfl, T.E_BadPaper, T.w_BadText (T.C_BadPaper, false) (List.mem_of_getElem? (i := 6) rfl)⟩
  · exact ⟨T.C_BadPlane, by rfl, T.E_BadPlane, T.w_BadText (T.C_BadPlane, false) (List.mem_of_getElem? (i := 7) rfl)⟩
  · exact ⟨T.C_BadRing, by rfl, T.E_BadRing, T.w_BadText (T.C_BadRing, false) (List.mem_of_getElem? (i := 8) rfl)⟩
  · exact ⟨T.C_BadRow, by rfl, T.E_BadRow, T.w_BadText (T.C_BadRow, false) (List.mem_of_getElem? (i := 9) rfl)⟩
  · exact ⟨T.C_BadTable, by rfl, T.E_BadTable, T.w_BadText (T.C_BadTable, false) (List.mem_of_getElem? (i := 10) rfl)⟩
  · exact ⟨T.C_BadText, by rfl, T.E_BadText, T.w_BadText (T.C_BadText, true) (List.mem_of_getElem? (i := 11) rfl)⟩
  · exact ⟨T.C_NoName, by rfl, T.E_NoName, T.w_BadText (T.C_NoName, false) (List.mem_of_getElem? (i := 12) rfl)⟩
  · exact ⟨T.C_NotKept, by rfl, T.E_NotKept, T.w_BadText (T.C_NotKept, false) (List.mem_of_getElem? (i := 13) rfl)⟩
  · exact ⟨T.C_TakenName, by rfl, T.E_TakenName, T.w_BadText (T.C_TakenName, false) (List.mem_of_getElem? (i := 14) rfl)⟩
  · exact ⟨T.C_NothingToRedo, by rfl, T.E_NothingToRedo, T.w_BadText (T.C_NothingToRedo, false) (List.mem_of_getElem? (i := 15) rfl)⟩
  · exact ⟨T.C_NothingToUndo, by rfl, T.E_NothingToUndo, T.w_BadText (T.C_NothingToUndo, false) (List.mem_of_getElem? (i := 16) rfl)⟩
def tl_NoName : List (Str × Bool) := [("BadField", false), ("BadLines", false), ("BadLoop", false), ("BadMove", false), ("BadName", false), ("BadNumber", false), ("BadPaper", false), ("BadPlane", false), ("BadRing", false), ("BadRow", false), ("BadTable", false), ("BadText", false), ("NoName", true), ("NotKept", false), ("TakenName", false), ("NothingToRedo", false), ("NothingToUndo", false)]
theorem Facts.isv_NoName {X : Cx} {F : Frm} (T : Facts K mg) (hG : F.G = T.G) (hK : X.K = K) : IsvOk X F (.ref T.C_NoName) tl_NoName := fun q hq => by
  rw [hG, hK]
  unfold tl_NoName at hq
  simp only [List.mem_cons, List.not_mem_nil, or_false] at hq
  rcases hq with rfl | rfl | rfl | rfl | rfl | rfl | rfl | rfl | rfl | rfl | rfl | rfl | rfl | rfl | rfl | rfl | rfl
  · exact ⟨T.C_BadField, by rfl, T.E_BadField, T.w_NoName (T.C_BadField, false) (List.mem_of_getElem? (i := 0) rfl)⟩
  · exact ⟨T.C_BadLines, by rfl, T.E_BadLines, T.w_NoName (T.C_BadLines, false) (List.mem_of_getElem? (i := 1) rfl)⟩
  · exact ⟨T.C_BadLoop, by rfl, T.E_BadLoop, T.w_NoName (T.C_BadLoop, false) (List.mem_of_getElem? (i := 2) rfl)⟩
  · exact ⟨T.C_BadMove, by rfl, T.E_BadMove, T.w_NoName (T.C_BadMove, false) (List.mem_of_getElem? (i := 3) rfl)⟩
  · exact ⟨T.C_BadName, by rfl, T.E_BadName, T.w_NoName (T.C_BadName, false) (List.mem_of_getElem? (i := 4) rfl)⟩
  · exact ⟨T.C_BadNumber, by rfl, T.E_BadNumber, T.w_NoName (T.C_BadNumber, false) (List.mem_of_getElem? (i := 5) rfl)⟩
  · exact ⟨T.C_BadPaper, by rfl, T.E_BadPaper, T.w_NoName (T.C_BadPaper, false) (List.mem_of_getElem? (i := 6) rfl)⟩
  · exact ⟨T.C_BadPlane, by rfl, T.E_BadPlane, T.w_NoName (T.C_BadPlane, false) (List.mem_of_getElem? (i := 7) rfl)⟩
  · exact ⟨T.C_BadRing, by rfl, T.E_BadRing, T.w_NoName (T.C_BadRing, false) (List.mem_of_getElem? (i := 8) rfl)⟩
  · exact ⟨T.C_BadRow, by rfl, T.E_BadRow, T.w_NoName (T.C_BadRow, false) (List.mem_of_getElem? (i := 9) rfl)⟩
  · exact ⟨T.C_BadTable, by rfl, T.E_BadTable, T.w_NoName (T.C_BadTable, false) (List.mem_of_getElem? (i := 10) rfl)⟩
  · exact ⟨T.C_BadText, by rfl, T.E_BadText, T.w_NoName (T.C_BadText, false) (List.mem_of_getElem? (i := 11) rfl)⟩
  · exact ⟨T.C_NoName, by rfl, T.E_NoName, T.w_NoName (T.C_NoName, true) (List.mem_of_getElem? (i := 12) rfl)⟩
  · exact ⟨T.C_NotKept, by rfl, T.E_NotKept, T.w_NoName (T.C_NotKept, false) (List.mem_of_getElem? (i := 13) rfl)⟩
  · exact ⟨T.C_TakenName, by rfl, T.E_TakenName, T.w_NoName (T.C_TakenName, false) (List.mem_of_getElem? (i := 14) rfl)⟩
  · exact ⟨T.C_NothingToRedo, by rfl, T.E_NothingToRedo, T.w_NoName (T.C_NothingToRedo, false) (List.mem_of_getElem? (i := 15) rfl)⟩
  · exact ⟨T.C_NothingToUndo, by rfl, T.E_NothingToUndo, T.w_NoName (T.C_NothingToUndo, false) (List.mem_of_getElem? (i := 16) rfl)⟩
def tl_NotKept : List (Str × Bool) := [("BadField", false), ("BadLines", false), ("BadLoop", false), ("BadMove", false), ("BadName", false), ("BadNumber", false), ("BadPaper", false), ("BadPlane", false), ("BadRing", false), ("BadRow", false), ("BadTable", false), ("BadText", false), ("NoName", false), ("NotKept", true), ("TakenName", false), ("NothingToRedo", false), ("NothingToUndo", false)]
theorem Facts.isv_NotKept {X : Cx} {F : Frm} (T : Facts K mg) (hG : F.G = T.G) (hK : X.K = K) : IsvOk X F (.ref T.C_NotKept) tl_NotKept := fun q hq => by
  rw [hG, hK]
  unfold tl_NotKept at hq
  simp only [List.mem_cons, List.not_mem_nil, or_false] at hq
  rcases hq with rfl | rfl | rfl | rfl | rfl | rfl | rfl | rfl | rfl | rfl | rfl | rfl | rfl | rfl | rfl | rfl | rfl
  · exact ⟨T.C_BadField, by rfl, T.E_BadField, T.w_NotKept (T.C_BadField, false) (List.mem_of_getElem? (i := 0) rfl)⟩
  · exact ⟨T.C_BadLines, by rfl, T.E_BadLines, T.w_NotKept (T.C_BadLines, false) (List.mem_of_getElem? (i := 1) rfl)⟩
  · exact ⟨T.C_BadLoop, by rfl, T.E_BadLoop, T.w_NotKept (T.C_BadLoop, false) (List.mem_of_getElem? (i := 2) rfl)⟩
  · exact ⟨T.C_BadMove, by rfl, T.E_BadMove, T.w_NotKept (T.C_BadMove, false) (List.mem_of_getElem? (i := 3) rfl)⟩
  · exact ⟨T.C_BadName, by rfl, T.E_BadName, T.w_NotKept (T.C_BadName, false) (List.mem_of_getElem? (i := 4) rfl)⟩
  · exact ⟨T.C_BadNumber, by rfl, T.E_BadNumber, T.w_NotKept (T.C_BadNumber, false) (List.mem_of_getElem? (i := 5) rfl)⟩
  · exact ⟨T.C_BadPaper, by rfl, T.E_BadPaper, T.w_NotKept (T.C_BadPaper, false) (List.mem_of_getElem? (i := 6) rfl)⟩
  · exact ⟨T.C_BadPlane, by rfl, T.E_BadPlane, T.w_NotKept (T.C_BadPlane, false) (List.mem_of_getElem? (i := 7) rfl)⟩
  · exact ⟨T.C_BadRing, by rfl, T.E_BadRing, T.w_NotKept (T.C_BadRing, false) (List.mem_of_getElem? (i := 8) rfl)⟩
  · exact ⟨T.C_BadRow, by rfl, T.E_BadRow, T.w_NotKept (T.C_BadRow, false) (List.mem_of_getElem? (i := 9) rfl)⟩
  · exact ⟨T.C_BadTable, by rfl, T.E_BadTable, T.w_NotKept (T.C_BadTable, false) (List.mem_of_getElem? (i := 10) rfl)⟩
  · exact ⟨T.C_BadText, by rfl, T.E_BadText, T.w_NotKept (T.C_BadText, false) (List.mem_of_getElem? (i := 11) rfl)⟩
  · exact ⟨T.C_NoName, by rfl, T.E_NoName, T.w_NotKept (T.C_NoName, false) (List.mem_of_getElem? (i := 12) rfl)⟩
  · exact ⟨T.C_NotKept, by rfl, T.E_NotKept, T.w_NotKept (T.C_NotKept, true) (List.mem_of_getElem? (i := 13) rfl)⟩
  · exact ⟨T.C_TakenName, by rfl, T.E_TakenName, T.w_NotKept (T.C_TakenName, false) (List.mem_of_getElem? (i := 14) rfl)⟩
  · exact ⟨T.C_NothingToRedo, by rfl, T.E_NothingToRedo, T.w_NotKept (T.C_NothingToRedo, false) (List.mem_of_getElem? (i := 15) rfl)⟩
  · exact ⟨T.C_NothingToUndo, by rfl, T.E_NothingToUndo, T.w_NotKept (T.C_NothingToUndo, false) (List.mem_of_getElem? (i := 16) rfl)⟩
def tl_NothingToRedo : List (Str × Bool) := [("BadField", false), ("BadLines", false), ("BadLoop", false), ("BadMove", false), ("BadName", false), ("BadNumber", false), ("BadPaper", false), ("BadPlane", false), ("BadRing", false), ("BadRow", false), ("BadTable", false), ("BadText", false), ("NoName", false), ("NotKept", false), ("TakenName", false), ("NothingToRedo", true), ("NothingToUndo", false)]
theorem Facts.isv_NothingToRedo {X : Cx} {F : Frm} (T : Facts K mg) (hG : F.G = T.G) (hK : X.K = K) : IsvOk X F (.ref T.C_NothingToRedo) tl_NothingToRedo := fun q hq => by
  rw [hG, hK]
  unfold tl_NothingToRedo at hq
  simp only [List.mem_cons, List.not_mem_nil, or_false] at hq
  rcases hq with rfl | rfl | rfl | rfl | rfl | rfl | rfl | rfl | rfl | rfl | rfl | rfl | rfl | rfl | rfl | rfl | rfl
  · exact ⟨T.C_BadField, by rfl, T.E_BadField, T.w_NothingToRedo (T.C_BadField, false) (List.mem_of_getElem? (i := 0) rfl)⟩
  · exact ⟨T.C_BadLines, by rfl, T.E_BadLines, T.w_NothingToRedo (T.C_BadLines, false) (List.mem_of_getElem? (i := 1) rfl)⟩
  · exact ⟨T.C_BadLoop, by rfl, T.E_BadLoop, T.w_NothingToRedo (T.C_BadLoop, false) (List.mem_of_getElem? (i := 2) rfl)⟩
  · exact ⟨T.C_BadMove, by rfl, T.E_BadMove, T.w_NothingToRedo (T.C_BadMove, false) (List.mem_of_getElem? (i := 3) rfl)⟩
  · exact ⟨T.C_BadName, by rfl, T.E_BadName, T.w_NothingToRedo (T.C_BadName, false) (List.mem_of_getElem? (i := 4) rfl)⟩
  · exact ⟨T.C_BadNumber, by rfl, T.E_BadNumber, T.w_NothingToRedo (T.C_BadNumber, false) (List.mem_of_getElem? (i := 5) rfl)⟩
  · exact ⟨T.C_BadPaper, by rfl, T.E_BadPaper, T.w_NothingToRedo (T.C_BadPaper, false) (List.mem_of_getElem? (i := 6) rfl)⟩
  · exact ⟨T.C_BadPlane, by rfl, T.E_BadPlane, T.w_NothingToRedo (T.C_BadPlane, false) (List.mem_of_getElem? (i := 7) rfl)⟩
  · exact ⟨T.C_BadRing, by rfl, T.E_BadRing, T.w_NothingToRedo (T.C_BadRing, false) (List.mem_of_getElem? (i := 8) rfl)⟩
  · exact ⟨T.C_BadRow, by rfl, T.E_BadRow, T.w_NothingToRedo (T.C_BadRow, false) (List.mem_of_getElem? (i := 9) rfl)⟩
  · exact ⟨T.C_BadTable, by rfl, T.E_BadTable, T.w_NothingToRedo (T.C_BadTable, false) (List.mem_of_getElem? (i := 10) rfl)⟩
  · exact ⟨T.C_BadText, by rfl, T.E_BadText, T.w_NothingToRedo (T.C_BadText, false) (List.mem_of_getElem? (i := 11) rfl)⟩
  · exact ⟨T.C_NoName, by rfl, T.E_NoName, T.w_NothingToRedo (T.C_NoName, false) (List.mem_of_getElem? (i := 12) rfl)⟩
  · exact ⟨T.C_NotKept, by rfl, T.E_NotKept, T.w_NothingToRedo (T.C_NotKept, false) (List.mem_of_getElem? (i := 13) rfl)⟩
  · exact ⟨T.C_TakenName, by rfl, T.E_TakenName, T.w_NothingToRedo (T.C_TakenName, false) (List.mem_of_getElem? (i := 14) rfl)⟩
  · exact ⟨T.C_NothingToRedo, by rfl, T.E_NothingToRedo, T.w_NothingToRedo (T.C_NothingToRedo, true) (List.mem_of_getElem? (i := 15) rfl)⟩
  · exact ⟨T.C_NothingToUndo, by rfl, T.E_NothingToUndo, T.w_NothingToRedo (T.C_NothingToUndo, false) (List.mem_of_getElem? (i := 16) rfl)⟩
def tl_NothingToUndo : List (Str × Bool) := [("BadField", false), ("BadLines", false), ("BadLoop", false), ("BadMove", false), ("BadName", false), ("BadNumber", false), ("BadPaper", false), ("BadPlane", false), ("BadRing", false), ("BadRow", false), ("BadTable", false), ("BadText", false), ("NoName", false), ("NotKept", false), ("TakenName", false), ("NothingToRedo", false), ("NothingToUndo", true)]
theorem Facts.isv_NothingToUndo {X : Cx} {F : Frm} (T : Facts K mg) (hG : F.G = T.G) (hK : X.K = K) : IsvOk X F (.ref T.C_NothingToUndo) tl_NothingToUndo := fun q hq => by
  rw [hG, hK]
  unfold tl_NothingToUndo at hq
  simp only [List.mem_cons, List.not_mem_nil, or_false] at hq
  rcases hq with rfl | rfl | rfl | rfl | rfl | rfl | rfl | rfl | rfl | rfl | rfl | rfl | rfl | rfl | rfl | rfl | rfl
  · exact ⟨T.C_BadField, by rfl, T.E_BadField, T.w_NothingToUndo (T.C_BadField, false) (List.mem_of_getElem? (i := 0) rfl)⟩
  · exact ⟨T.C_BadLines, by rfl, T.E_BadLines, T.w_NothingToUndo (T.C_BadLines, false) (List.mem_of_getElem? (i := 1) rfl)⟩
  · exact ⟨T.C_BadLoop, by rfl, T.E_BadLoop, T.w_NothingToUndo (T.C_BadLoop, false) (List.mem_of_getElem? (i := 2) rfl)⟩
  · exact ⟨T.C_BadMove, by rfl, T.E_BadMove, T.w_NothingToUndo (T.C_BadMove, false) (List.mem_of_getElem? (i := 3) rfl)⟩
  · exact ⟨T.C_BadName, by rfl, T.E_BadName, T.w_NothingToUndo (T.C_BadName, false) (List.mem_of_getElem? (i := 4) rfl)⟩
  · exact ⟨T.C_BadNumber, by rfl, T.E_BadNumber, T.w_NothingToUndo (T.C_BadNumber, false) (List.mem_of_getElem? (i := 5) rfl)⟩
  · exact ⟨T.C_BadPaper, by rfl, T.E_BadPaper, T.w_NothingToUndo (T.C_BadPaper, false) (List.mem_of_getElem? (i := 6) rfl)⟩
  · exact ⟨T.C_BadPlane, by rfl, T.E_BadPlane, T.w_NothingToUndo (T.C_BadPlane, false) (List.mem_of_getElem? (i := 7) rfl)⟩
  · exact ⟨T.C_BadRing, by rfl, T.E_BadRing, T.w_NothingToUndo (T.C_BadRing, false) (List.mem_of_getElem? (i := 8) rfl)⟩
  · exact ⟨T.C_BadRow, by rfl, T.E_BadRow, T.w_NothingToUndo (T.C_BadRow, false) (List.mem_of_getElem? (i := 9) rfl)⟩
  · exact ⟨T.C_BadTable, by rfl, T.E_BadTable, T.w_NothingToUndo (T.C_BadTable, false) (List.mem_of_getElem? (i := 10) rfl)⟩
  · exact ⟨T.C_BadText, by rfl, T.E_BadText, T.w_NothingToUndo (T.C_BadText, false) (List.mem_of_getElem? (i := 11) rfl)⟩
  · exact ⟨T.C_NoName, by rfl, T.E_NoName, T.w_NothingToUndo (T.C_NoName, false) (List.mem_of_getElem? (i := 12) rfl)⟩
  · exact ⟨T.C_NotKept, by rfl, T.E_NotKept, T.w_NothingToUndo (T.C_NotKept, false) (List.mem_of_getElem? (i := 13) rfl)⟩
  · exact ⟨T.C_TakenName, by rfl, T.E_TakenName, T.w_NothingToUndo (T.C_TakenName, false) (List.mem_of_getElem? (i := 14) rfl)⟩
  · exact ⟨T.C_NothingToRedo, by rfl, T.E_NothingToRedo, T.w_NothingToUndo (T.C_NothingToRedo, false) (List.mem_of_getElem? (i := 15) rfl)⟩
  · exact ⟨T.C_NothingToUndo, by rfl, T.E_NothingToUndo, T.w_NothingToUndo (T.C_NothingToUndo, true) (List.mem_of_getElem? (i := 16) rfl)⟩
def tl_PlaneError : List (Str × Bool) := [("BadField", true), ("BadLines", true), ("BadLoop", true), ("BadMove", true), ("BadName", true), ("BadNumber", true), ("BadPaper", true), ("BadPlane", true), ("BadRing", true), ("BadRow", true), ("BadTable", true), ("BadText", true), ("NoName", true), ("NotKept", true), ("TakenName", true), ("NothingToRedo", true), ("NothingToUndo", true)]
theorem Facts.isv_PlaneError {X : Cx} {F : Frm} (T : Facts K mg) (hG : F.G = T.G) (hK : X.K = K) : IsvOk X F (.ref T.C_PlaneError) tl_PlaneError := fun q hq => by
  rw [hG, hK]
  unfold tl_PlaneError at hq
  simp only [List.mem_cons, List.not_mem_nil, or_false] at hq
  rcases hq with rfl | rfl | rfl | rfl | rfl | rfl | rfl | rfl | rfl | rfl | rfl | rfl | rfl | rfl | rfl | rfl | rfl
  · exact ⟨T.C_BadField, by rfl, T.E_BadField, T.w_PlaneError (T.C_BadField, true) (List.mem_of_getElem? (i := 0) rfl)⟩
  · exact ⟨T.C_BadLines, by rfl, T.E_BadLines, T.w_PlaneError (T.C_BadLines, true) (List.mem_of_getElem? (i := 1) rfl)⟩
  · exact ⟨T.C_BadLoop, by rfl, T.E_BadLoop, T.w_PlaneError (T.C_BadLoop, true) (List.mem_of_getElem? (i := 2) rfl)⟩
  · exact ⟨T.C_BadMove, by rfl, T.E_BadMove, T.w_PlaneError (T.C_BadMove, true) (List.mem_of_getElem? (i := 3) rfl)⟩
  · exact ⟨T.C_BadName, by rfl, T.E_BadName, T.w_PlaneError (T.C_BadName, true) (List.mem_of_getElem? (i := 4) rfl)⟩
  · exact ⟨T.C_BadNumber, by rfl, T.E_BadNumber, T.w_PlaneError (T.C_BadNumber, true) (List.mem_of_getElem? (i := 5) rfl)⟩
  · exact ⟨T.C_BadPaper, by rfl, T.E_BadPaper, T.w_PlaneError (T.C_BadPaper, true) (List.mem_of_getElem? (i := 6) rfl)⟩
  · exact ⟨T.C_BadPlane, by rfl, T.E_BadPlane, T.w_PlaneError (T.C_BadPlane, true) (List.mem_of_getElem? (i := 7) rfl)⟩
  · exact ⟨T.C_BadRing, by rfl, T.E_BadRing, T.w_PlaneError (T.C_BadRing, true) (List.mem_of_getElem? (i := 8) rfl)⟩
  · exact ⟨T.C_BadRow, by rfl, T.E_BadRow, T.w_PlaneError (T.C_BadRow, true) (List.mem_of_getElem? (i := 9) rfl)⟩
  · exact ⟨T.C_BadTable, by rfl, T.E_BadTable, T.w_PlaneError (T.C_BadTable, true) (List.mem_of_getElem? (i := 10) rfl)⟩
  · exact ⟨T.C_BadText, by rfl, T.E_BadText, T.w_PlaneError (T.C_BadText, true) (List.mem_of_getElem? (i := 11) rfl)⟩
  · exact ⟨T.C_NoName, by rfl, T.E_NoName, T.w_PlaneError (T.C_NoName, true) (List.mem_of_getElem? (i := 12) rfl)⟩
  · exact ⟨T.C_NotKept, by rfl, T.E_NotKept, T.w_PlaneError (T.C_NotKept, true) (List.mem_of_getElem? (i := 13) rfl)⟩
  · exact ⟨T.C_TakenName, by rfl, T.E_TakenName, T.w_PlaneError (T.C_TakenName, true) (List.mem_of_getElem? (i := 14) rfl)⟩
  · exact ⟨T.C_NothingToRedo, by rfl, T.E_NothingToRedo, T.w_PlaneError (T.C_NothingToRedo, true) (List.mem_of_getElem? (i := 15) rfl)⟩
  · exact ⟨T.C_NothingToUndo, by rfl, T.E_NothingToUndo, T.w_PlaneError (T.C_NothingToUndo, true) (List.mem_of_getElem? (i := 16) rfl)⟩
def tl_TakenName : List (Str × Bool) := [("BadField", false), ("BadLines", false), ("BadLoop", false), ("BadMove", false), ("BadName", false), ("BadNumber", false), ("BadPaper", false), ("BadPlane", false), ("BadRing", false), ("BadRow", false), ("BadTable", false), ("BadText", false), ("NoName", false), ("NotKept", false), ("TakenName", true), ("NothingToRedo", false), ("NothingToUndo", false)]
theorem Facts.isv_TakenName {X : Cx} {F : Frm} (T : Facts K mg) (hG : F.G = T.G) (hK : X.K = K) : IsvOk X F (.ref T.C_TakenName) tl_TakenName := fun q hq => by
  rw [hG, hK]
  unfold tl_TakenName at hq
  simp only [List.mem_cons, List.not_mem_nil, or_false] at hq
  rcases hq with rfl | rfl | rfl | rfl | rfl | rfl | rfl | rfl | rfl | rfl | rfl | rfl | rfl | rfl | rfl | rfl | rfl
  · exact ⟨T.C_BadField, by rfl, T.E_BadField, T.w_TakenName (T.C_BadField, false) (List.mem_of_getElem? (i := 0) rfl)⟩
  · exact ⟨T.C_BadLines, by rfl, T.E_BadLines, T.w_TakenName (T.C_BadLines, false) (List.mem_of_getElem? (i := 1) rfl)⟩
  · exact ⟨T.C_BadLoop, by rfl, T.E_BadLoop, T.w_TakenName (T.C_BadLoop, false) (List.mem_of_getElem? (i := 2) rfl)⟩
  · exact ⟨T.C_BadMove, by rfl, T.E_BadMove, T.w_TakenName (T.C_BadMove, false) (List.mem_of_getElem? (i := 3) rfl)⟩
  · exact ⟨T.C_BadName, by rfl, T.E_BadName, T.w_TakenName (T.C_BadName, false) (List.mem_of_getElem? (i := 4) rfl)⟩
  · exact ⟨T.C_BadNumber, by rfl, T.E_BadNumber, T.w_TakenName (T.C_BadNumber, false) (List.mem_of_getElem? (i := 5) rfl)⟩
  · exact ⟨T.C_BadPaper, by rfl, T.E_BadPaper, T.w_TakenName (T.C_BadPaper, false) (List.mem_of_getElem? (i := 6) rfl)⟩
  · exact ⟨T.C_BadPlane, by rfl, T.E_BadPlane, T.w_TakenName (T.C_BadPlane, false) (List.mem_of_getElem? (i := 7) rfl)⟩
  · exact ⟨T.C_BadRing, by rfl, T.E_BadRing, T.w_TakenName (T.C_BadRing, false) (List.mem_of_getElem? (i := 8) rfl)⟩
  · exact ⟨T.C_BadRow, by rfl, T.E_BadRow, T.w_TakenName (T.C_BadRow, false) (List.mem_of_getElem? (i := 9) rfl)⟩
  · exact ⟨T.C_BadTable, by rfl, T.E_BadTable, T.w_TakenName (T.C_BadTable, false) (List.mem_of_getElem? (i := 10) rfl)⟩
  · exact ⟨T.C_BadText, by rfl, T.E_BadText, T.w_TakenName (T.C_BadText, false) (List.mem_of_getElem? (i := 11) rfl)⟩
  · exact ⟨T.C_NoName, by rfl, T.E_NoName, T.w_TakenName (T.C_NoName, false) (List.mem_of_getElem? (i := 12) rfl)⟩
  · exact ⟨T.C_NotKept, by rfl, T.E_NotKept, T.w_TakenName (T.C_NotKept, false) (List.mem_of_getElem? (i := 13) rfl)⟩
  · exact ⟨T.C_TakenName, by rfl, T.E_TakenName, T.w_TakenName (T.C_TakenName, true) (List.mem_of_getElem? (i := 14) rfl)⟩
  · exact ⟨T.C_NothingToRedo, by rfl, T.E_NothingToRedo, T.w_TakenName (T.C_NothingToRedo, false) (List.mem_of_getElem? (i := 15) rfl)⟩
  · exact ⟨T.C_NothingToUndo, by rfl, T.E_NothingToUndo, T.w_TakenName (T.C_NothingToUndo, false) (List.mem_of_getElem? (i := 16) rfl)⟩
def tl_ValueError : List (Str × Bool) := [("BadField", true), ("BadLines", true), ("BadLoop", true), ("BadMove", true), ("BadName", true), ("BadNumber", true), ("BadPaper", true), ("BadPlane", true), ("BadRing", true), ("BadRow", true), ("BadTable", true), ("BadText", true), ("NoName", true), ("NotKept", true), ("TakenName", true), ("NothingToRedo", true), ("NothingToUndo", true)]
theorem Facts.isv_ValueError {X : Cx} {F : Frm} (T : Facts K mg) (hG : F.G = T.G) (hK : X.K = K) : IsvOk X F (.type "ValueError") tl_ValueError := fun q hq => by
  rw [hG, hK]
  unfold tl_ValueError at hq
  simp only [List.mem_cons, List.not_mem_nil, or_false] at hq
  rcases hq with rfl | rfl | rfl | rfl | rfl | rfl | rfl | rfl | rfl | rfl | rfl | rfl | rfl | rfl | rfl | rfl | rfl
  · exact ⟨T.C_BadField, by rfl, T.E_BadField, T.w_ValueError (T.C_BadField, true) (List.mem_of_getElem? (i := 0) rfl)⟩
  · exact ⟨T.C_BadLines, by rfl, T.E_BadLines, T.w_ValueError (T.C_BadLines, true) (List.mem_of_getElem? (i := 1) rfl)⟩
  · exact ⟨T.C_BadLoop, by rfl, T.E_BadLoop, T.w_ValueError (T.C_BadLoop, true) (List.mem_of_getElem? (i := 2) rfl)⟩
  · exact ⟨T.C_BadMove, by rfl, T.E_BadMove, T.w_ValueError (T.C_BadMove, true) (List.mem_of_getElem? (i := 3) rfl)⟩
  · exact ⟨T.C_BadName, by rfl, T.E_BadName, T.w_ValueError (T.C_BadName, true) (List.mem_of_getElem? (i := 4) rfl)⟩
  · exact ⟨T.C_BadNumber, by rfl, T.E_BadNumber, T.w_ValueError (T.C_BadNumber, true) (List.mem_of_getElem? (i := 5) rfl)⟩
  · exact ⟨T.C_BadPaper, by rfl, T.E_BadPaper, T.w_ValueError (T.C_BadPaper, true) (List.mem_of_getElem? (i := 6) rfl)⟩
  · exact ⟨T.C_BadPlane, by rfl, T.E_BadPlane, T.w_ValueError (T.C_BadPlane, true) (List.mem_of_getElem? (i := 7) rfl)⟩
  · exact ⟨T.C_BadRing, by rfl, T.E_BadRing, T.w_ValueError (T.C_BadRing, true) (List.mem_of_getElem? (i := 8) rfl)⟩
  · exact ⟨T.C_BadRow, by rfl, T.E_BadRow, T.w_ValueError (T.C_BadRow, true) (List.mem_of_getElem? (i := 9) rfl)⟩
  · exact ⟨T.C_BadTable, by rfl, T.E_BadTable, T.w_ValueError (T.C_BadTable, true) (List.mem_of_getElem? (i := 10) rfl)⟩
  · exact ⟨T.C_BadText, by rfl, T.E_BadText, T.w_ValueError (T.C_BadText, true) (List.mem_of_getElem? (i := 11) rfl)⟩
  · exact ⟨T.C_NoName, by rfl, T.E_NoName, T.w_ValueError (T.C_NoName, true) (List.mem_of_getElem? (i := 12) rfl)⟩
  · exact ⟨T.C_NotKept, by rfl, T.E_NotKept, T.w_ValueError (T.C_NotKept, true) (List.mem_of_getElem? (i := 13) rfl)⟩
  · exact ⟨T.C_TakenName, by rfl, T.E_TakenName, T.w_ValueError (T.C_TakenName, true) (List.mem_of_getElem? (i := 14) rfl)⟩
  · exact ⟨T.C_NothingToRedo, by rfl, T.E_NothingToRedo, T.w_ValueError (T.C_NothingToRedo, true) (List.mem_of_getElem? (i := 15) rfl)⟩
  · exact ⟨T.C_NothingToUndo, by rfl, T.E_NothingToUndo, T.w_ValueError (T.C_NothingToUndo, true) (List.mem_of_getElem? (i := 16) rfl)⟩
def xc_column : List Str := ["BadText"]
theorem Facts.xfd_column {X : Cx} {F : Frm} (T : Facts K mg) (hG : F.G = T.G) (hK : X.K = K) : XfdOk X F xc_column "column" := fun c C hc h => by
  rw [hG] at h
  rw [hK]
  have h : ([("BadField", T.C_BadField), ("BadLines", T.C_BadLines), ("BadLoop", T.C_BadLoop), ("BadMove", T.C_BadMove), ("BadName", T.C_BadName), ("BadNumber", T.C_BadNumber), ("BadPaper", T.C_BadPaper), ("BadPlane", T.C_BadPlane), ("BadRing", T.C_BadRing), ("BadRow", T.C_BadRow), ("BadTable", T.C_BadTable), ("BadText", T.C_BadText), ("NoName", T.C_NoName), ("NotKept", T.C_NotKept), ("TakenName", T.C_TakenName), ("NothingToRedo", T.C_NothingToRedo), ("NothingToUndo", T.C_NothingToUndo)] : List (Str × Addr)).lookup c = some C := h
  by_cases z_BadText : c = "BadText"
  · subst z_BadText
    have e : C = T.C_BadText := by
      have : some C = some T.C_BadText := h.symm.trans (by rfl)
      exact Option.some.inj this
    subst e
    exact ⟨T.x_BadText, T.n_BadText "column" (by decide +kernel)⟩
  · simp [xc_column, hasF, Ne.symm z_BadText] at hc
def xc_field : List Str := ["BadField"]
theorem Facts.xfd_field {X : Cx} {F : Frm} (T : Facts K mg) (hG : F.G = T.G) (hK : X.K = K) : XfdOk X F xc_field "field" := fun c C hc h => by
  rw [hG] at h
  rw [hK]
  have h : ([("BadField", T.C_BadField), ("BadLines", T.C_BadLines), ("BadLoop", T.C_BadLoop), ("BadMove", T.C_BadMove), ("BadName", T.C_BadName), ("BadNumber", T.C_BadNumber), ("BadPaper", T.C_BadPaper), ("BadPlane", T.C_BadPlane), ("BadRing", T.C_BadRing), ("BadRow", T.C_BadRow), ("BadTable", T.C_BadTable), ("BadText", T.C_BadText), ("NoName", T.C_NoName), ("NotKept", T.C_NotKept), ("TakenName", T.C_TakenName), ("NothingToRedo", T.C_NothingToRedo), ("NothingToUndo", T.C_NothingToUndo)] : List (Str × Addr)).lookup c = some C := h
  by_cases z_BadField : c = "BadField"
  · subst z_BadField
    have e : C = T.C_BadField := by
      have : some C = some T.C_BadField := h.symm.trans (by rfl)
      exact Option.some.inj this
    subst e
    exact ⟨T.x_BadField, T.n_BadField "field" (by decide +kernel)⟩
  · simp [xc_field, hasF, Ne.symm z_BadField] at hc
def xc_led : List Str := ["BadMove"]
theorem Facts.xfd_led {X : Cx} {F : Frm} (T : Facts K mg) (hG : F.G = T.G) (hK : X.K = K) : XfdOk X F xc_led "led" := fun c C hc h => by
  rw [hG] at h
  rw [hK]
  have h : ([("BadField", T.C_BadField), ("BadLines", T.C_BadLines), ("BadLoop", T.C_BadLoop), ("BadMove", T.C_BadMove), ("BadName", T.C_BadName), ("BadNumber", T.C_BadNumber), ("BadPaper", T.C_BadPaper), ("BadPlane", T.C_BadPlane), ("BadRing", T.C_BadRing), ("BadRow", T.C_BadRow), ("BadTable", T.C_BadTable), ("BadText", T.C_BadText), ("NoName", T.C_NoName), ("NotKept", T.C_NotKept), ("TakenName", T.C_TakenName), ("NothingToRedo", T.C_NothingToRedo), ("NothingToUndo", T.C_NothingToUndo)] : List (Str × Addr)).lookup c = some C := h
  by_cases z_BadMove : c = "BadMove"
  · subst z_BadMove
    have e : C = T.C_BadMove := by
      have : some C = some T.C_BadMove := h.symm.trans (by rfl)
      exact Option.some.inj this
    subst e
    exact ⟨T.x_BadMove, T.n_BadMove "led" (by decide +kernel)⟩
  · simp [xc_led, hasF, Ne.symm z_BadMove] at hc
def xc_line : List Str := ["BadText"]
theorem Facts.xfd_line {X : Cx} {F : Frm} (T : Facts K mg) (hG : F.G = T.G) (hK : X.K = K) : XfdOk X F xc_line "line" := fun c C hc h => by
  rw [hG] at h
  rw [hK]
  have h : ([("BadField", T.C_BadField), ("BadLines", T.C_BadLines), ("BadLoop", T.C_BadLoop), ("BadMove", T.C_BadMove), ("BadName", T.C_BadName), ("BadNumber", T.C_BadNumber), ("BadPaper", T.C_BadPaper), ("BadPlane", T.C_BadPlane), ("BadRing", T.C_BadRing), ("BadRow", T.C_BadRow), ("BadTable", T.C_BadTable), ("BadText", T.C_BadText), ("NoName", T.C_NoName), ("NotKept", T.C_NotKept), ("TakenName", T.C_TakenName), ("NothingToRedo", T.C_NothingToRedo), ("NothingToUndo", T.C_NothingToUndo)] : List (Str × Addr)).lookup c = some C := h
  by_cases z_BadText : c = "BadText"
  · subst z_BadText
    have e : C = T.C_BadText := by
      have : some C = some T.C_BadText := h.symm.trans (by rfl)
      exact Option.some.inj this
    subst e
    exact ⟨T.x_BadText, T.n_BadText "line" (by decide +kernel)⟩
  · simp [xc_line, hasF, Ne.symm z_BadText] at hc
def xc_lines : List Str := ["BadLines"]
theorem Facts.xfd_lines {X : Cx} {F : Frm} (T : Facts K mg) (hG : F.G = T.G) (hK : X.K = K) : XfdOk X F xc_lines "lines" := fun c C hc h => by
  rw [hG] at h
  rw [hK]
  have h : ([("BadField", T.C_BadField), ("BadLines", T.C_BadLines), ("BadLoop", T.C_BadLoop), ("BadMove", T.C_BadMove), ("BadName", T.C_BadName), ("BadNumber", T.C_BadNumber), ("BadPaper", T.C_BadPaper), ("BadPlane", T.C_BadPlane), ("BadRing", T.C_BadRing), ("BadRow", T.C_BadRow), ("BadTable", T.C_BadTable), ("BadText", T.C_BadText), ("NoName", T.C_NoName), ("NotKept", T.C_NotKept), ("TakenName", T.C_TakenName), ("NothingToRedo", T.C_NothingToRedo), ("NothingToUndo", T.C_NothingToUndo)] : List (Str × Addr)).lookup c = some C := h
  by_cases z_BadLines : c = "BadLines"
  · subst z_BadLines
    have e : C = T.C_BadLines := by
      have : some C = some T.C_BadLines := h.symm.trans (by rfl)
      exact Option.some.inj this
    subst e
    exact ⟨T.x_BadLines, T.n_BadLines "lines" (by decide +kernel)⟩
  · simp [xc_lines, hasF, Ne.symm z_BadLines] at hc
def xc_loop : List Str := ["BadLoop"]
theorem Facts.xfd_loop {X : Cx} {F : Frm} (T : Facts K mg) (hG : F.G = T.G) (hK : X.K = K) : XfdOk X F xc_loop "loop" := fun c C hc h => by
  rw [hG] at h
  rw [hK]
  have h : ([("BadField", T.C_BadField), ("BadLines", T.C_BadLines), ("BadLoop", T.C_BadLoop), ("BadMove", T.C_BadMove), ("BadName", T.C_BadName), ("BadNumber", T.C_BadNumber), ("BadPaper", T.C_BadPaper), ("BadPlane", T.C_BadPlane), ("BadRing", T.C_BadRing), ("BadRow", T.C_BadRow), ("BadTable", T.C_BadTable), ("BadText", T.C_BadText), ("NoName", T.C_NoName), ("NotKept", T.C_NotKept), ("TakenName", T.C_TakenName), ("NothingToRedo", T.C_NothingToRedo), ("NothingToUndo", T.C_NothingToUndo)] : List (Str × Addr)).lookup c = some C := h
  by_cases z_BadLoop : c = "BadLoop"
  · subst z_BadLoop
    have e : C = T.C_BadLoop := by
      have : some C = some T.C_BadLoop := h.symm.trans (by rfl)
      exact Option.some.inj this
    subst e
    exact ⟨T.x_BadLoop, T.n_BadLoop "loop" (by decide +kernel)⟩
  · simp [xc_loop, hasF, Ne.symm z_BadLoop] at hc
def xc_name : List Str := ["BadName", "NoName", "TakenName"]
theorem Facts.xfd_name {X : Cx} {F : Frm} (T : Facts K mg) (hG : F.G = T.G) (hK : X.K = K) : XfdOk X F xc_name "name" := fun c C hc h => by
  rw [hG] at h
  rw [hK]
  have h : ([("BadField", T.C_BadField), ("BadLines", T.C_BadLines), ("BadLoop", T.C_BadLoop), ("BadMove", T.C_BadMove), ("BadName", T.C_BadName), ("BadNumber", T.C_BadNumber), ("BadPaper", T.C_BadPaper), ("BadPlane", T.C_BadPlane), ("BadRing", T.C_BadRing), ("BadRow", T.C_BadRow), ("BadTable", T.C_BadTable), ("BadText", T.C_BadText), ("NoName", T.C_NoName), ("NotKept", T.C_NotKept), ("TakenName", T.C_TakenName), ("NothingToRedo", T.C_NothingToRedo), ("NothingToUndo", T.C_NothingToUndo)] : List (Str × Addr)).lookup c = some C := h
  by_cases z_BadName : c = "BadName"
  · subst z_BadName
    have e : C = T.C_BadName := by
      have : some C = some T.C_BadName := h.symm.trans (by rfl)
      exact Option.some.inj this
    subst e
    exact ⟨T.x_BadName, T.n_BadName "name" (by decide +kernel)⟩
  by_cases z_NoName : c = "NoName"
  · subst z_NoName
    have e : C = T.C_NoName := by
      have : some C = some T.C_NoName := h.symm.trans (by rfl)
      exact Option.some.inj this
    subst e
    exact ⟨T.x_NoName, T.n_NoName "name" (by decide +kernel)⟩
  by_cases z_TakenName : c = "TakenName"
  · subst z_TakenName
    have e : C = T.C_TakenName := by
      have : some C = some T.C_TakenName := h.symm.trans (by rfl)
      exact Option.some.inj this
    subst e
    exact ⟨T.x_TakenName, T.n_TakenName "name" (by decide +kernel)⟩
  · simp [xc_name, hasF, Ne.symm z_BadName, Ne.symm z_NoName, Ne.symm z_TakenName] at hc
def xc_number : List Str := ["BadNumber"]
theorem Facts.xfd_number {X : Cx} {F : Frm} (T : Facts K mg) (hG : F.G = T.G) (hK : X.K = K) : XfdOk X F xc_number "number" := fun c C hc h => by
  rw [hG] at h
  rw [hK]
  have h : ([("BadField", T.C_BadField), ("BadLines", T.C_BadLines), ("BadLoop", T.C_BadLoop), ("BadMove", T.C_BadMove), ("BadName", T.C_BadName), ("BadNumber", T.C_BadNumber), ("BadPaper", T.C_BadPaper), ("BadPlane", T.C_BadPlane), ("BadRing", T.C_BadRing), ("BadRow", T.C_BadRow), ("BadTable", T.C_BadTable), ("BadText", T.C_BadText), ("NoName", T.C_NoName), ("NotKept", T.C_NotKept), ("TakenName", T.C_TakenName), ("NothingToRedo", T.C_NothingToRedo), ("NothingToUndo", T.C_NothingToUndo)] : List (Str × Addr)).lookup c = some C := h
  by_cases z_BadNumber : c = "BadNumber"
  · subst z_BadNumber
    have e : C = T.C_BadNumber := by
      have : some C = some T.C_BadNumber := h.symm.trans (by rfl)
      exact Option.some.inj this
    subst e
    exact ⟨T.x_BadNumber, T.n_BadNumber "number" (by decide +kernel)⟩
  · simp [xc_number, hasF, Ne.symm z_BadNumber] at hc
def xc_paper : List Str := ["BadPaper"]
theorem Facts.xfd_paper {X : Cx} {F : Frm} (T : Facts K mg) (hG : F.G = T.G) (hK : X.K = K) : XfdOk X F xc_paper "paper" := fun c C hc h => by
  rw [hG] at h
  rw [hK]
  have h : ([("BadField", T.C_BadField), ("BadLines", T.C_BadLines), ("BadLoop", T.C_BadLoop), ("BadMove", T.C_BadMove), ("BadName", T.C_BadName), ("BadNumber", T.C_BadNumber), ("BadPaper", T.C_BadPaper), ("BadPlane", T.C_BadPlane), ("BadRing", T.C_BadRing), ("BadRow", T.C_BadRow), ("BadTable", T.C_BadTable), ("BadText", T.C_BadText), ("NoName", T.C_NoName), ("NotKept", T.C_NotKept), ("TakenName", T.C_TakenName), ("NothingToRedo", T.C_NothingToRedo), ("NothingToUndo", T.C_NothingToUndo)] : List (Str × Addr)).lookup c = some C := h
  by_cases z_BadPaper : c = "BadPaper"
  · subst z_BadPaper
    have e : C = T.C_BadPaper := by
      have : some C = some T.C_BadPaper := h.symm.trans (by rfl)
      exact Option.some.inj this
    subst e
    exact ⟨T.x_BadPaper, T.n_BadPaper "paper" (by decide +kernel)⟩
  · simp [xc_paper, hasF, Ne.symm z_BadPaper] at hc
def xc_plane : List Str := ["BadPlane"]
theorem Facts.xfd_plane {X : Cx} {F : Frm} (T : Facts K mg) (hG : F.G = T.G) (hK : X.K = K) : XfdOk X F xc_plane "plane" := fun c C hc h => by
  rw [hG] at h
  rw [hK]
  have h : ([("BadField", T.C_BadField), ("BadLines", T.C_BadLines), ("BadLoop", T.C_BadLoop), ("BadMove", T.C_BadMove), ("BadName", T.C_BadName), ("BadNumber", T.C_BadNumber), ("BadPaper", T.C_BadPaper), ("BadPlane", T.C_BadPlane), ("BadRing", T.C_BadRing), ("BadRow", T.C_BadRow), ("BadTable", T.C_BadTable), ("BadText", T.C_BadText), ("NoName", T.C_NoName), ("NotKept", T.C_NotKept), ("TakenName", T.C_TakenName), ("NothingToRedo", T.C_NothingToRedo), ("NothingToUndo", T.C_NothingToUndo)] : List (Str × Addr)).lookup c = some C := h
  by_cases z_BadPlane : c = "BadPlane"
  · subst z_BadPlane
    have e : C = T.C_BadPlane := by
      have : some C = some T.C_BadPlane := h.symm.trans (by rfl)
      exact Option.some.inj this
    subst e
    exact ⟨T.x_BadPlane, T.n_BadPlane "plane" (by decide +kernel)⟩
  · simp [xc_plane, hasF, Ne.symm z_BadPlane] at hc
def xc_promise : List Str := ["NotKept"]
theorem Facts.xfd_promise {X : Cx} {F : Frm} (T : Facts K mg) (hG : F.G = T.G) (hK : X.K = K) : XfdOk X F xc_promise "promise" := fun c C hc h => by
  rw [hG] at h
  rw [hK]
  have h : ([("BadField", T.C_BadField), ("BadLines", T.C_BadLines), ("BadLoop", T.C_BadLoop), ("BadMove", T.C_BadMove), ("BadName", T.C_BadName), ("BadNumber", T.C_BadNumber), ("BadPaper", T.C_BadPaper), ("BadPlane", T.C_BadPlane), ("BadRing", T.C_BadRing), ("BadRow", T.C_BadRow), ("BadTable", T.C_BadTable), ("BadText", T.C_BadText), ("NoName", T.C_NoName), ("NotKept", T.C_NotKept), ("TakenName", T.C_TakenName), ("NothingToRedo", T.C_NothingToRedo), ("NothingToUndo", T.C_NothingToUndo)] : List (Str × Addr)).lookup c = some C := h
  by_cases z_NotKept : c = "NotKept"
  · subst z_NotKept
    have e : C = T.C_NotKept := by
      have : some C = some T.C_NotKept := h.symm.trans (by rfl)
      exact Option.some.inj this
    subst e
    exact ⟨T.x_NotKept, T.n_NotKept "promise" (by decide +kernel)⟩
  · simp [xc_promise, hasF, Ne.symm z_NotKept] at hc
def xc_ring : List Str := ["BadRing"]
theorem Facts.xfd_ring {X : Cx} {F : Frm} (T : Facts K mg) (hG : F.G = T.G) (hK : X.K = K) : XfdOk X F xc_ring "ring" := fun c C hc h => by
  rw [hG] at h
  rw [hK]
  have h : ([("BadField", T.C_BadField), ("BadLines", T.C_BadLines), ("BadLoop", T.C_BadLoop), ("BadMove", T.C_BadMove), ("BadName", T.C_BadName), ("BadNumber", T.C_BadNumber), ("BadPaper", T.C_BadPaper), ("BadPlane", T.C_BadPlane), ("BadRing", T.C_BadRing), ("BadRow", T.C_BadRow), ("BadTable", T.C_BadTable), ("BadText", T.C_BadText), ("NoName", T.C_NoName), ("NotKept", T.C_NotKept), ("TakenName", T.C_TakenName), ("NothingToRedo", T.C_NothingToRedo), ("NothingToUndo", T.C_NothingToUndo)] : List (Str × Addr)).lookup c = some C := h
  by_cases z_BadRing : c = "BadRing"
  · subst z_BadRing
    have e : C = T.C_BadRing := by
      have : some C = some T.C_BadRing := h.symm.trans (by rfl)
      exact Option.some.inj this
    subst e
    exact ⟨T.x_BadRing, T.n_BadRing "ring" (by decide +kernel)⟩
  · simp [xc_ring, hasF, Ne.symm z_BadRing] at hc
def xc_row : List Str := ["BadRow"]
theorem Facts.xfd_row {X : Cx} {F : Frm} (T : Facts K mg) (hG : F.G = T.G) (hK : X.K = K) : XfdOk X F xc_row "row" := fun c C hc h => by
  rw [hG] at h
  rw [hK]
  have h : ([("BadField", T.C_BadField), ("BadLines", T.C_BadLines), ("BadLoop", T.C_BadLoop), ("BadMove", T.C_BadMove), ("BadName", T.C_BadName), ("BadNumber", T.C_BadNumber), ("BadPaper", T.C_BadPaper), ("BadPlane", T.C_BadPlane), ("BadRing", T.C_BadRing), ("BadRow", T.C_BadRow), ("BadTable", T.C_BadTable), ("BadText", T.C_BadText), ("NoName", T.C_NoName), ("NotKept", T.C_NotKept), ("TakenName", T.C_TakenName), ("NothingToRedo", T.C_NothingToRedo), ("NothingToUndo", T.C_NothingToUndo)] : List (Str × Addr)).lookup c = some C := h
  by_cases z_BadRow : c = "BadRow"
  · subst z_BadRow
    have e : C = T.C_BadRow := by
      have : some C = some T.C_BadRow := h.symm.trans (by rfl)
      exact Option.some.inj this
    subst e
    exact ⟨T.x_BadRow, T.n_BadRow "row" (by decide +kernel)⟩
  · simp [xc_row, hasF, Ne.symm z_BadRow] at hc
def xc_table : List Str := ["BadTable"]
theorem Facts.xfd_table {X : Cx} {F : Frm} (T : Facts K mg) (hG : F.G = T.G) (hK : X.K = K) : XfdOk X F xc_table "table" := fun c C hc h => by
  rw [hG] at h
  rw [hK]
  have h : ([("BadField", T.C_BadField), ("BadLines", T.C_BadLines), ("BadLoop", T.C_BadLoop), ("BadMove", T.C_BadMove), ("BadName", T.C_BadName), ("BadNumber", T.C_BadNumber), ("BadPaper", T.C_BadPaper), ("BadPlane", T.C_BadPlane), ("BadRing", T.C_BadRing), ("BadRow", T.C_BadRow), ("BadTable", T.C_BadTable), ("BadText", T.C_BadText), ("NoName", T.C_NoName), ("NotKept", T.C_NotKept), ("TakenName", T.C_TakenName), ("NothingToRedo", T.C_NothingToRedo), ("NothingToUndo", T.C_NothingToUndo)] : List (Str × Addr)).lookup c = some C := h
  by_cases z_BadTable : c = "BadTable"
  · subst z_BadTable
    have e : C = T.C_BadTable := by
      have : some C = some T.C_BadTable := h.symm.trans (by rfl)
      exact Option.some.inj this
    subst e
    exact ⟨T.x_BadTable, T.n_BadTable "table" (by decide +kernel)⟩
  · simp [xc_table, hasF, Ne.symm z_BadTable] at hc
def xc_what : List Str := ["BadNumber"]
theorem Facts.xfd_what {X : Cx} {F : Frm} (T : Facts K mg) (hG : F.G = T.G) (hK : X.K = K) : XfdOk X F xc_what "what" := fun c C hc h => by
  rw [hG] at h
  rw [hK]
  have h : ([("BadField", T.C_BadField), ("BadLines", T.C_BadLines), ("BadLoop", T.C_BadLoop), ("BadMove", T.C_BadMove), ("BadName", T.C_BadName), ("BadNumber", T.C_BadNumber), ("BadPaper", T.C_BadPaper), ("BadPlane", T.C_BadPlane), ("BadRing", T.C_BadRing), ("BadRow", T.C_BadRow), ("BadTable", T.C_BadTable), ("BadText", T.C_BadText), ("NoName", T.C_NoName), ("NotKept", T.C_NotKept), ("TakenName", T.C_TakenName), ("NothingToRedo", T.C_NothingToRedo), ("NothingToUndo", T.C_NothingToUndo)] : List (Str × Addr)).lookup c = some C := h
  by_cases z_BadNumber : c = "BadNumber"
  · subst z_BadNumber
    have e : C = T.C_BadNumber := by
      have : some C = some T.C_BadNumber := h.symm.trans (by rfl)
      exact Option.some.inj this
    subst e
    exact ⟨T.x_BadNumber, T.n_BadNumber "what" (by decide +kernel)⟩
  · simp [xc_what, hasF, Ne.symm z_BadNumber] at hc
def xc_witness : List Str := ["NotKept"]
theorem Facts.xfd_witness {X : Cx} {F : Frm} (T : Facts K mg) (hG : F.G = T.G) (hK : X.K = K) : XfdOk X F xc_witness "witness" := fun c C hc h => by
  rw [hG] at h
  rw [hK]
  have h : ([("BadField", T.C_BadField), ("BadLines", T.C_BadLines), ("BadLoop", T.C_BadLoop), ("BadMove", T.C_BadMove), ("BadName", T.C_BadName), ("BadNumber", T.C_BadNumber), ("BadPaper", T.C_BadPaper), ("BadPlane", T.C_BadPlane), ("BadRing", T.C_BadRing), ("BadRow", T.C_BadRow), ("BadTable", T.C_BadTable), ("BadText", T.C_BadText), ("NoName", T.C_NoName), ("NotKept", T.C_NotKept), ("TakenName", T.C_TakenName), ("NothingToRedo", T.C_NothingToRedo), ("NothingToUndo", T.C_NothingToUndo)] : List (Str × Addr)).lookup c = some C := h
  by_cases z_NotKept : c = "NotKept"
  · subst z_NotKept
    have e : C = T.C_NotKept := by
      have : some C = some T.C_NotKept := h.symm.trans (by rfl)
      exact Option.some.inj this
    subst e
    exact ⟨T.x_NotKept, T.n_NotKept "witness" (by decide +kernel)⟩
  · simp [xc_witness, hasF, Ne.symm z_NotKept] at hc
def Xs : List Str := ["BadField", "BadLines", "BadLoop", "BadMove", "BadName", "BadNumber", "BadPaper", "BadPlane", "BadRing", "BadRow", "BadTable", "BadText", "NoName", "NotKept", "TakenName"]
def subX (c y : Str) : Option Bool := if hasF Xs c = true then (if hasF Xs y = true then some (decide (c = y)) else none) else none
theorem sc_BadText___init__ : FnScope ["self", "line", "column"] ["self", "line", "column"] (defScope (inClass (top 2) 0)) := ⟨rfl, rfl, rfl, by decide +kernel, rfl, by decide +kernel, by decide +kernel⟩
theorem b_BadText {f : Addr} {d : FuncData} (h : FunD K "__init__" "BadText.__init__" (defArgs (inClass (top 2) 0)) (defBody (inClass (top 2) 0)) (defScope (inClass (top 2) 0)) [] [] f d) : Binds K d ["self", "line", "column"] [] := h.bindsN fun _ _ _ _ _ _ us hl => match us, hl with | [_, _, _], _ => rfl
theorem O_BadText (T : Facts K mg) : FnOk P w K mg base (L2.CX P w) 1 T.f_BadText___init__ T.d_BadText___init__ ["self", "line", "column"] (spI K T.C_BadText ["line", "column"]) :=
  fn_init2 (k := 0) T.D_BadText___init__ sc_BadText___init__ fun cdv A outer s H E hr => pss_cons (ps_ost (pe_var (i := 0) rfl (by first | exact .inl rfl | exact .inr (.inl rfl) | exact .inr (.inr rfl))) (pe_var (i := 1) rfl (by first | exact .inl rfl | exact .inr (.inl rfl) | exact .inr (.inr rfl)))) (pss_one (ps_ost (pe_var (i := 0) rfl (by first | exact .inl rfl | exact .inr (.inl rfl) | exact .inr (.inr rfl))) (pe_var (i := 2) rfl (by first | exact .inl rfl | exact .inr (.inl rfl) | exact .inr (.inr rfl)))))
theorem sc_BadPaper___init__ : FnScope ["self", "paper"] ["self", "paper"] (defScope (inClass (top 15) 0)) := ⟨rfl, rfl, rfl, by decide +kernel, rfl, by decide +kernel, by decide +kernel⟩
theorem b_BadPaper {f : Addr} {d : FuncData} (h : FunD K "__init__" "BadPaper.__init__" (defArgs (inClass (top 15) 0)) (defBody (inClass (top 15) 0)) (defScope (inClass (top 15) 0)) [] [] f d) : Binds K d ["self", "paper"] [] := h.bindsN fun _ _ _ _ _ _ us hl => match us, hl with | [_, _], _ => rfl
theorem O_BadPaper (T : Facts K mg) : FnOk P w K mg base (L2.CX P w) 1 T.f_BadPaper___init__ T.d_BadPaper___init__ ["self", "paper"] (spI K T.C_BadPaper ["paper"]) :=
  fn_init1 (k := 0) T.D_BadPaper___init__ sc_BadPaper___init__ fun cdv A outer s H E hr => pss_one (ps_ost (pe_var (i := 0) rfl (by first | exact .inl rfl | exact .inr (.inl rfl) | exact .inr (.inr rfl))) (pe_var (i := 1) rfl (by first | exact .inl rfl | exact .inr (.inl rfl) | exact .inr (.inr rfl))))
theorem sc_BadNumber___init__ : FnScope ["self", "what", "number"] ["self", "what", "number"] (defScope (inClass (top 3) 0)) := ⟨rfl, rfl, rfl, by decide +kernel, rfl, by decide +kernel, by decide +kernel⟩
theorem b_BadNumber {f : Addr} {d : FuncData} (h : FunD K "__init__" "BadNumber.__init__" (defArgs (inClass (top 3) 0)) (defBody (inClass (top 3) 0)) (defScope (inClass (top 3) 0)) [] [] f d) : Binds K d ["self", "what", "number"] [] := h.bindsN fun _ _ _ _ _ _ us hl => match us, hl with | [_, _, _], _ => rfl
theorem O_BadNumber (T : Facts K mg) : FnOk P w K mg base (L2.CX P w) 1 T.f_BadNumber___init__ T.d_BadNumber___init__ ["self", "what", "number"] (spI K T.C_BadNumber ["what", "number"]) :=
  fn_init2 (k := 0) T.D_BadNumber___init__ sc_BadNumber___init__ fun cdv A outer s H E hr => pss_cons (ps_ost (pe_var (i := 0) rfl (by first | exact .inl rfl | exact .inr (.inl rfl) | exact .inr (.inr rfl))) (pe_var (i := 1) rfl (by first | exact .inl rfl | exact .inr (.inl rfl) | exact .inr (.inr rfl)))) (pss_one (ps_ost (pe_var (i := 0) rfl (by first | exact .inl rfl | exact .inr (.inl rfl) | exact .inr (.inr rfl))) (pe_var (i := 2) rfl (by first | exact .inl rfl | exact .inr (.inl rfl) | exact .inr (.inr rfl)))))
theorem sc_NotKept___init__ : FnScope ["self", "promise", "witness"] ["self", "promise", "witness"] (defScope (inClass (top 16) 0)) := ⟨rfl, rfl, rfl, by decide +kernel, rfl, by decide +kernel, by decide +kernel⟩
theorem b_NotKept {f : Addr} {d : FuncData} (h : FunD K "__init__" "NotKept.__init__" (defArgs (inClass (top 16) 0)) (defBody (inClass (top 16) 0)) (defScope (inClass (top 16) 0)) [] [] f d) : Binds K d ["self", "promise", "witness"] [] := h.bindsN fun _ _ _ _ _ _ us hl => match us, hl with | [_, _, _], _ => rfl
theorem O_NotKept (T : Facts K mg) : FnOk P w K mg base (L2.CX P w) 1 T.f_NotKept___init__ T.d_NotKept___init__ ["self", "promise", "witness"] (spI K T.C_NotKept ["promise", "witness"]) :=
  fn_init2 (k := 0) T.D_NotKept___init__ sc_NotKept___init__ fun cdv A outer s H E hr => pss_cons (ps_ost (pe_var (i := 0) rfl (by first | exact .inl rfl | exact .inr (.inl rfl) | exact .inr (.inr rfl))) (pe_var (i := 1) rfl (by first | exact .inl rfl | exact .inr (.inl rfl) | exact .inr (.inr rfl)))) (pss_one (ps_ost (pe_var (i := 0) rfl (by first | exact .inl rfl | exact .inr (.inl rfl) | exact .inr (.inr rfl))) (pe_var (i := 2) rfl (by first | exact .inl rfl | exact .inr (.inl rfl) | exact .inr (.inr rfl)))))
theorem sc_BadPlane___init__ : FnScope ["self", "plane"] ["self", "plane"] (defScope (inClass (top 8) 0)) := ⟨rfl, rfl, rfl, by decide +kernel, rfl, by decide +kernel, by decide +kernel⟩
theorem b_BadPlane {f : Addr} {d : FuncData} (h : FunD K "__init__" "BadPlane.__init__" (defArgs (inClass (top 8) 0)) (defBody (inClass (top 8) 0)) (defScope (inClass (top 8) 0)) [] [] f d) : Binds K d ["self", "plane"] [] := h.bindsN fun _ _ _ _ _ _ us hl => match us, hl with | [_, _], _ => rfl
theorem O_BadPlane (T : Facts K mg) : FnOk P w K mg base (L2.CX P w) 1 T.f_BadPlane___init__ T.d_BadPlane___init__ ["self", "plane"] (spI K T.C_BadPlane ["plane"]) :=
  fn_init1 (k := 0) T.D_BadPlane___init__ sc_BadPlane___init__ fun cdv A outer s H E hr => pss_one (ps_ost (pe_var (i := 0) rfl (by first | exact .inl rfl | exact .inr (.inl rfl) | exact .inr (.inr rfl))) (pe_var (i := 1) rfl (by first | exact .inl rfl | exact .inr (.inl rfl) | exact .inr (.inr rfl))))
theorem sc_BadRing___init__ : FnScope ["self", "ring"] ["self", "ring"] (defScope (inClass (top 12) 0)) := ⟨rfl, rfl, rfl, by decide +kernel, rfl, by decide +kernel, by decide +kernel⟩
theorem b_BadRing {f : Addr} {d : FuncData} (h : FunD K "__init__" "BadRing.__init__" (defArgs (inClass (top 12) 0)) (defBody (inClass (top 12) 0)) (defScope (inClass (top 12) 0)) [] [] f d) : Binds K d ["self", "ring"] [] := h.bindsN fun _ _ _ _ _ _ us hl => match us, hl with | [_, _], _ => rfl
theorem O_BadRing (T : Facts K mg) : FnOk P w K mg base (L2.CX P w) 1 T.f_BadRing___init__ T.d_BadRing___init__ ["self", "ring"] (spI K T.C_BadRing ["ring"]) :=
  fn_init1 (k := 0) T.D_BadRing___init__ sc_BadRing___init__ fun cdv A outer s H E hr => pss_one (ps_ost (pe_var (i := 0) rfl (by first | exact .inl rfl | exact .inr (.inl rfl) | exact .inr (.inr rfl))) (pe_var (i := 1) rfl (by first | exact .inl rfl | exact .inr (.inl rfl) | exact .inr (.inr rfl))))
theorem sc_BadRow___init__ : FnScope ["self", "row"] ["self", "row"] (defScope (inClass (top 13) 0)) := ⟨rfl, rfl, rfl, by decide +kernel, rfl, by decide +kernel, by decide +kernel⟩
theorem b_BadRow {f : Addr} {d : FuncData} (h : FunD K "__init__" "BadRow.__init__" (defArgs (inClass (top 13) 0)) (defBody (inClass (top 13) 0)) (defScope (inClass (top 13) 0)) [] [] f d) : Binds K d ["self", "row"] [] := h.bindsN fun _ _ _ _ _ _ us hl => match us, hl with | [_, _], _ => rfl
theorem O_BadRow (T : Facts K mg) : FnOk P w K mg base (L2.CX P w) 1 T.f_BadRow___init__ T.d_BadRow___init__ ["self", "row"] (spI K T.C_BadRow ["row"]) :=
  fn_init1 (k := 0) T.D_BadRow___init__ sc_BadRow___init__ fun cdv A outer s H E hr => pss_one (ps_ost (pe_var (i := 0) rfl (by first | exact .inl rfl | exact .inr (.inl rfl) | exact .inr (.inr rfl))) (pe_var (i := 1) rfl (by first | exact .inl rfl | exact .inr (.inl rfl) | exact .inr (.inr rfl))))
theorem sc_BadName___init__ : FnScope ["self", "name"] ["self", "name"] (defScope (inClass (top 4) 0)) := ⟨rfl, rfl, rfl, by decide +kernel, rfl, by decide +kernel, by decide +kernel⟩
theorem b_BadName {f : Addr} {d : FuncData} (h : FunD K "__init__" "BadName.__init__" (defArgs (inClass (top 4) 0)) (defBody (inClass (top 4) 0)) (defScope (inClass (top 4) 0)) [] [] f d) : Binds K d ["self", "name"] [] := h.bindsN fun _ _ _ _ _ _ us hl => match us, hl with | [_, _], _ => rfl
theorem O_BadName (T : Facts K mg) : FnOk P w K mg base (L2.CX P w) 1 T.f_BadName___init__ T.d_BadName___init__ ["self", "name"] (spI K T.C_BadName ["name"]) :=
  fn_init1 (k := 0) T.D_BadName___init__ sc_BadName___init__ fun cdv A outer s H E hr => pss_one (ps_ost (pe_var (i := 0) rfl (by first | exact .inl rfl | exact .inr (.inl rfl) | exact .inr (.inr rfl))) (pe_var (i := 1) rfl (by first | exact .inl rfl | exact .inr (.inl rfl) | exact .inr (.inr rfl))))
theorem sc_BadMove___init__ : FnScope ["self", "led"] ["self", "led"] (defScope (inClass (top 14) 0)) := ⟨rfl, rfl, rfl, by decide +kernel, rfl, by decide +kernel, by decide +kernel⟩
theorem b_BadMove {f : Addr} {d : FuncData} (h : FunD K "__init__" "BadMove.__init__" (defArgs (inClass (top 14) 0)) (defBody (inClass (top 14) 0)) (defScope (inClass (top 14) 0)) [] [] f d) : Binds K d ["self", "led"] [] := h.bindsN fun _ _ _ _ _ _ us hl => match us, hl with | [_, _], _ => rfl
theorem O_BadMove (T : Facts K mg) : FnOk P w K mg base (L2.CX P w) 1 T.f_BadMove___init__ T.d_BadMove___init__ ["self", "led"] (spI K T.C_BadMove ["led"]) :=
  fn_init1 (k := 0) T.D_BadMove___init__ sc_BadMove___init__ fun cdv A outer s H E hr => pss_one (ps_ost (pe_var (i := 0) rfl (by first | exact .inl rfl | exact .inr (.inl rfl) | exact .inr (.inr rfl))) (pe_var (i := 1) rfl (by first | exact .inl rfl | exact .inr (.inl rfl) | exact .inr (.inr rfl))))
theorem sc_NoName___init__ : FnScope ["self", "name"] ["self", "name"] (defScope (inClass (top 5) 0)) := ⟨rfl, rfl, rfl, by decide +kernel, rfl, by decide +kernel, by decide +kernel⟩
theorem b_NoName {f : Addr} {d : FuncData} (h : FunD K "__init__" "NoName.__init__" (defArgs (inClass (top 5) 0)) (defBody (inClass (top 5) 0)) (defScope (inClass (top 5) 0)) [] [] f d) : Binds K d ["self", "name"] [] := h.bindsN fun _ _ _ _ _ _ us hl => match us, hl with | [_, _], _ => rfl
theorem O_NoName (T : Facts K mg) : FnOk P w K mg base (L2.CX P w) 1 T.f_NoName___init__ T.d_NoName___init__ ["self", "name"] (spI K T.C_NoName ["name"]) :=
  fn_init1 (k := 0) T.D_NoName___init__ sc_NoName___init__ fun cdv A outer s H E hr => pss_one (ps_ost (pe_var (i := 0) rfl (by first | exact .inl rfl | exact .inr (.inl rfl) | exact .inr (.inr rfl))) (pe_var (i := 1) rfl (by first | exact .inl rfl | exact .inr (.inl rfl) | exact .inr (.inr rfl))))
theorem sc_BadLines___init__ : FnScope ["self", "lines"] ["self", "lines"] (defScope (inClass (top 7) 0)) := ⟨rfl, rfl, rfl, by decide +kernel, rfl, by decide +kernel, by decide +kernel⟩
theorem b_BadLines {f : Addr} {d : FuncData} (h : FunD K "__init__" "BadLines.__init__" (defArgs (inClass (top 7) 0)) (defBody (inClass (top 7) 0)) (defScope (inClass (top 7) 0)) [] [] f d) : Binds K d ["self", "lines"] [] := h.bindsN fun _ _ _ _ _ _ us hl => match us, hl with | [_, _], _ => rfl
theorem O_BadLines (T : Facts K mg) : FnOk P w K mg base (L2.CX P w) 1 T.f_BadLines___init__ T.d_BadLines___init__ ["self", "lines"] (spI K T.C_BadLines ["lines"]) :=
  fn_init1 (k := 0) T.D_BadLines___init__ sc_BadLines___init__ fun cdv A outer s H E hr => pss_one (ps_ost (pe_var (i := 0) rfl (by first | exact .inl rfl | exact .inr (.inl rfl) | exact .inr (.inr rfl))) (pe_var (i := 1) rfl (by first | exact .inl rfl | exact .inr (.inl rfl) | exact .inr (.inr rfl))))
theorem sc_BadField___init__ : FnScope ["self", "field"] ["self", "field"] (defScope (inClass (top 11) 0)) := ⟨rfl, rfl, rfl, by decide +kernel, rfl, by decide +kernel, by decide +kernel⟩
theorem b_BadField {f : Addr} {d : FuncData} (h : FunD K "__init__" "BadField.__init__" (defArgs (inClass (top 11) 0)) (defBody (inClass (top 11) 0)) (defScope (inClass (top 11) 0)) [] [] f d) : Binds K d ["self", "field"] [] := h.bindsN fun _ _ _ _ _ _ us hl => match us, hl with | [_, _], _ => rfl
theorem O_BadField (T : Facts K mg) : FnOk P w K mg base (L2.CX P w) 1 T.f_BadField___init__ T.d_BadField___init__ ["self", "field"] (spI K T.C_BadField ["field"]) :=
  fn_init1 (k := 0) T.D_BadField___init__ sc_BadField___init__ fun cdv A outer s H E hr => pss_one (ps_ost (pe_var (i := 0) rfl (by first | exact .inl rfl | exact .inr (.inl rfl) | exact .inr (.inr rfl))) (pe_var (i := 1) rfl (by first | exact .inl rfl | exact .inr (.inl rfl) | exact .inr (.inr rfl))))
theorem sc_BadTable___init__ : FnScope ["self", "table"] ["self", "table"] (defScope (inClass (top 9) 0)) := ⟨rfl, rfl, rfl, by decide +kernel, rfl, by decide +kernel, by decide +kernel⟩
theorem b_BadTable {f : Addr} {d : FuncData} (h : FunD K "__init__" "BadTable.__init__" (defArgs (inClass (top 9) 0)) (defBody (inClass (top 9) 0)) (defScope (inClass (top 9) 0)) [] [] f d) : Binds K d ["self", "table"] [] := h.bindsN fun _ _ _ _ _ _ us hl => match us, hl with | [_, _], _ => rfl
theorem O_BadTable (T : Facts K mg) : FnOk P w K mg base (L2.CX P w) 1 T.f_BadTable___init__ T.d_BadTable___init__ ["self", "table"] (spI K T.C_BadTable ["table"]) :=
  fn_init1 (k := 0) T.D_BadTable___init__ sc_BadTable___init__ fun cdv A outer s H E hr => pss_one (ps_ost (pe_var (i := 0) rfl (by first | exact .inl rfl | exact .inr (.inl rfl) | exact .inr (.inr rfl))) (pe_var (i := 1) rfl (by first | exact .inl rfl | exact .inr (.inl rfl) | exact .inr (.inr rfl))))
theorem sc_BadLoop___init__ : FnScope ["self", "loop"] ["self", "loop"] (defScope (inClass (top 10) 0)) := ⟨rfl, rfl, rfl, by decide +kernel, rfl, by decide +kernel, by decide +kernel⟩
theorem b_BadLoop {f : Addr} {d : FuncData} (h : FunD K "__init__" "BadLoop.__init__" (defArgs (inClass (top 10) 0)) (defBody (inClass (top 10) 0)) (defScope (inClass (top 10) 0)) [] [] f d) : Binds K d ["self", "loop"] [] := h.bindsN fun _ _ _ _ _ _ us hl => match us, hl with | [_, _], _ => rfl
theorem O_BadLoop (T : Facts K mg) : FnOk P w K mg base (L2.CX P w) 1 T.f_BadLoop___init__ T.d_BadLoop___init__ ["self", "loop"] (spI K T.C_BadLoop ["loop"]) :=
  fn_init1 (k := 0) T.D_BadLoop___init__ sc_BadLoop___init__ fun cdv A outer s H E hr => pss_one (ps_ost (pe_var (i := 0) rfl (by first | exact .inl rfl | exact .inr (.inl rfl) | exact .inr (.inr rfl))) (pe_var (i := 1) rfl (by first | exact .inl rfl | exact .inr (.inl rfl) | exact .inr (.inr rfl))))
theorem sc_TakenName___init__ : FnScope ["self", "name"] ["self", "name"] (defScope (inClass (top 6) 0)) := ⟨rfl, rfl, rfl, by decide +kernel, rfl, by decide +kernel, by decide +kernel⟩
theorem b_TakenName {f : Addr} {d : FuncData} (h : FunD K "__init__" "TakenName.__init__" (defArgs (inClass (top 6) 0)) (defBody (inClass (top 6) 0)) (defScope (inClass (top 6) 0)) [] [] f d) : Binds K d ["self", "name"] [] := h.bindsN fun _ _ _ _ _ _ us hl => match us, hl with | [_, _], _ => rfl
theorem O_TakenName (T : Facts K mg) : FnOk P w K mg base (L2.CX P w) 1 T.f_TakenName___init__ T.d_TakenName___init__ ["self", "name"] (spI K T.C_TakenName ["name"]) :=
  fn_init1 (k := 0) T.D_TakenName___init__ sc_TakenName___init__ fun cdv A outer s H E hr => pss_one (ps_ost (pe_var (i := 0) rfl (by first | exact .inl rfl | exact .inr (.inl rfl) | exact .inr (.inr rfl))) (pe_var (i := 1) rfl (by first | exact .inl rfl | exact .inr (.inl rfl) | exact .inr (.inr rfl))))
/-! _law_other -/
noncomputable def s__law_other : Sm := (Sm.seq (sIf (dBool (dOp2 gEq (dName 0) (dVal (.int 11)))) (Sm.seq (sSet 3 (dExn "BadPaper" ["paper"] (dCons (dFix (dTake 1)) dNil))) (sRet (dTup (dCons (dFix (dTake 3)) (dCons (dFix (dTup (dCons (dFix (dOp1 (gXf xc_paper "paper") (dName 3))) dNil))) dNil))))) sNext) (Sm.seq (sIf (dBool (dOp2 gEq (dName 0) (dVal (.int 12)))) (Sm.seq (sSet 3 (dExn "BadText" ["line", "column"] (dCons (dFix (dTake 1)) (dCons (dFix (dTake 2)) dNil)))) (sRet (dTup (dCons (dFix (dTake 3)) (dCons (dFix (dTup (dCons (dFix (dOp1 (gXf xc_line "line") (dName 3))) (dCons (dFix (dOp1 (gXf xc_column "column") (dName 3))) dNil)))) dNil))))) sNext) (Sm.seq (sIf (dBool (dOp2 gEq (dName 0) (dVal (.int 13)))) (Sm.seq (sSet 3 (dExn "BadNumber" ["what", "number"] (dCons (dFix (dTake 1)) (dCons (dFix (dTake 2)) dNil)))) (sRet (dTup (dCons (dFix (dTake 3)) (dCons (dFix (dTup (dCons (dFix (dOp1 (gXf xc_what "what") (dName 3))) (dCons (dFix (dOp1 (gXf xc_number "number") (dName 3))) dNil)))) dNil))))) sNext) (Sm.seq (sIf (dBool (dOp2 gEq (dName 0) (dVal (.int 14)))) (Sm.seq (sSet 3 (dExn "NotKept" ["promise", "witness"] (dCons (dFix (dTake 1)) (dCons (dFix (dTake 2)) dNil)))) (sRet (dTup (dCons (dFix (dTake 3)) (dCons (dFix (dTup (dCons (dFix (dOp1 (gXf xc_promise "promise") (dName 3))) (dCons (dFix (dOp1 (gXf xc_witness "witness") (dName 3))) dNil)))) dNil))))) sNext) (sRet (dTup (dCons (dFix (dIf (dBool (dOp2 gEq (dName 0) (dVal (.int 15)))) (dExn0 "NothingToUndo") (dExn0 "NothingToRedo"))) (dCons (dFix (dTup dNil)) dNil))))))))
noncomputable def F__law_other : List D → Rs := fnP 4 s__law_other
theorem sc__law_other : FnScope ["kind", "a", "b", "e"] ["kind", "a", "b"] (defScope (top 24)) := ⟨rfl, rfl, rfl, by decide +kernel, rfl, by decide +kernel, by decide +kernel⟩
theorem b__law_other {f : Addr} {d : FuncData} (h : FunD K "_law_other" "_law_other" (defArgs (top 24)) (defBody (top 24)) (defScope (top 24)) [] [] f d) : Binds K d ["kind", "a", "b"] [] := h.bindsN fun _ _ _ _ _ _ us hl => match us, hl with | [_, _, _], _ => rfl
theorem O__law_other (T : Facts K mg) : FnOk P w K mg base (L2.CX P w) 3 T.f__law_other T.d__law_other ["kind", "a", "b"] (spP T.G 3 F__law_other) :=
  fn_pure 3 T.D__law_other sc__law_other rfl (by decide) fun cdv A outer s H B0 Hs E hr =>
  (ss_cons (s_if (dt_cmp (op_eqD (u64 hr)) (op2_eq rfl) (do_name (pe_var (i := 0) rfl (by first | exact .inl rfl | exact .inr (.inl rfl) | exact .inr (.inr rfl)))) (do_c pe_int (fun _ => rfl)) (nomark _)) (ss_cons (s_set (i := 3) sc__law_other.nd rfl (by first | exact .inl rfl | exact .inr rfl) (de_exn (c := "BadPaper") (C := T.C_BadPaper) rfl T.X_BadPaper T.i_BadPaper T.t_BadPaper T.n_BadPaper (by decide) (O_BadPaper T) (hr.mono (by decide)) (b_BadPaper T.D_BadPaper___init__) passes0 (by rfl) T.g_BadPaper (da_cons (do_of (de_take (pe_var (i := 1) rfl (by first | exact .inl rfl | exact .inr (.inl rfl) | exact .inr (.inr rfl))))) da_nil))) (ss_one (s_ret (de_tup (da_cons (do_of (de_take (pe_var (i := 3) rfl (by first | exact .inl rfl | exact .inr (.inl rfl) | exact .inr (.inr rfl))))) (da_cons (do_of (de_tup (da_cons (do_of (de_xf (T.xfd_paper rfl rfl) (do_name (pe_var (i := 3) rfl (by first | exact .inl rfl | exact .inr (.inl rfl) | exact .inr (.inr rfl)))))) da_nil))) da_nil)))))) ss_nil) (ss_cons (s_if (dt_cmp (op_eqD (u64 hr)) (op2_eq rfl) (do_name (pe_var (i := 0) rfl (by first | exact .inl rfl | exact .inr (.inl rfl) | exact .inr (.inr rfl)))) (do_c pe_int (fun _ => rfl)) (nomark _)) (ss_cons (s_set (i := 3) sc__law_other.nd rfl (by first | exact .inl rfl | exact .inr rfl) (de_exn (c := "BadText") (C := T.C_BadText) rfl T.X_BadText T.i_BadText T.t_BadText T.n_BadText (by decide) (O_BadText T) (hr.mono (by decide)) (b_BadText T.D_BadText___init__) passes0 (by rfl) T.g_BadText (da_cons (do_of (de_take (pe_var (i := 1) rfl (by first | exact .inl rfl | exact .inr (.inl rfl) | exact .inr (.inr rfl))))) (da_cons (do_of (de_take (pe_var (i := 2) rfl (by first | exact .inl rfl | exact .inr (.inl rfl) | exact .inr (.inr rfl))))) da_nil)))) (ss_one (s_ret (de_tup (da_cons (do_of (de_take (pe_var (i := 3) rfl (by first | exact .inl rfl | exact .inr (.inl rfl) | exact .inr (.inr rfl))))) (da_cons (do_of (de_tup (da_cons (do_of (de_xf (T.xfd_line rfl rfl) (do_name (pe_var (i := 3) rfl (by first | exact .inl rfl | exact .inr (.inl rfl) | exact .inr (.inr rfl)))))) (da_cons (do_of (de_xf (T.xfd_column rfl rfl) (do_name (pe_var (i := 3) rfl (by first | exact .inl rfl | exact .inr (.inl rfl) | exact .inr (.inr rfl)))))) da_nil)))) da_nil)))))) ss_nil) (ss_cons (s_if (dt_cmp (op_eqD (u64 hr)) (op2_eq rfl) (do_name (pe_var (i := 0) rfl (by first | exact .inl rfl | exact .inr (.inl rfl) | exact .inr (.inr rfl)))) (do_c pe_int (fun _ => rfl)) (nomark _)) (ss_cons (s_set (i := 3) sc__law_other.nd rfl (by first | exact .inl rfl | exact .inr rfl) (de_exn (c := "BadNumber") (C := T.C_BadNumber) rfl T.X_BadNumber T.i_BadNumber T.t_BadNumber T.n_BadNumber (by decide) (O_BadNumber T) (hr.mono (by decide)) (b_BadNumber T.D_BadNumber___init__) passes0 (by rfl) T.g_BadNumber (da_cons (do_of (de_take (pe_var (i := 1) rfl (by first | exact .inl rfl | exact .inr (.inl rfl) | exact .inr (.inr rfl))))) (da_cons (do_of (de_take (pe_var (i := 2) rfl (by first | exact .inl rfl | exact .inr (.inl rfl) | exact .inr (.inr rfl))))) da_nil)))) (ss_one (s_ret (de_tup (da_cons (do_of (de_take (pe_var (i := 3) rfl (by first | exact .inl rfl | exact .inr (.inl rfl) | exact .inr (.inr rfl))))) (da_cons (do_of (de_tup (da_cons (do_of (de_xf (T.xfd_what rfl rfl) (do_name (pe_var (i := 3) rfl (by first | exact .inl rfl | exact .inr (.inl rfl) | exact .inr (.inr rfl)))))) (da_cons (do_of (de_xf (T.xfd_number rfl rfl) (do_name (pe_var (i := 3) rfl (by first | exact .inl rfl | exact .inr (.inl rfl) | exact .inr (.inr rfl)))))) da_nil)))) da_nil)))))) ss_nil) (ss_cons (s_if (dt_cmp (op_eqD (u64 hr)) (op2_eq rfl) (do_name (pe_var (i := 0) rfl (by first | exact .inl rfl | exact .inr (.inl rfl) | exact .inr (.inr rfl)))) (do_c pe_int (fun _ => rfl)) (nomark _)) (ss_cons (s_set (i := 3) sc__law_other.nd rfl (by first | exact .inl rfl | exact .inr rfl) (de_exn (c := "NotKept") (C := T.C_NotKept) rfl T.X_NotKept T.i_NotKept T.t_NotKept T.n_NotKept (by decide) (O_NotKept T) (hr.mono (by decide)) (b_NotKept T.D_NotKept___init__) passes0 (by rfl) T.g_NotKept (da_cons (do_of (de_take (pe_var (i := 1) rfl (by first | exact .inl rfl | exact .inr (.inl rfl) | exact .inr (.inr rfl))))) (da_cons (do_of (de_take (pe_var (i := 2) rfl (by first | exact .inl rfl | exact .inr (.inl rfl) | exact .inr (.inr rfl))))) da_nil)))) (ss_one (s_ret (de_tup (da_cons (do_of (de_take (pe_var (i := 3) rfl (by first | exact .inl rfl | exact .inr (.inl rfl) | exact .inr (.inr rfl))))) (da_cons (do_of (de_tup (da_cons (do_of (de_xf (T.xfd_promise rfl rfl) (do_name (pe_var (i := 3) rfl (by first | exact .inl rfl | exact .inr (.inl rfl) | exact .inr (.inr rfl)))))) (da_cons (do_of (de_xf (T.xfd_witness rfl rfl) (do_name (pe_var (i := 3) rfl (by first | exact .inl rfl | exact .inr (.inl rfl) | exact .inr (.inr rfl)))))) da_nil)))) da_nil)))))) ss_nil) (ss_one (s_ret (de_tup (da_cons (do_of (de_if (dt_cmp (op_eqD (u64 hr)) (op2_eq rfl) (do_name (pe_var (i := 0) rfl (by first | exact .inl rfl | exact .inr (.inl rfl) | exact .inr (.inr rfl)))) (do_c pe_int (fun _ => rfl)) (nomark _)) (de_exn0 (C := T.C_NothingToUndo) PySem.F.excBase_ValueError T.q_NothingToUndo rfl T.g_NothingToUndo T.kp_NothingToUndo (by rfl)) (de_exn0 (C := T.C_NothingToRedo) F.excBase_ValueError T.q_NothingToRedo rfl T.g_NothingToRedo T.kp_NothingToRedo (by rfl)))) (da_cons (do_of (de_tup da_nil)) da_nil)))))))))
/-! _law_one -/
noncomputable def s__law_one : Sm := (Sm.seq (sIf (dBool (dOp2 gLt (dName 0) (dVal (.int 3)))) (Sm.seq (sSet 3 (dOp2 gIx (dFix (dLst (dCons (dFix (dExn "BadName" ["name"] (dCons (dFix (dTake 1)) dNil))) (dCons (dFix (dExn "NoName" ["name"] (dCons (dFix (dTake 1)) dNil))) (dCons (dFix (dExn "TakenName" ["name"] (dCons (dFix (dTake 1)) dNil))) dNil))))) (dName 0))) (sRet (dTup (dCons (dFix (dTake 3)) (dCons (dFix (dTup (dCons (dFix (dOp1 (gXf xc_name "name") (dName 3))) dNil))) dNil))))) sNext) (Sm.seq (sIf (dBool (dOp2 gEq (dName 0) (dVal (.int 3)))) (Sm.seq (sSet 3 (dExn "BadLines" ["lines"] (dCons (dFix (dTake 1)) dNil))) (sRet (dTup (dCons (dFix (dTake 3)) (dCons (dFix (dTup (dCons (dFix (dOp1 (gXf xc_lines "lines") (dName 3))) dNil))) dNil))))) sNext) (Sm.seq (sIf (dBool (dOp2 gEq (dName 0) (dVal (.int 4)))) (Sm.seq (sSet 3 (dExn "BadPlane" ["plane"] (dCons (dFix (dTake 1)) dNil))) (sRet (dTup (dCons (dFix (dTake 3)) (dCons (dFix (dTup (dCons (dFix (dOp1 (gXf xc_plane "plane") (dName 3))) dNil))) dNil))))) sNext) (Sm.seq (sIf (dBool (dOp2 gEq (dName 0) (dVal (.int 5)))) (Sm.seq (sSet 3 (dExn "BadTable" ["table"] (dCons (dFix (dTake 1)) dNil))) (sRet (dTup (dCons (dFix (dTake 3)) (dCons (dFix (dTup (dCons (dFix (dOp1 (gXf xc_table "table") (dName 3))) dNil))) dNil))))) sNext) (Sm.seq (sIf (dBool (dOp2 gEq (dName 0) (dVal (.int 6)))) (Sm.seq (sSet 3 (dExn "BadLoop" ["loop"] (dCons (dFix (dTake 1)) dNil))) (sRet (dTup (dCons (dFix (dTake 3)) (dCons (dFix (dTup (dCons (dFix (dOp1 (gXf xc_loop "loop") (dName 3))) dNil))) dNil))))) sNext) (Sm.seq (sIf (dBool (dOp2 gEq (dName 0) (dVal (.int 7)))) (Sm.seq (sSet 3 (dExn "BadField" ["field"] (dCons (dFix (dTake 1)) dNil))) (sRet (dTup (dCons (dFix (dTake 3)) (dCons (dFix (dTup (dCons (dFix (dOp1 (gXf xc_field "field") (dName 3))) dNil))) dNil))))) sNext) (Sm.seq (sIf (dBool (dOp2 gEq (dName 0) (dVal (.int 8)))) (Sm.seq (sSet 3 (dExn "BadRing" ["ring"] (dCons (dFix (dTake 1)) dNil))) (sRet (dTup (dCons (dFix (dTake 3)) (dCons (dFix (dTup (dCons (dFix (dOp1 (gXf xc_ring "ring") (dName 3))) dNil))) dNil))))) sNext) (Sm.seq (sIf (dBool (dOp2 gEq (dName 0) (dVal (.int 9)))) (Sm.seq (sSet 3 (dExn "BadRow" ["row"] (dCons (dFix (dTake 1)) dNil))) (sRet (dTup (dCons (dFix (dTake 3)) (dCons (dFix (dTup (dCons (dFix (dOp1 (gXf xc_row "row") (dName 3))) dNil))) dNil))))) sNext) (Sm.seq (sIf (dBool (dOp2 gEq (dName 0) (dVal (.int 10)))) (Sm.seq (sSet 3 (dExn "BadMove" ["led"] (dCons (dFix (dTake 1)) dNil))) (sRet (dTup (dCons (dFix (dTake 3)) (dCons (dFix (dTup (dCons (dFix (dOp1 (gXf xc_led "led") (dName 3))) dNil))) dNil))))) sNext) (sRet (dCall 3 F__law_other (dCons (dFix (dTake 0)) (dCons (dFix (dTake 1)) (dCons (dFix (dTake 2)) dNil))))))))))))))
noncomputable def F__law_one : List D → Rs := fnP 4 s__law_one
theorem sc__law_one : FnScope ["kind", "a", "b", "e"] ["kind", "a", "b"] (defScope (top 23)) := ⟨rfl, rfl, rfl, by decide +kernel, rfl, by decide +kernel, by decide +kernel⟩
theorem b__law_one {f : Addr} {d : FuncData} (h : FunD K "_law_one" "_law_one" (defArgs (top 23)) (defBody (top 23)) (defScope (top 23)) [] [] f d) : Binds K d ["kind", "a", "b"] [] := h.bindsN fun _ _ _ _ _ _ us hl => match us, hl with | [_, _, _], _ => rfl
theorem O__law_one (T : Facts K mg) : FnOk P w K mg base (L2.CX P w) 4 T.f__law_one T.d__law_one ["kind", "a", "b"] (spP T.G 3 F__law_one) :=
  fn_pure 3 T.D__law_one sc__law_one rfl (by decide) fun cdv A outer s H B0 Hs E hr =>
  (ss_cons (s_if (dt_cmp (opr_lt (u0 hr)) (op2_lt rfl) (do_name (pe_var (i := 0) rfl (by first | exact .inl rfl | exact .inr (.inl rfl) | exact .inr (.inr rfl)))) (do_c pe_int (fun _ => rfl)) (nomark _)) (ss_cons (s_set (i := 3) sc__law_one.nd rfl (by first | exact .inl rfl | exact .inr rfl) (de_ix (ixr_all (u1 hr)) (op2_ix rfl) (do_of (de_lst (da_cons (do_of (de_exn (c := "BadName") (C := T.C_BadName) rfl T.X_BadName T.i_BadName T.t_BadName T.n_BadName (by decide) (O_BadName T) (hr.mono (by decide)) (b_BadName T.D_BadName___init__) passes0 (by rfl) T.g_BadName (da_cons (do_of (de_take (pe_var (i := 1) rfl (by first | exact .inl rfl | exact .inr (.inl rfl) | exact .inr (.inr rfl))))) da_nil))) (da_cons (do_of (de_exn (c := "NoName") (C := T.C_NoName) rfl T.X_NoName T.i_NoName T.t_NoName T.n_NoName (by decide) (O_NoName T) (hr.mono (by decide)) (b_NoName T.D_NoName___init__) passes0 (by rfl) T.g_NoName (da_cons (do_of (de_take (pe_var (i := 1) rfl (by first | exact .inl rfl | exact .inr (.inl rfl) | exact .inr (.inr rfl))))) da_nil))) (da_cons (do_of (de_exn (c := "TakenName") (C := T.C_TakenName) rfl T.X_TakenName T.i_TakenName T.t_TakenName T.n_TakenName (by decide) (O_TakenName T) (hr.mono (by decide)) (b_TakenName T.D_TakenName___init__) passes0 (by rfl) T.g_TakenName (da_cons (do_of (de_take (pe_var (i := 1) rfl (by first | exact .inl rfl | exact .inr (.inl rfl) | exact .inr (.inr rfl))))) da_nil))) da_nil))))) (do_name (pe_var (i := 0) rfl (by first | exact .inl rfl | exact .inr (.inl rfl) | exact .inr (.inr rfl)))) (fun _ _ => rfl))) (ss_one (s_ret (de_tup (da_cons (do_of (de_take (pe_var (i := 3) rfl (by first | exact .inl rfl | exact .inr (.inl rfl) | exact .inr (.inr rfl))))) (da_cons (do_of (de_tup (da_cons (do_of (de_xf (T.xfd_name rfl rfl) (do_name (pe_var (i := 3) rfl (by first | exact .inl rfl | exact .inr (.inl rfl) | exact .inr (.inr rfl)))))) da_nil))) da_nil)))))) ss_nil) (ss_cons (s_if (dt_cmp (op_eqD (u64 hr)) (op2_eq rfl) (do_name (pe_var (i := 0) rfl (by first | exact .inl rfl | exact .inr (.inl rfl) | exact .inr (.inr rfl)))) (do_c pe_int (fun _ => rfl)) (nomark _)) (ss_cons (s_set (i := 3) sc__law_one.nd rfl (by first | exact .inl rfl | exact .inr rfl) (de_exn (c := "BadLines") (C := T.C_BadLines) rfl T.X_BadLines T.i_BadLines T.t_BadLines T.n_BadLines (by decide) (O_BadLines T) (hr.mono (by decide)) (b_BadLines T.D_BadLines___init__) passes0 (by rfl) T.g_BadLines (da_cons (do_of (de_take (pe_var (i := 1) rfl (by first | exact .inl rfl | exact .inr (.inl rfl) | exact .inr (.inr rfl))))) da_nil))) (ss_one (s_ret (de_tup (da_cons (do_of (de_take (pe_var (i := 3) rfl (by first | exact .inl rfl | exact .inr (.inl rfl) | exact .inr (.inr rfl))))) (da_cons (do_of (de_tup (da_cons (do_of (de_xf (T.xfd_lines rfl rfl) (do_name (pe_var (i := 3) rfl (by first | exact .inl rfl | exact .inr (.inl rfl) | exact .inr (.inr rfl)))))) da_nil))) da_nil)))))) ss_nil) (ss_cons (s_if (dt_cmp (op_eqD (u64 hr)) (op2_eq rfl) (do_name (pe_var (i := 0) rfl (by first | exact .inl rfl | exact .inr (.inl rfl) | exact .inr (.inr rfl)))) (do_c pe_int (fun _ => rfl)) (nomark _)) (ss_cons (s_set (i := 3) sc__law_one.nd rfl (by first | exact .inl rfl | exact .inr rfl) (de_exn (c := "BadPlane") (C := T.C_BadPlane) rfl T.X_BadPlane T.i_BadPlane T.t_BadPlane T.n_BadPlane (by decide) (O_BadPlane T) (hr.mono (by decide)) (b_BadPlane T.D_BadPlane___init__) passes0 (by rfl) T.g_BadPlane (da_cons (do_of (de_take (pe_var (i := 1) rfl (by first | exact .inl rfl | exact .inr (.inl rfl) | exact .inr (.inr rfl))))) da_nil))) (ss_one (s_ret (de_tup (da_cons (do_of (de_take (pe_var (i := 3) rfl (by first | exact .inl rfl | exact .inr (.inl rfl) | exact .inr (.inr rfl))))) (da_cons (do_of (de_tup (da_cons (do_of (de_xf (T.xfd_plane rfl rfl) (do_name (pe_var (i := 3) rfl (by first | exact .inl rfl | exact .inr (.inl rfl) | exact .inr (.inr rfl)))))) da_nil))) da_nil)))))) ss_nil) (ss_cons (s_if (dt_cmp (op_eqD (u64 hr)) (op2_eq rfl) (do_name (pe_var (i := 0) rfl (by first | exact .inl rfl | exact .inr (.inl rfl) | exact .inr (.inr rfl)))) (do_c pe_int (fun _ => rfl)) (nomark _)) (ss_cons (s_set (i := 3) sc__law_one.nd rfl (by first | exact .inl rfl | exact .inr rfl) (de_exn (c := "BadTable") (C := T.C_BadTable) rfl T.X_BadTable T.i_BadTable T.t_BadTable T.n_BadTable (by decide) (O_BadTable T) (hr.mono (by decide)) (b_BadTable T.D_BadTable___init__) passes0 (by rfl) T.g_BadTable (da_cons (do_of (de_take (pe_var (i := 1) rfl (by first | exact .inl rfl | exact .inr (.inl rfl) | exact .inr (.inr rfl))))) da_nil))) (ss_one (s_ret (de_tup (da_cons (do_of (de_take (pe_var (i := 3) rfl (by first | exact .inl rfl | exact .inr (.inl rfl) | exact .inr (.inr rfl))))) (da_cons (do_of (de_tup (da_cons (do_of (de_xf (T.xfd_table rfl rfl) (do_name (pe_var (i := 3) rfl (by first | exact .inl rfl | exact .inr (.inl rfl) | exact .inr (.inr rfl)))))) da_nil))) da_nil)))))) ss_nil) (ss_cons (s_if (dt_cmp (op_eqD (u64 hr)) (op2_eq rfl) (do_name (pe_var (i := 0) rfl (by first | exact .inl rfl | exact .inr (.inl rfl) | exact .inr (.inr rfl)))) (do_c pe_int (fun _ => rfl)) (nomark _)) (ss_cons (s_set (i := 3) sc__law_one.nd rfl (by first | exact .inl rfl | exact .inr rfl) (de_exn (c := "BadLoop") (C := T.C_BadLoop) rfl T.X_BadLoop T.i_BadLoop T.t_BadLoop T.n_BadLoop (by decide) (O_BadLoop T) (hr.mono (by decide)) (b_BadLoop T.D_BadLoop___init__) passes0 (by rfl) T.g_BadLoop (da_cons (do_of (de_take (pe_var (i := 1) rfl (by first | exact .inl rfl | exact .inr (.inl rfl) | exact .inr (.inr rfl))))) da_nil))) (ss_one (s_ret (de_tup (da_cons (do_of (de_take (pe_var (i := 3) rfl (by first | exact .inl rfl | exact .inr (.inl rfl) | exact .inr (.inr rfl))))) (da_cons (do_of (de_tup (da_cons (do_of (de_xf (T.xfd_loop rfl rfl) (do_name (pe_var (i := 3) rfl (by first | exact .inl rfl | exact .inr (.inl rfl) | exact .inr (.inr rfl)))))) da_nil))) da_nil)))))) ss_nil) (ss_cons (s_if (dt_cmp (op_eqD (u64 hr)) (op2_eq rfl) (do_name (pe_var (i := 0) rfl (by first | exact .inl rfl | exact .inr (.inl rfl) | exact .inr (.inr rfl)))) (do_c pe_int (fun _ => rfl)) (nomark _)) (ss_cons (s_set (i := 3) sc__law_one.nd rfl (by first | exact .inl rfl | exact .inr rfl) (de_exn (c := "BadField") (C := T.C_BadField) rfl T.X_BadField T.i_BadField T.t_BadField T.n_BadField (by decide) (O_BadField T) (hr.mono (by decide)) (b_BadField T.D_BadField___init__) passes0 (by rfl) T.g_BadField (da_cons (do_of (de_take (pe_var (i := 1) rfl (by first | exact .inl rfl | exact .inr (.inl rfl) | exact .inr (.inr rfl))))) da_nil))) (ss_one (s_ret (de_tup (da_cons (do_of (de_take (pe_var (i := 3) rfl (by first | exact .inl rfl | exact .inr (.inl rfl) | exact .inr (.inr rfl))))) (da_cons (do_of (de_tup (da_cons (do_of (de_xf (T.xfd_field rfl rfl) (do_name (pe_var (i := 3) rfl (by first | exact .inl rfl | exact .inr (.inl rfl) | exact .inr (.inr rfl)))))) da_nil))) da_nil)))))) ss_nil) (ss_cons (s_if (dt_cmp (op_eqD (u64 hr)) (op2_eq rfl) (do_name (pe_var (i := 0) rfl (by first | exact .inl rfl | exact .inr (.inl rfl) | exact .inr (.inr rfl)))) (do_c pe_int (fun _ => rfl)) (nomark _)) (ss_cons (s_set (i := 3) sc__law_one.nd rfl (by first | exact .inl rfl | exact .inr rfl) (de_exn (c := "BadRing") (C := T.C_BadRing) rfl T.X_BadRing T.i_BadRing T.t_BadRing T.n_BadRing (by decide) (O_BadRing T) (hr.mono (by decide)) (b_BadRing T.D_BadRing___init__) passes0 (by rfl) T.g_BadRing (da_cons (do_of (de_take (pe_var (i := 1) rfl (by first | exact .inl rfl | exact .inr (.inl rfl) | exact .inr (.inr rfl))))) da_nil))) (ss_one (s_ret (de_tup (da_cons (do_of (de_take (pe_var (i := 3) rfl (by first | exact .inl rfl | exact .inr (.inl rfl) | exact .inr (.inr rfl))))) (da_cons (do_of (de_tup (da_cons (do_of (de_xf (T.xfd_ring rfl rfl) (do_name (pe_var (i := 3) rfl (by first | exact .inl rfl | exact .inr (.inl rfl) | exact .inr (.inr rfl)))))) da_nil))) da_nil)))))) ss_nil) (ss_cons (s_if (dt_cmp (op_eqD (u64 hr)) (op2_eq rfl) (do_name (pe_var (i := 0) rfl (by first | exact .inl rfl | exact .inr (.inl rfl) | exact .inr (.inr rfl)))) (do_c pe_int (fun _ => rfl)) (nomark _)) (ss_cons (s_set (i := 3) sc__law_one.nd rfl (by first | exact .inl rfl | exact .inr rfl) (de_exn (c := "BadRow") (C := T.C_BadRow) rfl T.X_BadRow T.i_BadRow T.t_BadRow T.n_BadRow (by decide) (O_BadRow T) (hr.mono (by decide)) (b_BadRow T.D_BadRow___init__) passes0 (by rfl) T.g_BadRow (da_cons (do_of (de_take (pe_var (i := 1) rfl (by first | exact .inl rfl | exact .inr (.inl rfl) | exact .inr (.inr rfl))))) da_nil))) (ss_one (s_ret (de_tup (da_cons (do_of (de_take (pe_var (i := 3) rfl (by first | exact .inl rfl | exact .inr (.inl rfl) | exact .inr (.inr rfl))))) (da_cons (do_of (de_tup (da_cons (do_of (de_xf (T.xfd_row rfl rfl) (do_name (pe_var (i := 3) rfl (by first | exact .inl rfl | exact .inr (.inl rfl) | exact .inr (.inr rfl)))))) da_nil))) da_nil)))))) ss_nil) (ss_cons (s_if (dt_cmp (op_eqD (u64 hr)) (op2_eq rfl) (do_name (pe_var (i := 0) rfl (by first | exact .inl rfl | exact .inr (.inl rfl) | exact .inr (.inr rfl)))) (do_c pe_int (fun _ => rfl)) (nomark _)) (ss_cons (s_set (i := 3) sc__law_one.nd rfl (by first | exact .inl rfl | exact .inr rfl) (de_exn (c := "BadMove") (C := T.C_BadMove) rfl T.X_BadMove T.i_BadMove T.t_BadMove T.n_BadMove (by decide) (O_BadMove T) (hr.mono (by decide)) (b_BadMove T.D_BadMove___init__) passes0 (by rfl) T.g_BadMove (da_cons (do_of (de_take (pe_var (i := 1) rfl (by first | exact .inl rfl | exact .inr (.inl rfl) | exact .inr (.inr rfl))))) da_nil))) (ss_one (s_ret (de_tup (da_cons (do_of (de_take (pe_var (i := 3) rfl (by first | exact .inl rfl | exact .inr (.inl rfl) | exact .inr (.inr rfl))))) (da_cons (do_of (de_tup (da_cons (do_of (de_xf (T.xfd_led rfl rfl) (do_name (pe_var (i := 3) rfl (by first | exact .inl rfl | exact .inr (.inl rfl) | exact .inr (.inr rfl)))))) da_nil))) da_nil)))))) ss_nil) (ss_one (s_ret (de_call (O__law_other T) rfl (hr.mono (by decide)) (by rfl) T.g__law_other T.D__law_other.kp (b__law_other T.D__law_other) (takes_of rfl rfl rfl rfl) (da_cons (do_of (de_take (pe_var (i := 0) rfl (by first | exact .inl rfl | exact .inr (.inl rfl) | exact .inr (.inr rfl))))) (da_cons (do_of (de_take (pe_var (i := 1) rfl (by first | exact .inl rfl | exact .inr (.inl rfl) | exact .inr (.inr rfl))))) (da_cons (do_of (de_take (pe_var (i := 2) rfl (by first | exact .inl rfl | exact .inr (.inl rfl) | exact .inr (.inr rfl))))) da_nil)))))))))))))))
/-! _law_which -/
noncomputable def s__law_which : Sm := (Sm.seq (sSet 1 (dLst (dCons (dFix (dIsi (isExn tl_BadName) (dName 0))) (dCons (dFix (dIsi (isExn tl_NoName) (dName 0))) (dCons (dFix (dIsi (isExn tl_TakenName) (dName 0))) (dCons (dFix (dIsi (isExn tl_BadLines) (dName 0))) dNil)))))) (Sm.seq (sSet 1 (dOp2 gAdd (dName 1) (dFix (dLst (dCons (dFix (dIsi (isExn tl_BadPlane) (dName 0))) (dCons (dFix (dIsi (isExn tl_BadTable) (dName 0))) (dCons (dFix (dIsi (isExn tl_BadLoop) (dName 0))) (dCons (dFix (dIsi (isExn tl_BadField) (dName 0))) dNil)))))))) (Sm.seq (sSet 1 (dOp2 gAdd (dName 1) (dFix (dLst (dCons (dFix (dIsi (isExn tl_BadRing) (dName 0))) (dCons (dFix (dIsi (isExn tl_BadRow) (dName 0))) (dCons (dFix (dIsi (isExn tl_BadMove) (dName 0))) (dCons (dFix (dIsi (isExn tl_BadPaper) (dName 0))) dNil)))))))) (Sm.seq (sSet 1 (dOp2 gAdd (dName 1) (dFix (dLst (dCons (dFix (dIsi (isExn tl_BadText) (dName 0))) (dCons (dFix (dIsi (isExn tl_BadNumber) (dName 0))) (dCons (dFix (dIsi (isExn tl_NotKept) (dName 0))) dNil))))))) (sRet (dOp2 gAdd (dName 1) (dFix (dLst (dCons (dFix (dIsi (isExn tl_NothingToUndo) (dName 0))) (dCons (dFix (dIsi (isExn tl_NothingToRedo) (dName 0))) dNil))))))))))
noncomputable def F__law_which : List D → Rs := fnP 2 s__law_which
theorem sc__law_which : FnScope ["e", "found"] ["e"] (defScope (top 25)) := ⟨rfl, rfl, rfl, by decide +kernel, rfl, by decide +kernel, by decide +kernel⟩
theorem b__law_which {f : Addr} {d : FuncData} (h : FunD K "_law_which" "_law_which" (defArgs (top 25)) (defBody (top 25)) (defScope (top 25)) [] [] f d) : Binds K d ["e"] [] := h.bindsN fun _ _ _ _ _ _ us hl => match us, hl with | [_], _ => rfl
theorem O__law_which (T : Facts K mg) : FnOk P w K mg base (L2.CX P w) 1 T.f__law_which T.d__law_which ["e"] (spP T.G 1 F__law_which) :=
  fn_pure 1 T.D__law_which sc__law_which rfl (by decide) fun cdv A outer s H B0 Hs E hr =>
  (ss_cons (s_set (i := 1) sc__law_which.nd rfl (by first | exact .inl rfl | exact .inr rfl) (de_lst (da_cons (do_of (de_isv rfl (by rfl) T.b_isinstance (do_name (pe_var (i := 0) rfl (by first | exact .inl rfl | exact .inr (.inl rfl) | exact .inr (.inr rfl)))) (pe_glob (v := .ref T.C_BadName) (by rfl) T.g_BadName rfl) (.own _) (T.isv_BadName rfl rfl))) (da_cons (do_of (de_isv rfl (by rfl) T.b_isinstance (do_name (pe_var (i := 0) rfl (by first | exact .inl rfl | exact .inr (.inl rfl) | exact .inr (.inr rfl)))) (pe_glob (v := .ref T.C_NoName) (by rfl) T.g_NoName rfl) (.own _) (T.isv_NoName rfl rfl))) (da_cons (do_of (de_isv rfl (by rfl) T.b_isinstance (do_name (pe_var (i := 0) rfl (by first | exact .inl rfl | exact .inr (.inl rfl) | exact .inr (.inr rfl)))) (pe_glob (v := .ref T.C_TakenName) (by rfl) T.g_TakenName rfl) (.own _) (T.isv_TakenName rfl rfl))) (da_cons (do_of (de_isv rfl (by rfl) T.b_isinstance (do_name (pe_var (i := 0) rfl (by first | exact .inl rfl | exact .inr (.inl rfl) | exact .inr (.inr rfl)))) (pe_glob (v := .ref T.C_BadLines) (by rfl) T.g_BadLines rfl) (.own _) (T.isv_BadLines rfl rfl))) da_nil)))))) (ss_cons (s_set (i := 1) sc__law_which.nd rfl (by first | exact .inl rfl | exact .inr rfl) (de_bin opr_add (op2_add rfl) (do_name (pe_var (i := 1) rfl (by first | exact .inl rfl | exact .inr (.inl rfl) | exact .inr (.inr rfl)))) (do_of (de_lst (da_cons (do_of (de_isv rfl (by rfl) T.b_isinstance (do_name (pe_var (i := 0) rfl (by first | exact .inl rfl | exact .inr (.inl rfl) | exact .inr (.inr rfl)))) (pe_glob (v := .ref T.C_BadPlane) (by rfl) T.g_BadPlane rfl) (.own _) (T.isv_BadPlane rfl rfl))) (da_cons (do_of (de_isv rfl (by rfl) T.b_isinstance (do_name (pe_var (i := 0) rfl (by first | exact .inl rfl | exact .inr (.inl rfl) | exact .inr (.inr rfl)))) (pe_glob (v := .ref T.C_BadTable) (by rfl) T.g_BadTable rfl) (.own _) (T.isv_BadTable rfl rfl))) (da_cons (do_of (de_isv rfl (by rfl) T.b_isinstance (do_name (pe_var (i := 0) rfl (by first | exact .inl rfl | exact .inr (.inl rfl) | exact .inr (.inr rfl)))) (pe_glob (v := .ref T.C_BadLoop) (by rfl) T.g_BadLoop rfl) (.own _) (T.isv_BadLoop rfl rfl))) (da_cons (do_of (de_isv rfl (by rfl) T.b_isinstance (do_name (pe_var (i := 0) rfl (by first | exact .inl rfl | exact .inr (.inl rfl) | exact .inr (.inr rfl)))) (pe_glob (v := .ref T.C_BadField) (by rfl) T.g_BadField rfl) (.own _) (T.isv_BadField rfl rfl))) da_nil)))))))) (ss_cons (s_set (i := 1) sc__law_which.nd rfl (by first | exact .inl rfl | exact .inr rfl) (de_bin opr_add (op2_add rfl) (do_name (pe_var (i := 1) rfl (by first | exact .inl rfl | exact .inr (.inl rfl) | exact .inr (.inr rfl)))) (do_of (de_lst (da_cons (do_of (de_isv rfl (by rfl) T.b_isinstance (do_name (pe_var (i := 0) rfl (by first | exact .inl rfl | exact .inr (.inl rfl) | exact .inr (.inr rfl)))) (pe_glob (v := .ref T.C_BadRing) (by rfl) T.g_BadRing rfl) (.own _) (T.isv_BadRing rfl rfl))) (da_cons (do_of (de_isv rfl (by rfl) T.b_isinstance (do_name (pe_var (i := 0) rfl (by first | exact .inl rfl | exact .inr (.inl rfl) | exact .inr (.inr rfl)))) (pe_glob (v := .ref T.C_BadRow) (by rfl) T.g_BadRow rfl) (.own _) (T.isv_BadRow rfl rfl))) (da_cons (do_of (de_isv rfl (by rfl) T.b_isinstance (do_name (pe_var (i := 0) rfl (by first | exact .inl rfl | exact .inr (.inl rfl) | exact .inr (.inr rfl)))) (pe_glob (v := .ref T.C_BadMove) (by rfl) T.g_BadMove rfl) (.own _) (T.isv_BadMove rfl rfl))) (da_cons (do_of (de_isv rfl (by rfl) T.b_isinstance (do_name (pe_var (i := 0) rfl (by first | exact .inl rfl | exact .inr (.inl rfl) | exact .inr (.inr rfl)))) (pe_glob (v := .ref T.C_BadPaper) (by rfl) T.g_BadPaper rfl) (.own _) (T.isv_BadPaper rfl rfl))) da_nil)))))))) (ss_cons (s_set (i := 1) sc__law_which.nd rfl (by first | exact .inl rfl | exact .inr rfl) (de_bin opr_add (op2_add rfl) (do_name (pe_var (i := 1) rfl (by first | exact .inl rfl | exact .inr (.inl rfl) | exact .inr (.inr rfl)))) (do_of (de_lst (da_cons (do_of (de_isv rfl (by rfl) T.b_isinstance (do_name (pe_var (i := 0) rfl (by first | exact .inl rfl | exact .inr (.inl rfl) | exact .inr (.inr rfl)))) (pe_glob (v := .ref T.C_BadText) (by rfl) T.g_BadText rfl) (.own _) (T.isv_BadText rfl rfl))) (da_cons (do_of (de_isv rfl (by rfl) T.b_isinstance (do_name (pe_var (i := 0) rfl (by first | exact .inl rfl | exact .inr (.inl rfl) | exact .inr (.inr rfl)))) (pe_glob (v := .ref T.C_BadNumber) (by rfl) T.g_BadNumber rfl) (.own _) (T.isv_BadNumber rfl rfl))) (da_cons (do_of (de_isv rfl (by rfl) T.b_isinstance (do_name (pe_var (i := 0) rfl (by first | exact .inl rfl | exact .inr (.inl rfl) | exact .inr (.inr rfl)))) (pe_glob (v := .ref T.C_NotKept) (by rfl) T.g_NotKept rfl) (.own _) (T.isv_NotKept rfl rfl))) da_nil))))))) (ss_one (s_ret (de_bin opr_add (op2_add rfl) (do_name (pe_var (i := 1) rfl (by first | exact .inl rfl | exact .inr (.inl rfl) | exact .inr (.inr rfl)))) (do_of (de_lst (da_cons (do_of (de_isv rfl (by rfl) T.b_isinstance (do_name (pe_var (i := 0) rfl (by first | exact .inl rfl | exact .inr (.inl rfl) | exact .inr (.inr rfl)))) (pe_glob (v := .ref T.C_NothingToUndo) (by rfl) T.g_NothingToUndo rfl) (.own _) (T.isv_NothingToUndo rfl rfl))) (da_cons (do_of (de_isv rfl (by rfl) T.b_isinstance (do_name (pe_var (i := 0) rfl (by first | exact .inl rfl | exact .inr (.inl rfl) | exact .inr (.inr rfl)))) (pe_glob (v := .ref T.C_NothingToRedo) (by rfl) T.g_NothingToRedo rfl) (.own _) (T.isv_NothingToRedo rfl rfl))) da_nil)))))))))))
/-! _law_draw -/
noncomputable def s__law_draw : Sm := (Sm.seq (sPutIx 0 (dFix (dOp2 gAdd (dFix (dOp2 gIx (dName 0) (dVal (.str (Str.ofString "count"))))) (dVal (.int 1)))) (dVal (.str (Str.ofString "count")))) (Sm.seq (sIf (dAnd (dBool (dOp2 gEq (dFix (dOp2 gIx (dName 0) (dVal (.str (Str.ofString "digits"))))) (dVal (.int 0)))) (dBool (dOp2 gLt (dFix (dOp2 gIx (dName 0) (dVal (.str (Str.ofString "at"))))) (dFix (dBlt gLen (dCons (dFix (dOp2 gIx (dName 0) (dVal (.str (Str.ofString "cells"))))) dNil)))))) (Sm.seq (sSet 2 (dOp2 gIx (dFix (dOp2 gIx (dName 0) (dVal (.str (Str.ofString "cells"))))) (dFix (dOp2 gIx (dName 0) (dVal (.str (Str.ofString "at"))))))) (Sm.seq (sPutIx 0 (dFix (dOp2 gAdd (dFix (dOp2 gIx (dName 0) (dVal (.str (Str.ofString "at"))))) (dVal (.int 1)))) (dVal (.str (Str.ofString "at")))) (sIf (dBool (dOp2 (gCmp fun i j => decide (j ≤ i)) (dName 2) (dFix (dOp2 gPow (dVal (.int 10)) (dVal (.int 18)))))) (sPutIx 0 (dFix (dOp2 gSub (dName 2) (dFix (dOp2 gPow (dVal (.int 10)) (dVal (.int 18)))))) (dVal (.str (Str.ofString "digits")))) (sPutIx 0 (dFix (dOp2 gMod (dFix (dBlt gInt (dCons (dFix (dOp2 gAdd (dFix (dOp2 gMul (dFix (dOp2 gIx (dName 0) (dVal (.str (Str.ofString "fold"))))) (dVal (.int 73121)))) (dName 2))) dNil))) (dVal (.int 2147483543)))) (dVal (.str (Str.ofString "fold"))))))) sNext) (Sm.seq (sIf (dBool (dOp2 (gCmp fun i j => decide (j < i)) (dFix (dOp2 gIx (dName 0) (dVal (.str (Str.ofString "digits"))))) (dVal (.int 0)))) (Sm.seq (sSet 3 (dOp2 gMod (dFix (dBlt gInt (dCons (dFix (dOp2 gIx (dName 0) (dVal (.str (Str.ofString "digits"))))) dNil))) (dName 1))) (Sm.seq (sPutIx 0 (dFix (dOp2 gFdiv (dFix (dOp2 gIx (dName 0) (dVal (.str (Str.ofString "digits"))))) (dName 1))) (dVal (.str (Str.ofString "digits")))) (sRetN 3))) sNext) (Sm.seq (sSet 4 (dOp2 gAdd (dFix (dOp2 gAdd (dFix (dOp2 gIx (dName 0) (dVal (.str (Str.ofString "fold"))))) (dFix (dOp2 gMul (dFix (dOp2 gIx (dName 0) (dVal (.str (Str.ofString "count"))))) (dVal (.int 9109)))))) (dVal (.int 127)))) (sRet (dOp2 gMod (dFix (dOp2 gFdiv (dFix (dBlt gInt (dCons (dFix (dOp2 gMod (dFix (dOp2 gPow (dName 4) (dVal (.int 23)))) (dVal (.int 2305843009213693951)))) dNil))) (dVal (.int 128)))) (dName 1)))))))
noncomputable def F__law_draw : Me → List D → Rm := specM 5 s__law_draw
theorem sc__law_draw : FnScope ["pen", "many", "cell", "digit", "blend"] ["pen", "many"] (defScope (top 21)) := ⟨rfl, rfl, rfl, by decide +kernel, rfl, by decide +kernel, by decide +kernel⟩
theorem b__law_draw {f : Addr} {d : FuncData} (h : FunD K "_law_draw" "_law_draw" (defArgs (top 21)) (defBody (top 21)) (defScope (top 21)) [] [] f d) : Binds K d ["pen", "many"] [] := h.bindsN fun _ _ _ _ _ _ us hl => match us, hl with | [_, _], _ => rfl
theorem hf__law_draw : ∀ a m ds, F__law_draw m ds ≠ .stuck → fnM 5 s__law_draw a m ds = F__law_draw m ds := specM_hf
theorem O__law_draw (T : Facts K mg) : FnOk P w K mg base (L2.CX P w) 1 T.f__law_draw T.d__law_draw ["pen", "many"] (spM T.G 1 F__law_draw) :=
  fn_mut 1 T.D__law_draw sc__law_draw rfl (by decide) hf__law_draw fun cdv A outer s H B Hs E hr =>
  (ss_cons (s_put (i := 0) (u1 hr) (pe_var (i := 0) rfl (by first | exact .inl rfl | exact .inr (.inl rfl) | exact .inr (.inr rfl))) (do_c pe_str (fun _ => rfl)) (do_of (de_bin opr_add (op2_add rfl) (do_of (de_ix (ixr_all (u1 hr)) (op2_ix rfl) (do_name (pe_var (i := 0) rfl (by first | exact .inl rfl | exact .inr (.inl rfl) | exact .inr (.inr rfl)))) (do_c pe_str (fun _ => rfl)) (fun _ _ => rfl))) (do_c pe_int (fun _ => rfl))))) (ss_cons (s_if (dt_w (dw_and (dt_cmp (op_eqD (u64 hr)) (op2_eq rfl) (do_of (de_ix (ixr_all (u1 hr)) (op2_ix rfl) (do_name (pe_var (i := 0) rfl (by first | exact .inl rfl | exact .inr (.inl rfl) | exact .inr (.inr rfl)))) (do_c pe_str (fun _ => rfl)) (fun _ _ => rfl))) (do_c pe_int (fun _ => rfl)) (nomark _)) (dw_and1 (dt_cmp (opr_lt (u0 hr)) (op2_lt rfl) (do_of (de_ix (ixr_all (u1 hr)) (op2_ix rfl) (do_name (pe_var (i := 0) rfl (by first | exact .inl rfl | exact .inr (.inl rfl) | exact .inr (.inr rfl)))) (do_c pe_str (fun _ => rfl)) (fun _ _ => rfl))) (do_of (de_blt cr_lenG (opn_len rfl) (by rfl) T.b_len PySem.boot_len (da_cons (do_of (de_ix (ixr_all (u1 hr)) (op2_ix rfl) (do_name (pe_var (i := 0) rfl (by first | exact .inl rfl | exact .inr (.inl rfl) | exact .inr (.inr rfl)))) (do_c pe_str (fun _ => rfl)) (fun _ _ => rfl))) da_nil))) (nomark _))))) (ss_cons (s_set (i := 2) sc__law_draw.nd rfl (by first | exact .inl rfl | exact .inr rfl) (de_ix (ixr_all (u1 hr)) (op2_ix rfl) (do_of (de_ix (ixr_all (u1 hr)) (op2_ix rfl) (do_name (pe_var (i := 0) rfl (by first | exact .inl rfl | exact .inr (.inl rfl) | exact .inr (.inr rfl)))) (do_c pe_str (fun _ => rfl)) (fun _ _ => rfl))) (do_of (de_ix (ixr_all (u1 hr)) (op2_ix rfl) (do_name (pe_var (i := 0) rfl (by first | exact .inl rfl | exact .inr (.inl rfl) | exact .inr (.inr rfl)))) (do_c pe_str (fun _ => rfl)) (fun _ _ => rfl))) (fun _ _ => rfl))) (ss_cons (s_put (i := 0) (u1 hr) (pe_var (i := 0) rfl (by first | exact .inl rfl | exact .inr (.inl rfl) | exact .inr (.inr rfl))) (do_c pe_str (fun _ => rfl)) (do_of (de_bin opr_add (op2_add rfl) (do_of (de_ix (ixr_all (u1 hr)) (op2_ix rfl) (do_name (pe_var (i := 0) rfl (by first | exact .inl rfl | exact .inr (.inl rfl) | exact .inr (.inr rfl)))) (do_c pe_str (fun _ => rfl)) (fun _ _ => rfl))) (do_c pe_int (fun _ => rfl))))) (ss_one (s_if (dt_cmp op_ge (op2_cmp fun i j => decide (j ≤ i)) (do_name (pe_var (i := 2) rfl (by first | exact .inl rfl | exact .inr (.inl rfl) | exact .inr (.inr rfl)))) (do_of (de_bin op_pow op2_pow (do_c pe_int (fun _ => rfl)) (do_c pe_int (fun _ => rfl)))) (nomark _)) (ss_one (s_put (i := 0) (u1 hr) (pe_var (i := 0) rfl (by first | exact .inl rfl | exact .inr (.inl rfl) | exact .inr (.inr rfl))) (do_c pe_str (fun _ => rfl)) (do_of (de_bin op_sub op2_sub (do_name (pe_var (i := 2) rfl (by first | exact .inl rfl | exact .inr (.inl rfl) | exact .inr (.inr rfl)))) (do_of (de_bin op_pow op2_pow (do_c pe_int (fun _ => rfl)) (do_c pe_int (fun _ => rfl)))))))) (ss_one (s_put (i := 0) (u1 hr) (pe_var (i := 0) rfl (by first | exact .inl rfl | exact .inr (.inl rfl) | exact .inr (.inr rfl))) (do_c pe_str (fun _ => rfl)) (do_of (de_bin op_mod op2_mod (do_of (de_bty call_int1 opn_int (by rfl) T.b_int boot_int (da_cons (do_of (de_bin opr_add (op2_add rfl) (do_of (de_bin opr_mul (op2_mul rfl) (do_of (de_ix (ixr_all (u1 hr)) (op2_ix rfl) (do_name (pe_var (i := 0) rfl (by first | exact .inl rfl | exact .inr (.inl rfl) | exact .inr (.inr rfl)))) (do_c pe_str (fun _ => rfl)) (fun _ _ => rfl))) (do_c pe_int (fun _ => rfl)))) (do_name (pe_var (i := 2) rfl (by first | exact .inl rfl | exact .inr (.inl rfl) | exact .inr (.inr rfl)))))) da_nil))) (do_c pe_int (fun _ => rfl)))))))))) ss_nil) (ss_cons (s_if (dt_cmp op_gt (op2_cmp fun i j => decide (j < i)) (do_of (de_ix (ixr_all (u1 hr)) (op2_ix rfl) (do_name (pe_var (i := 0) rfl (by first | exact .inl rfl | exact .inr (.inl rfl) | exact .inr (.inr rfl)))) (do_c pe_str (fun _ => rfl)) (fun _ _ => rfl))) (do_c pe_int (fun _ => rfl)) (nomark _)) (ss_cons (s_set (i := 3) sc__law_draw.nd rfl (by first | exact .inl rfl | exact .inr rfl) (de_bin op_mod op2_mod (do_of (de_bty call_int1 opn_int (by rfl) T.b_int boot_int (da_cons (do_of (de_ix (ixr_all (u1 hr)) (op2_ix rfl) (do_name (pe_var (i := 0) rfl (by first | exact .inl rfl | exact .inr (.inl rfl) | exact .inr (.inr rfl)))) (do_c pe_str (fun _ => rfl)) (fun _ _ => rfl))) da_nil))) (do_name (pe_var (i := 1) rfl (by first | exact .inl rfl | exact .inr (.inl rfl) | exact .inr (.inr rfl)))))) (ss_cons (s_put (i := 0) (u1 hr) (pe_var (i := 0) rfl (by first | exact .inl rfl | exact .inr (.inl rfl) | exact .inr (.inr rfl))) (do_c pe_str (fun _ => rfl)) (do_of (de_bin op_fdiv op2_fdiv (do_of (de_ix (ixr_all (u1 hr)) (op2_ix rfl) (do_name (pe_var (i := 0) rfl (by first | exact .inl rfl | exact .inr (.inl rfl) | exact .inr (.inr rfl)))) (do_c pe_str (fun _ => rfl)) (fun _ _ => rfl))) (do_name (pe_var (i := 1) rfl (by first | exact .inl rfl | exact .inr (.inl rfl) | exact .inr (.inr rfl))))))) (ss_one (s_retN (pe_var (i := 3) rfl (by first | exact .inl rfl | exact .inr (.inl rfl) | exact .inr (.inr rfl))))))) ss_nil) (ss_cons (s_set (i := 4) sc__law_draw.nd rfl (by first | exact .inl rfl | exact .inr rfl) (de_bin opr_add (op2_add rfl) (do_of (de_bin opr_add (op2_add rfl) (do_of (de_ix (ixr_all (u1 hr)) (op2_ix rfl) (do_name (pe_var (i := 0) rfl (by first | exact .inl rfl | exact .inr (.inl rfl) | exact .inr (.inr rfl)))) (do_c pe_str (fun _ => rfl)) (fun _ _ => rfl))) (do_of (de_bin opr_mul (op2_mul rfl) (do_of (de_ix (ixr_all (u1 hr)) (op2_ix rfl) (do_name (pe_var (i := 0) rfl (by first | exact .inl rfl | exact .inr (.inl rfl) | exact .inr (.inr rfl)))) (do_c pe_str (fun _ => rfl)) (fun _ _ => rfl))) (do_c pe_int (fun _ => rfl)))))) (do_c pe_int (fun _ => rfl)))) (ss_one (s_ret (de_bin op_mod op2_mod (do_of (de_bin op_fdiv op2_fdiv (do_of (de_bty call_int1 opn_int (by rfl) T.b_int boot_int (da_cons (do_of (de_bin op_mod op2_mod (do_of (de_bin op_pow op2_pow (do_name (pe_var (i := 4) rfl (by first | exact .inl rfl | exact .inr (.inl rfl) | exact .inr (.inr rfl)))) (do_c pe_int (fun _ => rfl)))) (do_c pe_int (fun _ => rfl)))) da_nil))) (do_c pe_int (fun _ => rfl)))) (do_name (pe_var (i := 1) rfl (by first | exact .inl rfl | exact .inr (.inl rfl) | exact .inr (.inr rfl)))))))))))
/-! _law_pick -/
noncomputable def s__law_pick : Sm := (sRet (dOp2 gIx (dName 1) (dFix (dCallM 1 0 F__law_draw (dCons (dName 0) (dCons (dFix (dBlt gLen (dCons (dName 1) dNil))) dNil))))))
noncomputable def F__law_pick : Me → List D → Rm := specM 2 s__law_pick
theorem sc__law_pick : FnScope ["pen", "some"] ["pen", "some"] (defScope (top 22)) := ⟨rfl, rfl, rfl, by decide +kernel, rfl, by decide +kernel, by decide +kernel⟩
theorem b__law_pick {f : Addr} {d : FuncData} (h : FunD K "_law_pick" "_law_pick" (defArgs (top 22)) (defBody (top 22)) (defScope (top 22)) [] [] f d) : Binds K d ["pen", "some"] [] := h.bindsN fun _ _ _ _ _ _ us hl => match us, hl with | [_, _], _ => rfl
theorem hf__law_pick : ∀ a m ds, F__law_pick m ds ≠ .stuck → fnM 2 s__law_pick a m ds = F__law_pick m ds := specM_hf
theorem O__law_pick (T : Facts K mg) : FnOk P w K mg base (L2.CX P w) 2 T.f__law_pick T.d__law_pick ["pen", "some"] (spM T.G 1 F__law_pick) :=
  fn_mut 1 T.D__law_pick sc__law_pick rfl (by decide) hf__law_pick fun cdv A outer s H B Hs E hr =>
  (ss_one (s_ret (de_ix (ixr_all (u1 hr)) (op2_ix rfl) (do_name (pe_var (i := 1) rfl (by first | exact .inl rfl | exact .inr (.inl rfl) | exact .inr (.inr rfl)))) (do_of (de_callM 0 (O__law_draw T) rfl (hr.mono (by decide)) (by rfl) T.g__law_draw T.D__law_draw.kp (b__law_draw T.D__law_draw) (takes_of rfl rfl rfl rfl) (da_cons (do_name (pe_var (i := 0) rfl (by first | exact .inl rfl | exact .inr (.inl rfl) | exact .inr (.inr rfl)))) (da_cons (do_of (de_blt cr_lenG (opn_len rfl) (by rfl) T.b_len PySem.boot_len (da_cons (do_name (pe_var (i := 1) rfl (by first | exact .inl rfl | exact .inr (.inl rfl) | exact .inr (.inr rfl)))) da_nil))) da_nil)))) (fun _ _ => rfl))))
/-! _law_pen -/
noncomputable def s__law_pen : Sm := (Sm.seq (sSet 1 (dSh (.int 0))) (Sm.seq (sFor (dItems (dFix (dTake 0))) (gSet 2) (sSet 1 (dOp2 gMod (dFix (dBlt gInt (dCons (dFix (dOp2 gAdd (dFix (dOp2 gMul (dName 1) (dVal (.int 127)))) (dName 2))) dNil))) (dVal (.int 1000000033))))) (sRet (dDisp [((dVal (.str (Str.ofString "cells"))), (dFix (dBlt gList (dCons (dName 0) dNil)))), ((dVal (.str (Str.ofString "at"))), (dVal (.int 0))), ((dVal (.str (Str.ofString "digits"))), (dVal (.int 0))), ((dVal (.str (Str.ofString "count"))), (dVal (.int 0))), ((dVal (.str (Str.ofString "fold"))), (dFix (dTake 1)))]))))
noncomputable def F__law_pen : List D → Rs := fnP 3 s__law_pen
theorem sc__law_pen : FnScope ["script", "fold", "cell"] ["script"] (defScope (top 20)) := ⟨rfl, rfl, rfl, by decide +kernel, rfl, by decide +kernel, by decide +kernel⟩
theorem b__law_pen {f : Addr} {d : FuncData} (h : FunD K "_law_pen" "_law_pen" (defArgs (top 20)) (defBody (top 20)) (defScope (top 20)) [] [] f d) : Binds K d ["script"] [] := h.bindsN fun _ _ _ _ _ _ us hl => match us, hl with | [_], _ => rfl
theorem O__law_pen (T : Facts K mg) : FnOk P w K mg base (L2.CX P w) 1 T.f__law_pen T.d__law_pen ["script"] (spP T.G 1 F__law_pen) :=
  fn_pure 1 T.D__law_pen sc__law_pen rfl (by decide) fun cdv A outer s H B0 Hs E hr =>
  (ss_cons (s_set (i := 1) sc__law_pen.nd rfl (by first | exact .inl rfl | exact .inr rfl) (de_c pe_int (fun _ => rfl))) (ss_cons (s_for (passes_of rfl) rfl (di_seq rfl (do_of (de_take (pe_var (i := 0) rfl (by first | exact .inl rfl | exact .inr (.inl rfl) | exact .inr (.inr rfl)))))) (g_name (pg_name (i := 2) sc__law_pen.nd rfl (by first | exact .inl rfl | exact .inr rfl))) (ss_one (s_set (i := 1) sc__law_pen.nd rfl (by first | exact .inl rfl | exact .inr rfl) (de_bin op_mod op2_mod (do_of (de_bty call_int1 opn_int (by rfl) T.b_int boot_int (da_cons (do_of (de_bin opr_add (op2_add rfl) (do_of (de_bin opr_mul (op2_mul rfl) (do_name (pe_var (i := 1) rfl (by first | exact .inl rfl | exact .inr (.inl rfl) | exact .inr (.inr rfl)))) (do_c pe_int (fun _ => rfl)))) (do_name (pe_var (i := 2) rfl (by first | exact .inl rfl | exact .inr (.inl rfl) | exact .inr (.inr rfl)))))) da_nil))) (do_c pe_int (fun _ => rfl)))))) (ss_one (s_ret (de_disp (dps_cons (do_c pe_str (fun _ => rfl)) (do_of (de_bty call_list_of (opn_list rfl) (by rfl) T.b_list boot_list (da_cons (do_name (pe_var (i := 0) rfl (by first | exact .inl rfl | exact .inr (.inl rfl) | exact .inr (.inr rfl)))) da_nil))) (dps_cons (do_c pe_str (fun _ => rfl)) (do_c pe_int (fun _ => rfl)) (dps_cons (do_c pe_str (fun _ => rfl)) (do_c pe_int (fun _ => rfl)) (dps_cons (do_c pe_str (fun _ => rfl)) (do_c pe_int (fun _ => rfl)) (dps_cons (do_c pe_str (fun _ => rfl)) (do_of (de_take (pe_var (i := 1) rfl (by first | exact .inl rfl | exact .inr (.inl rfl) | exact .inr (.inr rfl))))) dps_nil))))))))))
/-! law -/
noncomputable def s_law : Sm := (Sm.seq (sSet 1 (dCall 1 F__law_pen (dCons (dFix (dTake 0)) dNil))) (Sm.seq (sSet 2 (dLst (dCons (dVal .non) (dCons (dVal (.bl true)) (dCons (dVal (.int 0)) (dCons (dFix (dOp2 gSub (dFix (dOp1 gNeg (dVal (.int 1)))) (dFix (dCallM 1 1 F__law_draw (dCons (dName 1) (dCons (dVal (.int 9)) dNil)))))) (dCons (dFix (dOp2 gAdd (dFix (dOp2 gPow (dVal (.int 10)) (dVal (.int 40)))) (dFix (dCallM 1 1 F__law_draw (dCons (dName 1) (dCons (dVal (.int 99)) dNil)))))) (dCons (dVal (.str (Str.ofString ""))) (dCons (dVal (.str (Str.ofString "log"))) (dCons (dFix (dTup (dCons (dVal (.int 1)) (dCons (dVal (.int 2)) dNil)))) (dCons (dFix (dLst (dCons (dVal (.int 3)) dNil))) (dCons (dFix (dTup (dCons (dVal (.str (Str.ofString "b"))) (dCons (dVal (.str (Str.ofString "c"))) dNil)))) dNil)))))))))))) (Sm.seq (sApp 2 (dCons (dFix (dTup (dCons (dFix (dTup (dCons (dVal (.int 0)) (dCons (dVal (.int 0)) dNil)))) dNil))) dNil)) (Sm.seq (sFor (dRange1 (dCons (dVal (.int 17)) dNil)) (gSet 3) (Sm.seq (sTo (gTupD 2 (gsCons (gSet 4) (gsCons (gSet 5) gsNil))) (dFix (dTup (dCons (dFix (dCallM 1 1 F__law_pick (dCons (dName 1) (dCons (dFix (dTake 2)) dNil)))) (dCons (dFix (dCallM 1 1 F__law_pick (dCons (dName 1) (dCons (dFix (dTake 2)) dNil)))) dNil))))) (Sm.seq (sSet 6 (dLc (dRange1 (dCons (dVal (.int 3)) dNil)) [9] (gSet 9) dYes (dRepr (dFix (dSl (dFix (dTup (dCons (dFix (dTake 4)) (dCons (dFix (dTake 5)) dNil)))) dNo (dPart (dName 9))))))) (Sm.seq (sTo (gTupD 2 (gsCons (gSet 7) (gsCons (gSet 8) gsNil))) (dFix (dCall 3 F__law_one (dCons (dFix (dTake 3)) (dCons (dFix (dTake 4)) (dCons (dFix (dTake 5)) dNil)))))) (Sm.seq (sIf (dBool (dOp2 gNeS (dFix (dRepr (dFix (dTake 8)))) (dFix (dOp2 gIx (dName 6) (dFix (dBlt gLen (dCons (dName 8) dNil))))))) (sRet (dSh (.bl false))) sNext) (Sm.seq (sIf (dOr (dNot (dTruth (dFix (dIsi (isExn tl_PlaneError) (dName 7))))) (dNot (dTruth (dFix (dIsi (isExn tl_ValueError) (dName 7)))))) (sRet (dSh (.bl false))) sNext) (sIf (dBool (dOp2 gNe (dFix (dCall 1 F__law_which (dCons (dFix (dTake 7)) dNil))) (dFix (dLc (dRange1 (dCons (dVal (.int 17)) dNil)) [10] (gSet 10) dYes (dOp2 gEq (dName 10) (dName 3)))))) (sRet (dSh (.bl false))) sNext))))))) (sRet (dSh (.bl true)))))))
noncomputable def F_law : List D → Rs := fnP 11 s_law
theorem sc_law : FnScope ["script", "pen", "menu", "kind", "a", "b", "dues", "e", "fields", "many", "k"] ["script"] (defScope (top 26)) := ⟨rfl, rfl, rfl, by decide +kernel, rfl, by decide +kernel, by decide +kernel⟩
theorem b_law {f : Addr} {d : FuncData} (h : FunD K "law" "law" (defArgs (top 26)) (defBody (top 26)) (defScope (top 26)) [] [] f d) : Binds K d ["script"] [] := h.bindsN fun _ _ _ _ _ _ us hl => match us, hl with | [_], _ => rfl
theorem O_law (T : Facts K mg) : FnA P w K mg base (L2.CX P w) callerA T.f_law T.d_law ["script"] (spP T.G 1 F_law) :=
  fnA_pure (k := 4) 1 T.D_law sc_law rfl (by decide) callerA ⟨rfl, by decide, by decide⟩ fun cdv outer s H B0 Hs E hr =>
  (ss_cons (s_set (i := 1) sc_law.nd rfl (by first | exact .inl rfl | exact .inr rfl) (de_call (O__law_pen T) rfl (hr.mono (by decide)) (by rfl) T.g__law_pen T.D__law_pen.kp (b__law_pen T.D__law_pen) (takes_of rfl rfl rfl rfl) (da_cons (do_of (de_take (pe_var (i := 0) rfl (by first | exact .inl rfl | exact .inr (.inl rfl) | exact .inr (.inr rfl))))) da_nil))) (ss_cons (s_set (i := 2) sc_law.nd rfl (by first | exact .inl rfl | exact .inr rfl) (de_lst (da_cons (do_c pe_none (fun _ => rfl)) (da_cons (do_c pe_true (fun _ => rfl)) (da_cons (do_c pe_int (fun _ => rfl)) (da_cons (do_of (de_bin op_sub op2_sub (do_of (de_neg (do_c pe_int (fun _ => rfl)))) (do_of (de_callM 1 (O__law_draw T) rfl (hr.mono (by decide)) (by rfl) T.g__law_draw T.D__law_draw.kp (b__law_draw T.D__law_draw) (takes_of rfl rfl rfl rfl) (da_cons (do_name (pe_var (i := 1) rfl (by first | exact .inl rfl | exact .inr (.inl rfl) | exact .inr (.inr rfl)))) (da_cons (do_c pe_int (fun _ => rfl)) da_nil)))))) (da_cons (do_of (de_bin opr_add (op2_add rfl) (do_of (de_bin op_pow op2_pow (do_c pe_int (fun _ => rfl)) (do_c pe_int (fun _ => rfl)))) (do_of (de_callM 1 (O__law_draw T) rfl (hr.mono (by decide)) (by rfl) T.g__law_draw T.D__law_draw.kp (b__law_draw T.D__law_draw) (takes_of rfl rfl rfl rfl) (da_cons (do_name (pe_var (i := 1) rfl (by first | exact .inl rfl | exact .inr (.inl rfl) | exact .inr (.inr rfl)))) (da_cons (do_c pe_int (fun _ => rfl)) da_nil)))))) (da_cons (do_c pe_str (fun _ => rfl)) (da_cons (do_c pe_str (fun _ => rfl)) (da_cons (do_of (de_tup (da_cons (do_c pe_int (fun _ => rfl)) (da_cons (do_c pe_int (fun _ => rfl)) da_nil)))) (da_cons (do_of (de_lst (da_cons (do_c pe_int (fun _ => rfl)) da_nil))) (da_cons (do_of (de_tup (da_cons (do_c pe_str (fun _ => rfl)) (da_cons (do_c pe_str (fun _ => rfl)) da_nil)))) da_nil)))))))))))) (ss_cons (s_app (i := 2) (pe_var (i := 2) rfl (by first | exact .inl rfl | exact .inr (.inl rfl) | exact .inr (.inr rfl))) (da_cons (do_of (de_tup (da_cons (do_of (de_tup (da_cons (do_c pe_int (fun _ => rfl)) (da_cons (do_c pe_int (fun _ => rfl)) da_nil)))) da_nil))) da_nil)) (ss_cons (s_for (passes_of rfl) rfl (di_range1 (by rfl) T.b_range (da_cons (do_c pe_int (fun _ => rfl)) da_nil)) (g_name (pg_name (i := 3) sc_law.nd rfl (by first | exact .inl rfl | exact .inr rfl))) (ss_cons (s_to (do_of (de_tup (da_cons (do_of (de_callM 1 (O__law_pick T) rfl (hr.mono (by decide)) (by rfl) T.g__law_pick T.D__law_pick.kp (b__law_pick T.D__law_pick) (takes_of rfl rfl rfl rfl) (da_cons (do_name (pe_var (i := 1) rfl (by first | exact .inl rfl | exact .inr (.inl rfl) | exact .inr (.inr rfl)))) (da_cons (do_of (de_take (pe_var (i := 2) rfl (by first | exact .inl rfl | exact .inr (.inl rfl) | exact .inr (.inr rfl))))) da_nil)))) (da_cons (do_of (de_callM 1 (O__law_pick T) rfl (hr.mono (by decide)) (by rfl) T.g__law_pick T.D__law_pick.kp (b__law_pick T.D__law_pick) (takes_of rfl rfl rfl rfl) (da_cons (do_name (pe_var (i := 1) rfl (by first | exact .inl rfl | exact .inr (.inl rfl) | exact .inr (.inr rfl)))) (da_cons (do_of (de_take (pe_var (i := 2) rfl (by first | exact .inl rfl | exact .inr (.inl rfl) | exact .inr (.inr rfl))))) da_nil)))) da_nil)))) (g_tup rfl (gs_cons (g_name (pg_name (i := 4) sc_law.nd rfl (by first | exact .inl rfl | exact .inr rfl))) (gs_cons (g_name (pg_name (i := 5) sc_law.nd rfl (by first | exact .inl rfl | exact .inr rfl))) gs_nil)))) (ss_cons (s_setLc (i := 6) (own := [("many", 9)]) rfl sc_law.nd rfl rfl (sw_true rfl rfl rfl (by decide +kernel)) (di_range1 (by rfl) T.b_range (da_cons (do_c pe_int (fun _ => rfl)) da_nil)) (blkOk_by (by rfl)) (by decide) (fun _ _ _ _ _ => (g_name (pg_name (i := 9) sc_law.nd rfl (by first | exact .inl rfl | exact .inr rfl)))) (fun _ _ _ _ _ => dts_nil) (fun _ _ _ _ _ => (de_repr rfl rfl (u66 hr) (by rfl) T.b_repr (do_of (de_slice rfl (do_of (de_tup (da_cons (do_of (de_take (pe_var (i := 4) rfl (by first | exact .inl rfl | exact .inr (.inl rfl) | exact .inr (.inr rfl))))) (da_cons (do_of (de_take (pe_var (i := 5) rfl (by first | exact .inl rfl | exact .inr (.inl rfl) | exact .inr (.inr rfl))))) da_nil)))) dp_none (dp_some (do_name (pe_var (i := 9) rfl (by first | exact .inl rfl | exact .inr (.inl rfl) | exact .inr (.inr rfl)))))))))) (ss_cons (s_to (do_of (de_call (O__law_one T) rfl (hr.mono (by decide)) (by rfl) T.g__law_one T.D__law_one.kp (b__law_one T.D__law_one) (takes_of rfl rfl rfl rfl) (da_cons (do_of (de_take (pe_var (i := 3) rfl (by first | exact .inl rfl | exact .inr (.inl rfl) | exact .inr (.inr rfl))))) (da_cons (do_of (de_take (pe_var (i := 4) rfl (by first | exact .inl rfl | exact .inr (.inl rfl) | exact .inr (.inr rfl))))) (da_cons (do_of (de_take (pe_var (i := 5) rfl (by first | exact .inl rfl | exact .inr (.inl rfl) | exact .inr (.inr rfl))))) da_nil))))) (g_tup rfl (gs_cons (g_name (pg_name (i := 7) sc_law.nd rfl (by first | exact .inl rfl | exact .inr rfl))) (gs_cons (g_name (pg_name (i := 8) sc_law.nd rfl (by first | exact .inl rfl | exact .inr rfl))) gs_nil)))) (ss_cons (s_if (dt_cmp op_ne op2_neS (do_of (de_repr rfl rfl (u66 hr) (by rfl) T.b_repr (do_of (de_take (pe_var (i := 8) rfl (by first | exact .inl rfl | exact .inr (.inl rfl) | exact .inr (.inr rfl))))))) (do_of (de_ix (ixr_all (u1 hr)) (op2_ix rfl) (do_name (pe_var (i := 6) rfl (by first | exact .inl rfl | exact .inr (.inl rfl) | exact .inr (.inr rfl)))) (do_of (de_blt cr_lenG (opn_len rfl) (by rfl) T.b_len PySem.boot_len (da_cons (do_name (pe_var (i := 8) rfl (by first | exact .inl rfl | exact .inr (.inl rfl) | exact .inr (.inr rfl)))) da_nil))) (fun _ _ => rfl))) (nomark _)) (ss_one (s_ret (de_c pe_false (fun _ => rfl)))) ss_nil) (ss_cons (s_if (dt_w (dw_or (dt_not (dt_of rfl (do_of (de_isv rfl (by rfl) T.b_isinstance (do_name (pe_var (i := 7) rfl (by first | exact .inl rfl | exact .inr (.inl rfl) | exact .inr (.inr rfl)))) (pe_glob (v := .ref T.C_PlaneError) (by rfl) T.g_PlaneError rfl) (.own _) (T.isv_PlaneError rfl rfl))) (by intro; rfl))) (dw_or1 (dt_not (dt_of rfl (do_of (de_isv rfl (by rfl) T.b_isinstance (do_name (pe_var (i := 7) rfl (by first | exact .inl rfl | exact .inr (.inl rfl) | exact .inr (.inr rfl)))) (pe_blt (by rfl) T.b_ValueError (by decide +kernel)) (.ty _) (T.isv_ValueError rfl rfl))) (by intro; rfl)))))) (ss_one (s_ret (de_c pe_false (fun _ => rfl)))) ss_nil) (ss_one (s_if (dt_cmp (op_neD (u64 hr)) (op2_ne rfl) (do_of (de_call (O__law_which T) rfl (hr.mono (by decide)) (by rfl) T.g__law_which T.D__law_which.kp (b__law_which T.D__law_which) (takes_of rfl rfl rfl rfl) (da_cons (do_of (de_take (pe_var (i := 7) rfl (by first | exact .inl rfl | exact .inr (.inl rfl) | exact .inr (.inr rfl))))) da_nil))) (do_of (de_lc (own := [("k", 10)]) rfl sc_law.nd (di_range1 (by rfl) T.b_range (da_cons (do_c pe_int (fun _ => rfl)) da_nil)) (blkOk_by (by rfl)) (by decide) (fun _ _ _ _ _ => (g_name (pg_name (i := 10) sc_law.nd rfl (by first | exact .inl rfl | exact .inr rfl)))) (fun _ _ _ _ _ => dts_nil) (fun _ _ _ _ _ => (de_cmp (op_eqD (u64 hr)) (op2_eq rfl) (do_name (pe_var (i := 10) rfl (by first | exact .inl rfl | exact .inr (.inl rfl) | exact .inr (.inr rfl)))) (do_name (pe_var (i := 3) rfl (by first | exact .inl rfl | exact .inr (.inl rfl) | exact .inr (.inr rfl)))) (nomark _))))) (nomark _)) (ss_one (s_ret (de_c pe_false (fun _ => rfl)))) ss_nil)))))))) (ss_one (s_ret (de_c pe_true (fun _ => rfl))))))))
end Tp
set_option Elab.async false
set_option maxRecDepth 100000
set_option maxHeartbeats 4000000
namespace Tp
open PySem PySem.Spec PyProof.Rows L2 Dl
def penK : List DK := [.k (.inr (Str.ofString "cells")), .k (.inr (Str.ofString "at")), .k (.inr (Str.ofString "digits")), .k (.inr (Str.ofString "count")), .k (.inr (Str.ofString "fold"))]
section
variable {c a d n f v : D}
theorem ix_cells : gIx (.dct false penK [c, a, d, n, f]) (.str (Str.ofString "cells")) = some (.sh c) := by rfl
theorem ix_at : gIx (.dct false penK [c, a, d, n, f]) (.str (Str.ofString "at")) = some (.sh a) := by rfl
theorem ix_digits : gIx (.dct false penK [c, a, d, n, f]) (.str (Str.ofString "digits")) = some (.sh d) := by rfl
theorem ix_count : gIx (.dct false penK [c, a, d, n, f]) (.str (Str.ofString "count")) = some (.sh n) := by rfl
theorem ix_fold : gIx (.dct false penK [c, a, d, n, f]) (.str (Str.ofString "fold")) = some (.sh f) := by rfl
theorem pt_at : mePut (.d false penK [c, a, d, n, f]) (.str (Str.ofString "at")) v = some (.d false penK [c, v, d, n, f]) := by rfl
theorem pt_digits : mePut (.d false penK [c, a, d, n, f]) (.str (Str.ofString "digits")) v = some (.d false penK [c, a, v, n, f]) := by rfl
theorem pt_count : mePut (.d false penK [c, a, d, n, f]) (.str (Str.ofString "count")) v = some (.d false penK [c, a, d, v, f]) := by rfl
theorem pt_fold : mePut (.d false penK [c, a, d, n, f]) (.str (Str.ofString "fold")) v = some (.d false penK [c, a, d, n, v]) := by rfl
end
theorem r_ix {x : Addr} {m : Me} {k : D} {s2 s3 s4 many : Slot} {d : D} (h : gIx m.D k = some (.sh d)) : (dFix (dOp2 gIx (dName 0) (dVal k))) [.me x m, many, s2, s3, s4] = .ok (.val d) [.me x m, many, s2, s3, s4] := by
  simp [dFix, dOp2, M.bind, Out.bind, dName, dVal, Opd.get, Slot.rd, Slot.d, h]
theorem p_ix {x : Addr} {m m' : Me} {k dv : D} {s1 s2 s3 s4 : Slot} {fv : M Opd} (hv : fv [.me x m, s1, s2, s3, s4] = .ok (.val dv) [.me x m, s1, s2, s3, s4]) (h : mePut m k dv = some m') : sPutIx 0 fv (dVal k) [.me x m, s1, s2, s3, s4] = .nx [.me x m', s1, s2, s3, s4] := by
  simp [sPutIx, hv, Out.fl, sPutV, ownAt, Slot.own?, dVal, sPutE, Opd.get, h, Dl.putAt, Slot.put]
abbrev pn (cs : List Int) (i dg ct fo : Int) : Me := .d false penK [.lst (cs.map .int), .int i, .int dg, .int ct, .int fo]
theorem le_pow : (10 : Int) ^ (18 : Int).toNat = 1000000000000000000 := by decide
theorem wk {i : Int} (h0 : 0 ≤ i) (h1 : i < 1099511627776) : wOk i = true := by
  cases i with
  | ofNat n => exact Nat.ble_eq_true_of_le (by have := Int.ofNat_lt.mp (show (n : Int) < ((1099511627776 : Nat) : Int) from h1); omega)
  | negSucc n => exact absurd h0 (by simp)
/-- the first part: the draw's number goes up -/
theorem dr1 {cs : List Int} {i dg ct fo many : Int} {x : Addr} {s2 s3 s4 : Slot} : sPutIx 0 (dFix (dOp2 gAdd (dFix (dOp2 gIx (dName 0) (dVal (.str (Str.ofString "count"))))) (dVal (.int 1)))) (dVal (.str (Str.ofString "count"))) [.me x (pn cs i dg ct fo), .sh (.int many), s2, s3, s4] = .nx [.me x (pn cs i dg (ct + 1) fo), .sh (.int many), s2, s3, s4] := by
  refine p_ix (dv := .int (ct + 1)) ?_ pt_count
  have := r_ix (x := x) (m := pn cs i dg ct fo) (many := .sh (.int many)) (s2 := s2) (s3 := s3) (s4 := s4) ix_count
  rw [dFix, dOp2] 
  simp [M.bind, this, Out.bind, dVal, Opd.get, gAdd, Slot.d]
/-- the last part: of the blend -/
theorem dr3' {cs : List Int} {i dg ct fo many : Int} {x : Addr} {s2 s3 s4 : Slot} (hc : 0 ≤ ct ∧ ct < 1099511627776) (hf : 0 ≤ fo ∧ fo < 1099511627776) (hm : 0 < many ∧ many < 1073741824) : ∃ e, (Sm.seq (sSet 4 (dOp2 gAdd (dFix (dOp2 gAdd (dFix (dOp2 gIx (dName 0) (dVal (.str (Str.ofString "fold"))))) (dFix (dOp2 gMul (dFix (dOp2 gIx (dName 0) (dVal (.str (Str.ofString "count"))))) (dVal (.int 9109)))))) (dVal (.int 127)))) (sRet (dOp2 gMod (dFix (dOp2 gFdiv (dFix (dBlt gInt (dCons (dFix (dOp2 gMod (dFix (dOp2 gPow (dName 4) (dVal (.int 23)))) (dVal (.int 2305843009213693951)))) dNil))) (dVal (.int 128)))) (dName 1))))
    [.me x (pn cs i dg ct fo), .sh (.int many), s2, s3, s4] = .rt (.sh (.int (((fo + ct * 9109 + 127) ^ 23 % 2305843009213693951) / 128 % many))) (.me x (pn cs i dg ct fo) :: e) := by
  have h1 := r_ix (x := x) (m := pn cs i dg ct fo) (many := .sh (.int many)) (s2 := s2) (s3 := s3) (s4 := s4) ix_fold
  have h2 := r_ix (x := x) (m := pn cs i dg ct fo) (many := .sh (.int many)) (s2 := s2) (s3 := s3) (s4 := s4) ix_count
  have w1 : wOk (fo + ct * 9109 + 127) = true := by
    have : 0 ≤ fo + ct * 9109 + 127 := by omega
    have h2 : fo + ct * 9109 + 127 < 18446744073709551615 := by omega
    revert this h2
    generalize fo + ct * 9109 + 127 = z
    intro h0 h1
    cases z with
    | ofNat n => exact Nat.ble_eq_true_of_le (by have : (n : Int) < 18446744073709551615 := h1; omega)
    | negSucc n => exact absurd h0 (by simp)
  have g1 : (sSet 4 (dOp2 gAdd (dFix (dOp2 gAdd (dFix (dOp2 gIx (dName 0) (dVal (.str (Str.ofString "fold"))))) (dFix (dOp2 gMul (dFix (dOp2 gIx (dName 0) (dVal (.str (Str.ofString "count"))))) (dVal (.int 9109)))))) (dVal (.int 127)))) [.me x (pn cs i dg ct fo), .sh (.int many), s2, s3, s4] = .nx [.me x (pn cs i dg ct fo), .sh (.int many), s2, s3, .sh (.int (fo + ct * 9109 + 127))] := by
    rw [sSet, dOp2]
    simp only [M.bind]
    rw [dFix, dOp2]
    simp only [M.bind, h1, Out.bind]
    rw [dFix, dOp2]
    have wc : wOk ct = true := wk hc.1 hc.2
    simp [M.bind, h2, Out.bind, dVal, Opd.get, gAdd, gMul, wc, Slot.d, Out.fl, sPut]
  refine ⟨[.sh (.int many), s2, s3, .sh (.int (fo + ct * 9109 + 127))], ?_⟩
  refine seq_run (Q := fun r => r = _) (nx_of g1 ?_)
  simp [sRet, dOp2, dFix, M.bind, Out.bind, dName, dVal, Opd.get, Slot.rd, Slot.d, gPow, w1, gMod, dBlt, dCons, dNil, bltK, gets, gInt, Dl.g1, gFdiv, hm.1, Out.fl]

section
variable {cs : List Int} {i dg ct fo many : Int} {x : Addr} {s2 s3 s4 : Slot}
theorem rr {k d : D} (h : gIx (pn cs i dg ct fo).D k = some (.sh d)) : (dFix (dOp2 gIx (dName 0) (dVal k))) [.me x (pn cs i dg ct fo), .sh (.int many), s2, s3, s4] = .ok (.val d) [.me x (pn cs i dg ct fo), .sh (.int many), s2, s3, s4] := r_ix h
theorem cond_ok : (dAnd (dBool (dOp2 gEq (dFix (dOp2 gIx (dName 0) (dVal (.str (Str.ofString "digits"))))) (dVal (.int 0)))) (dBool (dOp2 gLt (dFix (dOp2 gIx (dName 0) (dVal (.str (Str.ofString "at"))))) (dFix (dBlt gLen (dCons (dFix (dOp2 gIx (dName 0) (dVal (.str (Str.ofString "cells"))))) dNil)))))) [.me x (pn cs i dg ct fo), .sh (.int many), s2, s3, s4] = .ok (decide (dg = 0) && decide (i < cs.length)) [.me x (pn cs i dg ct fo), .sh (.int many), s2, s3, s4] := by
  have h1 := rr (cs := cs) (i := i) (dg := dg) (ct := ct) (fo := fo) (many := many) (x := x) (s2 := s2) (s3 := s3) (s4 := s4) ix_digits
  have h2 := rr (cs := cs) (i := i) (dg := dg) (ct := ct) (fo := fo) (many := many) (x := x) (s2 := s2) (s3 := s3) (s4 := s4) ix_at
  have h3 := rr (cs := cs) (i := i) (dg := dg) (ct := ct) (fo := fo) (many := many) (x := x) (s2 := s2) (s3 := s3) (s4 := s4) ix_cells
  rw [dAnd]
  simp only [M.bind]
  rw [dBool, dOp2]
  simp only [M.bind, h1, Out.bind]
  by_cases hd : dg = 0
  · subst hd
    rw [dBool, dOp2]
    simp only [M.bind]
    simp only [dVal, Out.bind, Opd.get, gEq, M.bind, h2]
    rw [dFix, dBlt]
    simp only [M.bind, dCons, dNil, h3, Out.bind]
    simp [bltK, gets, Opd.get, gLen, Dl.g1, Slot.d, gLt]
  · have hb : (dg == 0) = false := by simpa using hd
    simp [dVal, Opd.get, gEq, hd, hb]
theorem cond2_ok {c : Int} : (dBool (dOp2 (gCmp fun i j => decide (j ≤ i)) (dName 2) (dFix (dOp2 gPow (dVal (.int 10)) (dVal (.int 18)))))) [.me x (pn cs i dg ct fo), .sh (.int many), .sh (.int c), s3, s4] = .ok (decide (1000000000000000000 ≤ c)) [.me x (pn cs i dg ct fo), .sh (.int many), .sh (.int c), s3, s4] := by
  have w : wOk 10 = true := by rfl
  simp [dBool, dOp2, dFix, M.bind, Out.bind, dName, dVal, Opd.get, Slot.rd, Slot.d, gPow, w, gCmp]
theorem cond3_ok : (dBool (dOp2 (gCmp fun i j => decide (j < i)) (dFix (dOp2 gIx (dName 0) (dVal (.str (Str.ofString "digits"))))) (dVal (.int 0)))) [.me x (pn cs i dg ct fo), .sh (.int many), s2, s3, s4] = .ok (decide (0 < dg)) [.me x (pn cs i dg ct fo), .sh (.int many), s2, s3, s4] := by
  have h1 := rr (cs := cs) (i := i) (dg := dg) (ct := ct) (fo := fo) (many := many) (x := x) (s2 := s2) (s3 := s3) (s4 := s4) ix_digits
  rw [dBool, dOp2]
  simp [M.bind, h1, Out.bind, dVal, Opd.get, gCmp]

theorem c1_ok {c : Int} (hi : 0 ≤ i) (hc : cs[i.toNat]? = some c) : (sSet 2 (dOp2 gIx (dFix (dOp2 gIx (dName 0) (dVal (.str (Str.ofString "cells"))))) (dFix (dOp2 gIx (dName 0) (dVal (.str (Str.ofString "at"))))))) [.me x (pn cs i dg ct fo), .sh (.int many), s2, s3, s4] = .nx [.me x (pn cs i dg ct fo), .sh (.int many), .sh (.int c), s3, s4] := by
  have h2 := rr (cs := cs) (i := i) (dg := dg) (ct := ct) (fo := fo) (many := many) (x := x) (s2 := s2) (s3 := s3) (s4 := s4) ix_at
  have h3 := rr (cs := cs) (i := i) (dg := dg) (ct := ct) (fo := fo) (many := many) (x := x) (s2 := s2) (s3 := s3) (s4 := s4) ix_cells
  have hlt := (List.getElem?_eq_some_iff.mp hc).1
  have e : atI (cs.map D.int) i = some (.int c) := by
    unfold atI ixN
    rw [if_pos hi, List.length_map, if_pos (by omega)]
    show (cs.map D.int)[i.toNat]? = _
    rw [List.getElem?_map, hc]; rfl
  rw [sSet, dOp2]
  simp [M.bind, h3, h2, Out.bind, Opd.get, gIx, e, Out.fl, sPut]
theorem c2_ok : (sPutIx 0 (dFix (dOp2 gAdd (dFix (dOp2 gIx (dName 0) (dVal (.str (Str.ofString "at"))))) (dVal (.int 1)))) (dVal (.str (Str.ofString "at")))) [.me x (pn cs i dg ct fo), .sh (.int many), s2, s3, s4] = .nx [.me x (pn cs (i + 1) dg ct fo), .sh (.int many), s2, s3, s4] := by
  refine p_ix (dv := .int (i + 1)) ?_ pt_at
  have := rr (cs := cs) (i := i) (dg := dg) (ct := ct) (fo := fo) (many := many) (x := x) (s2 := s2) (s3 := s3) (s4 := s4) ix_at
  rw [dFix, dOp2]
  simp [M.bind, this, Out.bind, dVal, Opd.get, gAdd, Slot.d]
theorem c3_ok {c : Int} : (sPutIx 0 (dFix (dOp2 gSub (dName 2) (dFix (dOp2 gPow (dVal (.int 10)) (dVal (.int 18)))))) (dVal (.str (Str.ofString "digits")))) [.me x (pn cs i dg ct fo), .sh (.int many), .sh (.int c), s3, s4] = .nx [.me x (pn cs i (c - 1000000000000000000) ct fo), .sh (.int many), .sh (.int c), s3, s4] := by
  refine p_ix (dv := .int (c - 1000000000000000000)) ?_ pt_digits
  have w : wOk 10 = true := by rfl
  simp [dFix, dOp2, M.bind, Out.bind, dName, dVal, Opd.get, Slot.rd, Slot.d, gPow, w, Dl.gSub]
theorem c4_ok {c : Int} (hf : 0 ≤ fo ∧ fo < 1099511627776) : (sPutIx 0 (dFix (dOp2 gMod (dFix (dBlt gInt (dCons (dFix (dOp2 gAdd (dFix (dOp2 gMul (dFix (dOp2 gIx (dName 0) (dVal (.str (Str.ofString "fold"))))) (dVal (.int 73121)))) (dName 2))) dNil))) (dVal (.int 2147483543)))) (dVal (.str (Str.ofString "fold")))) [.me x (pn cs i dg ct fo), .sh (.int many), .sh (.int c), s3, s4] = .nx [.me x (pn cs i dg ct ((fo * 73121 + c) % 2147483543)), .sh (.int many), .sh (.int c), s3, s4] := by
  refine p_ix (dv := .int ((fo * 73121 + c) % 2147483543)) ?_ pt_fold
  have h1 := rr (cs := cs) (i := i) (dg := dg) (ct := ct) (fo := fo) (many := many) (x := x) (s2 := .sh (.int c)) (s3 := s3) (s4 := s4) ix_fold
  have w := wk hf.1 hf.2
  have m1 : gMul (.int fo) (.int 73121) = some (.sh (.int (fo * 73121))) := by simp [gMul, w]
  have m2 : gMod (.int (fo * 73121 + c)) (.int 2147483543) = some (.sh (.int ((fo * 73121 + c) % 2147483543))) := by simp [gMod]
  have k1 := fix_of (op2_of (fb := dVal (.int 73121)) h1 rfl rfl rfl m1) Slot.noConfusion
  have k2 := fix_of (op2_of (fb := dName 2) (ob := .at 2) (y := .int c) (g := gAdd) k1 rfl rfl rfl rfl) Slot.noConfusion
  have k3 := fix_of (blt1_of (g := gInt) k2 rfl rfl) Slot.noConfusion
  exact fix_of (op2_of (fb := dVal (.int 2147483543)) k3 rfl rfl rfl m2) Slot.noConfusion
theorem d1_ok (hm : 0 < many) : (sSet 3 (dOp2 gMod (dFix (dBlt gInt (dCons (dFix (dOp2 gIx (dName 0) (dVal (.str (Str.ofString "digits"))))) dNil))) (dName 1))) [.me x (pn cs i dg ct fo), .sh (.int many), s2, s3, s4] = .nx [.me x (pn cs i dg ct fo), .sh (.int many), s2, .sh (.int (dg % many)), s4] := by
  have h1 := rr (cs := cs) (i := i) (dg := dg) (ct := ct) (fo := fo) (many := many) (x := x) (s2 := s2) (s3 := s3) (s4 := s4) ix_digits
  have m : gMod (.int dg) (.int many) = some (.sh (.int (dg % many))) := by simp [gMod, hm]
  have := op2_of (fb := dName 1) (ob := .at 1) (fix_of (blt1_of (g := gInt) h1 rfl rfl)) rfl rfl rfl m
  unfold sSet
  rw [this]; rfl
theorem d2_ok (hm : 0 < many ∧ many < 1073741824) : (sPutIx 0 (dFix (dOp2 gFdiv (dFix (dOp2 gIx (dName 0) (dVal (.str (Str.ofString "digits"))))) (dName 1))) (dVal (.str (Str.ofString "digits")))) [.me x (pn cs i dg ct fo), .sh (.int many), s2, s3, s4] = .nx [.me x (pn cs i (dg / many) ct fo), .sh (.int many), s2, s3, s4] := by
  refine p_ix (dv := .int (dg / many)) ?_ pt_digits
  have h1 := rr (cs := cs) (i := i) (dg := dg) (ct := ct) (fo := fo) (many := many) (x := x) (s2 := s2) (s3 := s3) (s4 := s4) ix_digits
  rw [dFix, dOp2]
  simp [M.bind, h1, Out.bind, dName, Opd.get, Slot.rd, gFdiv, hm, Slot.d]
/-- what a draw gives -/
theorem draw_ok (hi : 0 ≤ i) (hd : 0 ≤ dg) (hc : 0 ≤ ct ∧ ct + 1 < 1099511627776) (hf : 0 ≤ fo ∧ fo < 1099511627776) (hm : 0 < many ∧ many < 1073741824) : ∃ d i' dg' fo', (∀ x, fnM 5 s__law_draw x (pn cs i dg ct fo) [.int many] = .ok (pn cs i' dg' (ct + 1) fo') (.sh (.int d))) ∧ (0 ≤ d ∧ d < many) ∧ 0 ≤ i' ∧ 0 ≤ dg' ∧ 0 ≤ fo' ∧ fo' < 1099511627776 := by
  have hc' : 0 ≤ ct + 1 ∧ ct + 1 < 1099511627776 := ⟨by omega, hc.2⟩
  have key : ∀ (x : Addr) (e0 : Dl.Env), e0 = [.me x (pn cs i dg ct fo), .sh (.int many), .un, .un, .un] → True := fun _ _ _ => trivial
  -- the state behind the second statement
  have mid : ∃ i' dg' fo', (0 ≤ i' ∧ 0 ≤ dg' ∧ 0 ≤ fo' ∧ fo' < 1099511627776) ∧ ∀ x : Addr, ∃ s2, (sIf (dAnd (dBool (dOp2 gEq (dFix (dOp2 gIx (dName 0) (dVal (.str (Str.ofString "digits"))))) (dVal (.int 0)))) (dBool (dOp2 gLt (dFix (dOp2 gIx (dName 0) (dVal (.str (Str.ofString "at"))))) (dFix (dBlt gLen (dCons (dFix (dOp2 gIx (dName 0) (dVal (.str (Str.ofString "cells"))))) dNil)))))) (Sm.seq (sSet 2 (dOp2 gIx (dFix (dOp2 gIx (dName 0) (dVal (.str (Str.ofString "cells"))))) (dFix (dOp2 gIx (dName 0) (dVal (.str (Str.ofString "at"))))))) (Sm.seq (sPutIx 0 (dFix (dOp2 gAdd (dFix (dOp2 gIx (dName 0) (dVal (.str (Str.ofString "at"))))) (dVal (.int 1)))) (dVal (.str (Str.ofString "at")))) (sIf (dBool (dOp2 (gCmp fun i j => decide (j ≤ i)) (dName 2) (dFix (dOp2 gPow (dVal (.int 10)) (dVal (.int 18)))))) (sPutIx 0 (dFix (dOp2 gSub (dName 2) (dFix (dOp2 gPow (dVal (.int 10)) (dVal (.int 18)))))) (dVal (.str (Str.ofString "digits")))) (sPutIx 0 (dFix (dOp2 gMod (dFix (dBlt gInt (dCons (dFix (dOp2 gAdd (dFix (dOp2 gMul (dFix (dOp2 gIx (dName 0) (dVal (.str (Str.ofString "fold"))))) (dVal (.int 73121)))) (dName 2))) dNil))) (dVal (.int 2147483543)))) (dVal (.str (Str.ofString "fold"))))))) sNext) [.me x (pn cs i dg (ct + 1) fo), .sh (.int many), .un, .un, .un] = .nx [.me x (pn cs i' dg' (ct + 1) fo'), .sh (.int many), s2, .un, .un] := by
    by_cases hcond : dg = 0 ∧ i < cs.length
    · obtain ⟨h0, hlt⟩ := hcond
      have hn : i.toNat < cs.length := by omega
      obtain ⟨c, hcv⟩ : ∃ c, cs[i.toNat]? = some c := ⟨_, List.getElem?_eq_getElem hn⟩
      by_cases hbig : 1000000000000000000 ≤ c
      · refine ⟨i + 1, c - 1000000000000000000, fo, ⟨by omega, by omega, hf.1, hf.2⟩, fun x => ⟨.sh (.int c), ?_⟩⟩
        rw [sIf, cond_ok]
        simp only [Out.fl, h0, hlt, decide_true, Bool.and_self]
        refine seq_run (Q := fun r => r = _) (nx_of (c1_ok hi hcv) ?_)
        refine seq_run (Q := fun r => r = _) (nx_of c2_ok ?_)
        rw [sIf, cond2_ok, decide_eq_true hbig]
        exact c3_ok
      · refine ⟨i + 1, dg, (fo * 73121 + c) % 2147483543, ⟨by omega, hd, Int.emod_nonneg _ (by omega), by have := Int.emod_lt_of_pos (fo * 73121 + c) (show (0 : Int) < 2147483543 by omega); omega⟩, fun x => ⟨.sh (.int c), ?_⟩⟩
        rw [sIf, cond_ok]
        simp only [Out.fl, h0, hlt, decide_true, Bool.and_self]
        refine seq_run (Q := fun r => r = _) (nx_of (c1_ok hi hcv) ?_)
        refine seq_run (Q := fun r => r = _) (nx_of c2_ok ?_)
        rw [sIf, cond2_ok, decide_eq_false hbig]
        exact c4_ok hf
    · refine ⟨i, dg, fo, ⟨hi, hd, hf.1, hf.2⟩, fun x => ⟨.un, ?_⟩⟩
      rw [sIf, cond_ok]
      have : (decide (dg = 0) && decide (i < cs.length)) = false := by
        rw [Bool.eq_false_iff]; intro z
        rw [Bool.and_eq_true, decide_eq_true_eq, decide_eq_true_eq] at z
        exact hcond z
      rw [this]; rfl
  obtain ⟨i', dg', fo', ⟨b1, b2, b3, b4⟩, mid⟩ := mid
  by_cases hp : 0 < dg'
  · refine ⟨dg' % many, i', dg' / many, fo', fun x => ?_, ⟨Int.emod_nonneg _ (by omega), Int.emod_lt_of_pos _ hm.1⟩, b1, Int.ediv_nonneg b2 (by omega), b3, b4⟩
    obtain ⟨s2, mid⟩ := mid x
    unfold fnM
    show (s__law_draw [.me x (pn cs i dg ct fo), .sh (.int many), .un, .un, .un]).rm x = _
    unfold s__law_draw
    refine seq_run (Q := fun r => r.rm x = _) (nx_of dr1 ?_)
    refine seq_run (Q := fun r => r.rm x = _) (nx_of mid ?_)
    have h3 : Nx ((sIf (dBool (dOp2 (gCmp fun i j => decide (j < i)) (dFix (dOp2 gIx (dName 0) (dVal (.str (Str.ofString "digits"))))) (dVal (.int 0)))) (Sm.seq (sSet 3 (dOp2 gMod (dFix (dBlt gInt (dCons (dFix (dOp2 gIx (dName 0) (dVal (.str (Str.ofString "digits"))))) dNil))) (dName 1))) (Sm.seq (sPutIx 0 (dFix (dOp2 gFdiv (dFix (dOp2 gIx (dName 0) (dVal (.str (Str.ofString "digits"))))) (dName 1))) (dVal (.str (Str.ofString "digits")))) (sRetN 3))) sNext) [.me x (pn cs i' dg' (ct + 1) fo'), .sh (.int many), s2, .un, .un]) (fun _ => False) ∨ (sIf (dBool (dOp2 (gCmp fun i j => decide (j < i)) (dFix (dOp2 gIx (dName 0) (dVal (.str (Str.ofString "digits"))))) (dVal (.int 0)))) (Sm.seq (sSet 3 (dOp2 gMod (dFix (dBlt gInt (dCons (dFix (dOp2 gIx (dName 0) (dVal (.str (Str.ofString "digits"))))) dNil))) (dName 1))) (Sm.seq (sPutIx 0 (dFix (dOp2 gFdiv (dFix (dOp2 gIx (dName 0) (dVal (.str (Str.ofString "digits"))))) (dName 1))) (dVal (.str (Str.ofString "digits")))) (sRetN 3))) sNext) [.me x (pn cs i' dg' (ct + 1) fo'), .sh (.int many), s2, .un, .un] = .rt (.sh (.int (dg' % many))) [.me x (pn cs i' (dg' / many) (ct + 1) fo'), .sh (.int many), s2, .un, .un] := by
      refine .inr ?_
      rw [sIf, cond3_ok, decide_eq_true hp]
      refine seq_run (Q := fun r => r = _) (nx_of (d1_ok hm.1) ?_)
      exact seq_run (Q := fun r => r = _) (nx_of (d2_ok hm) rfl)
    rcases h3 with ⟨_, _, z⟩ | h3
    · exact z.elim
    · rw [Sm.seq, h3]
      exact if_pos rfl
  · have hz : ¬ 0 < dg' := hp
    refine ⟨((fo' + (ct + 1) * 9109 + 127) ^ 23 % 2305843009213693951) / 128 % many, i', dg', fo', fun x => ?_, ⟨Int.emod_nonneg _ (by omega), Int.emod_lt_of_pos _ hm.1⟩, b1, b2, b3, b4⟩
    obtain ⟨s2, mid⟩ := mid x
    unfold fnM
    show (s__law_draw [.me x (pn cs i dg ct fo), .sh (.int many), .un, .un, .un]).rm x = _
    unfold s__law_draw
    refine seq_run (Q := fun r => r.rm x = _) (nx_of dr1 ?_)
    refine seq_run (Q := fun r => r.rm x = _) (nx_of mid ?_)
    refine seq_run (Q := fun r => r.rm x = _) (nx_of (e := [.me x (pn cs i' dg' (ct + 1) fo'), .sh (.int many), s2, .un, .un]) ?_ ?_)
    · rw [sIf, cond3_ok, decide_eq_false hz]; rfl
    · obtain ⟨e, k⟩ := dr3' (cs := cs) (i := i') (dg := dg') (fo := fo') (many := many) (x := x) (s2 := s2) (s3 := .un) (s4 := .un) (ct := ct + 1) hc' ⟨b3, b4⟩ hm
      rw [k]
      exact if_pos rfl
end
end Tp
set_option Elab.async false
set_option maxRecDepth 100000
set_option maxHeartbeats 4000000
namespace Tp
open PySem PySem.Spec PyProof.Rows L2 Dl
/-- a pick: one of the items, the pen goes on -/
theorem pick_ok {cs : List Int} {i dg ct fo : Int} {l : List D} {d0 : D} (hs : d0 = .lst l ∨ d0 = .tz l ∨ d0 = .tup l) (hl : 0 < l.length ∧ l.length < 1073741824) (hi : 0 ≤ i) (hd : 0 ≤ dg) (hc : 0 ≤ ct ∧ ct + 1 < 1099511627776) (hf : 0 ≤ fo ∧ fo < 1099511627776) :
    ∃ d i' dg' fo', (∀ x, fnM 2 s__law_pick x (pn cs i dg ct fo) [d0] = .ok (pn cs i' dg' (ct + 1) fo') (.sh d)) ∧ d ∈ l ∧ 0 ≤ i' ∧ 0 ≤ dg' ∧ 0 ≤ fo' ∧ fo' < 1099511627776 := by
  obtain ⟨d, i', dg', fo', h1, h2, h3⟩ := draw_ok (cs := cs) (i := i) (dg := dg) (ct := ct) (fo := fo) (many := l.length) hi hd hc hf ⟨by omega, by omega⟩
  have hdraw : F__law_draw (pn cs i dg ct fo) [.int l.length] = .ok (pn cs i' dg' (ct + 1) fo') (.sh (.int d)) := specM_eq h1
  have hn : d.toNat < l.length := by omega
  refine ⟨l[d.toNat], i', dg', fo', fun x => ?_, List.getElem_mem hn, h3⟩
  have at_ : atI l d = some l[d.toNat] := by
    unfold atI ixN
    rw [if_pos h2.1, if_pos h2.2]
    exact List.getElem?_eq_getElem hn
  have hlen : gLen [d0] = some (.sh (.int l.length)) := by rcases hs with rfl | rfl | rfl <;> rfl
  have hix : gIx d0 (.int d) = some (.sh l[d.toNat]) := by
    rcases hs with rfl | rfl | rfl <;> (show (atI l d).map Slot.sh = _; rw [at_]; rfl)
  have a1 := fix_of (blt1_of (g := gLen) (f := dName 1) (e := [.me x (pn cs i dg ct fo), .sh d0]) (o := .at 1) rfl rfl hlen) Slot.noConfusion
  have a2 : (dCallM 1 0 F__law_draw (dCons (dName 0) (dCons (dFix (dBlt gLen (dCons (dName 1) dNil))) dNil))) [.me x (pn cs i dg ct fo), .sh d0] = .ok (.sh (.int d)) [.me x (pn cs i' dg' (ct + 1) fo'), .sh d0] := by
    have e : (dCons (dName 0) (dCons (dFix (dBlt gLen (dCons (dName 1) dNil))) dNil)) [.me x (pn cs i dg ct fo), .sh d0] = .ok [.at 0, .val (.int l.length)] [.me x (pn cs i dg ct fo), .sh d0] := by
      exact cons_of rfl (cons_of a1 rfl)
    unfold dCallM M.bind
    rw [e]
    show callMK 1 0 F__law_draw [.at 0, .val (.int l.length)] [.me x (pn cs i dg ct fo), .sh d0] = _
    unfold callMK
    show (match F__law_draw (pn cs i dg ct fo) [.int l.length] with
        | .ok m' t => Out.ok t (([.me x (pn cs i dg ct fo), .sh d0] : Dl.Env).set 0 ((Slot.me x (pn cs i dg ct fo)).put m'))
        | .exc x' => .exc x' _
        | .stuck => .stuck) = _
    rw [hdraw]; rfl
  have a3 := op2_of (fa := dName 1) (oa := .at 1) (e := [.me x (pn cs i dg ct fo), .sh d0]) (e1 := [.me x (pn cs i dg ct fo), .sh d0]) rfl (fix_of a2 Slot.noConfusion) rfl rfl hix
  unfold fnM s__law_pick sRet
  show ((Out.fl (dOp2 gIx (dName 1) _ [.me x (pn cs i dg ct fo), .sh d0]) _).rm x) = _
  rw [a3]
  exact if_pos rfl
end Tp
set_option Elab.async false
set_option linter.all false
set_option maxRecDepth 100000
set_option maxHeartbeats 4000000
namespace Tp
open PySem PySem.Spec PyProof.Rows L2 Dl
variable {e : Dl.Env}
def okS (k n : Nat) (d : D) : Prop := D.plain k d = true ∧ ∃ m, D.rep d = some m ∧ m ≤ n
def okA (j n : Nat) (d : D) : Prop := ∀ k, okS (k + j) n d
theorem okA.up {j n : Nat} {d : D} (h : okA j n d) : okA (j + 1) n d := fun k => by
  have := h (k + 1)
  rwa [show k + 1 + j = k + (j + 1) by omega] at this
theorem okA.le {j n n' : Nat} {d : D} (h : okA j n d) (e : n ≤ n') : okA j n' d := fun k => ⟨(h k).1, let ⟨m, h1, h2⟩ := (h k).2; ⟨m, h1, Nat.le_trans h2 e⟩⟩
theorem plain_non (k : Nat) : D.plain k .non = true := by cases k <;> simp [D.plain]
theorem plain_bl (k : Nat) (b : Bool) : D.plain k (.bl b) = true := by cases k <;> simp [D.plain]
theorem plain_int (k : Nat) (i : Int) : D.plain k (.int i) = true := by cases k <;> simp [D.plain]
theorem plain_str (k : Nat) (x : Str) : D.plain k (.str x) = PyData.strOk x := by cases k <;> simp [D.plain]
theorem okA_int {j a : Nat} (h : a < 1000) : okA j 4 (.int a) := fun k => ⟨plain_int _ _, 4, by
  have : smallI (a : Int) = true := by
    unfold smallI
    simp; omega
  simp [D.rep, this], Nat.le_refl _⟩
theorem okA_non {j : Nat} : okA j 5 .non := fun k => ⟨plain_non _, 4, by simp [D.rep], by omega⟩
theorem okA_bl {j : Nat} {b : Bool} : okA j 5 (.bl b) := fun k => ⟨plain_bl _ _, 5, by simp [D.rep], by omega⟩
theorem okA_str {j n : Nat} {x : Str} (h : PyData.strOk x = true) (hn : (reprText x).length ≤ n) : okA j n (.str x) := fun k => ⟨by rw [plain_str]; exact h, (reprText x).length, by simp [D.rep], hn⟩
theorem okL {k n : Nat} : ∀ {l : List D}, (∀ d ∈ l, okS k n d) → plainL k l = true ∧ ∃ m, Dl.repL' l = some m ∧ m ≤ l.length * (n + 2)
  | [], _ => ⟨by simp [plainL], 0, by simp [repL'], by simp⟩
  | d :: l, h => by
    obtain ⟨h1, m1, h2, h3⟩ := h d (List.mem_cons_self ..)
    obtain ⟨k1, m2, k2, k3⟩ := okL (l := l) fun d hd => h d (List.mem_cons_of_mem _ hd)
    refine ⟨by simp [plainL, h1, k1], m1 + 2 + m2, by simp [repL', h2, k2], ?_⟩
    rw [List.length_cons, Nat.add_mul]; omega
theorem okA_lst {j n m : Nat} {l : List D} (h : ∀ d ∈ l, okA j n d) (hm : l.length * (n + 2) + 4 ≤ m) : okA (j + 1) m (.lst l) := fun k => by
  obtain ⟨h1, m1, h2, h3⟩ := okL (k := k + j) fun d hd => h d hd k
  refine ⟨by rw [← Nat.add_assoc]; simpa [D.plain] using h1, m1 + 2, by simp [D.rep, h2], by omega⟩
theorem okA_tup {j n m : Nat} {l : List D} (h : ∀ d ∈ l, okA j n d) (hm : l.length * (n + 2) + 4 ≤ m) : okA (j + 1) m (.tup l) := fun k => by
  obtain ⟨h1, m1, h2, h3⟩ := okL (k := k + j) fun d hd => h d hd k
  refine ⟨by rw [← Nat.add_assoc]; simpa [D.plain] using h1, m1 + 4, by simp [D.rep, h2], by omega⟩
mutual
theorem same_refl : ∀ (k : Nat) (d : D), D.plain k d = true → D.same d d = true
  | k, .non, _ => by simp [D.same]
  | k, .bl b, _ => by simp [D.same]
  | k, .int i, _ => by simp [D.same]
  | k, .str x, _ => by simp [D.same]
  | k, .lst l, h => by
    cases k with
    | zero => simp [D.plain] at h
    | succ k => simp only [D.plain] at h; simp only [D.same]; exact same_reflL k l h
  | k, .fz l, h => by
    cases k with
    | zero => simp [D.plain] at h
    | succ k => simp only [D.plain] at h; simp only [D.same]; exact same_reflL k l h
  | k, .tup l, h => by
    cases k with
    | zero => simp [D.plain] at h
    | succ k => simp only [D.plain] at h; simp only [D.same]; exact same_reflL k l h
  | k, .tz l, h => by
    cases k with
    | zero => simp [D.plain] at h
    | succ k => simp only [D.plain] at h; simp only [D.same]; exact same_reflL k l h
  | k, .dct t ks vs, h => by cases k <;> simp [D.plain] at h
  | k, .ins c ns vs, h => by cases k <;> simp [D.plain] at h
  | k, .exn c ns vs, h => by cases k <;> simp [D.plain] at h
theorem same_reflL : ∀ (k : Nat) (l : List D), plainL k l = true → sameL l l = true
  | k, [], _ => by simp [sameL]
  | k, d :: l, h => by
    simp only [plainL, Bool.and_eq_true] at h
    simp only [sameL, Bool.and_eq_true]
    exact ⟨same_refl k d h.1, same_reflL k l h.2⟩
end
theorem repOk_A {j n : Nat} {d : D} (h : okA j n d) (hj : j ≤ 64) (hn : n ≤ 16777216) (hs : isSq d = true) : repOk d = true ∧ D.same d d = true := by
  obtain ⟨h1, m, h2, h3⟩ := h (64 - j)
  rw [Nat.sub_add_cancel hj] at h1
  refine ⟨?_, same_refl 64 d h1⟩
  unfold repOk
  rw [hs, h1, h2]
  show Nat.ble m 16777216 = true
  exact Nat.ble_eq_true_of_le (by omega)
theorem bool_of {f : M Slot} {e e' : Dl.Env} {b : Bool} (h : f e = .ok (.sh (.bl b)) e') : dBool f e = .ok b e' := by
  unfold dBool M.bind
  rw [h]; rfl
theorem set_same {α : Type} : ∀ {l : List α} {i : Nat} {a : α}, l[i]? = some a → l.set i a = l
  | [], _, _, h => by simp at h
  | x :: l, 0, a, h => by simp at h; subst h; rfl
  | x :: l, i + 1, a, h => by rw [List.set_cons_succ, set_same (by simpa using h)]
structure Pen (P : Me → Slot) : Prop where
  own : ∀ m, (P m).own? = some m
  put : ∀ m m', (P m).put m' = P m'
  un : ∀ m, P m ≠ .un
theorem name_of {e : Dl.Env} {i : Nat} {s : Slot} (h : e[i]? = some s) (hs : s ≠ .un) : dName i e = .ok (.at i) e := by
  unfold dName
  rw [h]
  cases s <;> first | exact absurd rfl hs | rfl
theorem callM_of {P : Me → Slot} (hP : Pen P) {n i : Nat} {Fn : Me → List D → Rm} {fa : M (List Opd)} {e : Dl.Env} {m m' : Me} {os : List Opd} {ds : List D} {s : Slot} (h : e[i]? = some (P m)) (ha : fa e = .ok os e) (hv : vals os = some ds) (hl : Nat.beq ds.length n = true) (hF : Fn m ds = .ok m' s) :
    dCallM n i Fn (dCons (dName i) fa) e = .ok s (e.set i (P m')) := by
  unfold dCallM M.bind
  rw [cons_of (name_of h (hP.un m)) ha]
  show callMK n i Fn (.at i :: os) e = _
  unfold callMK
  simp only
  rw [Nat.beq_refl, hv, h]
  simp only
  rw [hl, hP.own]
  simp only
  rw [hF]
  simp only
  rw [hP.put]
theorem take_of {e : Dl.Env} {i : Nat} {d : D} (h : e[i]? = some (.sh d)) : dFix (dTake i) e = .ok (.val d) e := fix_of (s := .sh d) (by unfold dTake; rw [h]) Slot.noConfusion
theorem nl (e : Dl.Env) : dNil e = .ok [] e := rfl
theorem set_get {i j : Nat} {s : Slot} (h : i ≠ j) : (e.set i s)[j]? = e[j]? := List.getElem?_set_ne h
theorem keep_un {v : Nat} {s : Slot} (hv : e[v]? = some s) (hs : s = .un ∨ ∃ d, s = .sh d) : unwipe e (wipeE e [v]) [v] = e := by
  show ((e.set v .un)).set v (match e[v]? with | some s => keepSh s | none => .un) = e
  rw [hv, List.set_set]
  have : keepSh s = s := by
    rcases hs with rfl | ⟨d, rfl⟩ <;> rfl
  simp only [this]
  exact set_same hv
theorem lc_of {f : M (List D)} {v : Nat} {elt : M Slot} {e0 : Dl.Env} {items : List D} {φ : D → D} (hf : f e0 = .ok items e) (hl : items.length ≤ 16000000) (hv : e[v]? = some .un) (h : ∀ d ∈ items, ∃ s, elt (e.set v (.sh d)) = .ok s (e.set v (.sh d)) ∧ s ≠ .un ∧ s.d = φ d) :
    dLc f [v] (gSet v) dYes elt e0 = .ok (.ol (items.map φ)) e := by
  have hvl : v < e.length := (List.getElem?_eq_some_iff.mp hv).1
  have w : wipeE e [v] = e := set_same hv
  refine dLc_map hf (lenOk_of hl) (keep_un hv (.inl rfl)) fun d hd => ?_
  obtain ⟨s, h1, h2, h3⟩ := h d hd
  rw [w]
  refine ⟨e.set v (.sh d), e.set v (.sh d), s, e.set v (.sh d), if_pos hvl, rfl, h1, h2, h3, ?_⟩
  show (e.set v (.sh d)).set v .un = _
  rw [List.set_set]
  exact set_same hv
theorem blt2_of {g : List D → Option Slot} {f1 f2 : M Opd} {e e1 e2 : Dl.Env} {d1 d2 : D} {s : Slot} (h1 : f1 e = .ok (.val d1) e1) (h2 : f2 e1 = .ok (.val d2) e2) (hg : g [d1, d2] = some s) : dBlt g (dCons f1 (dCons f2 dNil)) e = .ok s e2 := by
  unfold dBlt M.bind
  rw [cons_of h1 (cons_of h2 (nl e2))]
  show (match g [d1, d2] with
    | some s => Out.ok s e2
    | none => .stuck) = _
  rw [hg]
theorem set_of' {f : M Slot} {e e' : Dl.Env} {i : Nat} {d : D} (h : f e = .ok (.sh d) e') (hi : i < e'.length) : sSet i f e = .nx (e'.set i (.sh d)) := by
  unfold sSet
  rw [h]
  exact if_pos hi
theorem name_at {i : Nat} {d : D} (h : e[i]? = some (.sh d)) : dName i e = .ok (.at i) e ∧ (Opd.at i).get e = some d := ⟨name_of h Slot.noConfusion, by unfold Opd.get; simp only [h]; rfl⟩
theorem take_ol {i : Nat} {l : List D} (h : e[i]? = some (.ol l)) : dFix (dTake i) e = .ok (.val (.lst l)) (e.set i (.sh (.lst l))) := fix_of (s := .sh (.lst l)) (by unfold dTake; rw [h]; rfl) Slot.noConfusion
theorem callM_of' {P : Me → Slot} (hP : Pen P) {n i : Nat} {Fn : Me → List D → Rm} {fa : M (List Opd)} {e e' : Dl.Env} {m0 m m' : Me} {os : List Opd} {ds : List D} {s : Slot} (h0 : e[i]? = some (P m0)) (ha : fa e = .ok os e') (h : e'[i]? = some (P m)) (hv : vals os = some ds) (hl : Nat.beq ds.length n = true) (hF : Fn m ds = .ok m' s) :
    dCallM n i Fn (dCons (dName i) fa) e = .ok s (e'.set i (P m')) := by
  unfold dCallM M.bind
  rw [cons_of (name_of h0 (hP.un m0)) ha]
  show callMK n i Fn (.at i :: os) e' = _
  unfold callMK
  simp only
  rw [Nat.beq_refl, hv, h]
  simp only
  rw [hl, hP.own]
  simp only
  rw [hF]
  simp only
  rw [hP.put]
theorem tup2_of {x y : M Slot} {s s' : Slot} {e e1 e2 : Dl.Env} (hx : x e = .ok s e1) (hs : s ≠ .un) (hy : y e1 = .ok s' e2) (hs' : s' ≠ .un) : dFix (dTup (dCons (dFix x) (dCons (dFix y) dNil))) e = .ok (.val (.tup [s.d, s'.d])) e2 := by
  refine fix_of (s := .sh (.tup [s.d, s'.d])) ?_ Slot.noConfusion
  unfold dTup M.bind
  rw [cons_of (fix_of hx hs) (cons_of (fix_of hy hs') (nl e2))]
  rfl
theorem to2_of {F : M Opd} {e e' : Dl.Env} {i j : Nat} {d1 d2 : D} (h : F e = .ok (.val (.tup [d1, d2])) e') (hi : i < e'.length) (hj : j < e'.length) : sTo (gTupD 2 (gsCons (gSet i) (gsCons (gSet j) gsNil))) F e = .nx ((e'.set i (.sh d1)).set j (.sh d2)) := by
  have g1 : gSet i d1 e' = some (e'.set i (.sh d1)) := if_pos hi
  have g2 : gSet j d2 (e'.set i (.sh d1)) = some ((e'.set i (.sh d1)).set j (.sh d2)) := if_pos (by rw [List.length_set]; exact hj)
  unfold sTo
  rw [h]
  show (match gTupD 2 (gsCons (gSet i) (gsCons (gSet j) gsNil)) (.tup [d1, d2]) e' with
    | some e => Fl.nx e
    | none => .stuck) = _
  have : gTupD 2 (gsCons (gSet i) (gsCons (gSet j) gsNil)) (.tup [d1, d2]) e' = some ((e'.set i (.sh d1)).set j (.sh d2)) := by
    simp only [gTupD, gsCons, gsNil, g1, g2, List.length_cons, List.length_nil, if_true]
    first | done | rfl
  rw [this]
theorem okA_big {j : Nat} {i : Int} (h : bigI i = true) : okA j 45 (.int i) := fun k => by
  refine ⟨plain_int _ _, ?_⟩
  cases q : smallI i with
  | true => exact ⟨4, by simp [D.rep, q], by omega⟩
  | false => exact ⟨45, by simp [D.rep, q, h], by omega⟩
end Tp
set_option Elab.async false
set_option linter.all false
set_option maxRecDepth 100000
set_option maxHeartbeats 4000000
namespace Tp
open PySem PySem.Spec PyProof.Rows L2 Dl
def bls (k : Nat) : List D := (List.range 17).map fun i => .bl (i == k)
/-- what is known of a kind -/
structure Kd (k : Nat) (e : D) (fl : List D) (a b : D) : Prop where
  one : F__law_one [.int k, a, b] = .ok (.sh (.tup [e, .tup fl]))
  cut : fl = Dl.cutD [a, b] none (some (fl.length : Int))
  len : fl.length < 3
  pl : isExn tl_PlaneError e = some true
  ve : isExn tl_ValueError e = some true
  wh : F__law_which [e] = .ok (.ol (bls k))
  eq : gNe (.lst (bls k)) (.lst ((rangeD 0 17).map fun d => match d with | .int i => .bl (i == (k : Int)) | _ => .non)) = some (.sh (.bl false))
theorem kd0 (a b : D) : Kd 0 (.exn "BadName" ["name"] [a]) [a] a b := ⟨by rfl, by rfl, by simp, by rfl, by rfl, by rfl, by rfl⟩
theorem kd1 (a b : D) : Kd 1 (.exn "NoName" ["name"] [a]) [a] a b := ⟨by rfl, by rfl, by simp, by rfl, by rfl, by rfl, by rfl⟩
theorem kd2 (a b : D) : Kd 2 (.exn "TakenName" ["name"] [a]) [a] a b := ⟨by rfl, by rfl, by simp, by rfl, by rfl, by rfl, by rfl⟩
theorem kd3 (a b : D) : Kd 3 (.exn "BadLines" ["lines"] [a]) [a] a b := ⟨by rfl, by rfl, by simp, by rfl, by rfl, by rfl, by rfl⟩
theorem kd4 (a b : D) : Kd 4 (.exn "BadPlane" ["plane"] [a]) [a] a b := ⟨by rfl, by rfl, by simp, by rfl, by rfl, by rfl, by rfl⟩
theorem kd5 (a b : D) : Kd 5 (.exn "BadTable" ["table"] [a]) [a] a b := ⟨by rfl, by rfl, by simp, by rfl, by rfl, by rfl, by rfl⟩
theorem kd6 (a b : D) : Kd 6 (.exn "BadLoop" ["loop"] [a]) [a] a b := ⟨by rfl, by rfl, by simp, by rfl, by rfl, by rfl, by rfl⟩
theorem kd7 (a b : D) : Kd 7 (.exn "BadField" ["field"] [a]) [a] a b := ⟨by rfl, by rfl, by simp, by rfl, by rfl, by rfl, by rfl⟩
theorem kd8 (a b : D) : Kd 8 (.exn "BadRing" ["ring"] [a]) [a] a b := ⟨by rfl, by rfl, by simp, by rfl, by rfl, by rfl, by rfl⟩
theorem kd9 (a b : D) : Kd 9 (.exn "BadRow" ["row"] [a]) [a] a b := ⟨by rfl, by rfl, by simp, by rfl, by rfl, by rfl, by rfl⟩
theorem kd10 (a b : D) : Kd 10 (.exn "BadMove" ["led"] [a]) [a] a b := ⟨by rfl, by rfl, by simp, by rfl, by rfl, by rfl, by rfl⟩
theorem kd11 (a b : D) : Kd 11 (.exn "BadPaper" ["paper"] [a]) [a] a b := ⟨by rfl, by rfl, by simp, by rfl, by rfl, by rfl, by rfl⟩
theorem kd12 (a b : D) : Kd 12 (.exn "BadText" ["column", "line"] [b, a]) [a, b] a b := ⟨by rfl, by rfl, by simp, by rfl, by rfl, by rfl, by rfl⟩
theorem kd13 (a b : D) : Kd 13 (.exn "BadNumber" ["number", "what"] [b, a]) [a, b] a b := ⟨by rfl, by rfl, by simp, by rfl, by rfl, by rfl, by rfl⟩
theorem kd14 (a b : D) : Kd 14 (.exn "NotKept" ["witness", "promise"] [b, a]) [a, b] a b := ⟨by rfl, by rfl, by simp, by rfl, by rfl, by rfl, by rfl⟩
theorem kd15 (a b : D) : Kd 15 (.exn "NothingToUndo" [] []) [] a b := ⟨by rfl, by rfl, by simp, by rfl, by rfl, by rfl, by rfl⟩
theorem kd16 (a b : D) : Kd 16 (.exn "NothingToRedo" [] []) [] a b := ⟨by rfl, by rfl, by simp, by rfl, by rfl, by rfl, by rfl⟩
theorem kd_all {k : Nat} (h : k < 17) (a b : D) : ∃ e fl, Kd k e fl a b := by
  match k, h with
  | 0, _ => exact ⟨_, _, kd0 a b⟩
  | 1, _ => exact ⟨_, _, kd1 a b⟩
  | 2, _ => exact ⟨_, _, kd2 a b⟩
  | 3, _ => exact ⟨_, _, kd3 a b⟩
  | 4, _ => exact ⟨_, _, kd4 a b⟩
  | 5, _ => exact ⟨_, _, kd5 a b⟩
  | 6, _ => exact ⟨_, _, kd6 a b⟩
  | 7, _ => exact ⟨_, _, kd7 a b⟩
  | 8, _ => exact ⟨_, _, kd8 a b⟩
  | 9, _ => exact ⟨_, _, kd9 a b⟩
  | 10, _ => exact ⟨_, _, kd10 a b⟩
  | 11, _ => exact ⟨_, _, kd11 a b⟩
  | 12, _ => exact ⟨_, _, kd12 a b⟩
  | 13, _ => exact ⟨_, _, kd13 a b⟩
  | 14, _ => exact ⟨_, _, kd14 a b⟩
  | 15, _ => exact ⟨_, _, kd15 a b⟩
  | 16, _ => exact ⟨_, _, kd16 a b⟩
  | n + 17, h => omega
end Tp
set_option Elab.async false
set_option linter.all false
set_option maxRecDepth 100000
set_option maxHeartbeats 4000000
namespace Tp
open PySem PySem.Spec PyProof.Rows L2 Dl
/-- the pen, a local of the law -/
def penP : Me → Slot
  | .l l => .ol l
  | .d t ks vs => .od t ks vs
  | .i c ns vs => .oi c ns vs
theorem pen_P : Pen penP := ⟨fun m => by cases m <;> rfl, fun m m' => by cases m <;> cases m' <;> rfl, fun m => by cases m <;> exact Slot.noConfusion⟩
theorem op1_of {g : D → Option Slot} {f : M Opd} {e e' : Dl.Env} {o : Opd} {d : D} {s : Slot} (h : f e = .ok o e') (hd : o.get e' = some d) (hg : g d = some s) : dOp1 g f e = .ok s e' := by
  unfold dOp1 M.bind
  rw [h]
  show (match o.get e' with
    | some d => (match g d with
      | some s => Out.ok s e'
      | none => .stuck)
    | none => .stuck) = _
  rw [hd]
  show (match g d with
    | some s => Out.ok s e'
    | none => .stuck) = _
  rw [hg]
noncomputable abbrev w0 : Sm := (sSet 1 (dCall 1 F__law_pen (dCons (dFix (dTake 0)) dNil)))
noncomputable abbrev w1 : Sm := (sSet 2 (dLst (dCons (dVal .non) (dCons (dVal (.bl true)) (dCons (dVal (.int 0)) (dCons (dFix (dOp2 gSub (dFix (dOp1 gNeg (dVal (.int 1)))) (dFix (dCallM 1 1 F__law_draw (dCons (dName 1) (dCons (dVal (.int 9)) dNil)))))) (dCons (dFix (dOp2 gAdd (dFix (dOp2 gPow (dVal (.int 10)) (dVal (.int 40)))) (dFix (dCallM 1 1 F__law_draw (dCons (dName 1) (dCons (dVal (.int 99)) dNil)))))) (dCons (dVal (.str (Str.ofString ""))) (dCons (dVal (.str (Str.ofString "log"))) (dCons (dFix (dTup (dCons (dVal (.int 1)) (dCons (dVal (.int 2)) dNil)))) (dCons (dFix (dLst (dCons (dVal (.int 3)) dNil))) (dCons (dFix (dTup (dCons (dVal (.str (Str.ofString "b"))) (dCons (dVal (.str (Str.ofString "c"))) dNil)))) dNil))))))))))))
noncomputable abbrev w2 : Sm := (sApp 2 (dCons (dFix (dTup (dCons (dFix (dTup (dCons (dVal (.int 0)) (dCons (dVal (.int 0)) dNil)))) dNil))) dNil))
noncomputable abbrev y0 : Sm := (sTo (gTupD 2 (gsCons (gSet 4) (gsCons (gSet 5) gsNil))) (dFix (dTup (dCons (dFix (dCallM 1 1 F__law_pick (dCons (dName 1) (dCons (dFix (dTake 2)) dNil)))) (dCons (dFix (dCallM 1 1 F__law_pick (dCons (dName 1) (dCons (dFix (dTake 2)) dNil)))) dNil)))))
noncomputable abbrev y1 : Sm := (sSet 6 (dLc (dRange1 (dCons (dVal (.int 3)) dNil)) [9] (gSet 9) dYes (dRepr (dFix (dSl (dFix (dTup (dCons (dFix (dTake 4)) (dCons (dFix (dTake 5)) dNil)))) dNo (dPart (dName 9)))))))
noncomputable abbrev y2 : Sm := (sTo (gTupD 2 (gsCons (gSet 7) (gsCons (gSet 8) gsNil))) (dFix (dCall 3 F__law_one (dCons (dFix (dTake 3)) (dCons (dFix (dTake 4)) (dCons (dFix (dTake 5)) dNil))))))
noncomputable abbrev y3 : Sm := (sIf (dBool (dOp2 gNeS (dFix (dRepr (dFix (dTake 8)))) (dFix (dOp2 gIx (dName 6) (dFix (dBlt gLen (dCons (dName 8) dNil))))))) (sRet (dSh (.bl false))) sNext)
noncomputable abbrev y4 : Sm := (sIf (dOr (dNot (dTruth (dFix (dIsi (isExn tl_PlaneError) (dName 7))))) (dNot (dTruth (dFix (dIsi (isExn tl_ValueError) (dName 7)))))) (sRet (dSh (.bl false))) sNext)
noncomputable abbrev y5 : Sm := (sIf (dBool (dOp2 gNe (dFix (dCall 1 F__law_which (dCons (dFix (dTake 7)) dNil))) (dFix (dLc (dRange1 (dCons (dVal (.int 17)) dNil)) [10] (gSet 10) dYes (dOp2 gEq (dName 10) (dName 3)))))) (sRet (dSh (.bl false))) sNext)
noncomputable abbrev yb : Sm := Sm.seq y0 (Sm.seq y1 (Sm.seq y2 (Sm.seq y3 (Sm.seq y4 y5))))
theorem law_eq : s_law = Sm.seq w0 (Sm.seq w1 (Sm.seq w2 (Sm.seq (sFor (dRange1 (dCons (dVal (.int 17)) dNil)) (gSet 3) yb) (sRet (dSh (.bl true)))))) := rfl
def menu (x y : Int) : List D := [.non, .bl true, .int 0, .int (-1 - x), .int (10000000000000000000000000000000000000000 + y), .str (Str.ofString ""), .str (Str.ofString "log"), .tup [.int 1, .int 2], .lst [.int 3], .tup [.str (Str.ofString "b"), .str (Str.ofString "c")]]
def menuA (x y : Int) : List D := menu x y ++ [.tup [.tup [.int 0, .int 0]]]
theorem okm {x y : Int} (hx : 0 ≤ x ∧ x < 9) (hy : 0 ≤ y ∧ y < 99) : ∀ d ∈ menuA x y, okA 2 100 d := fun d hd => by
  unfold menuA menu at hd
  simp only [List.cons_append, List.nil_append, List.mem_cons, List.not_mem_nil, or_false] at hd
  rcases hd with rfl | rfl | rfl | rfl | rfl | rfl | rfl | rfl | rfl | rfl | rfl
  · exact okA_non.le (by omega)
  · exact okA_bl.le (by omega)
  · exact (okA_int (a := 0) (by omega)).le (by omega)
  · refine (okA_big ?_).le (by omega)
    unfold bigI
    rw [Bool.or_eq_true, Bool.and_eq_true, decide_eq_true_eq, decide_eq_true_eq]
    exact .inl ⟨by omega, by omega⟩
  · refine (okA_big ?_).le (by omega)
    unfold bigI
    rw [Bool.or_eq_true, Bool.and_eq_true, Bool.and_eq_true, decide_eq_true_eq, decide_eq_true_eq, decide_eq_true_eq, decide_eq_true_eq]
    exact .inr ⟨by omega, by omega⟩
  · exact (okA_str (n := 20) (by decide +kernel) (by decide +kernel)).le (by omega)
  · exact (okA_str (n := 20) (by decide +kernel) (by decide +kernel)).le (by omega)
  · exact (okA_tup (j := 1) (n := 4) (fun d hd => by
      simp only [List.mem_cons, List.not_mem_nil, or_false] at hd
      rcases hd with rfl | rfl
      · exact okA_int (a := 1) (by omega)
      · exact okA_int (a := 2) (by omega)) (by simp)).le (Nat.le_refl _)
  · exact (okA_lst (j := 1) (n := 4) (fun d hd => by
      simp only [List.mem_cons, List.not_mem_nil, or_false] at hd
      rcases hd with rfl
      exact okA_int (a := 3) (by omega)) (by simp)).le (Nat.le_refl _)
  · exact (okA_tup (j := 1) (n := 20) (fun d hd => by
      simp only [List.mem_cons, List.not_mem_nil, or_false] at hd
      rcases hd with rfl | rfl
      · exact okA_str (by decide +kernel) (by decide +kernel)
      · exact okA_str (by decide +kernel) (by decide +kernel)) (by simp)).le (Nat.le_refl _)
  · exact (okA_tup (j := 1) (n := 40) (fun d hd => by
      simp only [List.mem_cons, List.not_mem_nil, or_false] at hd
      rcases hd with rfl
      exact okA_tup (j := 0) (n := 4) (fun d hd => by
        simp only [List.mem_cons, List.not_mem_nil, or_false, or_self] at hd
        subst hd
        exact okA_int (a := 0) (by omega)) (by simp)) (by simp)).le (Nat.le_refl _)
section
variable {e : Dl.Env} {cs : List Int}
/-- what holds before each turn -/
structure Iv (cs : List Int) (x y : Int) (n : Nat) (e : Dl.Env) : Prop where
  len : e.length = 11
  pen : ∃ i dg ct fo : Int, 0 ≤ i ∧ 0 ≤ dg ∧ (0 ≤ ct ∧ ct ≤ n) ∧ (0 ≤ fo ∧ fo < 1099511627776) ∧ e[1]? = some (penP (pn cs i dg ct fo))
  menu : e[2]? = some (.ol (menuA x y)) ∨ e[2]? = some (.sh (.lst (menuA x y)))
  s9 : e[9]? = some .un
  s10 : e[10]? = some .un
theorem Iv.set {x y : Int} {n : Nat} (I : Iv cs x y n e) {j : Nat} {s : Slot} (hj : 3 ≤ j ∧ j ≤ 8) : Iv cs x y n (e.set j s) := by
  have g {i : Nat} (h : j ≠ i) : (e.set j s)[i]? = e[i]? := List.getElem?_set_ne h
  exact ⟨by rw [List.length_set]; exact I.len, by rw [g (by omega)]; exact I.pen, by rw [g (by omega)]; exact I.menu, by rw [g (by omega)]; exact I.s9, by rw [g (by omega)]; exact I.s10⟩
theorem Iv.at {x y : Int} {n : Nat} (I : Iv cs x y n e) {j : Nat} {s : Slot} (hj : j < 11) : (e.set j s)[j]? = some s := List.getElem?_set_self (by rw [I.len]; exact hj)
/-- _law_pick(pen, menu) -/
theorem pick_m {x y : Int} {n : Nat} (hn : n < 1000) (I : Iv cs x y n e) : ∃ d e', dCallM 1 1 F__law_pick (dCons (dName 1) (dCons (dFix (dTake 2)) dNil)) e = .ok (.sh d) e' ∧ d ∈ menuA x y ∧ Iv cs x y (n + 1) e' ∧ ∀ j, 3 ≤ j → e'[j]? = e[j]? := by
  obtain ⟨i, dg, ct, fo, h1, h2, h3, h4, hp⟩ := I.pen
  obtain ⟨d, i', dg', fo', k1, k2, k3, k4, k5, k6⟩ := pick_ok (cs := cs) (i := i) (dg := dg) (ct := ct) (fo := fo) (l := menuA x y) (.inl rfl) (by simp [menuA, menu]) h1 h2 ⟨h3.1, by omega⟩ h4
  have fin : ∀ e1 : Dl.Env, dFix (dTake 2) e = .ok (.val (.lst (menuA x y))) e1 → e1[1]? = e[1]? → e1.length = 11 → e1[2]? = some (.sh (.lst (menuA x y))) → (∀ j, 3 ≤ j → e1[j]? = e[j]?) →
      ∃ d e', dCallM 1 1 F__law_pick (dCons (dName 1) (dCons (dFix (dTake 2)) dNil)) e = .ok (.sh d) e' ∧ d ∈ menuA x y ∧ Iv cs x y (n + 1) e' ∧ ∀ j, 3 ≤ j → e'[j]? = e[j]? := fun e1 q1 q2 q3 q4 q5 => by
    have c := callM_of' pen_P (n := 1) hp (cons_of q1 (nl e1)) (by rw [q2]; exact hp) rfl rfl (specM_eq k1)
    refine ⟨d, _, c, k2, ⟨by rw [List.length_set]; exact q3, ⟨i', dg', ct + 1, fo', k3, k4, by omega, ⟨k5, k6⟩, List.getElem?_set_self (by rw [q3]; omega)⟩, .inr (by rw [set_get (by decide)]; exact q4), by rw [set_get (by decide), q5 9 (by omega)]; exact I.s9, by rw [set_get (by decide), q5 10 (by omega)]; exact I.s10⟩, fun j hj => by rw [set_get (by omega)]; exact q5 j hj⟩
  rcases I.menu with m | m
  · exact fin _ (take_ol m) (set_get (by decide)) (by rw [List.length_set]; exact I.len) (I.at (by omega)) fun j hj => set_get (by omega)
  · exact fin e (take_of m) rfl I.len m fun j hj => rfl
theorem slice_of {a b : D} {m : Int} {fa : M Opd} {i : Nat} (h : fa e = .ok (.val (.tup [a, b])) e) (hi : e[i]? = some (.sh (.int m))) : dSl fa dNo (dPart (dName i)) e = .ok (.sh (.tup (Dl.cutD [a, b] none (some m)))) e := by
  have n := name_at hi
  have hin : (Opd.at i).int e = some m := by unfold Opd.int; rw [n.2]
  simp only [dSl, dNo, dPart, M.bind, Out.bind, h, n.1, hin]
  rfl
theorem repr_of {fa : M Opd} {e' : Dl.Env} {o : Opd} {d : D} (h : fa e = .ok o e') (hd : o.get e' = some d) (hr : repOk d = true) : dRepr fa e = .ok (.sh (.str (D.py d).shown)) e' := by
  unfold dRepr M.bind
  rw [h]
  show (match o.get e' with
    | some d => (match repOk d with
      | true => Out.ok (Slot.sh (.str (D.py d).shown)) e'
      | false => .stuck)
    | none => .stuck) = _
  rw [hd]
  simp only
  rw [hr]
theorem isi_of {t : D → Option Bool} {fa : M Opd} {e' : Dl.Env} {o : Opd} {d : D} {b : Bool} (h : fa e = .ok o e') (hd : o.get e' = some d) (ht : t d = some b) : dIsi t fa e = .ok (.sh (.bl b)) e' := by
  unfold dIsi M.bind
  rw [h]
  show isiK t o e' = _
  unfold isiK
  rw [hd]
  simp only
  rw [ht]
theorem repTup {l : List D} (h : ∀ d ∈ l, okA 2 100 d) (hl : l.length < 3) : repOk (.tup l) = true := (repOk_A (okA_tup (m := 1000) h (by have : l.length * 102 ≤ 2 * 102 := Nat.mul_le_mul_right _ (by omega); omega)) (by decide) (by decide) rfl).1
theorem cut_mem {a b d : D} {m : Int} (h : d ∈ Dl.cutD [a, b] none (some m)) : d = a ∨ d = b := by
  unfold Dl.cutD at h
  have := List.mem_of_mem_drop (List.mem_of_mem_take h)
  simpa using this
theorem cut_len {a b : D} {m : Int} : (Dl.cutD [a, b] none (some m)).length < 3 := by
  unfold Dl.cutD
  have h1 := List.length_take_le' (HT.sIx [a, b].length [a, b].length (some m) - HT.sIx [a, b].length 0 none) (([a, b] : List D).drop (HT.sIx [a, b].length 0 none))
  have h2 := List.length_drop (i := HT.sIx [a, b].length 0 none) (l := ([a, b] : List D))
  have h3 : ([a, b] : List D).length = 2 := rfl
  omega
abbrev txt (a b : D) (m : Int) : D := .str (D.py (.tup (Dl.cutD [a, b] none (some m)))).shown
/-- a turn -/
theorem turn_ok {x y : Int} (hx : 0 ≤ x ∧ x < 9) (hy : 0 ≤ y ∧ y < 99) {n k : Nat} (hn : n < 900) (hk : k < 17) (I : Iv cs x y n e) (h3 : e[3]? = some (.sh (.int k))) : Nx (yb e) (Iv cs x y (n + 2)) := by
  obtain ⟨a, e1, q1, ma, I1, j1⟩ := pick_m (by omega) I
  obtain ⟨b, e2, q2, mb, I2, j2⟩ := pick_m (by omega) I1
  have oa := okm hx hy a ma
  have ob := okm hx hy b mb
  refine seq_nx (nx_of (to2_of (i := 4) (j := 5) (tup2_of q1 Slot.noConfusion q2 Slot.noConfusion) (by rw [I2.len]; omega) (by rw [I2.len]; omega)) ?_)
  have I3 : Iv cs x y (n + 2) ((e2.set 4 (.sh a)).set 5 (.sh b)) := (I2.set (by omega)).set (by omega)
  have g3 : ((e2.set 4 (.sh a)).set 5 (.sh b))[3]? = some (.sh (.int k)) := by rw [set_get (by decide), set_get (by decide), j2 3 (by omega), j1 3 (by omega)]; exact h3
  have g4 : ((e2.set 4 (.sh a)).set 5 (.sh b))[4]? = some (.sh a) := by rw [set_get (by decide)]; exact I2.at (by omega)
  have g5 : ((e2.set 4 (.sh a)).set 5 (.sh b))[5]? = some (.sh b) := (I2.set (j := 4) (by omega)).at (by omega)
  show Nx (Sm.seq y1 (Sm.seq y2 (Sm.seq y3 (Sm.seq y4 y5))) ((e2.set 4 (.sh a)).set 5 (.sh b))) _
  generalize (e2.set 4 (.sh a)).set 5 (.sh b) = E at *
  clear q1 q2 j1 j2 I1 I2
  -- dues
  have c1 := lc_of (e := E) (v := 9) (elt := dRepr (dFix (dSl (dFix (dTup (dCons (dFix (dTake 4)) (dCons (dFix (dTake 5)) dNil)))) dNo (dPart (dName 9))))) (φ := fun d => match d with | .int m => txt a b m | _ => .non) (f := dRange1 (dCons (dVal (.int 3)) dNil)) (e0 := E) (items := [.int 0, .int 1, .int 2]) rfl (by simp) I3.s9 fun d hd => by
    obtain ⟨m, rfl⟩ : ∃ m : Int, d = .int m := by
      simp only [List.mem_cons, List.not_mem_nil, or_false] at hd
      rcases hd with rfl | rfl | rfl <;> exact ⟨_, rfl⟩
    have t4 := take_of (show (E.set 9 (.sh (.int m)))[4]? = some (.sh a) by rw [set_get (by decide)]; exact g4)
    have t5 := take_of (show (E.set 9 (.sh (.int m)))[5]? = some (.sh b) by rw [set_get (by decide)]; exact g5)
    have tu : dFix (dTup (dCons (dFix (dTake 4)) (dCons (dFix (dTake 5)) dNil))) (E.set 9 (.sh (.int m))) = .ok (.val (.tup [a, b])) (E.set 9 (.sh (.int m))) := by
      refine fix_of (s := .sh (.tup [a, b])) ?_ Slot.noConfusion
      unfold dTup M.bind
      rw [cons_of t4 (cons_of t5 (nl _))]
      rfl
    have sl := slice_of tu (I3.at (j := 9) (by omega))
    exact ⟨_, repr_of (fix_of sl Slot.noConfusion) rfl (repTup (fun d hd => by rcases cut_mem hd with rfl | rfl <;> assumption) cut_len), Slot.noConfusion, rfl⟩
  have e1 : y1 E = .nx (E.set 6 (.ol [txt a b 0, txt a b 1, txt a b 2])) := by
    unfold y1 sSet
    rw [c1]
    exact if_pos (by rw [I3.len]; omega)
  refine seq_nx (nx_of e1 ?_)
  have I4 : Iv cs x y (n + 2) (E.set 6 (.ol [txt a b 0, txt a b 1, txt a b 2])) := I3.set (by omega)
  have g6 : (E.set 6 (.ol [txt a b 0, txt a b 1, txt a b 2]))[6]? = some (.ol [txt a b 0, txt a b 1, txt a b 2]) := I3.at (by omega)
  have g3 : (E.set 6 (.ol [txt a b 0, txt a b 1, txt a b 2]))[3]? = some (.sh (.int k)) := by rw [set_get (by decide)]; exact g3
  have g4 : (E.set 6 (.ol [txt a b 0, txt a b 1, txt a b 2]))[4]? = some (.sh a) := by rw [set_get (by decide)]; exact g4
  have g5 : (E.set 6 (.ol [txt a b 0, txt a b 1, txt a b 2]))[5]? = some (.sh b) := by rw [set_get (by decide)]; exact g5
  generalize E.set 6 (.ol [txt a b 0, txt a b 1, txt a b 2]) = E at *
  -- the exception
  obtain ⟨ev, fl, K⟩ := kd_all hk a b
  have c2 := call_of (n := 3) (cons_of (take_of g3) (cons_of (take_of g4) (cons_of (take_of g5) (nl E)))) rfl rfl K.one
  refine seq_nx (nx_of (to2_of (i := 7) (j := 8) (fix_of c2 Slot.noConfusion) (by rw [I4.len]; omega) (by rw [I4.len]; omega)) ?_)
  have I5 : Iv cs x y (n + 2) ((E.set 7 (.sh ev)).set 8 (.sh (.tup fl))) := (I4.set (by omega)).set (by omega)
  have g7 : ((E.set 7 (.sh ev)).set 8 (.sh (.tup fl)))[7]? = some (.sh ev) := by rw [set_get (by decide)]; exact I4.at (by omega)
  have g8 : ((E.set 7 (.sh ev)).set 8 (.sh (.tup fl)))[8]? = some (.sh (.tup fl)) := (I4.set (j := 7) (by omega)).at (by omega)
  have g3 : ((E.set 7 (.sh ev)).set 8 (.sh (.tup fl)))[3]? = some (.sh (.int k)) := by rw [set_get (by decide), set_get (by decide)]; exact g3
  have g6 : ((E.set 7 (.sh ev)).set 8 (.sh (.tup fl)))[6]? = some (.ol [txt a b 0, txt a b 1, txt a b 2]) := by rw [set_get (by decide), set_get (by decide)]; exact g6
  show Nx (Sm.seq y3 (Sm.seq y4 y5) ((E.set 7 (.sh ev)).set 8 (.sh (.tup fl)))) _
  generalize (E.set 7 (.sh ev)).set 8 (.sh (.tup fl)) = E at *
  -- its fields
  have r1 := repr_of (take_of g8) rfl (repTup (fun d hd => by rw [K.cut] at hd; rcases cut_mem hd with rfl | rfl <;> assumption) K.len)
  have n6 : dName 6 E = .ok (.at 6) E ∧ (Opd.at 6).get E = some (.lst [txt a b 0, txt a b 1, txt a b 2]) := ⟨name_of g6 Slot.noConfusion, by unfold Opd.get; simp only [g6]; rfl⟩
  have n8 := name_at g8
  have ln := blt1_of (g := gLen) n8.1 n8.2 (s := .sh (.int fl.length)) rfl
  have ix : gIx (.lst [txt a b 0, txt a b 1, txt a b 2]) (.int (fl.length : Int)) = some (.sh (txt a b (fl.length : Int))) := by
    have := K.len
    generalize fl.length = z at this
    match z, this with
    | 0, _ => rfl
    | 1, _ => rfl
    | 2, _ => rfl
    | z + 3, h => omega
  have r2 := op2_of (g := gIx) n6.1 (fix_of ln Slot.noConfusion) n6.2 rfl ix
  have c3 : dBool (dOp2 gNeS (dFix (dRepr (dFix (dTake 8)))) (dFix (dOp2 gIx (dName 6) (dFix (dBlt gLen (dCons (dName 8) dNil)))))) E = .ok false E := by
    refine bool_of (op2_of (g := gNeS) (fix_of r1 Slot.noConfusion) (fix_of r2 Slot.noConfusion) rfl rfl (s := .sh (.bl false)) ?_)
    have : (D.py (.tup fl)).shown = (D.py (.tup (Dl.cutD [a, b] none (some (fl.length : Int))))).shown := by rw [← K.cut]
    show some (Slot.sh (.bl (!decide ((D.py (.tup fl)).shown = (D.py (.tup (Dl.cutD [a, b] none (some (fl.length : Int))))).shown)))) = _
    rw [this]
    simp
  refine seq_nx (nx_of (if_f c3) ?_)
  -- its bases
  have n7 := name_at g7
  have c4 : dNot (dTruth (dFix (dIsi (isExn tl_PlaneError) (dName 7)))) E = .ok false E := not_of (tr_of (fix_of (isi_of n7.1 n7.2 K.pl) Slot.noConfusion) rfl rfl)
  have c5 : dNot (dTruth (dFix (dIsi (isExn tl_ValueError) (dName 7)))) E = .ok false E := not_of (tr_of (fix_of (isi_of n7.1 n7.2 K.ve) Slot.noConfusion) rfl rfl)
  refine seq_nx (nx_of (if_f (or_f c4 c5)) ?_)
  -- its class
  have w := call_of (n := 1) (cons_of (take_of g7) (nl E)) rfl rfl K.wh
  have c6 := lc_of (e := E) (v := 10) (elt := dOp2 gEq (dName 10) (dName 3)) (φ := fun d => match d with | .int i => .bl (i == (k : Int)) | _ => .non) (f := dRange1 (dCons (dVal (.int 17)) dNil)) (e0 := E) (items := rangeD 0 17) rfl (by rw [rangeD_len]; omega) I5.s10 fun d hd => by
    obtain ⟨i, _, rfl⟩ := rangeD_mem hd
    have m10 := name_at (I5.at (j := 10) (s := .sh (.int (0 + i))) (by omega))
    have m3 := name_at (show (E.set 10 (.sh (.int (0 + i))))[3]? = some (.sh (.int k)) by rw [set_get (by decide)]; exact g3)
    exact ⟨_, op2_of (g := gEq) m10.1 m3.1 m10.2 m3.2 rfl, Slot.noConfusion, rfl⟩
  refine nx_of (if_f (bool_of (op2_of (g := gNe) (fix_of w Slot.noConfusion) (fix_of c6 Slot.noConfusion) rfl rfl K.eq))) I5
theorem lst_of {fa : M (List Opd)} {e e' : Dl.Env} {os : List Opd} {ds : List D} (h : fa e = .ok os e') (hv : vals os = some ds) (hl : lenOk ds.length = true) : dLst fa e = .ok (.ol ds) e' := by
  unfold dLst M.bind
  rw [h]
  show (match vals os with
    | some ds => if lenOk ds.length = true then Out.ok (Slot.ol ds) e' else .stuck
    | none => .stuck) = _
  rw [hv]
  exact if_pos hl
theorem app_of {i : Nat} {f : M Opd} {x : D} {l : List D} (h : f e = .ok (.val x) e) (h5 : e[i]? = some (.ol l)) (hl : l.length < 1000) : sApp i (dCons f dNil) e = .nx (e.set i (.ol (l ++ [x]))) := by
  have ho : ownAt i e = some (.l l) := by unfold ownAt; rw [h5]; rfl
  unfold sApp
  rw [ho]
  simp only
  rw [cons_of h (show dNil e = .ok [] e from rfl)]
  show sAppE i [.val x] e = _
  unfold sAppE
  rw [ho]
  have hb : Nat.blt l.length 16777216 = true := Nat.ble_eq_true_of_le (by omega)
  show (match meApp (.l l) x with
    | some m' => Dl.putAt i m' e
    | none => .stuck) = _
  unfold meApp
  simp only
  rw [hb]
  show Dl.putAt i (.l (l ++ [x])) e = _
  unfold Dl.putAt
  rw [h5]
  rfl
end
/-- the pen of a script -/
theorem pen_loop {s0 : Slot} : ∀ {ns : List Int} {fo : Int} {s2 : Slot}, 0 ≤ fo ∧ fo < 1000000033 → ∃ fo' s2', (0 ≤ fo' ∧ fo' < 1000000033) ∧
    forL (gSet 2) (sSet 1 (dOp2 gMod (dFix (dBlt gInt (dCons (dFix (dOp2 gAdd (dFix (dOp2 gMul (dName 1) (dVal (.int 127)))) (dName 2))) dNil))) (dVal (.int 1000000033)))) (ns.map .int) [s0, .sh (.int fo), s2] = .nx [s0, .sh (.int fo'), s2']
  | [], fo, s2, h => ⟨fo, s2, h, rfl⟩
  | c :: r, fo, s2, h => by
    have h1 : 0 ≤ (fo * 127 + c) % 1000000033 ∧ (fo * 127 + c) % 1000000033 < 1000000033 := ⟨Int.emod_nonneg _ (by decide), Int.emod_lt_of_pos _ (by decide)⟩
    obtain ⟨fo', s2', k1, k2⟩ := pen_loop (s0 := s0) (ns := r) (s2 := .sh (.int c)) h1
    refine ⟨fo', s2', k1, ?_⟩
    have hw : wOk fo = true := wk h.1 (by omega)
    have m1 : dOp2 gMul (dName 1) (dVal (.int 127)) [s0, .sh (.int fo), .sh (.int c)] = .ok (.sh (.int (fo * 127))) [s0, .sh (.int fo), .sh (.int c)] := by
      refine op2_of (g := gMul) (oa := .at 1) (ob := .val (.int 127)) rfl rfl rfl rfl ?_
      show (if (wOk fo || wOk 127) = true then some (Slot.sh (.int (fo * 127))) else none) = _
      rw [if_pos (by rw [hw]; rfl)]
    have m2 : dOp2 gAdd (dFix (dOp2 gMul (dName 1) (dVal (.int 127)))) (dName 2) [s0, .sh (.int fo), .sh (.int c)] = .ok (.sh (.int (fo * 127 + c))) [s0, .sh (.int fo), .sh (.int c)] := op2_of (g := gAdd) (fix_of m1) (fb := dName 2) (ob := .at 2) rfl rfl rfl rfl
    have m3 : dOp2 gMod (dFix (dBlt gInt (dCons (dFix (dOp2 gAdd (dFix (dOp2 gMul (dName 1) (dVal (.int 127)))) (dName 2))) dNil))) (dVal (.int 1000000033)) [s0, .sh (.int fo), .sh (.int c)] = .ok (.sh (.int ((fo * 127 + c) % 1000000033))) [s0, .sh (.int fo), .sh (.int c)] :=
      op2_of (g := gMod) (fix_of (blt1_of (g := gInt) (fix_of m2) rfl rfl)) (ob := .val (.int 1000000033)) rfl rfl rfl rfl
    have hb : sSet 1 (dOp2 gMod (dFix (dBlt gInt (dCons (dFix (dOp2 gAdd (dFix (dOp2 gMul (dName 1) (dVal (.int 127)))) (dName 2))) dNil))) (dVal (.int 1000000033))) [s0, .sh (.int fo), .sh (.int c)] = .nx [s0, .sh (.int ((fo * 127 + c) % 1000000033)), .sh (.int c)] := by
      unfold sSet
      rw [m3]
      rfl
    show (match sSet 1 (dOp2 gMod (dFix (dBlt gInt (dCons (dFix (dOp2 gAdd (dFix (dOp2 gMul (dName 1) (dVal (.int 127)))) (dName 2))) dNil))) (dVal (.int 1000000033))) [s0, .sh (.int fo), .sh (.int c)] with
      | .nx e2 => forL (gSet 2) _ (r.map D.int) e2
      | .ct e2 => forL (gSet 2) _ (r.map D.int) e2
      | .bk e2 => .nx e2
      | o => o) = _
    rw [hb]
    exact k2
theorem pen_is (ns : List Int) : ∃ fo, (0 ≤ fo ∧ fo < 1000000033) ∧ F__law_pen [.fz (ns.map .int)] = .ok (penP (pn ns 0 0 0 fo)) := by
  obtain ⟨fo, s2, h, k⟩ := pen_loop (s0 := .sh (.fz (ns.map .int))) (ns := ns) (fo := 0) (s2 := .un) (by decide)
  refine ⟨fo, h, ?_⟩
  unfold F__law_pen fnP
  show (s__law_pen [.sh (.fz (ns.map .int)), .un, .un]).rs = _
  unfold s__law_pen
  refine seq_run (Q := fun r => r.rs = _) (nx_of (e := [.sh (.fz (ns.map .int)), .sh (.int 0), .un]) rfl ?_)
  refine seq_run (Q := fun r => r.rs = _) (nx_of (e := [.sh (.fz (ns.map .int)), .sh (.int fo), s2]) k ?_)
  rfl
theorem law_true (ns : List Int) : F_law [.fz (ns.map .int)] = .ok (.sh (.bl true)) := by
  obtain ⟨fo, hf, hp⟩ := pen_is ns
  show Fl.rs (s_law (env0 11 [.fz (ns.map .int)])) = _
  rw [law_eq]
  have e0 : w0 (env0 11 [.fz (ns.map .int)]) = .nx ((env0 11 [.fz (ns.map .int)]).set 1 (penP (pn ns 0 0 0 fo))) := by
    have c := call_of (n := 1) (e := env0 11 [.fz (ns.map .int)]) (cons_of (take_of (i := 0) (d := .fz (ns.map .int)) rfl) (nl _)) rfl rfl hp
    unfold w0 sSet
    rw [c]
    show (if 1 < (env0 11 [D.fz (ns.map .int)]).length then Fl.nx ((env0 11 [D.fz (ns.map .int)]).set 1 (penP (pn ns 0 0 0 fo))) else .stuck) = _
    rw [if_pos (by simp [env0])]
  refine seq_run (Q := fun r => Fl.rs r = _) (nx_of e0 ?_)
  have hlen : ((env0 11 [.fz (ns.map .int)]).set 1 (penP (pn ns 0 0 0 fo))).length = 11 := rfl
  have g1 : ((env0 11 [.fz (ns.map .int)]).set 1 (penP (pn ns 0 0 0 fo)))[1]? = some (penP (pn ns 0 0 0 fo)) := rfl
  have g2 : ((env0 11 [.fz (ns.map .int)]).set 1 (penP (pn ns 0 0 0 fo)))[9]? = some .un := rfl
  have g3 : ((env0 11 [.fz (ns.map .int)]).set 1 (penP (pn ns 0 0 0 fo)))[10]? = some .un := rfl
  generalize (env0 11 [.fz (ns.map .int)]).set 1 (penP (pn ns 0 0 0 fo)) = E at *
  obtain ⟨x, i1, dg1, fo1, h1, hx, hi1, hd1, hfo1⟩ := draw_ok (cs := ns) (i := 0) (dg := 0) (ct := 0) (fo := fo) (many := 9) (by omega) (by omega) (by omega) (by omega) (by omega)
  obtain ⟨y, i2, dg2, fo2, h2, hy, hi2, hd2, hfo2⟩ := draw_ok (cs := ns) (i := i1) (dg := dg1) (ct := 0 + 1) (fo := fo1) (many := 99) hi1 hd1 (by omega) hfo1 (by omega)
  have c1 := callM_of pen_P (n := 1) (Fn := F__law_draw) g1 (cons_of (show dVal (.int 9) E = .ok (.val (.int 9)) E from rfl) (nl E)) rfl rfl (specM_eq h1)
  have l1 : (E.set 1 (penP (pn ns i1 dg1 (0 + 1) fo1))).length = 11 := by rw [List.length_set]; exact hlen
  have g1' : (E.set 1 (penP (pn ns i1 dg1 (0 + 1) fo1)))[1]? = some (penP (pn ns i1 dg1 (0 + 1) fo1)) := List.getElem?_set_self (by rw [hlen]; omega)
  have c2 := callM_of pen_P (n := 1) (Fn := F__law_draw) g1' (cons_of (show dVal (.int 99) _ = .ok (.val (.int 99)) _ from rfl) (nl _)) rfl rfl (specM_eq h2)
  rw [List.set_set] at c2
  have ng : dFix (dOp1 gNeg (dVal (.int 1))) E = .ok (.val (.int (-1))) E := rfl
  have a1 := op2_of (g := gSub) (s := .sh (.int (-1 - x))) ng (fix_of c1 Slot.noConfusion) rfl rfl rfl
  have p40 (e : Dl.Env) : dFix (dOp2 gPow (dVal (.int 10)) (dVal (.int 40))) e = .ok (.val (.int 10000000000000000000000000000000000000000)) e := fix_of (op2_of (g := gPow) (fa := dVal (.int 10)) (fb := dVal (.int 40)) (oa := .val (.int 10)) (ob := .val (.int 40)) (s := .sh (.int 10000000000000000000000000000000000000000)) rfl rfl rfl rfl (by rfl)) Slot.noConfusion
  have a2 := op2_of (g := gAdd) (s := .sh (.int (10000000000000000000000000000000000000000 + y))) (p40 _) (fix_of c2 Slot.noConfusion) rfl rfl rfl
  have e1 : w1 E = .nx ((E.set 1 (penP (pn ns i2 dg2 (0 + 1 + 1) fo2))).set 2 (.ol (menu x y))) := by
    unfold w1 sSet
    rw [lst_of (ds := menu x y) (cons_of (show dVal .non _ = .ok (.val .non) _ from rfl) (cons_of (show dVal (.bl true) _ = .ok (.val (.bl true)) _ from rfl) (cons_of (show dVal (.int 0) _ = .ok (.val (.int 0)) _ from rfl) (cons_of (fix_of a1 Slot.noConfusion) (cons_of (fix_of a2 Slot.noConfusion) (cons_of (show dVal (.str (Str.ofString "")) _ = .ok (.val (.str (Str.ofString ""))) _ from rfl) (cons_of (show dVal (.str (Str.ofString "log")) _ = .ok (.val (.str (Str.ofString "log"))) _ from rfl) (cons_of (show dFix (dTup (dCons (dVal (.int 1)) (dCons (dVal (.int 2)) dNil))) _ = .ok (.val (.tup [.int 1, .int 2])) _ from rfl) (cons_of (show dFix (dLst (dCons (dVal (.int 3)) dNil)) _ = .ok (.val (.lst [.int 3])) _ from rfl) (cons_of (show dFix (dTup (dCons (dVal (.str (Str.ofString "b"))) (dCons (dVal (.str (Str.ofString "c"))) dNil))) _ = .ok (.val (.tup [.str (Str.ofString "b"), .str (Str.ofString "c")])) _ from rfl) (nl _))))))))))) rfl rfl]
    show (if 2 < (E.set 1 (penP (pn ns i2 dg2 (0 + 1 + 1) fo2))).length then Fl.nx ((E.set 1 (penP (pn ns i2 dg2 (0 + 1 + 1) fo2))).set 2 (.ol (menu x y))) else .stuck) = _
    rw [if_pos (by rw [List.length_set, hlen]; omega)]
  refine seq_run (Q := fun r => Fl.rs r = _) (nx_of e1 ?_)
  have k2 : ((E.set 1 (penP (pn ns i2 dg2 (0 + 1 + 1) fo2))).set 2 (.ol (menu x y)))[2]? = some (.ol (menu x y)) := List.getElem?_set_self (by rw [List.length_set, hlen]; omega)
  refine seq_run (Q := fun r => Fl.rs r = _) (nx_of (app_of (i := 2) (x := .tup [.tup [.int 0, .int 0]]) rfl k2 (by simp [menu])) ?_)
  rw [List.set_set]
  have I : Iv ns x y 2 ((E.set 1 (penP (pn ns i2 dg2 (0 + 1 + 1) fo2))).set 2 (.ol (menu x y ++ [.tup [.tup [.int 0, .int 0]]]))) := ⟨by simp only [List.length_set, hlen], ⟨i2, dg2, 0 + 1 + 1, fo2, hi2, hd2, by omega, hfo2, by rw [set_get (by decide)]; exact List.getElem?_set_self (by rw [hlen]; omega)⟩, .inl (List.getElem?_set_self (by rw [List.length_set, hlen]; omega)), by rw [set_get (by decide), set_get (by decide)]; exact g2, by rw [set_get (by decide), set_get (by decide)]; exact g3⟩
  generalize (E.set 1 (penP (pn ns i2 dg2 (0 + 1 + 1) fo2))).set 2 (.ol (menu x y ++ [.tup [.tup [.int 0, .int 0]]])) = E2 at *
  refine seq_run (Q := fun r => Fl.rs r = _) (for_nx (items := rangeD 0 17) (fun i e => Iv ns x y (2 + 2 * i) e) (by rfl) I (fun i d e hd hI => ?_) fun e' _ => rfl)
  have hi : i < 17 := by have := (List.getElem?_eq_some_iff.mp hd).1; rw [rangeD_len] at this; exact this
  have ed : d = .int i := by
    rw [rangeD_get 0 17 i hi] at hd
    have := (Option.some.inj hd).symm
    rw [this, Int.zero_add]
  subst ed
  refine ⟨e.set 3 (.sh (.int i)), if_pos (by rw [hI.len]; omega), ?_⟩
  have := turn_ok (cs := ns) hx hy (n := 2 + 2 * i) (k := i) (by omega) hi (hI.set (j := 3) (s := .sh (.int i)) (by omega)) (hI.at (by omega))
  rw [show 2 + 2 * (i + 1) = 2 + 2 * i + 2 by omega]
  exact this
end Tp
set_option Elab.async false
set_option linter.all false
set_option maxRecDepth 100000
set_option maxHeartbeats 0
namespace Tp
open PySem PySem.Spec PyProof.Rows L2 Dl
def hd0 : He.DefD := ⟨("_law_other", none), "_law_other", "_law_other", (defArgs (top 24)), (defBody (top 24)), (defScope (top 24)), [], []⟩
def hd1 : He.DefD := ⟨("_law_one", none), "_law_one", "_law_one", (defArgs (top 23)), (defBody (top 23)), (defScope (top 23)), [], []⟩
def hd2 : He.DefD := ⟨("_law_which", none), "_law_which", "_law_which", (defArgs (top 25)), (defBody (top 25)), (defScope (top 25)), [], []⟩
def hd3 : He.DefD := ⟨("_law_draw", none), "_law_draw", "_law_draw", (defArgs (top 21)), (defBody (top 21)), (defScope (top 21)), [], []⟩
def hd4 : He.DefD := ⟨("_law_pick", none), "_law_pick", "_law_pick", (defArgs (top 22)), (defBody (top 22)), (defScope (top 22)), [], []⟩
def hd5 : He.DefD := ⟨("_law_pen", none), "_law_pen", "_law_pen", (defArgs (top 20)), (defBody (top 20)), (defScope (top 20)), [], []⟩
def hd6 : He.DefD := ⟨("law", none), "law", "law", (defArgs (top 26)), (defBody (top 26)), (defScope (top 26)), [], []⟩
def hd7 : He.DefD := ⟨("BadText", some "__init__"), "__init__", "BadText.__init__", (defArgs (inClass (top 2) 0)), (defBody (inClass (top 2) 0)), (defScope (inClass (top 2) 0)), [], []⟩
def hd8 : He.DefD := ⟨("BadPaper", some "__init__"), "__init__", "BadPaper.__init__", (defArgs (inClass (top 15) 0)), (defBody (inClass (top 15) 0)), (defScope (inClass (top 15) 0)), [], []⟩
def hd9 : He.DefD := ⟨("BadNumber", some "__init__"), "__init__", "BadNumber.__init__", (defArgs (inClass (top 3) 0)), (defBody (inClass (top 3) 0)), (defScope (inClass (top 3) 0)), [], []⟩
def hd10 : He.DefD := ⟨("NotKept", some "__init__"), "__init__", "NotKept.__init__", (defArgs (inClass (top 16) 0)), (defBody (inClass (top 16) 0)), (defScope (inClass (top 16) 0)), [], []⟩
def hd11 : He.DefD := ⟨("BadPlane", some "__init__"), "__init__", "BadPlane.__init__", (defArgs (inClass (top 8) 0)), (defBody (inClass (top 8) 0)), (defScope (inClass (top 8) 0)), [], []⟩
def hd12 : He.DefD := ⟨("BadRing", some "__init__"), "__init__", "BadRing.__init__", (defArgs (inClass (top 12) 0)), (defBody (inClass (top 12) 0)), (defScope (inClass (top 12) 0)), [], []⟩
def hd13 : He.DefD := ⟨("BadRow", some "__init__"), "__init__", "BadRow.__init__", (defArgs (inClass (top 13) 0)), (defBody (inClass (top 13) 0)), (defScope (inClass (top 13) 0)), [], []⟩
def hd14 : He.DefD := ⟨("BadName", some "__init__"), "__init__", "BadName.__init__", (defArgs (inClass (top 4) 0)), (defBody (inClass (top 4) 0)), (defScope (inClass (top 4) 0)), [], []⟩
def hd15 : He.DefD := ⟨("BadMove", some "__init__"), "__init__", "BadMove.__init__", (defArgs (inClass (top 14) 0)), (defBody (inClass (top 14) 0)), (defScope (inClass (top 14) 0)), [], []⟩
def hd16 : He.DefD := ⟨("NoName", some "__init__"), "__init__", "NoName.__init__", (defArgs (inClass (top 5) 0)), (defBody (inClass (top 5) 0)), (defScope (inClass (top 5) 0)), [], []⟩
def hd17 : He.DefD := ⟨("BadLines", some "__init__"), "__init__", "BadLines.__init__", (defArgs (inClass (top 7) 0)), (defBody (inClass (top 7) 0)), (defScope (inClass (top 7) 0)), [], []⟩
def hd18 : He.DefD := ⟨("BadField", some "__init__"), "__init__", "BadField.__init__", (defArgs (inClass (top 11) 0)), (defBody (inClass (top 11) 0)), (defScope (inClass (top 11) 0)), [], []⟩
def hd19 : He.DefD := ⟨("BadTable", some "__init__"), "__init__", "BadTable.__init__", (defArgs (inClass (top 9) 0)), (defBody (inClass (top 9) 0)), (defScope (inClass (top 9) 0)), [], []⟩
def hd20 : He.DefD := ⟨("BadLoop", some "__init__"), "__init__", "BadLoop.__init__", (defArgs (inClass (top 10) 0)), (defBody (inClass (top 10) 0)), (defScope (inClass (top 10) 0)), [], []⟩
def hd21 : He.DefD := ⟨("TakenName", some "__init__"), "__init__", "TakenName.__init__", (defArgs (inClass (top 6) 0)), (defBody (inClass (top 6) 0)), (defScope (inClass (top 6) 0)), [], []⟩
def hfn : List He.DefD := [hd0, hd1, hd2, hd3, hd4, hd5, hd6, hd7, hd8, hd9, hd10, hd11, hd12, hd13, hd14, hd15, hd16, hd17, hd18, hd19, hd20, hd21]
def hfa0 : List He.Fa := [.glo "_law_other", .glo "_law_one", .glo "_law_which", .glo "_law_draw", .glo "_law_pick", .glo "_law_pen", .glo "law", .glo "BadField", .glo "BadLines", .glo "BadLoop", .glo "BadMove", .glo "BadName", .glo "BadNumber", .glo "BadPaper", .glo "BadPlane", .glo "BadRing", .glo "BadRow", .glo "BadTable", .glo "BadText", .glo "NoName", .glo "NotKept", .glo "TakenName", .glo "NothingToRedo", .glo "NothingToUndo", .glo "PlaneError", .free "ValueError", .free "int", .free "isinstance", .free "len", .free "list", .free "range", .free "repr"]
def hn_BadField : List He.Fa := (["field"] : List Str).map fun f => .noat "BadField" f
def hn_BadLines : List He.Fa := (["lines"] : List Str).map fun f => .noat "BadLines" f
def hn_BadLoop : List He.Fa := (["loop"] : List Str).map fun f => .noat "BadLoop" f
def hn_BadMove : List He.Fa := (["led"] : List Str).map fun f => .noat "BadMove" f
def hn_BadName : List He.Fa := (["name"] : List Str).map fun f => .noat "BadName" f
def hn_BadNumber : List He.Fa := (["what", "number"] : List Str).map fun f => .noat "BadNumber" f
def hn_BadPaper : List He.Fa := (["paper"] : List Str).map fun f => .noat "BadPaper" f
def hn_BadPlane : List He.Fa := (["plane"] : List Str).map fun f => .noat "BadPlane" f
def hn_BadRing : List He.Fa := (["ring"] : List Str).map fun f => .noat "BadRing" f
def hn_BadRow : List He.Fa := (["row"] : List Str).map fun f => .noat "BadRow" f
def hn_BadTable : List He.Fa := (["table"] : List Str).map fun f => .noat "BadTable" f
def hn_BadText : List He.Fa := (["line", "column"] : List Str).map fun f => .noat "BadText" f
def hn_NoName : List He.Fa := (["name"] : List Str).map fun f => .noat "NoName" f
def hn_NotKept : List He.Fa := (["promise", "witness"] : List Str).map fun f => .noat "NotKept" f
def hn_TakenName : List He.Fa := (["name"] : List Str).map fun f => .noat "TakenName" f
def hfa : List He.Fa := hfa0 ++ hn_BadField ++ hn_BadLines ++ hn_BadLoop ++ hn_BadMove ++ hn_BadName ++ hn_BadNumber ++ hn_BadPaper ++ hn_BadPlane ++ hn_BadRing ++ hn_BadRow ++ hn_BadTable ++ hn_BadText ++ hn_NoName ++ hn_NotKept ++ hn_TakenName
def insB (K : PySem.W.Frag) (C : Addr) : Bool := decide (PySem.W.findIn K (.ref C) "__class__" = some (some (.builtin "object.__class__"))) && (decide (PySem.W.specialIn K (.builtin "object.__class__") "__get__" = some (some (.builtin "getset_descriptor.__get__"))) && (decide (PySem.W.takesIn K (.builtin "object.__class__") = some true) && decide (PySem.W.mroIn K C (.type "object") = some true)))
theorem insB_ok {K : PySem.W.Frag} {C : Addr} (h : insB K C = true) (c : Cls K C) : InsOk K C := by
  unfold insB at h
  simp only [Bool.and_eq_true, decide_eq_true_eq] at h
  exact ⟨c, h.1, h.2.1, h.2.2.1, h.2.2.2⟩
def oexB (K : PySem.W.Frag) (C : Addr) : Bool := (match K.lookup C with
  | some ⟨.type "type", _, .cls cd, sl⟩ => (match cd.mro, sl.toList with
    | .ref C0 :: bm, [_, _, _, _, some (.builtin n), _] => decide (C0 = C) && (decide (n = "ValueError.__new__") && (!cd.hasDel && (cd.hasDict && PySem.HandSPX.refsVE bm)))
    | _, _ => false)
  | _ => false) && (decide (PySem.W.findIn K (.ref C) "__setattr__" = some (some (.builtin "object.__setattr__"))) && (decide (PySem.W.subIn K (.ref C) (.type "BaseException") = some true) && (decide (PySem.W.typeIn K (.ref C) = some (.type "type")) && PySem.W.keepIn K (.ref C))))
theorem oexB_ok {K : PySem.W.Frag} {C : Addr} (h : oexB K C = true) : OexC K C := by
  unfold oexB at h
  rw [Bool.and_eq_true, Bool.and_eq_true, Bool.and_eq_true, Bool.and_eq_true] at h
  obtain ⟨q, h1, h2, h3, h4⟩ := h
  refine ⟨?_, of_decide_eq_true h1, of_decide_eq_true h2, of_decide_eq_true h3, h4⟩
  revert q
  cases hl : K.lookup C with
  | none => intro q; cases q
  | some o =>
    intro q
    split at q
    · rename_i dd cd sl ho
      cases ho
      split at q
      · rename_i bm k0 k1 k2 k3 n k5 hm hs
        simp only [Bool.and_eq_true, decide_eq_true_eq, Bool.not_eq_true'] at q
        obtain ⟨rfl, rfl, hdel, hd, hb⟩ := q
        obtain ⟨nm, bs, mro, ns, qn, hdict, sn, sub, ab, col, del⟩ := cd
        dsimp only at hm hdel hd
        subst hm hdel hd
        obtain ⟨l⟩ := sl
        dsimp only at hs
        subst hs
        exact ⟨nm, qn, ns, bs, bm, sn, sub, ab, col, _, k0, k1, k2, k3, k5, rfl, hb⟩
      · cases q
    · cases q
def iniB (K : PySem.W.Frag) (C f : Addr) : Bool := decide (PySem.W.findIn K (.ref C) "__init__" = some (some (.ref f))) && decide (PySem.W.typeIn K (.ref f) = some (.type "function"))
theorem iniB_ok {K : PySem.W.Frag} {C f : Addr} (h : iniB K C f = true) : PySem.W.findIn K (.ref C) "__init__" = some (some (.ref f)) ∧ PySem.W.typeIn K (.ref f) = some (.type "function") := by
  unfold iniB at h
  simpa only [Bool.and_eq_true, decide_eq_true_eq] using h
def excB (K : PySem.W.Frag) (D : Addr) : Bool := decide (PySem.W.findIn K (.ref D) "__getattribute__" = some (some (.builtin "BaseException.__getattribute__"))) && (decide (PySem.W.findIn K (.ref D) "__getattr__" = some none) && (decide (PySem.W.subIn K (.ref D) (.type "BaseException") = some true) && (PySem.W.hasDictIn K D && (decide (PySem.W.findIn K (.ref D) "__class__" = some (some (.builtin "object.__class__"))) && (decide (PySem.W.specialIn K (.builtin "object.__class__") "__get__" = some (some (.builtin "getset_descriptor.__get__"))) && (decide (PySem.W.takesIn K (.builtin "object.__class__") = some true) && decide (PySem.W.mroIn K D (.type "object") = some true)))))))
theorem excB_ok {K : PySem.W.Frag} {D : Addr} (h : excB K D = true) : ExcC K D := by
  unfold excB at h
  simp only [Bool.and_eq_true, decide_eq_true_eq] at h
  exact ⟨h.1, h.2.1, h.2.2.1, h.2.2.2.1, h.2.2.2.2.1, h.2.2.2.2.2.1, h.2.2.2.2.2.2.1, h.2.2.2.2.2.2.2⟩
def kitsB (K : PySem.W.Frag) (l : List (Addr × Bool)) (u : Value) : Bool := l.all fun q => decide (PySem.W.kitOne K (.ref q.1) u = some q.2)
theorem kitsB_ok {K : PySem.W.Frag} {l : List (Addr × Bool)} {u : Value} (h : kitsB K l u = true) : ∀ q ∈ l, PySem.W.kitOne K (.ref q.1) u = some q.2 := fun q hq => of_decide_eq_true (List.all_eq_true.mp h q hq)
def kitB (K : PySem.W.Frag) (C : Addr) : Bool := baseT.all fun t => decide (PySem.W.kitOne K (.type t) (.ref C) = some false)
theorem kitB_ok {K : PySem.W.Frag} {C : Addr} (h : kitB K C = true) : ∀ t ∈ baseT, PySem.W.kitOne K (.type t) (.ref C) = some false := fun t ht => of_decide_eq_true (List.all_eq_true.mp h t ht)
def hexl : List (PySem.W.Frag → Bool) := [fun K => oexB K (He.ga K "BadField"), fun K => xfB K (He.ga K "BadField"), fun K => iniB K (He.ga K "BadField") (He.fAd K ("BadField", some "__init__")), fun K => oexB K (He.ga K "BadLines"), fun K => xfB K (He.ga K "BadLines"), fun K => iniB K (He.ga K "BadLines") (He.fAd K ("BadLines", some "__init__")), fun K => oexB K (He.ga K "BadLoop"), fun K => xfB K (He.ga K "BadLoop"), fun K => iniB K (He.ga K "BadLoop") (He.fAd K ("BadLoop", some "__init__")), fun K => oexB K (He.ga K "BadMove"), fun K => xfB K (He.ga K "BadMove"), fun K => iniB K (He.ga K "BadMove") (He.fAd K ("BadMove", some "__init__")), fun K => oexB K (He.ga K "BadName"), fun K => xfB K (He.ga K "BadName"), fun K => iniB K (He.ga K "BadName") (He.fAd K ("BadName", some "__init__")), fun K => oexB K (He.ga K "BadNumber"), fun K => xfB K (He.ga K "BadNumber"), fun K => iniB K (He.ga K "BadNumber") (He.fAd K ("BadNumber", some "__init__")), fun K => oexB K (He.ga K "BadPaper"), fun K => xfB K (He.ga K "BadPaper"), fun K => iniB K (He.ga K "BadPaper") (He.fAd K ("BadPaper", some "__init__")), fun K => oexB K (He.ga K "BadPlane"), fun K => xfB K (He.ga K "BadPlane"), fun K => iniB K (He.ga K "BadPlane") (He.fAd K ("BadPlane", some "__init__")), fun K => oexB K (He.ga K "BadRing"), fun K => xfB K (He.ga K "BadRing"), fun K => iniB K (He.ga K "BadRing") (He.fAd K ("BadRing", some "__init__")), fun K => oexB K (He.ga K "BadRow"), fun K => xfB K (He.ga K "BadRow"), fun K => iniB K (He.ga K "BadRow") (He.fAd K ("BadRow", some "__init__")), fun K => oexB K (He.ga K "BadTable"), fun K => xfB K (He.ga K "BadTable"), fun K => iniB K (He.ga K "BadTable") (He.fAd K ("BadTable", some "__init__")), fun K => oexB K (He.ga K "BadText"), fun K => xfB K (He.ga K "BadText"), fun K => iniB K (He.ga K "BadText") (He.fAd K ("BadText", some "__init__")), fun K => oexB K (He.ga K "NoName"), fun K => xfB K (He.ga K "NoName"), fun K => iniB K (He.ga K "NoName") (He.fAd K ("NoName", some "__init__")), fun K => oexB K (He.ga K "NotKept"), fun K => xfB K (He.ga K "NotKept"), fun K => iniB K (He.ga K "NotKept") (He.fAd K ("NotKept", some "__init__")), fun K => oexB K (He.ga K "TakenName"), fun K => xfB K (He.ga K "TakenName"), fun K => iniB K (He.ga K "TakenName") (He.fAd K ("TakenName", some "__init__")), fun K => excB K (He.ga K "BadField"), fun K => excB K (He.ga K "BadLines"), fun K => excB K (He.ga K "BadLoop"), fun K => excB K (He.ga K "BadMove"), fun K => excB K (He.ga K "BadName"), fun K => excB K (He.ga K "BadNumber"), fun K => excB K (He.ga K "BadPaper"), fun K => excB K (He.ga K "BadPlane"), fun K => excB K (He.ga K "BadRing"), fun K => excB K (He.ga K "BadRow"), fun K => excB K (He.ga K "BadTable"), fun K => excB K (He.ga K "BadText"), fun K => excB K (He.ga K "NoName"), fun K => excB K (He.ga K "NotKept"), fun K => excB K (He.ga K "TakenName"), fun K => excB K (He.ga K "NothingToRedo"), fun K => excB K (He.ga K "NothingToUndo"), fun K => kitsB K [(He.ga K "BadField", true), (He.ga K "BadLines", false), (He.ga K "BadLoop", false), (He.ga K "BadMove", false), (He.ga K "BadName", false), (He.ga K "BadNumber", false), (He.ga K "BadPaper", false), (He.ga K "BadPlane", false), (He.ga K "BadRing", false), (He.ga K "BadRow", false), (He.ga K "BadTable", false), (He.ga K "BadText", false), (He.ga K "NoName", false), (He.ga K "NotKept", false), (He.ga K "TakenName", false), (He.ga K "NothingToRedo", false), (He.ga K "NothingToUndo", false)] (.ref (He.ga K "BadField")), fun K => kitsB K [(He.ga K "BadField", false), (He.ga K "BadLines", true), (He.ga K "BadLoop", false), (He.ga K "BadMove", false), (He.ga K "BadName", false), (He.ga K "BadNumber", false), (He.ga K "BadPaper", false), (He.ga K "BadPlane", false), (He.ga K "BadRing", false), (He.ga K "BadRow", false), (He.ga K "BadTable", false), (He.ga K "BadText", false), (He.ga K "NoName", false), (He.ga K "NotKept", false), (He.ga K "TakenName", false), (He.ga K "NothingToRedo", false), (He.ga K "NothingToUndo", false)] (.ref (He.ga K "BadLines")), fun K => kitsB K [(He.ga K "BadField", false), (He.ga K "BadLines", false), (He.ga K "BadLoop", true), (He.ga K "BadMove", false), (He.ga K "BadName", false), (He.ga K "BadNumber", false), (He.ga K "BadPaper", false), (He.ga K "BadPlane", false), (He.ga K "BadRing", false), (He.ga K "BadRow", false), (He.ga K "BadTable", false), (He.ga K "BadText", false), (He.ga K "NoName", false), (He.ga K "NotKept", false), (He.ga K "TakenName", false), (He.ga K "NothingToRedo", false), (He.ga K "NothingToUndo", false)] (.ref (He.ga K "BadLoop")), fun K => kitsB K [(He.ga K "BadField", false), (He.ga K "BadLines", false), (He.ga K "BadLoop", false), (He.ga K "BadMove", true), (He.ga K "BadName", false), (He.ga K "BadNumber", false), (He.ga K "BadPaper", false), (He.ga K "BadPlane", false), (He.ga K "BadRing", false), (He.ga K "BadRow", false), (He.ga K "BadTable", false), (He.ga K "BadText", false), (He.ga K "NoName", false), (He.ga K "NotKept", false), (He.ga K "TakenName", false), (He.ga K "NothingToRedo", false), (He.ga K "NothingToUndo", false)] (.ref (He.ga K "BadMove")), fun K => kitsB K [(He.ga K "BadField", false), (He.ga K "BadLines", false), (He.ga K "BadLoop", false), (He.ga K "BadMove", false), (He.ga K "BadName", true), (He.ga K "BadNumber", false), (He.ga K "BadPaper", false), (He.ga K "BadPlane", false), (He.ga K "BadRing", false), (He.ga K "BadRow", false), (He.ga K "BadTable", false), (He.ga K "BadText", false), (He.ga K "NoName", false), (He.ga K "NotKept", false), (He.ga K "TakenName", false), (He.ga K "NothingToRedo", false), (He.ga K "NothingToUndo", false)] (.ref (He.ga K "BadName")), fun K => kitsB K [(He.ga K "BadField", false), (He.ga K "BadLines", false), (He.ga K "BadLoop", false), (He.ga K "BadMove", false), (He.ga K "BadName", false), (He.ga K "BadNumber", true), (He.ga K "BadPaper", false), (He.ga K "BadPlane", false), (He.ga K "BadRing", false), (He.ga K "BadRow", false), (He.ga K "BadTable", false), (He.ga K "BadText", false), (He.ga K "NoName", false), (He.ga K "NotKept", false), (He.ga K "TakenName", false), (He.ga K "NothingToRedo", false), (He.ga K "NothingToUndo", false)] (.ref (He.ga K "BadNumber")), fun K => kitsB K [(He.ga K "BadField", false), (He.ga K "BadLines", false), (He.ga K "BadLoop", false), (He.ga K "BadMove", false), (He.ga K "BadName", false), (He.ga K "BadNumber", false), (He.ga K "BadPaper", true), (He.ga K "BadPlane", false), (He.ga K "BadRing", false), (He.ga K "BadRow", false), (He.ga K "BadTable", false), (He.ga K "BadText", false), (He.ga K "NoName", false), (He.ga K "NotKept", false), (He.ga K "TakenName", false), (He.ga K "NothingToRedo", false), (He.ga K "NothingToUndo", false)] (.ref (He.ga K "BadPaper")), fun K => kitsB K [(He.ga K "BadField", false), (He.ga K "BadLines", false), (He.ga K "BadLoop", false), (He.ga K "BadMove", false), (He.ga K "BadName", false), (He.ga K "BadNumber", false), (He.ga K "BadPaper", false), (He.ga K "BadPlane", true), (He.ga K "BadRing", false), (He.ga K "BadRow", false), (He.ga K "BadTable", false), (He.ga K "BadText", false), (He.ga K "NoName", false), (He.ga K "NotKept", false), (He.ga K "TakenName", false), (He.ga K "NothingToRedo", false), (He.ga K "NothingToUndo", false)] (.ref (He.ga K "BadPlane")), fun K => kitsB K [(He.ga K "BadField", false), (He.ga K "BadLines", false), (He.ga K "BadLoop", false), (He.ga K "BadMove", false), (He.ga K "BadName", false), (He.ga K "BadNumber", false), (He.ga K "BadPaper", false), (He.ga K "BadPlane", false), (He.ga K "BadRing", true), (He.ga K "BadRow", false), (He.ga K "BadTable", false), (He.ga K "BadText", false), (He.ga K "NoName", false), (He.ga K "NotKept", false), (He.ga K "TakenName", false), (He.ga K "NothingToRedo", false), (He.ga K "NothingToUndo", false)] (.ref (He.ga K "BadRing")), fun K => kitsB K [(He.ga K "BadField", false), (He.ga K "BadLines", false), (He.ga K "BadLoop", false), (He.ga K "BadMove", false), (He.ga K "BadName", false), (He.ga K "BadNumber", false), (He.ga K "BadPaper", false), (He.ga K "BadPlane", false), (He.ga K "BadRing", false), (He.ga K "BadRow", true), (He.ga K "BadTable", false), (He.ga K "BadText", false), (He.ga K "NoName", false), (He.ga K "NotKept", false), (He.ga K "TakenName", false), (He.ga K "NothingToRedo", false), (He.ga K "NothingToUndo", false)] (.ref (He.ga K "BadRow")), fun K => kitsB K [(He.ga K "BadField", false), (He.ga K "BadLines", false), (He.ga K "BadLoop", false), (He.ga K "BadMove", false), (He.ga K "BadName", false), (He.ga K "BadNumber", false), (He.ga K "BadPaper", false), (He.ga K "BadPlane", false), (He.ga K "BadRing", false), (He.ga K "BadRow", false), (He.ga K "BadTable", true), (He.ga K "BadText", false), (He.ga K "NoName", false), (He.ga K "NotKept", false), (He.ga K "TakenName", false), (He.ga K "NothingToRedo", false), (He.ga K "NothingToUndo", false)] (.ref (He.ga K "BadTable")), fun K => kitsB K [(He.ga K "BadField", false), (He.ga K "BadLines", false), (He.ga K "BadLoop", false), (He.ga K "BadMove", false), (He.ga K "BadName", false), (He.ga K "BadNumber", false), (He.ga K "BadPaper", false), (He.ga K "BadPlane", false), (He.ga K "BadRing", false), (He.ga K "BadRow", false), (He.ga K "BadTable", false), (He.ga K "BadText", true), (He.ga K "NoName", false), (He.ga K "NotKept", false), (He.ga K "TakenName", false), (He.ga K "NothingToRedo", false), (He.ga K "NothingToUndo", false)] (.ref (He.ga K "BadText")), fun K => kitsB K [(He.ga K "BadField", false), (He.ga K "BadLines", false), (He.ga K "BadLoop", false), (He.ga K "BadMove", false), (He.ga K "BadName", false), (He.ga K "BadNumber", false), (He.ga K "BadPaper", false), (He.ga K "BadPlane", false), (He.ga K "BadRing", false), (He.ga K "BadRow", false), (He.ga K "BadTable", false), (He.ga K "BadText", false), (He.ga K "NoName", true), (He.ga K "NotKept", false), (He.ga K "TakenName", false), (He.ga K "NothingToRedo", false), (He.ga K "NothingToUndo", false)] (.ref (He.ga K "NoName")), fun K => kitsB K [(He.ga K "BadField", false), (He.ga K "BadLines", false), (He.ga K "BadLoop", false), (He.ga K "BadMove", false), (He.ga K "BadName", false), (He.ga K "BadNumber", false), (He.ga K "BadPaper", false), (He.ga K "BadPlane", false), (He.ga K "BadRing", false), (He.ga K "BadRow", false), (He.ga K "BadTable", false), (He.ga K "BadText", false), (He.ga K "NoName", false), (He.ga K "NotKept", true), (He.ga K "TakenName", false), (He.ga K "NothingToRedo", false), (He.ga K "NothingToUndo", false)] (.ref (He.ga K "NotKept")), fun K => kitsB K [(He.ga K "BadField", false), (He.ga K "BadLines", false), (He.ga K "BadLoop", false), (He.ga K "BadMove", false), (He.ga K "BadName", false), (He.ga K "BadNumber", false), (He.ga K "BadPaper", false), (He.ga K "BadPlane", false), (He.ga K "BadRing", false), (He.ga K "BadRow", false), (He.ga K "BadTable", false), (He.ga K "BadText", false), (He.ga K "NoName", false), (He.ga K "NotKept", false), (He.ga K "TakenName", false), (He.ga K "NothingToRedo", true), (He.ga K "NothingToUndo", false)] (.ref (He.ga K "NothingToRedo")), fun K => kitsB K [(He.ga K "BadField", false), (He.ga K "BadLines", false), (He.ga K "BadLoop", false), (He.ga K "BadMove", false), (He.ga K "BadName", false), (He.ga K "BadNumber", false), (He.ga K "BadPaper", false), (He.ga K "BadPlane", false), (He.ga K "BadRing", false), (He.ga K "BadRow", false), (He.ga K "BadTable", false), (He.ga K "BadText", false), (He.ga K "NoName", false), (He.ga K "NotKept", false), (He.ga K "TakenName", false), (He.ga K "NothingToRedo", false), (He.ga K "NothingToUndo", true)] (.ref (He.ga K "NothingToUndo")), fun K => kitsB K [(He.ga K "BadField", true), (He.ga K "BadLines", true), (He.ga K "BadLoop", true), (He.ga K "BadMove", true), (He.ga K "BadName", true), (He.ga K "BadNumber", true), (He.ga K "BadPaper", true), (He.ga K "BadPlane", true), (He.ga K "BadRing", true), (He.ga K "BadRow", true), (He.ga K "BadTable", true), (He.ga K "BadText", true), (He.ga K "NoName", true), (He.ga K "NotKept", true), (He.ga K "TakenName", true), (He.ga K "NothingToRedo", true), (He.ga K "NothingToUndo", true)] (.ref (He.ga K "PlaneError")), fun K => kitsB K [(He.ga K "BadField", false), (He.ga K "BadLines", false), (He.ga K "BadLoop", false), (He.ga K "BadMove", false), (He.ga K "BadName", false), (He.ga K "BadNumber", false), (He.ga K "BadPaper", false), (He.ga K "BadPlane", false), (He.ga K "BadRing", false), (He.ga K "BadRow", false), (He.ga K "BadTable", false), (He.ga K "BadText", false), (He.ga K "NoName", false), (He.ga K "NotKept", false), (He.ga K "TakenName", true), (He.ga K "NothingToRedo", false), (He.ga K "NothingToUndo", false)] (.ref (He.ga K "TakenName")), fun K => kitsB K [(He.ga K "BadField", true), (He.ga K "BadLines", true), (He.ga K "BadLoop", true), (He.ga K "BadMove", true), (He.ga K "BadName", true), (He.ga K "BadNumber", true), (He.ga K "BadPaper", true), (He.ga K "BadPlane", true), (He.ga K "BadRing", true), (He.ga K "BadRow", true), (He.ga K "BadTable", true), (He.ga K "BadText", true), (He.ga K "NoName", true), (He.ga K "NotKept", true), (He.ga K "TakenName", true), (He.ga K "NothingToRedo", true), (He.ga K "NothingToUndo", true)] (.type "ValueError"), fun K => PySem.W.excIn K (He.ga K "NothingToRedo") PySem.HandSPX.veTail "ValueError.__new__", fun K => PySem.W.excIn K (He.ga K "NothingToUndo") PySem.HandSPX.veTail "ValueError.__new__", fun K => PySem.W.keepIn K (.ref (He.ga K "NothingToRedo")), fun K => PySem.W.keepIn K (.ref (He.ga K "NothingToUndo"))]
def hex (K : PySem.W.Frag) : Bool := hexl.all fun f => f K
def htf : List He.Defn := []
abbrev hR : PySem.W.OpenRow := PySem.W.OpenLaw.row PySem.Challenge.rw_tenpoints_k00_errors
abbrev hhk : PySem.W.Hook := He.hookX 5 hfa hfn [] htf hex
def hob (s : PySem.W.SharedT) : He.AlX := He.obsX 5 hfa hfn [] htf hex (HandSHeadRun.getT s)
theorem hob_eq (s : PySem.W.SharedT) : hob s = hhk.obs s.abs := He.obsX_eq (HandSHeadRun.getT_eq s)
def hloose : List PySem.Str := (["__name__", "PlaneError", "BadText", "BadNumber", "BadName", "NoName", "TakenName", "BadLines", "BadPlane", "BadTable", "BadLoop", "BadField", "BadRing", "BadRow", "BadMove", "BadPaper", "NotKept", "NothingToUndo", "NothingToRedo", "_law_pen", "_law_draw", "_law_pick", "_law_one", "_law_other", "_law_which"] : List PySem.Str)
theorem hrun (w : World) : HandSHeadRun.RunEq hR (PySem.W.view hR.prog [26]) hhk hob 30000 hloose w := by
  intro os
  kernel_rfl
theorem code_of {K : PySem.W.Frag} {x qual : Str} {params : Arguments} {body : List Stmt} {scope : Scope} {p : He.Defn} {fd : FuncData} (F : FunD K x qual params body scope [] [] (He.fAd K p) fd) : fd.code = .ref (He.cT K p).1 := by
  obtain ⟨oc, od, dV, kV, doc, pm, an, cdv, ct, osl, rfl, lk, hcd, _, _⟩ := F.ex
  obtain ⟨c, rfl⟩ := He.codeIn_ref hcd
  have : He.codeOf K p = c := He.codeOf_eq lk rfl
  show Value.ref c = .ref (He.codeOf K p)
  rw [this]
theorem facts {K : PySem.W.Frag} {h : Heap} {mg : Str → Option Value} {w : World} (X : K.In h) (G : h.Ns mainGlobals mg) (c : He.SaysX hfa hfn [] htf hex w h K) : Nonempty (Facts K mg) := by
  have cd : He.SaysD hfa hfn K := c.t.d
  have ft : ∀ f ∈ hfa0, f.ok K = true := fun f hf => cd.facts (by unfold hfa; apply List.mem_append_left; apply List.mem_append_left; apply List.mem_append_left; apply List.mem_append_left; apply List.mem_append_left; apply List.mem_append_left; apply List.mem_append_left; apply List.mem_append_left; apply List.mem_append_left; apply List.mem_append_left; apply List.mem_append_left; apply List.mem_append_left; apply List.mem_append_left; apply List.mem_append_left; apply List.mem_append_left; exact hf)
  obtain ⟨fd0, fF0⟩ := cd.def_ 0 (d := hd0) rfl
  obtain ⟨fd1, fF1⟩ := cd.def_ 1 (d := hd1) rfl
  obtain ⟨fd2, fF2⟩ := cd.def_ 2 (d := hd2) rfl
  obtain ⟨fd3, fF3⟩ := cd.def_ 3 (d := hd3) rfl
  obtain ⟨fd4, fF4⟩ := cd.def_ 4 (d := hd4) rfl
  obtain ⟨fd5, fF5⟩ := cd.def_ 5 (d := hd5) rfl
  obtain ⟨fd6, fF6⟩ := cd.def_ 6 (d := hd6) rfl
  obtain ⟨fd7, fF7⟩ := cd.def_ 7 (d := hd7) rfl
  obtain ⟨fd8, fF8⟩ := cd.def_ 8 (d := hd8) rfl
  obtain ⟨fd9, fF9⟩ := cd.def_ 9 (d := hd9) rfl
  obtain ⟨fd10, fF10⟩ := cd.def_ 10 (d := hd10) rfl
  obtain ⟨fd11, fF11⟩ := cd.def_ 11 (d := hd11) rfl
  obtain ⟨fd12, fF12⟩ := cd.def_ 12 (d := hd12) rfl
  obtain ⟨fd13, fF13⟩ := cd.def_ 13 (d := hd13) rfl
  obtain ⟨fd14, fF14⟩ := cd.def_ 14 (d := hd14) rfl
  obtain ⟨fd15, fF15⟩ := cd.def_ 15 (d := hd15) rfl
  obtain ⟨fd16, fF16⟩ := cd.def_ 16 (d := hd16) rfl
  obtain ⟨fd17, fF17⟩ := cd.def_ 17 (d := hd17) rfl
  obtain ⟨fd18, fF18⟩ := cd.def_ 18 (d := hd18) rfl
  obtain ⟨fd19, fF19⟩ := cd.def_ 19 (d := hd19) rfl
  obtain ⟨fd20, fF20⟩ := cd.def_ 20 (d := hd20) rfl
  obtain ⟨fd21, fF21⟩ := cd.def_ 21 (d := hd21) rfl
  have hx : (hexl.all fun f => f K) = true := c.more
  exact ⟨{
    f__law_other := He.fAd K ("_law_other", none),
    d__law_other := fd0,
    D__law_other := fF0,
    g__law_other := He.glo_ok X G (ft (.glo "_law_other") (List.mem_of_getElem? (i := 0) rfl)),
    f__law_one := He.fAd K ("_law_one", none),
    d__law_one := fd1,
    D__law_one := fF1,
    g__law_one := He.glo_ok X G (ft (.glo "_law_one") (List.mem_of_getElem? (i := 1) rfl)),
    f__law_which := He.fAd K ("_law_which", none),
    d__law_which := fd2,
    D__law_which := fF2,
    g__law_which := He.glo_ok X G (ft (.glo "_law_which") (List.mem_of_getElem? (i := 2) rfl)),
    f__law_draw := He.fAd K ("_law_draw", none),
    d__law_draw := fd3,
    D__law_draw := fF3,
    g__law_draw := He.glo_ok X G (ft (.glo "_law_draw") (List.mem_of_getElem? (i := 3) rfl)),
    f__law_pick := He.fAd K ("_law_pick", none),
    d__law_pick := fd4,
    D__law_pick := fF4,
    g__law_pick := He.glo_ok X G (ft (.glo "_law_pick") (List.mem_of_getElem? (i := 4) rfl)),
    f__law_pen := He.fAd K ("_law_pen", none),
    d__law_pen := fd5,
    D__law_pen := fF5,
    g__law_pen := He.glo_ok X G (ft (.glo "_law_pen") (List.mem_of_getElem? (i := 5) rfl)),
    f_law := He.fAd K ("law", none),
    d_law := fd6,
    D_law := fF6,
    g_law := He.glo_ok X G (ft (.glo "law") (List.mem_of_getElem? (i := 6) rfl)),
    f_BadText___init__ := He.fAd K ("BadText", some "__init__"),
    d_BadText___init__ := fd7,
    D_BadText___init__ := fF7,
    f_BadPaper___init__ := He.fAd K ("BadPaper", some "__init__"),
    d_BadPaper___init__ := fd8,
    D_BadPaper___init__ := fF8,
    f_BadNumber___init__ := He.fAd K ("BadNumber", some "__init__"),
    d_BadNumber___init__ := fd9,
    D_BadNumber___init__ := fF9,
    f_NotKept___init__ := He.fAd K ("NotKept", some "__init__"),
    d_NotKept___init__ := fd10,
    D_NotKept___init__ := fF10,
    f_BadPlane___init__ := He.fAd K ("BadPlane", some "__init__"),
    d_BadPlane___init__ := fd11,
    D_BadPlane___init__ := fF11,
    f_BadRing___init__ := He.fAd K ("BadRing", some "__init__"),
    d_BadRing___init__ := fd12,
    D_BadRing___init__ := fF12,
    f_BadRow___init__ := He.fAd K ("BadRow", some "__init__"),
    d_BadRow___init__ := fd13,
    D_BadRow___init__ := fF13,
    f_BadName___init__ := He.fAd K ("BadName", some "__init__"),
    d_BadName___init__ := fd14,
    D_BadName___init__ := fF14,
    f_BadMove___init__ := He.fAd K ("BadMove", some "__init__"),
    d_BadMove___init__ := fd15,
    D_BadMove___init__ := fF15,
    f_NoName___init__ := He.fAd K ("NoName", some "__init__"),
    d_NoName___init__ := fd16,
    D_NoName___init__ := fF16,
    f_BadLines___init__ := He.fAd K ("BadLines", some "__init__"),
    d_BadLines___init__ := fd17,
    D_BadLines___init__ := fF17,
    f_BadField___init__ := He.fAd K ("BadField", some "__init__"),
    d_BadField___init__ := fd18,
    D_BadField___init__ := fF18,
    f_BadTable___init__ := He.fAd K ("BadTable", some "__init__"),
    d_BadTable___init__ := fd19,
    D_BadTable___init__ := fF19,
    f_BadLoop___init__ := He.fAd K ("BadLoop", some "__init__"),
    d_BadLoop___init__ := fd20,
    D_BadLoop___init__ := fF20,
    f_TakenName___init__ := He.fAd K ("TakenName", some "__init__"),
    d_TakenName___init__ := fd21,
    D_TakenName___init__ := fF21,
    C_BadField := He.ga K "BadField",
    g_BadField := He.glo_ok X G (ft (.glo "BadField") (List.mem_of_getElem? (i := 7) rfl)),
    X_BadField := oexB_ok (List.all_eq_true.mp hx _ (List.mem_of_getElem? (i := 0) rfl)),
    x_BadField := xfB_ok (List.all_eq_true.mp hx _ (List.mem_of_getElem? (i := 1) rfl)),
    i_BadField := (iniB_ok (List.all_eq_true.mp hx _ (List.mem_of_getElem? (i := 2) rfl))).1,
    t_BadField := (iniB_ok (List.all_eq_true.mp hx _ (List.mem_of_getElem? (i := 2) rfl))).2,
    n_BadField := fun f hf => He.noat_ok (cd.facts (f := .noat "BadField" f) (List.mem_append_left _ (List.mem_append_left _ (List.mem_append_left _ (List.mem_append_left _ (List.mem_append_left _ (List.mem_append_left _ (List.mem_append_left _ (List.mem_append_left _ (List.mem_append_left _ (List.mem_append_left _ (List.mem_append_left _ (List.mem_append_left _ (List.mem_append_left _ (List.mem_append_left _ (List.mem_append_right _ (List.mem_map_of_mem hf))))))))))))))))),
    C_BadLines := He.ga K "BadLines",
    g_BadLines := He.glo_ok X G (ft (.glo "BadLines") (List.mem_of_getElem? (i := 8) rfl)),
    X_BadLines := oexB_ok (List.all_eq_true.mp hx _ (List.mem_of_getElem? (i := 3) rfl)),
    x_BadLines := xfB_ok (List.all_eq_true.mp hx _ (List.mem_of_getElem? (i := 4) rfl)),
    i_BadLines := (iniB_ok (List.all_eq_true.mp hx _ (List.mem_of_getElem? (i := 5) rfl))).1,
    t_BadLines := (iniB_ok (List.all_eq_true.mp hx _ (List.mem_of_getElem? (i := 5) rfl))).2,
    n_BadLines := fun f hf => He.noat_ok (cd.facts (f := .noat "BadLines" f) (List.mem_append_left _ (List.mem_append_left _ (List.mem_append_left _ (List.mem_append_left _ (List.mem_append_left _ (List.mem_append_left _ (List.mem_append_left _ (List.mem_append_left _ (List.mem_append_left _ (List.mem_append_left _ (List.mem_append_left _ (List.mem_append_left _ (List.mem_append_left _ (List.mem_append_right _ (List.mem_map_of_mem hf)))))))))))))))),
    C_BadLoop := He.ga K "BadLoop",
    g_BadLoop := He.glo_ok X G (ft (.glo "BadLoop") (List.mem_of_getElem? (i := 9) rfl)),
    X_BadLoop := oexB_ok (List.all_eq_true.mp hx _ (List.mem_of_getElem? (i := 6) rfl)),
    x_BadLoop := xfB_ok (List.all_eq_true.mp hx _ (List.mem_of_getElem? (i := 7) rfl)),
    i_BadLoop := (iniB_ok (List.all_eq_true.mp hx _ (List.mem_of_getElem? (i := 8) rfl))).1,
    t_BadLoop := (iniB_ok (List.all_eq_true.mp hx _ (List.mem_of_getElem? (i := 8) rfl))).2,
    n_BadLoop := fun f hf => He.noat_ok (cd.facts (f := .noat "BadLoop" f) (List.mem_append_left _ (List.mem_append_left _ (List.mem_append_left _ (List.mem_append_left _ (List.mem_append_left _ (List.mem_append_left _ (List.mem_append_left _ (List.mem_append_left _ (List.mem_append_left _ (List.mem_append_left _ (List.mem_append_left _ (List.mem_append_left _ (List.mem_append_right _ (List.mem_map_of_mem hf))))))))))))))),
    C_BadMove := He.ga K "BadMove",
    g_BadMove := He.glo_ok X G (ft (.glo "BadMove") (List.mem_of_getElem? (i := 10) rfl)),
    X_BadMove := oexB_ok (List.all_eq_true.mp hx _ (List.mem_of_getElem? (i := 9) rfl)),
    x_BadMove := xfB_ok (List.all_eq_true.mp hx _ (List.mem_of_getElem? (i := 10) rfl)),
    i_BadMove := (iniB_ok (List.all_eq_true.mp hx _ (List.mem_of_getElem? (i := 11) rfl))).1,
    t_BadMove := (iniB_ok (List.all_eq_true.mp hx _ (List.mem_of_getElem? (i := 11) rfl))).2,
    n_BadMove := fun f hf => He.noat_ok (cd.facts (f := .noat "BadMove" f) (List.mem_append_left _ (List.mem_append_left _ (List.mem_append_left _ (List.mem_append_left _ (List.mem_append_left _ (List.mem_append_left _ (List.mem_append_left _ (List.mem_append_left _ (List.mem_append_left _ (List.mem_append_left _ (List.mem_append_left _ (List.mem_append_right _ (List.mem_map_of_mem hf)))))))))))))),
    C_BadName := He.ga K "BadName",
    g_BadName := He.glo_ok X G (ft (.glo "BadName") (List.mem_of_getElem? (i := 11) rfl)),
    X_BadName := oexB_ok (List.all_eq_true.mp hx _ (List.mem_of_getElem? (i := 12) rfl)),
    x_BadName := xfB_ok (List.all_eq_true.mp hx _ (List.mem_of_getElem? (i := 13) rfl)),
    i_BadName := (iniB_ok (List.all_eq_true.mp hx _ (List.mem_of_getElem? (i := 14) rfl))).1,
    t_BadName := (iniB_ok (List.all_eq_true.mp hx _ (List.mem_of_getElem? (i := 14) rfl))).2,
    n_BadName := fun f hf => He.noat_ok (cd.facts (f := .noat "BadName" f) (List.mem_append_left _ (List.mem_append_left _ (List.mem_append_left _ (List.mem_append_left _ (List.mem_append_left _ (List.mem_append_left _ (List.mem_append_left _ (List.mem_append_left _ (List.mem_append_left _ (List.mem_append_left _ (List.mem_append_right _ (List.mem_map_of_mem hf))))))))))))),
    C_BadNumber := He.ga K "BadNumber",
    g_BadNumber := He.glo_ok X G (ft (.glo "BadNumber") (List.mem_of_getElem? (i := 12) rfl)),
    X_BadNumber := oexB_ok (List.all_eq_true.mp hx _ (List.mem_of_getElem? (i := 15) rfl)),
    x_BadNumber := xfB_ok (List.all_eq_true.mp hx _ (List.mem_of_getElem? (i := 16) rfl)),
    i_BadNumber := (iniB_ok (List.all_eq_true.mp hx _ (List.mem_of_getElem? (i := 17) rfl))).1,
    t_BadNumber := (iniB_ok (List.all_eq_true.mp hx _ (List.mem_of_getElem? (i := 17) rfl))).2,
    n_BadNumber := fun f hf => He.noat_ok (cd.facts (f := .noat "BadNumber" f) (List.mem_append_left _ (List.mem_append_left _ (List.mem_append_left _ (List.mem_append_left _ (List.mem_append_left _ (List.mem_append_left _ (List.mem_append_left _ (List.mem_append_left _ (List.mem_append_left _ (List.mem_append_right _ (List.mem_map_of_mem hf)))))))))))),
    C_BadPaper := He.ga K "BadPaper",
    g_BadPaper := He.glo_ok X G (ft (.glo "BadPaper") (List.mem_of_getElem? (i := 13) rfl)),
    X_BadPaper := oexB_ok (List.all_eq_true.mp hx _ (List.mem_of_getElem? (i := 18) rfl)),
    x_BadPaper := xfB_ok (List.all_eq_true.mp hx _ (List.mem_of_getElem? (i := 19) rfl)),
    i_BadPaper := (iniB_ok (List.all_eq_true.mp hx _ (List.mem_of_getElem? (i := 20) rfl))).1,
    t_BadPaper := (iniB_ok (List.all_eq_true.mp hx _ (List.mem_of_getElem? (i := 20) rfl))).2,
    n_BadPaper := fun f hf => He.noat_ok (cd.facts (f := .noat "BadPaper" f) (List.mem_append_left _ (List.mem_append_left _ (List.mem_append_left _ (List.mem_append_left _ (List.mem_append_left _ (List.mem_append_left _ (List.mem_append_left _ (List.mem_append_left _ (List.mem_append_right _ (List.mem_map_of_mem hf))))))))))),
    C_BadPlane := He.ga K "BadPlane",
    g_BadPlane := He.glo_ok X G (ft (.glo "BadPlane") (List.mem_of_getElem? (i := 14) rfl)),
    X_BadPlane := oexB_ok (List.all_eq_true.mp hx _ (List.mem_of_getElem? (i := 21) rfl)),
    x_BadPlane := xfB_ok (List.all_eq_true.mp hx _ (List.mem_of_getElem? (i := 22) rfl)),
    i_BadPlane := (iniB_ok (List.all_eq_true.mp hx _ (List.mem_of_getElem? (i := 23) rfl))).1,
    t_BadPlane := (iniB_ok (List.all_eq_true.mp hx _ (List.mem_of_getElem? (i := 23) rfl))).2,
    n_BadPlane := fun f hf => He.noat_ok (cd.facts (f := .noat "BadPlane" f) (List.mem_append_left _ (List.mem_append_left _ (List.mem_append_left _ (List.mem_append_left _ (List.mem_append_left _ (List.mem_append_left _ (List.mem_append_left _ (List.mem_append_right _ (List.mem_map_of_mem hf)))))))))),
    C_BadRing := He.ga K "BadRing",
    g_BadRing := He.glo_ok X G (ft (.glo "BadRing") (List.mem_of_getElem? (i := 15) rfl)),
    X_BadRing := oexB_ok (List.all_eq_true.mp hx _ (List.mem_of_getElem? (i := 24) rfl)),
    x_BadRing := xfB_ok (List.all_eq_true.mp hx _ (List.mem_of_getElem? (i := 25) rfl)),
    i_BadRing := (iniB_ok (List.all_eq_true.mp hx _ (List.mem_of_getElem? (i := 26) rfl))).1,
    t_BadRing := (iniB_ok (List.all_eq_true.mp hx _ (List.mem_of_getElem? (i := 26) rfl))).2,
    n_BadRing := fun f hf => He.noat_ok (cd.facts (f := .noat "BadRing" f) (List.mem_append_left _ (List.mem_append_left _ (List.mem_append_left _ (List.mem_append_left _ (List.mem_append_left _ (List.mem_append_left _ (List.mem_append_right _ (List.mem_map_of_mem hf))))))))),
    C_BadRow := He.ga K "BadRow",
    g_BadRow := He.glo_ok X G (ft (.glo "BadRow") (List.mem_of_getElem? (i := 16) rfl)),
    X_BadRow := oexB_ok (List.all_eq_true.mp hx _ (List.mem_of_getElem? (i := 27) rfl)),
    x_BadRow := xfB_ok (List.all_eq_true.mp hx _ (List.mem_of_getElem? (i := 28) rfl)),
    i_BadRow := (iniB_ok (List.all_eq_true.mp hx _ (List.mem_of_getElem? (i := 29) rfl))).1,
    t_BadRow := (iniB_ok (List.all_eq_true.mp hx _ (List.mem_of_getElem? (i := 29) rfl))).2,
    n_BadRow := fun f hf => He.noat_ok (cd.facts (f := .noat "BadRow" f) (List.mem_append_left _ (List.mem_append_left _ (List.mem_append_left _ (List.mem_append_left _ (List.mem_append_left _ (List.mem_append_right _ (List.mem_map_of_mem hf)))))))),
    C_BadTable := He.ga K "BadTable",
    g_BadTable := He.glo_ok X G (ft (.glo "BadTable") (List.mem_of_getElem? (i := 17) rfl)),
    X_BadTable := oexB_ok (List.all_eq_true.mp hx _ (List.mem_of_getElem? (i := 30) rfl)),
    x_BadTable := xfB_ok (List.all_eq_true.mp hx _ (List.mem_of_getElem? (i := 31) rfl)),
    i_BadTable := (iniB_ok (List.all_eq_true.mp hx _ (List.mem_of_getElem? (i := 32) rfl))).1,
    t_BadTable := (iniB_ok (List.all_eq_true.mp hx _ (List.mem_of_getElem? (i := 32) rfl))).2,
    n_BadTable := fun f hf => He.noat_ok (cd.facts (f := .noat "BadTable" f) (List.mem_append_left _ (List.mem_append_left _ (List.mem_append_left _ (List.mem_append_left _ (List.mem_append_right _ (List.mem_map_of_mem hf))))))),
    C_BadText := He.ga K "BadText",
    g_BadText := He.glo_ok X G (ft (.glo "BadText") (List.mem_of_getElem? (i := 18) rfl)),
    X_BadText := oexB_ok (List.all_eq_true.mp hx _ (List.mem_of_getElem? (i := 33) rfl)),
    x_BadText := xfB_ok (List.all_eq_true.mp hx _ (List.mem_of_getElem? (i := 34) rfl)),
    i_BadText := (iniB_ok (List.all_eq_true.mp hx _ (List.mem_of_getElem? (i := 35) rfl))).1,
    t_BadText := (iniB_ok (List.all_eq_true.mp hx _ (List.mem_of_getElem? (i := 35) rfl))).2,
    n_BadText := fun f hf => He.noat_ok (cd.facts (f := .noat "BadText" f) (List.mem_append_left _ (List.mem_append_left _ (List.mem_append_left _ (List.mem_append_right _ (List.mem_map_of_mem hf)))))),
    C_NoName := He.ga K "NoName",
    g_NoName := He.glo_ok X G (ft (.glo "NoName") (List.mem_of_getElem? (i := 19) rfl)),
    X_NoName := oexB_ok (List.all_eq_true.mp hx _ (List.mem_of_getElem? (i := 36) rfl)),
    x_NoName := xfB_ok (List.all_eq_true.mp hx _ (List.mem_of_getElem? (i := 37) rfl)),
    i_NoName := (iniB_ok (List.all_eq_true.mp hx _ (List.mem_of_getElem? (i := 38) rfl))).1,
    t_NoName := (iniB_ok (List.all_eq_true.mp hx _ (List.mem_of_getElem? (i := 38) rfl))).2,
    n_NoName := fun f hf => He.noat_ok (cd.facts (f := .noat "NoName" f) (List.mem_append_left _ (List.mem_append_left _ (List.mem_append_right _ (List.mem_map_of_mem hf))))),
    C_NotKept := He.ga K "NotKept",
    g_NotKept := He.glo_ok X G (ft (.glo "NotKept") (List.mem_of_getElem? (i := 20) rfl)),
    X_NotKept := oexB_ok (List.all_eq_true.mp hx _ (List.mem_of_getElem? (i := 39) rfl)),
    x_NotKept := xfB_ok (List.all_eq_true.mp hx _ (List.mem_of_getElem? (i := 40) rfl)),
    i_NotKept := (iniB_ok (List.all_eq_true.mp hx _ (List.mem_of_getElem? (i := 41) rfl))).1,
    t_NotKept := (iniB_ok (List.all_eq_true.mp hx _ (List.mem_of_getElem? (i := 41) rfl))).2,
    n_NotKept := fun f hf => He.noat_ok (cd.facts (f := .noat "NotKept" f) (List.mem_append_left _ (List.mem_append_right _ (List.mem_map_of_mem hf)))),
    C_TakenName := He.ga K "TakenName",
    g_TakenName := He.glo_ok X G (ft (.glo "TakenName") (List.mem_of_getElem? (i := 21) rfl)),
    X_TakenName := oexB_ok (List.all_eq_true.mp hx _ (List.mem_of_getElem? (i := 42) rfl)),
    x_TakenName := xfB_ok (List.all_eq_true.mp hx _ (List.mem_of_getElem? (i := 43) rfl)),
    i_TakenName := (iniB_ok (List.all_eq_true.mp hx _ (List.mem_of_getElem? (i := 44) rfl))).1,
    t_TakenName := (iniB_ok (List.all_eq_true.mp hx _ (List.mem_of_getElem? (i := 44) rfl))).2,
    n_TakenName := fun f hf => He.noat_ok (cd.facts (f := .noat "TakenName" f) (List.mem_append_right _ (List.mem_map_of_mem hf))),
    C_NothingToRedo := He.ga K "NothingToRedo",
    g_NothingToRedo := He.glo_ok X G (ft (.glo "NothingToRedo") (List.mem_of_getElem? (i := 22) rfl)),
    q_NothingToRedo := (List.all_eq_true.mp hx _ (List.mem_of_getElem? (i := 81) rfl)),
    kp_NothingToRedo := (List.all_eq_true.mp hx _ (List.mem_of_getElem? (i := 83) rfl)),
    C_NothingToUndo := He.ga K "NothingToUndo",
    g_NothingToUndo := He.glo_ok X G (ft (.glo "NothingToUndo") (List.mem_of_getElem? (i := 23) rfl)),
    q_NothingToUndo := (List.all_eq_true.mp hx _ (List.mem_of_getElem? (i := 82) rfl)),
    kp_NothingToUndo := (List.all_eq_true.mp hx _ (List.mem_of_getElem? (i := 84) rfl)),
    C_PlaneError := He.ga K "PlaneError",
    g_PlaneError := He.glo_ok X G (ft (.glo "PlaneError") (List.mem_of_getElem? (i := 24) rfl)),
    E_BadField := excB_ok (List.all_eq_true.mp hx _ (List.mem_of_getElem? (i := 45) rfl)),
    E_BadLines := excB_ok (List.all_eq_true.mp hx _ (List.mem_of_getElem? (i := 46) rfl)),
    E_BadLoop := excB_ok (List.all_eq_true.mp hx _ (List.mem_of_getElem? (i := 47) rfl)),
    E_BadMove := excB_ok (List.all_eq_true.mp hx _ (List.mem_of_getElem? (i := 48) rfl)),
    E_BadName := excB_ok (List.all_eq_true.mp hx _ (List.mem_of_getElem? (i := 49) rfl)),
    E_BadNumber := excB_ok (List.all_eq_true.mp hx _ (List.mem_of_getElem? (i := 50) rfl)),
    E_BadPaper := excB_ok (List.all_eq_true.mp hx _ (List.mem_of_getElem? (i := 51) rfl)),
    E_BadPlane := excB_ok (List.all_eq_true.mp hx _ (List.mem_of_getElem? (i := 52) rfl)),
    E_BadRing := excB_ok (List.all_eq_true.mp hx _ (List.mem_of_getElem? (i := 53) rfl)),
    E_BadRow := excB_ok (List.all_eq_true.mp hx _ (List.mem_of_getElem? (i := 54) rfl)),
    E_BadTable := excB_ok (List.all_eq_true.mp hx _ (List.mem_of_getElem? (i := 55) rfl)),
    E_BadText := excB_ok (List.all_eq_true.mp hx _ (List.mem_of_getElem? (i := 56) rfl)),
    E_NoName := excB_ok (List.all_eq_true.mp hx _ (List.mem_of_getElem? (i := 57) rfl)),
    E_NotKept := excB_ok (List.all_eq_true.mp hx _ (List.mem_of_getElem? (i := 58) rfl)),
    E_TakenName := excB_ok (List.all_eq_true.mp hx _ (List.mem_of_getElem? (i := 59) rfl)),
    E_NothingToRedo := excB_ok (List.all_eq_true.mp hx _ (List.mem_of_getElem? (i := 60) rfl)),
    E_NothingToUndo := excB_ok (List.all_eq_true.mp hx _ (List.mem_of_getElem? (i := 61) rfl)),
    w_BadField := kitsB_ok (List.all_eq_true.mp hx _ (List.mem_of_getElem? (i := 62) rfl)),
    w_BadLines := kitsB_ok (List.all_eq_true.mp hx _ (List.mem_of_getElem? (i := 63) rfl)),
    w_BadLoop := kitsB_ok (List.all_eq_true.mp hx _ (List.mem_of_getElem? (i := 64) rfl)),
    w_BadMove := kitsB_ok (List.all_eq_true.mp hx _ (List.mem_of_getElem? (i := 65) rfl)),
    w_BadName := kitsB_ok (List.all_eq_true.mp hx _ (List.mem_of_getElem? (i := 66) rfl)),
    w_BadNumber := kitsB_ok (List.all_eq_true.mp hx _ (List.mem_of_getElem? (i := 67) rfl)),
    w_BadPaper := kitsB_ok (List.all_eq_true.mp hx _ (List.mem_of_getElem? (i := 68) rfl)),
    w_BadPlane := kitsB_ok (List.all_eq_true.mp hx _ (List.mem_of_getElem? (i := 69) rfl)),
    w_BadRing := kitsB_ok (List.all_eq_true.mp hx _ (List.mem_of_getElem? (i := 70) rfl)),
    w_BadRow := kitsB_ok (List.all_eq_true.mp hx _ (List.mem_of_getElem? (i := 71) rfl)),
    w_BadTable := kitsB_ok (List.all_eq_true.mp hx _ (List.mem_of_getElem? (i := 72) rfl)),
    w_BadText := kitsB_ok (List.all_eq_true.mp hx _ (List.mem_of_getElem? (i := 73) rfl)),
    w_NoName := kitsB_ok (List.all_eq_true.mp hx _ (List.mem_of_getElem? (i := 74) rfl)),
    w_NotKept := kitsB_ok (List.all_eq_true.mp hx _ (List.mem_of_getElem? (i := 75) rfl)),
    w_NothingToRedo := kitsB_ok (List.all_eq_true.mp hx _ (List.mem_of_getElem? (i := 76) rfl)),
    w_NothingToUndo := kitsB_ok (List.all_eq_true.mp hx _ (List.mem_of_getElem? (i := 77) rfl)),
    w_PlaneError := kitsB_ok (List.all_eq_true.mp hx _ (List.mem_of_getElem? (i := 78) rfl)),
    w_TakenName := kitsB_ok (List.all_eq_true.mp hx _ (List.mem_of_getElem? (i := 79) rfl)),
    w_ValueError := kitsB_ok (List.all_eq_true.mp hx _ (List.mem_of_getElem? (i := 80) rfl)),
    b_ValueError := He.free_ok X G (ft (.free "ValueError") (List.mem_of_getElem? (i := 25) rfl)),
    b_int := He.free_ok X G (ft (.free "int") (List.mem_of_getElem? (i := 26) rfl)),
    b_isinstance := He.free_ok X G (ft (.free "isinstance") (List.mem_of_getElem? (i := 27) rfl)),
    b_len := He.free_ok X G (ft (.free "len") (List.mem_of_getElem? (i := 28) rfl)),
    b_list := He.free_ok X G (ft (.free "list") (List.mem_of_getElem? (i := 29) rfl)),
    b_range := He.free_ok X G (ft (.free "range") (List.mem_of_getElem? (i := 30) rfl)),
    b_repr := He.free_ok X G (ft (.free "repr") (List.mem_of_getElem? (i := 31) rfl)) }⟩
end Tp
open PySem PySem.W PySem.Calls PyProof.Rows
namespace Tp
abbrev hq : Program := view hR.prog [26]
abbrev hdd : DefRec := HandSHeadRun.topDef hR.prog 26
theorem he1 : opening hR.prog = plainProg hR.prog.main.scope.names := by kernel_rfl
theorem he2 : ∀ s, fenceModules? hR.prog s = some s := fun s => by kernel_rfl
theorem he3 : defOf hq hR.name = some (hdd, []) := by kernel_rfl
theorem he4 : hR.prog.theDef hR.name = some (hdd.params, hdd.body, hdd.scope) := by kernel_rfl
theorem he5 : kwWritten? hdd.params.kwonlyargs hdd.params.kw_defaults = some [] := by kernel_rfl
theorem he6 : (!hR.writes || hR.records.isEmpty) = true := by rfl
theorem he7 : hR.wellSaid = true := by decide +kernel
theorem he8 : (chainsOk hq && opensWell hR.prog && (frees hR.toRowW && hR.within.isEmpty)) = true := by decide +kernel
theorem he9 : hR.prog.bare := ⟨rfl, rfl, rfl, rfl, rfl, by decide +kernel⟩
theorem he10 : hR.toRowW.promised := by w_witness2
theorem he12 : hdd.name = ("law" : PySem.Str) := by kernel_rfl
theorem he13 : hdd.params.defaults = [] := by kernel_rfl
theorem he11 : WalkO hq hloose (XL hq []) hhk.says hR.toRowW hdd [] fun f vs => PySem.call f vs := by
  refine Dl.walk_ofA (l := PySem.Challenge.rw_tenpoints_k00_errors) (n := 63) (x := "script") rfl (by decide) he13 ?F
  intro w mg fa h Y G hmg0
  obtain ⟨K, KX, c⟩ := Y
  have hmg : mg ("law" : PySem.Str) = some (.ref fa) := by
    rw [← he12]
    exact hmg0
  obtain ⟨T⟩ := Tp.facts (w := w) KX G c
  have e := hmg.symm.trans T.g_law
  have e2 : fa = T.f_law := by injection e with e; injection e
  subst e2
  have b := L2.FunD.bindsA (ps := ["script"]) T.D_law fun _ _ _ _ _ _ us hl => match us, hl with | [_], _ => rfl
  exact ⟨K, T.d_law, T.G, Tp.F_law, rfl, rfl, KX, fun s v => b s [v] rfl, fun ns _ => Tp.law_true ns, fun base _ _ => Tp.O_law T⟩
theorem hall : hR.Holds := HandSHeadRun.head_any hob_eq he1 he2 hrun he3 he4 he5 he6 he7 he8 he9 he10 he11
end Tp
theorem PySem.Challenge.cw_tenpoints_k00_errors_holds : PySem.Challenge.rw_tenpoints_k00_errors.Holds := by
  w_on; o_law
  exact Tp.hall
