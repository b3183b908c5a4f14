import PyProof.Rows.All
import Wide.All
import OpenK.AllK
import Wide.FinOn
import PySem.Challenge.RW_quietbit_k00_kinds_and_the_lot_checker
import HandS.Base
import HandS.Call
import HandS.List
import HandS.Comp
import HandS.Ends
import HandS.Dict
import HandS.Iter
import HandS.Text
import HandS.Words
import HandS.WordsList
import HandS.WordsDict
import HandS.Exc
import HandS.TryOnly
import HandS.ExcOwn
import HandS.WordsExc
import HandS.ExcInit
import HandS.ExcField
import HandS.Defaults
import HandS.CallSlots
import HandS.Walk
import HandS.Flow
import HandS.Style
import HandS.IsInst
import HandS.TupAny
import HandS.TupMul
import HandS.Deep
import HandS.DictComp
import HandS.Lambda
import HandS.HeadHook1
import HandS.HeadHook2
import HandS.HeadHook3
import HandS.HeadHook4
import HandS.WideBits
import HandS.Conv
import HandS.Zip
import HandS.Rev
import KE.GoesMore
import PyProof.EnumMake
import KE.SortKeyHeap
import KE.KLam
import KE.KSortKey
import HandS.SortKw
import HandS.RevTup
import PyProof.ListStr
import KE.KDictList
import KE.SortData
import HandS.Star
import HandS.HeadWalk
import HandS.EndTab
import HandS.Head0
import HandS.Head1
import HandS.Head2
import HandS.HeadEnd
import KE.KStateDown
set_option Elab.async false
set_option linter.all false
set_option maxRecDepth 100000
set_option autoImplicit false
namespace QB
open PySem
/-- the defs that make lambdas or inner defs: where they stand, the made one's name -/
def lamTab : List ((Str × Option Str) × Str) := [(("_law_checked", none), "_law_checked.<locals>.<lambda>"), (("_law_made_due", none), "_law_made_due.<locals>.<lambda>"), (("_law_lots", none), "_law_lots.<locals>.<lambda>")]
end QB
set_option maxHeartbeats 4000000
namespace QB
open PySem PySem.Spec PyProof.Rows L2
/-! ### data, cells, results -/
inductive D where
  | non | bl (b : Bool) | int (i : Int) | str (x : Str) | ty (n : String)
  | tup (xs : List D) | lst (xs : List D) | frz (xs : List D) | dic (ks : List Key) (vs : List D) | ref (i : Nat)
  | exc (a dd : Nat) (c : Str) (ks : List Str) (xs : List D)
inductive Ob where
  | lst (xs : List D) | dic (kvs : List (Key × D))
abbrev Sto := List Ob
abbrev Sl := List (Option D)
inductive R (α : Type) where
  | ok (a : α) (S : Sto) | ex (c : Str) (fs : List (Str × D)) (S : Sto) | stuck
inductive Out where
  | nx (δ : Sl) (S : Sto) | rt (d : D) (S : Sto) | bk (δ : Sl) (S : Sto) | ct (δ : Sl) (S : Sto)
  | ex (c : Str) (fs : List (Str × D)) (δ : Sl) (S : Sto) | stuck
abbrev DE := Sl → Sto → R D
abbrev DA := Sl → Sto → R (List D)
abbrev DS := Sl → Sto → Out
def R.bind {α β : Type} (r : R α) (f : α → Sto → R β) : R β := match r with
  | .ok a S => f a S
  | .ex c fs S => .ex c fs S
  | .stuck => .stuck
/-! ### how data lie in the heap -/
/-- the cells' addresses; addresses that nothing else stands at (a comprehension's list while it grows) -/
structure Mm where
  cs : List Addr
  no : List Addr
instance : Membership Addr Mm := ⟨fun m a => a ∈ m.cs ∨ a ∈ m.no⟩
theorem Mm.mem_cs {m : Mm} {a : Addr} (h : a ∈ m.cs) : a ∈ m := Or.inl h
theorem Mm.not_cs {m : Mm} {a : Addr} (h : a ∉ m) : a ∉ m.cs := fun z => h (Or.inl z)
theorem Mm.not_no {m : Mm} {a : Addr} (h : a ∉ m) : a ∉ m.no := fun z => h (Or.inr z)
def Mm.add (m : Mm) (p : Addr) : Mm := ⟨m.cs ++ [p], m.no⟩
def Mm.ban (m : Mm) (p : Addr) : Mm := ⟨m.cs, p :: m.no⟩
def KL (K : PySem.W.Frag) (a : Addr) (xs : List V) : Prop :=
  ∃ (o : Obj) (its : Array Value) (n : Nat), K.lookup a = some o ∧ o.cls = .type "list" ∧ o.dict = none ∧ o.data = .seq its n ∧ its.size ≤ sizeLine ∧ Vals xs its.toList
def KT (K : PySem.W.Frag) (a : Addr) (xs : List V) : Prop :=
  ∃ (o : Obj) (its : Array Value) (n : Nat), K.lookup a = some o ∧ o.cls = .type "tuple" ∧ o.data = .seq its n ∧ its.size ≤ sizeLine ∧ Vals xs its.toList ∧ o.dict = none
mutual
inductive Rv (K : PySem.W.Frag) (m : Mm) (H : Hp) : D → V → Prop
  | non : Rv K m H .non .non
  | bl (b : Bool) : Rv K m H (.bl b) (.bl b)
  | int (i : Int) : Rv K m H (.int i) (.int i)
  | str (x : Str) : Rv K m H (.str x) (.str x)
  | ty (n : String) : Rv K m H (.ty n) (.ty n)
  | tup {a : Addr} {vs : List V} {ds : List D} (h : (H a = some (.tup vs) ∧ a ∉ m) ∨ KT K a vs) (r : Rvs K m H ds vs) : Rv K m H (.tup ds) (.ref a)
  | lst {a : Addr} {vs : List V} {ds : List D} (h : H a = some (.lst vs) ∧ a ∉ m) (r : Rvs K m H ds vs) : Rv K m H (.lst ds) (.ref a)
  | frz {a : Addr} {vs : List V} {ds : List D} (h : (Rd H a (.lst vs) ∧ a ∉ m) ∨ KL K a vs) (r : Rvs K m H ds vs) : Rv K m H (.frz ds) (.ref a)
  | dic {a : Addr} {ks : List Key} {vs : List V} {ds : List D} (h : H a = some (.dK (ks.zip vs)) ∧ a ∉ m) (l : ks.length = vs.length) (r : Rvs K m H ds vs) : Rv K m H (.dic ks ds) (.ref a)
  | ref {i : Nat} {a : Addr} (h : m.cs[i]? = some a) : Rv K m H (.ref i) (.ref a)
  | exc {a dd : Nat} {c : Str} {ks : List Str} {ds : List D} {vs : List V} {fv : List (Str × V)} (h : H dd = some (.xd fv) ∧ dd ∉ m) (l : ks.length = vs.length) (hv : ∀ p, p ∈ ks.zip vs → fv.lookup p.1 = some p.2) (r : Rvs K m H ds vs) : Rv K m H (.exc a dd c ks ds) (.ref a)
inductive Rvs (K : PySem.W.Frag) (m : Mm) (H : Hp) : List D → List V → Prop
  | nil : Rvs K m H [] []
  | cons {d : D} {v : V} {ds : List D} {vs : List V} (h : Rv K m H d v) (r : Rvs K m H ds vs) : Rvs K m H (d :: ds) (v :: vs)
end
def noTb (o : HO) : Prop := ∀ ps, o ≠ .tbl ps
/-- nothing is known there, or a table of code objects -/
def NT (H : Hp) (a : Addr) : Prop := ∀ o, H a = some o → ∃ ps, o = .tbl ps
theorem NT.none {H : Hp} {a : Addr} (h : H a = Option.none) : NT H a := fun o q => by rw [h] at q; cases q
theorem NT.not {H : Hp} {a : Addr} {o : HO} (h : NT H a) (q : H a = some o) (n : noTb o) : False := by
  obtain ⟨ps, e⟩ := h o q
  exact n ps e
theorem nt_upd {H : Hp} {p a : Addr} {o : HO} (h : NT (L2.upd H p o) a) (hp : H p = Option.none ∨ noTb o) : NT H a := by
  by_cases e : a = p
  · subst e
    rcases hp with hp | hp
    · exact .none hp
    · exact (h.not upd_same hp).elim
  · intro u q
    exact h u (by rw [upd_ne e]; exact q)
structure Ext (m : Mm) (H : Hp) (m' : Mm) (H' : Hp) : Prop where
  pre : ∃ l, m'.cs = m.cs ++ l
  sub : ∀ a, a ∈ m.no → a ∈ m'.no
  nno : ∀ a, a ∈ m'.no → a ∈ m.no ∨ NT H a
  new : ∀ a, a ∈ m'.cs → a ∈ m.cs ∨ NT H a
  keep : ∀ a o, a ∉ m.cs → H a = some o → noTb o → H' a = some o
  there : ∀ a, NT H' a → NT H a
section
variable {K : PySem.W.Frag} {m m' m'' : Mm} {H H' H'' : Hp}
theorem Ext.refl : Ext m H m H := ⟨⟨[], by simp⟩, fun _ h => h, fun _ h => .inl h, fun _ h => .inl h, fun _ _ _ h _ => h, fun _ h => h⟩
theorem Ext.not (e : Ext m H m' H') {a : Addr} {o : HO} (h : a ∉ m) (q : H a = some o) (n : noTb o := by intro _ z; cases z) : a ∉ m' := fun z => by
  rcases z with z | z
  · rcases e.new a z with z | z
    · exact h (.inl z)
    · exact z.not q n
  · rcases e.nno a z with z | z
    · exact h (.inr z)
    · exact z.not q n
theorem Ext.notc (e : Ext m H m' H') {a : Addr} {o : HO} (h : a ∉ m.cs) (q : H a = some o) (n : noTb o) : a ∉ m'.cs := fun z => by
  rcases e.new a z with z | z
  · exact h z
  · exact z.not q n
theorem Ext.keep' (e : Ext m H m' H') (a : Addr) (o : HO) (h : a ∉ m) (q : H a = some o) (n : noTb o := by intro _ z; cases z) : H' a = some o := e.keep a o (Mm.not_cs h) q n
theorem Ext.trans (e : Ext m H m' H') (f : Ext m' H' m'' H'') : Ext m H m'' H'' := by
  refine ⟨?_, fun a z => f.sub a (e.sub a z), fun a z => ?_, fun a z => ?_, fun a o h q n => f.keep a o (e.notc h q n) (e.keep a o h q n) n, fun a h => e.there a (f.there a h)⟩
  · obtain ⟨l, e1⟩ := e.pre
    obtain ⟨l', e2⟩ := f.pre
    exact ⟨l ++ l', by rw [e2, e1]; simp⟩
  · rcases f.nno a z with z | z
    · exact e.nno a z
    · exact .inr (e.there a z)
  · rcases f.new a z with z | z
    · exact e.new a z
    · exact .inr (e.there a z)
theorem Ext.rd (e : Ext m H m' H') {a : Addr} {o : HO} (h : a ∉ m) (q : Rd H a o) (n : noTb o := by intro _ z; cases z) : Rd H' a o ∧ a ∉ m' := by
  rcases q with q | ⟨f, q⟩
  · exact ⟨.inl (e.keep' _ _ h q n), e.not h q n⟩
  · exact ⟨.inr ⟨f, e.keep' _ _ h q⟩, e.not h q⟩
theorem Ext.get (e : Ext m H m' H') {i : Nat} {a : Addr} (h : m.cs[i]? = some a) : m'.cs[i]? = some a := by
  obtain ⟨l, e1⟩ := e.pre
  rw [e1, List.getElem?_append_left (List.getElem?_eq_some_iff.mp h).1]
  exact h
mutual
theorem Rv.mono (e : Ext m H m' H') : ∀ (d : D) {v : V}, Rv K m H d v → Rv K m' H' d v
  | .non, _, .non => .non
  | .bl _, _, .bl b => .bl b
  | .int _, _, .int b => .int b
  | .str _, _, .str b => .str b
  | .ty _, _, .ty b => .ty b
  | .tup ds, _, .tup h r => .tup (h.imp (fun h => ⟨e.keep' _ _ h.2 h.1, e.not h.2 h.1⟩) id) (Rvs.mono e ds r)
  | .lst ds, _, .lst h r => .lst ⟨e.keep' _ _ h.2 h.1, e.not h.2 h.1⟩ (Rvs.mono e ds r)
  | .frz ds, _, .frz h r => .frz (h.imp (fun h => e.rd h.2 h.1) id) (Rvs.mono e ds r)
  | .dic _ ds, _, .dic h l r => .dic ⟨e.keep' _ _ h.2 h.1, e.not h.2 h.1⟩ l (Rvs.mono e ds r)
  | .ref _, _, .ref h => .ref (e.get h)
  | .exc _ _ _ _ ds, _, .exc h l hv r => .exc ⟨e.keep' _ _ h.2 h.1, e.not h.2 h.1⟩ l hv (Rvs.mono e ds r)
theorem Rvs.mono (e : Ext m H m' H') : ∀ (ds : List D) {vs : List V}, Rvs K m H ds vs → Rvs K m' H' ds vs
  | [], _, .nil => .nil
  | d :: ds, _, .cons h r => .cons (Rv.mono e d h) (Rvs.mono e ds r)
end
theorem Rvs.length : ∀ {ds : List D} {vs : List V}, Rvs K m H ds vs → ds.length = vs.length
  | [], _, .nil => rfl
  | _ :: _, _, .cons _ r => congrArg (· + 1) r.length
theorem Rvs.get : ∀ {ds : List D} {vs : List V} {i : Nat} {d : D}, Rvs K m H ds vs → ds[i]? = some d → ∃ v, vs[i]? = some v ∧ Rv K m H d v
  | _, _, _, _, .nil, h => by simp at h
  | _, _, 0, _, .cons h r, q => by simp at q; subst q; exact ⟨_, rfl, h⟩
  | _, _, i + 1, d, .cons h r, q => by
    obtain ⟨v, a, b⟩ := Rvs.get (i := i) (d := d) r (by simpa using q)
    exact ⟨v, by simpa using a, b⟩
theorem Rvs.getV {ds : List D} {vs : List V} {i : Nat} {v : V} (r : Rvs K m H ds vs) (h : vs[i]? = some v) : ∃ d, ds[i]? = some d ∧ Rv K m H d v := by
  have hi : i < ds.length := by
    rw [r.length]; exact (List.getElem?_eq_some_iff.mp h).1
  obtain ⟨v', a, b⟩ := r.get (List.getElem?_eq_getElem hi)
  rw [h] at a; cases a
  exact ⟨_, List.getElem?_eq_getElem hi, b⟩
theorem Rvs.append : ∀ {ds es : List D} {vs us : List V}, Rvs K m H ds vs → Rvs K m H es us → Rvs K m H (ds ++ es) (vs ++ us)
  | _, _, _, _, .nil, s => s
  | _, _, _, _, .cons h r, s => .cons h (r.append s)
theorem Rvs.take : ∀ {ds : List D} {vs : List V} (n : Nat), Rvs K m H ds vs → Rvs K m H (ds.take n) (vs.take n)
  | _, _, 0, _ => .nil
  | _, _, _ + 1, .nil => .nil
  | _, _, n + 1, .cons h r => .cons h (Rvs.take n r)
theorem Rvs.drop : ∀ {ds : List D} {vs : List V} (n : Nat), Rvs K m H ds vs → Rvs K m H (ds.drop n) (vs.drop n)
  | _, _, 0, r => r
  | _, _, _ + 1, .nil => .nil
  | _, _, n + 1, .cons _ r => Rvs.drop n r
theorem Rvs.set {d : D} {v : V} (h : Rv K m H d v) : ∀ {ds : List D} {vs : List V} (n : Nat), Rvs K m H ds vs → Rvs K m H (ds.set n d) (vs.set n v)
  | _, _, _, .nil => .nil
  | _, _, 0, .cons _ r => .cons h r
  | _, _, n + 1, .cons q r => .cons q (Rvs.set h n r)
theorem Rvs.reverse {ds : List D} {vs : List V} (r : Rvs K m H ds vs) : Rvs K m H ds.reverse vs.reverse := by
  induction ds generalizing vs with
  | nil => cases r; exact .nil
  | cons d ds ih =>
    cases r with
    | cons h r =>
      rw [List.reverse_cons, List.reverse_cons]
      exact (ih r).append (.cons h .nil)
theorem Rvs.dropLast {ds : List D} {vs : List V} (r : Rvs K m H ds vs) : Rvs K m H ds.dropLast vs.dropLast := by
  rw [List.dropLast_eq_take, List.dropLast_eq_take, r.length]
  exact r.take _
theorem Rvs.one {d : D} {vs : List V} (r : Rvs K m H [d] vs) : ∃ v, vs = [v] ∧ Rv K m H d v := by
  cases r with
  | cons h r => cases r; exact ⟨_, rfl, h⟩
theorem Rvs.two {d e : D} {vs : List V} (r : Rvs K m H [d, e] vs) : ∃ v u, vs = [v, u] ∧ Rv K m H d v ∧ Rv K m H e u := by
  cases r with
  | cons h r => obtain ⟨u, rfl, q⟩ := r.one; exact ⟨_, _, rfl, h, q⟩
theorem Rv.listAt {ds : List D} {v : V} (r : Rv K m H (.lst ds) v) : ∃ a vs, v = .ref a ∧ H a = some (.lst vs) ∧ Rvs K m H ds vs := by
  cases r with
  | lst h r => exact ⟨_, _, rfl, h.1, r⟩
theorem Rv.frzAt {ds : List D} {v : V} (r : Rv K m H (.frz ds) v) : ∃ a vs, v = .ref a ∧ SqL K H a vs ∧ Rvs K m H ds vs := by
  cases r with
  | frz h r => exact ⟨_, _, rfl, h.imp (fun h => h.1) id, r⟩
theorem Rv.tupAt {ds : List D} {v : V} (r : Rv K m H (.tup ds) v) : ∃ a vs, v = .ref a ∧ SqT K H a vs ∧ Rvs K m H ds vs := by
  cases r with
  | tup h r =>
    refine ⟨_, _, rfl, ?_, r⟩
    rcases h with h | ⟨o, its, n, h1, h2, h3, h4, h5, _⟩
    · exact .inl (.inl h.1)
    · exact .inr ⟨o, its, n, h1, h2, h3, h4, h5⟩
end
theorem upd_none {H : Hp} {p a : Addr} {o : HO} (h : L2.upd H p o a = none) : H a = none := by
  by_cases e : a = p
  · rw [e, upd_same] at h; cases h
  · rw [upd_ne e] at h; exact h
/-! ### the tables of code objects -/
def TBL (K : PySem.W.Frag) : List (Addr × Str) := lamTab.map fun p => ((He.cT K p.1).2, p.2)
/-- a list, a dict -/
def lkO (o : HO) : Prop := (∃ vs, o = .lst vs) ∨ ∃ kvs, o = .dK kvs
theorem lkO.tb {o : HO} (h : lkO o) : noTb o := by
  intro ps z
  rcases h with ⟨_, h⟩ | ⟨_, h⟩ <;> (rw [h] at z; cases z)
theorem lkO.xd {o : HO} (h : lkO o) : ∀ fv, o ≠ .xd fv := by
  intro ps z
  rcases h with ⟨_, h⟩ | ⟨_, h⟩ <;> (rw [h] at z; cases z)
theorem tabs_upd {T : List (Addr × Str)} {H : Hp} {p : Addr} {o : HO} (t : LamX.Tabs T H) (hp : H p = none ∨ ∃ u, H p = some u ∧ lkO u) : LamX.Tabs T (L2.upd H p o) := fun q hq => by
  obtain ⟨ps, h1, h2, h3⟩ := t q hq
  have ne : ∀ (a : Addr) (u : HO), H a = some u → ¬ lkO u → a ≠ p := fun a u e n z => by
    subst z
    rcases hp with hp | ⟨w, hp, l⟩
    · rw [hp] at e; cases e
    · rw [hp] at e; cases e; exact n l
  refine ⟨ps, by rw [upd_ne (ne _ _ h1 fun l => l.tb ps rfl)]; exact h1, h2, fun pos cv hc => ?_⟩
  obtain ⟨c, e1, e2⟩ := h3 pos cv hc
  refine ⟨c, e1, ?_⟩
  rw [upd_ne (ne _ _ e2 fun l => by rcases l with ⟨_, l⟩ | ⟨_, l⟩ <;> cases l)]
  exact e2
/-! ### the store -/
def Cell (K : PySem.W.Frag) (m : Mm) (H : Hp) (a : Addr) : Ob → Prop
  | .lst ds => ∃ vs, H a = some (.lst vs) ∧ Rvs K m H ds vs
  | .dic kvs => ∃ vs, H a = some (.dK ((kvs.map (·.1)).zip vs)) ∧ Rvs K m H (kvs.map (·.2)) vs
structure RelS (K : PySem.W.Frag) (m : Mm) (S : Sto) (H : Hp) : Prop where
  len : m.cs.length = S.length
  nd : m.cs.Nodup
  cell : ∀ (i : Nat) (a : Addr) (o : Ob), m.cs[i]? = some a → S[i]? = some o → Cell K m H a o
  ban : ∀ a ∈ m.no, a ∉ m.cs ∧ ∃ o, H a = some o ∧ lkO o
  tabs : LamX.Tabs (TBL K) H
structure RelE (K : PySem.W.Frag) (m : Mm) (H : Hp) (δ : Sl) (σ : L2.St) : Prop where
  len : δ.length = σ.length
  val : ∀ (i : Nat) (d : D), δ[i]? = some (some d) → ∃ v, σ[i]? = some (some v) ∧ Rv K m H d v
section
variable {K : PySem.W.Frag} {m m' : Mm} {H H' : Hp} {S : Sto} {δ : Sl} {σ : L2.St}
theorem RelE.mono (r : RelE K m H δ σ) (e : Ext m H m' H') : RelE K m' H' δ σ := ⟨r.len, fun i d h => by
  obtain ⟨v, a, b⟩ := r.val i d h
  exact ⟨v, a, b.mono e d⟩⟩
theorem RelE.set (r : RelE K m H δ σ) {d : D} {v : V} (h : Rv K m H d v) (i : Nat) : RelE K m H (δ.set i (some d)) (σ.set i (some v)) := by
  refine ⟨by simp [r.len], fun j e q => ?_⟩
  by_cases hj : i = j
  · subst hj
    by_cases hi : i < δ.length
    · rw [List.getElem?_set_self hi] at q
      cases q
      exact ⟨v, by rw [List.getElem?_set_self (r.len ▸ hi)], h⟩
    · rw [List.getElem?_eq_none (by simpa using hi)] at q
      cases q
  · rw [List.getElem?_set_ne hj] at q
    rw [List.getElem?_set_ne hj]
    exact r.val j e q
theorem RelS.tracked (r : RelS K m S H) {a : Addr} (h : a ∈ m) : ∃ o, H a = some o := by
  rcases h with h | h
  · obtain ⟨i, hi⟩ := List.getElem?_of_mem h
    have hi' : i < S.length := by
      rw [← r.len]; exact (List.getElem?_eq_some_iff.mp hi).1
    have c := r.cell i a _ hi (List.getElem?_eq_getElem hi')
    cases q : S[i] with
    | lst ds => rw [q] at c; obtain ⟨vs, h, _⟩ := c; exact ⟨_, h⟩
    | dic kvs => rw [q] at c; obtain ⟨vs, h, _⟩ := c; exact ⟨_, h⟩
  · obtain ⟨u, q, _⟩ := (r.ban a h).2
    exact ⟨u, q⟩
theorem RelS.notin (r : RelS K m S H) {a : Addr} (h : H a = none) : a ∉ m := fun z => by
  obtain ⟨o, q⟩ := r.tracked z
  rw [h] at q; cases q
/-- a new thing that never changes -/
theorem RelS.upd (r : RelS K m S H) {p : Addr} (hp : H p = none) (o : HO) : Ext m H m (upd H p o) ∧ RelS K m S (upd H p o) := by
  have e : Ext m H m (L2.upd H p o) := ⟨⟨[], by simp⟩, fun _ h => h, fun _ h => .inl h, fun _ h => .inl h, fun a u _ h _ => by rw [upd_ne (ne_of_none h hp)]; exact h, fun a h => nt_upd h (.inl hp)⟩
  refine ⟨e, r.len, r.nd, fun i a u h1 h2 => ?_, fun a h => ⟨(r.ban a h).1, ?_⟩, tabs_upd r.tabs (.inl hp)⟩
  · have c := r.cell i a u h1 h2
    cases u with
    | lst ds =>
      obtain ⟨vs, h, q⟩ := c
      exact ⟨vs, by rw [upd_ne (ne_of_none h hp)]; exact h, q.mono e⟩
    | dic kvs =>
      obtain ⟨vs, h, q⟩ := c
      exact ⟨vs, by rw [upd_ne (ne_of_none h hp)]; exact h, q.mono e⟩
  · obtain ⟨u, q, n⟩ := (r.ban a h).2
    exact ⟨u, by rw [upd_ne (ne_of_none q hp)]; exact q, n⟩
theorem RelS.newTup (r : RelS K m S H) {p : Addr} (hp : H p = none) {ds : List D} {vs : List V} (q : Rvs K m H ds vs) :
    Ext m H m (L2.upd H p (.tup vs)) ∧ RelS K m S (L2.upd H p (.tup vs)) ∧ Rv K m (L2.upd H p (.tup vs)) (.tup ds) (.ref p) := by
  obtain ⟨e, r'⟩ := r.upd hp (.tup vs)
  exact ⟨e, r', .tup (.inl ⟨upd_same, r.notin hp⟩) (q.mono e)⟩
theorem RelS.newLst (r : RelS K m S H) {p : Addr} (hp : H p = none) {ds : List D} {vs : List V} (q : Rvs K m H ds vs) :
    Ext m H m (L2.upd H p (.lst vs)) ∧ RelS K m S (L2.upd H p (.lst vs)) ∧ Rv K m (L2.upd H p (.lst vs)) (.lst ds) (.ref p) := by
  obtain ⟨e, r'⟩ := r.upd hp (.lst vs)
  exact ⟨e, r', .lst ⟨upd_same, r.notin hp⟩ (q.mono e)⟩
/-- a new cell -/
theorem RelS.newCell (r : RelS K m S H) {p : Addr} (hp : H p = none) {o : HO} {u : Ob} (c : ∀ m' H', Ext m H m' H' → H' p = some o → Cell K m' H' p u) :
    Ext m H (m.add p) (L2.upd H p o) ∧ RelS K (m.add p) (S ++ [u]) (L2.upd H p o) ∧ Rv K (m.add p) (L2.upd H p o) (.ref S.length) (.ref p) := by
  have np := r.notin hp
  have e : Ext m H (m.add p) (L2.upd H p o) := ⟨⟨[p], rfl⟩, fun _ h => h, fun _ h => .inl h, fun a h => by
    rcases List.mem_append.mp h with h | h
    · exact .inl h
    · rw [List.mem_singleton.mp h]; exact .inr (.none hp), fun a v _ h _ => by rw [upd_ne (ne_of_none h hp)]; exact h, fun a h => nt_upd h (.inl hp)⟩
  refine ⟨e, ⟨by simp [Mm.add, r.len], ?_, fun i a v h1 h2 => ?_, fun a h => ⟨fun z => ?_, ?_⟩, tabs_upd r.tabs (.inl hp)⟩, .ref ?_⟩
  · unfold Mm.add
    rw [List.nodup_append]
    refine ⟨r.nd, by simp, fun a h b h' => ?_⟩
    rw [List.mem_singleton] at h'
    subst h'
    rintro rfl
    exact np (.inl h)
  · unfold Mm.add at h1
    by_cases hi : i < m.cs.length
    · rw [List.getElem?_append_left hi] at h1
      rw [List.getElem?_append_left (r.len ▸ hi)] at h2
      have c := r.cell i a v h1 h2
      cases v with
      | lst ds =>
        obtain ⟨vs, h, q⟩ := c
        exact ⟨vs, by rw [upd_ne (ne_of_none h hp)]; exact h, q.mono e⟩
      | dic kvs =>
        obtain ⟨vs, h, q⟩ := c
        exact ⟨vs, by rw [upd_ne (ne_of_none h hp)]; exact h, q.mono e⟩
    · have hi' : i = m.cs.length := by
        have := (List.getElem?_eq_some_iff.mp h1).1
        simp at this; omega
      subst hi'
      rw [List.getElem?_concat_length] at h1
      rw [r.len, List.getElem?_concat_length] at h2
      cases h1; cases h2
      exact c _ _ e upd_same
  · rcases List.mem_append.mp z with z | z
    · exact (r.ban a h).1 z
    · rw [List.mem_singleton.mp z] at h
      exact np (.inr h)
  · obtain ⟨u, q, n⟩ := (r.ban a h).2
    exact ⟨u, by rw [upd_ne (ne_of_none q hp)]; exact q, n⟩
  · unfold Mm.add
    rw [← r.len, List.getElem?_concat_length]
/-- a cell is written -/
theorem RelS.write (r : RelS K m S H) {i : Nat} {a : Addr} {o : HO} {u : Ob} (h : m.cs[i]? = some a) (c : ∀ m' H', Ext m H m' H' → H' a = some o → Cell K m' H' a u) (no : lkO o := by first | exact .inl ⟨_, rfl⟩ | exact .inr ⟨_, rfl⟩) :
    Ext m H m (L2.upd H a o) ∧ RelS K m (S.set i u) (L2.upd H a o) := by
  have ha : a ∈ m.cs := List.mem_of_getElem? h
  have hi : i < m.cs.length := (List.getElem?_eq_some_iff.mp h).1
  have e : Ext m H m (L2.upd H a o) := ⟨⟨[], by simp⟩, fun _ h => h, fun _ h => .inl h, fun _ h => .inl h, fun b v hb h _ => by
    rw [upd_ne (show b ≠ a from fun z => hb (by rw [z]; exact ha))]; exact h, fun a h => nt_upd h (.inr no.tb)⟩
  have lk : ∃ u, H a = some u ∧ lkO u := by
    have hi' : i < S.length := r.len ▸ hi
    have c := r.cell i a _ h (List.getElem?_eq_getElem hi')
    cases q : S[i] with
    | lst ds => rw [q] at c; obtain ⟨vs, h, _⟩ := c; exact ⟨_, h, .inl ⟨_, rfl⟩⟩
    | dic kvs => rw [q] at c; obtain ⟨vs, h, _⟩ := c; exact ⟨_, h, .inr ⟨_, rfl⟩⟩
  refine ⟨e, by simp [r.len], r.nd, fun j b v h1 h2 => ?_, fun b h => ⟨(r.ban b h).1, ?_⟩, tabs_upd r.tabs (.inr lk)⟩
  · by_cases hj : i = j
    · subst hj
      rw [h] at h1; cases h1
      rw [List.getElem?_set_self (r.len ▸ hi)] at h2
      cases h2
      exact c _ _ e upd_same
    · rw [List.getElem?_set_ne hj] at h2
      have hb : b ≠ a := fun z => by
        subst z
        obtain ⟨l1, e1⟩ := List.getElem?_eq_some_iff.mp h
        obtain ⟨l2, e2⟩ := List.getElem?_eq_some_iff.mp h1
        exact hj ((List.getElem_inj r.nd).mp (e1.trans e2.symm))
      have c := r.cell j b v h1 h2
      cases v with
      | lst ds =>
        obtain ⟨vs, h, q⟩ := c
        exact ⟨vs, by rw [upd_ne hb]; exact h, q.mono e⟩
      | dic kvs =>
        obtain ⟨vs, h, q⟩ := c
        exact ⟨vs, by rw [upd_ne hb]; exact h, q.mono e⟩
  · obtain ⟨v, q, n⟩ := (r.ban b h).2
    exact ⟨v, by rw [upd_ne (show b ≠ a from fun z => (r.ban b h).1 (by rw [z]; exact ha))]; exact q, n⟩
theorem rd_upd {p a : Addr} {o u : HO} (h : Rd H a u) (hn : a ≠ p) : Rd (L2.upd H p o) a u := by
  rcases h with h | ⟨f, h⟩
  · exact .inl (by rw [upd_ne hn]; exact h)
  · exact .inr ⟨f, by rw [upd_ne hn]; exact h⟩
/-! a banned address is written: nothing sees it -/
mutual
theorem Rv.offban {p : Addr} {o : HO} (hp : p ∈ m) (hc : p ∉ m.cs) : ∀ (d : D) {v : V}, Rv K m H d v → Rv K m (L2.upd H p o) d v
  | .non, _, .non => .non
  | .bl _, _, .bl b => .bl b
  | .int _, _, .int b => .int b
  | .str _, _, .str b => .str b
  | .ty _, _, .ty b => .ty b
  | .tup ds, _, .tup h r => .tup (h.imp (fun h => ⟨by rw [upd_ne (fun z => h.2 (by rw [z]; exact hp))]; exact h.1, h.2⟩) id) (Rvs.offban hp hc ds r)
  | .lst ds, _, .lst h r => .lst ⟨by rw [upd_ne (fun z => h.2 (by rw [z]; exact hp))]; exact h.1, h.2⟩ (Rvs.offban hp hc ds r)
  | .frz ds, _, .frz h r => .frz (h.imp (fun h => ⟨rd_upd h.1 fun z => h.2 (by rw [z]; exact hp), h.2⟩) id) (Rvs.offban hp hc ds r)
  | .dic _ ds, _, .dic h l r => .dic ⟨by rw [upd_ne (fun z => h.2 (by rw [z]; exact hp))]; exact h.1, h.2⟩ l (Rvs.offban hp hc ds r)
  | .ref _, _, .ref h => .ref h
  | .exc _ _ _ _ ds, _, .exc h l hv r => .exc ⟨by rw [upd_ne (fun z => h.2 (by rw [z]; exact hp))]; exact h.1, h.2⟩ l hv (Rvs.offban hp hc ds r)
theorem Rvs.offban {p : Addr} {o : HO} (hp : p ∈ m) (hc : p ∉ m.cs) : ∀ (ds : List D) {vs : List V}, Rvs K m H ds vs → Rvs K m (L2.upd H p o) ds vs
  | [], _, .nil => .nil
  | d :: ds, _, .cons h r => .cons (Rv.offban hp hc d h) (Rvs.offban hp hc ds r)
end
theorem RelE.offban {p : Addr} {o : HO} (hp : p ∈ m) (hc : p ∉ m.cs) (r : RelE K m H δ σ) : RelE K m (L2.upd H p o) δ σ := ⟨r.len, fun i d h => by
  obtain ⟨v, a, b⟩ := r.val i d h
  exact ⟨v, a, b.offban hp hc d⟩⟩
theorem RelS.offban {p : Addr} {o : HO} (hp : p ∈ m.no) (ho : lkO o) (r : RelS K m S H) : RelS K m S (L2.upd H p o) := by
  have hc := (r.ban p hp).1
  refine ⟨r.len, r.nd, fun i a u h1 h2 => ?_, fun a h => ⟨(r.ban a h).1, ?_⟩, tabs_upd r.tabs (.inr (r.ban p hp).2)⟩
  · have ha : a ≠ p := fun z => hc (by rw [← z]; exact List.mem_of_getElem? h1)
    have c := r.cell i a u h1 h2
    cases u with
    | lst ds =>
      obtain ⟨vs, h, q⟩ := c
      exact ⟨vs, by rw [upd_ne ha]; exact h, q.offban (.inr hp) hc⟩
    | dic kvs =>
      obtain ⟨vs, h, q⟩ := c
      exact ⟨vs, by rw [upd_ne ha]; exact h, q.offban (.inr hp) hc⟩
  · by_cases e : a = p
    · exact ⟨o, by rw [e]; exact upd_same, ho⟩
    · obtain ⟨v, q, n⟩ := (r.ban a h).2
      exact ⟨v, by rw [upd_ne e]; exact q, n⟩
/-! a new banned address, and it is let go -/
mutual
theorem Rv.reban {m n : Mm} (hc : n.cs = m.cs) (hn : ∀ a o, a ∉ m → H a = some o → a ∉ n) : ∀ (d : D) {v : V}, Rv K m H d v → Rv K n H d v
  | .non, _, .non => .non
  | .bl _, _, .bl b => .bl b
  | .int _, _, .int b => .int b
  | .str _, _, .str b => .str b
  | .ty _, _, .ty b => .ty b
  | .tup ds, _, .tup h r => .tup (h.imp (fun h => ⟨h.1, hn _ _ h.2 h.1⟩) id) (Rvs.reban hc hn ds r)
  | .lst ds, _, .lst h r => .lst ⟨h.1, hn _ _ h.2 h.1⟩ (Rvs.reban hc hn ds r)
  | .frz ds, _, .frz h r => .frz (h.imp (fun h => ⟨h.1, by
      rcases h.1 with q | ⟨o, q⟩
      · exact hn _ _ h.2 q
      · exact hn _ _ h.2 q⟩) id) (Rvs.reban hc hn ds r)
  | .dic _ ds, _, .dic h l r => .dic ⟨h.1, hn _ _ h.2 h.1⟩ l (Rvs.reban hc hn ds r)
  | .ref _, _, .ref h => .ref (by rw [hc]; exact h)
  | .exc _ _ _ _ ds, _, .exc h l hv r => .exc ⟨h.1, hn _ _ h.2 h.1⟩ l hv (Rvs.reban hc hn ds r)
theorem Rvs.reban {m n : Mm} (hc : n.cs = m.cs) (hn : ∀ a o, a ∉ m → H a = some o → a ∉ n) : ∀ (ds : List D) {vs : List V}, Rvs K m H ds vs → Rvs K n H ds vs
  | [], _, .nil => .nil
  | d :: ds, _, .cons h r => .cons (Rv.reban hc hn d h) (Rvs.reban hc hn ds r)
end
theorem RelE.reban {n : Mm} (r : RelE K m H δ σ) (hc : n.cs = m.cs) (hn : ∀ a o, a ∉ m → H a = some o → a ∉ n) : RelE K n H δ σ := ⟨r.len, fun i d h => by
  obtain ⟨v, a, b⟩ := r.val i d h
  exact ⟨v, a, b.reban hc hn d⟩⟩
theorem RelS.reban {n : Mm} (r : RelS K m S H) (hc : n.cs = m.cs) (hn : ∀ a o, a ∉ m → H a = some o → a ∉ n) (hb : ∀ a ∈ n.no, a ∉ n.cs ∧ ∃ o, H a = some o ∧ lkO o) : RelS K n S H := by
  refine ⟨by rw [hc]; exact r.len, by rw [hc]; exact r.nd, fun i a u h1 h2 => ?_, hb, r.tabs⟩
  rw [hc] at h1
  have c := r.cell i a u h1 h2
  cases u with
  | lst ds =>
    obtain ⟨vs, h, q⟩ := c
    exact ⟨vs, h, q.reban hc hn⟩
  | dic kvs =>
    obtain ⟨vs, h, q⟩ := c
    exact ⟨vs, h, q.reban hc hn⟩
theorem RelS.lstCell (r : RelS K m S H) {i : Nat} {v : V} {ds : List D} (h : Rv K m H (.ref i) v) (q : S[i]? = some (.lst ds)) :
    ∃ a vs, v = .ref a ∧ m.cs[i]? = some a ∧ H a = some (.lst vs) ∧ Rvs K m H ds vs := by
  cases h with
  | ref h =>
    obtain ⟨vs, h1, h2⟩ := r.cell i _ _ h q
    exact ⟨_, vs, rfl, h, h1, h2⟩
theorem RelS.dicCell (r : RelS K m S H) {i : Nat} {v : V} {kvs : List (Key × D)} (h : Rv K m H (.ref i) v) (q : S[i]? = some (.dic kvs)) :
    ∃ a vs, v = .ref a ∧ m.cs[i]? = some a ∧ H a = some (.dK ((kvs.map (·.1)).zip vs)) ∧ Rvs K m H (kvs.map (·.2)) vs := by
  cases h with
  | ref h =>
    obtain ⟨vs, h1, h2⟩ := r.cell i _ _ h q
    exact ⟨_, vs, rfl, h, h1, h2⟩
end
/-! ### what a result asks -/
abbrev Flds (K : PySem.W.Frag) (m : Mm) (H : Hp) (fs : List (Str × D)) (fv : List (Str × V)) : Prop := ∀ f d, fs.lookup f = some d → ∃ v, fv.lookup f = some v ∧ Rv K m H d v
def OkR {α β : Type} (K : PySem.W.Frag) (mg : Str → Option Value) (Rel : Mm → Hp → α → β → Prop) (m : Mm) (H : Hp) (r : R α) (Q : β → Hp → Prop) (E : XK) : Prop := match r with
  | .ok d S' => ∀ v m' H', Ext m H m' H' → RelS K m' S' H' → Rel m' H' d v → Q v H'
  | .ex c fs S' => ∀ C dd fv m' H', mg c = some (.ref C) → Ext m H m' H' → RelS K m' S' H' → H' dd = some (.xd fv) → Flds K m' H' fs fv → E (.ref C) (some dd) H'
  | .stuck => False
def OkS (K : PySem.W.Frag) (mg : Str → Option Value) (W : WX) (m : Mm) (H : Hp) (o : Out) (Dn : Ends) : Prop := match o with
  | .nx δ S => ∀ σ m' H', Ext m H m' H' → RelS K m' S H' → RelE K m' H' δ σ → Dn.nx σ H'
  | .bk δ S => ∀ σ m' H', Ext m H m' H' → RelS K m' S H' → RelE K m' H' δ σ → Dn.bk σ H'
  | .ct δ S => ∀ σ m' H', Ext m H m' H' → RelS K m' S H' → RelE K m' H' δ σ → Dn.ct σ H'
  | .rt d S => ∀ v m' H', Ext m H m' H' → RelS K m' S H' → Rv K m' H' d v → Dn.rt v H'
  | .ex c fs δ S => ∀ C dd fv σ m' H', mg c = some (.ref C) → Ext m H m' H' → RelS K m' S H' → RelE K m' H' δ σ → H' dd = some (.xd fv) → Flds K m' H' fs fv → W (.ref C) (some dd) σ H'
  | .stuck => False
def LE (K : PySem.W.Frag) (mg : Str → Option Value) (W : WX) (t : DE) : TE := fun σ H Q => ∃ m S δ, RelS K m S H ∧ RelE K m H δ σ ∧ OkR K mg (Rv K) m H (t δ S) Q (fun c d H' => W c d σ H')
def LA (K : PySem.W.Frag) (mg : Str → Option Value) (W : WX) (t : DA) : TA := fun σ H Q => ∃ m S δ, RelS K m S H ∧ RelE K m H δ σ ∧ OkR K mg (Rvs K) m H (t δ S) Q (fun c d H' => W c d σ H')
def LS (K : PySem.W.Frag) (mg : Str → Option Value) (W : WX) (t : DS) : TS := fun Dn σ H => ∃ m S δ, RelS K m S H ∧ RelE K m H δ σ ∧ OkS K mg W m H (t δ S) Dn
def PEv (X : Cx) (e : Expr) (t : DE) : Prop := ∀ W, Takes X W → PE X e (LE X.K X.mg W t)
def PAv (X : Cx) (es : List Expr) (t : DA) : Prop := ∀ W, Takes X W → PA X es (LA X.K X.mg W t)
def PSv (X : Cx) (st : Stmt) (t : DS) : Prop := ∀ W, Takes X W → PS X st (LS X.K X.mg W t)
def PSsv (X : Cx) (st : List Stmt) (t : DS) : Prop := ∀ W, Takes X W → PSs X st (LS X.K X.mg W t)
/-- a test: the truth of a value -/
abbrev DT := Sl → Sto → R Bool
def LT (K : PySem.W.Frag) (mg : Str → Option Value) (W : WX) (t : DT) : TT := fun σ H Q => ∃ m S δ, RelS K m S H ∧ RelE K m H δ σ ∧ OkR K mg (fun _ _ b b' => b' = b) m H (t δ S) Q (fun c d H' => W c d σ H')
def PTv (X : Cx) (e : Expr) (t : DT) : Prop := ∀ W, Takes X W → PT X e (LT X.K X.mg W t)
def PWv (X : Cx) (e : Expr) (t : DT) : Prop := ∀ W, Takes X W → PW X e (LT X.K X.mg W t)
theorem PE.imp {X : Cx} {e : Expr} {t t' : TE} (h : PE X e t) (i : ∀ σ H Q, t' σ H Q → t σ H Q) : PE X e t' := ⟨fun pins s σ H Q I q => h.run pins s σ H Q I (i σ H Q q)⟩
theorem PA.imp {X : Cx} {e : List Expr} {t t' : TA} (h : PA X e t) (i : ∀ σ H Q, t' σ H Q → t σ H Q) : PA X e t' := ⟨fun pos pins s σ H Q I q => h.run pos pins s σ H Q I (i σ H Q q)⟩
theorem PT.imp {X : Cx} {e : Expr} {t t' : TT} (h : PT X e t) (i : ∀ σ H Q, t' σ H Q → t σ H Q) : PT X e t' := ⟨fun pins s σ H Q I q => h.run pins s σ H Q I (i σ H Q q)⟩
theorem PW.imp {X : Cx} {e : Expr} {t t' : TT} (h : PW X e t) (i : ∀ σ H Q, t' σ H Q → t σ H Q) : PW X e t' := ⟨fun wh pins s σ H Q I q => h.run wh pins s σ H Q I (i σ H Q q)⟩
theorem PS.imp {X : Cx} {e : Stmt} {t t' : TS} (h : PS X e t) (i : ∀ Dn σ H, t' Dn σ H → t Dn σ H) : PS X e t' := ⟨fun pins s σ H Dn I q => h.run pins s σ H Dn I (i Dn σ H q)⟩
theorem PSs.imp {X : Cx} {e : List Stmt} {t t' : TS} (h : PSs X e t) (i : ∀ Dn σ H, t' Dn σ H → t Dn σ H) : PSs X e t' := ⟨fun pins s σ H Dn I q => h.run pins s σ H Dn I (i Dn σ H q)⟩
section
variable {α β γ : Type} {K : PySem.W.Frag} {mg : Str → Option Value} {m m' : Mm} {H H' : Hp}
/-- later in the heap -/
theorem OkR.ext {Rel : Mm → Hp → α → β → Prop} {r : R α} {Q : β → Hp → Prop} {E : XK} (h : OkR K mg Rel m H r Q E) (e : Ext m H m' H') : OkR K mg Rel m' H' r Q E := by
  cases r with
  | ok d S => exact fun v m2 H2 e2 => h v m2 H2 (e.trans e2)
  | ex c fs S => exact fun C dd fv m2 H2 g e2 => h C dd fv m2 H2 g (e.trans e2)
  | stuck => exact h
theorem OkS.ext {W : WX} {o : Out} {Dn : Ends} (h : OkS K mg W m H o Dn) (e : Ext m H m' H') : OkS K mg W m' H' o Dn := by
  cases o with
  | nx δ S => exact fun σ m2 H2 e2 => h σ m2 H2 (e.trans e2)
  | bk δ S => exact fun σ m2 H2 e2 => h σ m2 H2 (e.trans e2)
  | ct δ S => exact fun σ m2 H2 e2 => h σ m2 H2 (e.trans e2)
  | rt δ S => exact fun σ m2 H2 e2 => h σ m2 H2 (e.trans e2)
  | ex c fs δ S => exact fun C dd fv σ m2 H2 g e2 => h C dd fv σ m2 H2 g (e.trans e2)
  | stuck => exact h
end
end QB
set_option maxHeartbeats 4000000
namespace QB
open PySem PySem.Spec PyProof.Rows L2
/-! ### plain readings of data -/
def getL (d : D) (S : Sto) : Option (List D) := match d with
  | .lst ds => some ds
  | .ref i => (match S[i]? with
    | some (.lst ds) => some ds
    | _ => none)
  | _ => none
/-- a list or a tuple -/
def getQ (d : D) (S : Sto) : Option (List D) := match d with
  | .lst ds => some ds
  | .tup ds => some ds
  | .frz ds => some ds
  | .ref i => (match S[i]? with
    | some (.lst ds) => some ds
    | _ => none)
  | _ => none
def getK (d : D) (S : Sto) : Option (List (Key × D)) := match d with
  | .dic ks vs => some (ks.zip vs)
  | .ref i => (match S[i]? with
    | some (.dic kvs) => some kvs
    | _ => none)
  | _ => none
section
variable {K : PySem.W.Frag} {m m' : Mm} {H H' : Hp} {S : Sto}
theorem getL_rv (rs : RelS K m S H) {d : D} {v : V} {ds : List D} (r : Rv K m H d v) (h : getL d S = some ds) : ∃ a vs, v = .ref a ∧ H a = some (.lst vs) ∧ Rvs K m H ds vs := by
  unfold getL at h
  split at h
  · cases h; exact r.listAt
  · rename_i i
    split at h
    · rename_i ds' q
      cases h
      obtain ⟨a, vs, e, _, h1, h2⟩ := rs.lstCell r q
      exact ⟨a, vs, e, h1, h2⟩
    · cases h
  · cases h
theorem getQ_rv (rs : RelS K m S H) {d : D} {v : V} {ds : List D} (r : Rv K m H d v) (h : getQ d S = some ds) : ∃ a vs, v = .ref a ∧ (SqL K H a vs ∨ SqT K H a vs) ∧ Rvs K m H ds vs := by
  unfold getQ at h
  split at h
  · cases h
    obtain ⟨a, vs, e, h1, h2⟩ := r.listAt
    exact ⟨a, vs, e, .inl (SqL.of h1), h2⟩
  · cases h
    obtain ⟨a, vs, e, h1, h2⟩ := r.tupAt
    exact ⟨a, vs, e, .inr h1, h2⟩
  · cases h
    obtain ⟨a, vs, e, h1, h2⟩ := r.frzAt
    exact ⟨a, vs, e, .inl h1, h2⟩
  · rename_i i
    split at h
    · rename_i ds' q
      cases h
      obtain ⟨a, vs, e, _, h1, h2⟩ := rs.lstCell r q
      exact ⟨a, vs, e, .inl (SqL.of h1), h2⟩
    · cases h
  · cases h
theorem getK_rv (rs : RelS K m S H) {d : D} {v : V} {kvs : List (Key × D)} (r : Rv K m H d v) (h : getK d S = some kvs) :
    ∃ a vs, v = .ref a ∧ H a = some (.dK ((kvs.map (·.1)).zip vs)) ∧ Rvs K m H (kvs.map (·.2)) vs := by
  unfold getK at h
  split at h
  · cases h
    cases r with
    | @dic a' _ vs' _ h l r =>
      have hl := r.length
      refine ⟨_, vs', rfl, ?_, ?_⟩
      · rw [List.map_fst_zip (by omega)]; exact h.1
      · rw [List.map_snd_zip (by omega)]; exact r
  · rename_i i
    split at h
    · rename_i ds' q
      cases h
      obtain ⟨a, vs, e, _, h1, h2⟩ := rs.dicCell r q
      exact ⟨a, vs, e, h1, h2⟩
    · cases h
  · cases h
end
/-! ### the bind of readings -/
section
variable {K : PySem.W.Frag} {mg : Str → Option Value} {m m' : Mm} {H H' : Hp} {S : Sto} {δ : Sl} {σ : L2.St} {W : WX}
theorem le_bind {α β : Type} {Rel : Mm → Hp → α → β → Prop} {t : DE} {k : D → Sto → R α} {Q : β → Hp → Prop} {Q' : VK} (rs : RelS K m S H) (re : RelE K m H δ σ)
    (h : OkR K mg Rel m H ((t δ S).bind k) Q (fun c d H' => W c d σ H'))
    (hk : ∀ d S1 v m1 H1, Ext m H m1 H1 → RelS K m1 S1 H1 → RelE K m1 H1 δ σ → Rv K m1 H1 d v → OkR K mg Rel m1 H1 (k d S1) Q (fun c d H' => W c d σ H') → Q' v H1) :
    LE K mg W t σ H Q' := by
  refine ⟨m, S, δ, rs, re, ?_⟩
  cases e : t δ S with
  | ok d S1 =>
    rw [e] at h
    exact fun v m1 H1 x r1 rv => hk d S1 v m1 H1 x r1 (re.mono x) rv (OkR.ext h x)
  | ex c fs S1 =>
    rw [e] at h
    exact h
  | stuck =>
    rw [e] at h
    exact h
theorem la_bind {α β : Type} {Rel : Mm → Hp → α → β → Prop} {t : DA} {k : List D → Sto → R α} {Q : β → Hp → Prop} {Q' : List V → Hp → Prop} (rs : RelS K m S H) (re : RelE K m H δ σ)
    (h : OkR K mg Rel m H ((t δ S).bind k) Q (fun c d H' => W c d σ H'))
    (hk : ∀ d S1 v m1 H1, Ext m H m1 H1 → RelS K m1 S1 H1 → RelE K m1 H1 δ σ → Rvs K m1 H1 d v → OkR K mg Rel m1 H1 (k d S1) Q (fun c d H' => W c d σ H') → Q' v H1) :
    LA K mg W t σ H Q' := by
  refine ⟨m, S, δ, rs, re, ?_⟩
  cases e : t δ S with
  | ok d S1 =>
    rw [e] at h
    exact fun v m1 H1 x r1 rv => hk d S1 v m1 H1 x r1 (re.mono x) rv (OkR.ext h x)
  | ex c fs S1 =>
    rw [e] at h
    exact h
  | stuck =>
    rw [e] at h
    exact h
theorem lt_bind {α β : Type} {Rel : Mm → Hp → α → β → Prop} {t : DT} {k : Bool → Sto → R α} {Q : β → Hp → Prop} {Q' : Bool → Hp → Prop} (rs : RelS K m S H) (re : RelE K m H δ σ)
    (h : OkR K mg Rel m H ((t δ S).bind k) Q (fun c d H' => W c d σ H'))
    (hk : ∀ b S1 m1 H1, Ext m H m1 H1 → RelS K m1 S1 H1 → RelE K m1 H1 δ σ → OkR K mg Rel m1 H1 (k b S1) Q (fun c d H' => W c d σ H') → Q' b H1) :
    LT K mg W t σ H Q' := by
  refine ⟨m, S, δ, rs, re, ?_⟩
  cases e : t δ S with
  | ok d S1 =>
    rw [e] at h
    intro v m1 H1 x r1 rv
    subst rv
    exact hk v S1 m1 H1 x r1 (re.mono x) (OkR.ext h x)
  | ex c fs S1 =>
    rw [e] at h
    exact h
  | stuck =>
    rw [e] at h
    exact h
end
/-! ### constants and names -/
def dC (d : D) : DE := fun _ S => .ok d S
def dVar (i : Nat) : DE := fun δ S => match δ[i]? with
  | some (some d) => .ok d S
  | _ => .stuck
section
variable {X : Cx} {pos : Pos}
theorem pev_c {e : Expr} {d : D} {v : V} (h : PE X e (tC v)) (r : ∀ m H, Rv X.K m H d v) : PEv X e (dC d) := fun W tk =>
  PE.imp h fun σ H Q ⟨m, S, δ, rs, re, q⟩ => q v m H .refl rs (r m H)
theorem pev_int {i : Int} {j : Nat} : PEv X (.Constant (.int i) j pos) (dC (.int i)) := pev_c pe_int fun _ _ => .int i
theorem pev_bl {b : Bool} {j : Nat} : PEv X (.Constant (.bool b) j pos) (dC (.bl b)) := pev_c pe_bl fun _ _ => .bl b
theorem pev_non {j : Nat} : PEv X (.Constant .none j pos) (dC .non) := pev_c pe_non fun _ _ => .non
theorem pev_str {x : Str} {j : Nat} : PEv X (.Constant (.str x) j pos) (dC (.str x)) := pev_c pe_str fun _ _ => .str x
theorem pev_var (i : Nat) {x : Str} (hN : X.N[i]? = some x := by rfl) (hv : Vis X.env.scope x := by first | exact Or.inl rfl | exact Or.inr (Or.inl rfl) | exact Or.inr (Or.inr rfl))
    (hd : (x == ("__debug__" : Str)) = false := by decide) (hcd : (x == ("__classdict__" : Str)) = false := by decide) : PEv X (.Name x pos) (dVar i) := fun W tk =>
  PE.imp (pe_var hN hv hd hcd) fun σ H Q ⟨m, S, δ, rs, re, q⟩ => by
    unfold dVar at q
    split at q
    · rename_i d e
      obtain ⟨v, h1, h2⟩ := re.val i d e
      exact ⟨v, h1, q v m H .refl rs h2⟩
    · exact q.elim
/-- a module's constant -/
theorem pev_glob {x : Str} {d : D} {v : V} {u : Value} (hg : Gl X x) (hm : X.mg x = some u) (r : RelV v u) (h : ∀ m H, Rv X.K m H d v) (hd : (x == ("__debug__" : Str)) = false := by decide) : PEv X (.Name x pos) (dC d) :=
  pev_c (pe_glob hg hm r hd) h
/-- a built-in class as a value -/
theorem pev_ty {x : Str} {n : String} (hg : Gl X x) (hm : X.mg x = none) (hv : bootBuiltins x = some (.type n)) (hn : x ≠ "__name__" := by decide) (hd : (x == ("__debug__" : Str)) = false := by decide) : PEv X (.Name x pos) (dC (.ty n)) :=
  pev_c (pe_bltn (v := .ty n) hg hm hv rfl hn hd) fun _ _ => .ty n
end
/-! ### two-place operations -/
abbrev DB := D → D → Sto → Option D
def ofOpt (o : Option D) (S : Sto) : R D := match o with
  | some d => .ok d S
  | none => .stuck
def Sim2 (K : PySem.W.Frag) (r : R2) (f : DB) : Prop := ∀ (m : Mm) (S : Sto) (H : Hp) (x y : D) (v u : V) (d : D) (Q : VK), RelS K m S H → Rv K m H x v → Rv K m H y u → f x y S = some d →
  (∀ w m' H', Ext m H m' H' → RelS K m' S H' → Rv K m' H' d w → Q w H') → r v u H Q
def d2 (f : DB) (ta tb : DE) : DE := fun δ S => (ta δ S).bind fun x S1 => (tb δ S1).bind fun y S2 => ofOpt (f x y S2) S2
def d1 (f : D → Sto → Option D) (ta : DE) : DE := fun δ S => (ta δ S).bind fun x S1 => ofOpt (f x S1) S1
section
variable {X : Cx} {a b c : Expr} {ta tb tc : DE} {pos : Pos}
theorem tOp_of {K : PySem.W.Frag} {mg : Str → Option Value} {W : WX} {r : R2} {f : DB} (hs : Sim2 K r f) {σ : L2.St} {H : Hp} {Q : VK} (h : LE K mg W (d2 f ta tb) σ H Q) : tOp r (LE K mg W ta) (LE K mg W tb) σ H Q := by
  obtain ⟨m, S, δ, rs, re, q⟩ := h
  refine le_bind rs re q fun x S1 v m1 H1 e1 rs1 re1 rv q1 => ?_
  refine le_bind rs1 re1 q1 fun y S2 u m2 H2 e2 rs2 re2 ru q2 => ?_
  cases e : f x y S2 with
  | none => rw [e] at q2; exact q2.elim
  | some d =>
    rw [e] at q2
    exact hs m2 S2 H2 x y v u d Q rs2 (rv.mono e2 x) ru e fun w m' H' e' rs' rw' => q2 w m' H' e' rs' rw'
theorem pev_op {op : Operator} {r : R2} {f : DB} (ho : OpR X (binaryOp op) r) (hs : Sim2 X.K r f) (ha : PEv X a ta) (hb : PEv X b tb) : PEv X (.BinOp a op b pos) (d2 f ta tb) := fun W tk =>
  PE.imp (pe_op ho (ha W tk) (hb W tk)) fun σ H Q h => tOp_of hs h
theorem pev_cmp {op : CmpOp} {r : R2} {f : DB} (ho : OpR X (compareOp op) r) (hs : Sim2 X.K r f) (ha : PEv X a ta) (hb : PEv X b tb) (hm : behindInMarks op b = false := by first | exact nomark _ | rfl) : PEv X (.Compare a [op] [b] pos) (d2 f ta tb) := fun W tk =>
  PE.imp (pe_cmpR ho (ha W tk) (hb W tk) hm) fun σ H Q h => tOp_of hs h
theorem pev_un {op : UnaryOp} {r : V → Hp → VK → Prop} {f : D → Sto → Option D} (ho : UnR X (unaryOp op) r)
    (hs : ∀ (m : Mm) (S : Sto) (H : Hp) (x : D) (v : V) (d : D) (Q : VK), RelS X.K m S H → Rv X.K m H x v → f x S = some d → (∀ w m' H', Ext m H m' H' → RelS X.K m' S H' → Rv X.K m' H' d w → Q w H') → r v H Q)
    (ha : PEv X a ta) : PEv X (.UnaryOp op a pos) (d1 f ta) := fun W tk =>
  PE.imp (pe_un ho (ha W tk)) fun σ H Q ⟨m, S, δ, rs, re, q⟩ => by
    refine le_bind rs re q fun x S1 v m1 H1 e1 rs1 re1 rv q1 => ?_
    cases e : f x S1 with
    | none => rw [e] at q1; exact q1.elim
    | some d =>
      rw [e] at q1
      exact hs m1 S1 H1 x v d Q rs1 rv e fun w m' H' e' rs' rw' => q1 w m' H' e' rs' rw'
end
theorem Sim2.or {K : PySem.W.Frag} {r r' : R2} {f g : DB} (h : Sim2 K r f) (h' : Sim2 K r' g) : Sim2 K (fun x y H Q => r x y H Q ∨ r' x y H Q) (fun x y S => match f x y S with | some d => some d | none => g x y S) := by
  intro m S H x y v u d Q rs rv ru e q
  cases e1 : f x y S with
  | some d' =>
    simp only [e1] at e
    cases e
    exact .inl (h m S H x y v u d Q rs rv ru e1 q)
  | none =>
    simp only [e1] at e
    exact .inr (h' m S H x y v u d Q rs rv ru e q)
/-! ### arithmetic -/
def bInt (f : Int → Int → Option Int) : DB := fun x y _ => match x, y with
  | .int i, .int j => (f i j).map .int
  | _, _ => none
theorem Rv.intOf {K : PySem.W.Frag} {m : Mm} {H : Hp} {i : Int} {v : V} (r : Rv K m H (.int i) v) : v = .int i := by cases r; rfl
theorem Rv.strOf {K : PySem.W.Frag} {m : Mm} {H : Hp} {i : Str} {v : V} (r : Rv K m H (.str i) v) : v = .str i := by cases r; rfl
theorem Rv.blOf {K : PySem.W.Frag} {m : Mm} {H : Hp} {i : Bool} {v : V} (r : Rv K m H (.bl i) v) : v = .bl i := by cases r; rfl
theorem Rv.nonOf {K : PySem.W.Frag} {m : Mm} {H : Hp} {v : V} (r : Rv K m H .non v) : v = .non := by cases r; rfl
theorem sim_int {K : PySem.W.Frag} {r : R2} {f : Int → Int → Option Int} (h : ∀ i j k H Q, f i j = some k → Q (V.int k) H → r (.int i) (.int j) H Q) : Sim2 K r (bInt f) := by
  intro m S H x y v u d Q rs rv ru e q
  unfold bInt at e
  split at e
  · rename_i i j
    cases rv.intOf; cases ru.intOf
    cases ef : f i j with
    | none => rw [ef] at e; cases e
    | some k =>
      rw [ef] at e
      cases e
      exact h i j k H Q ef (q _ m H .refl rs (.int k))
  · cases e
def small64 (i : Int) : Bool := decide (-(2 ^ 64) < i) && decide (i < 2 ^ 64)
def bSub : DB := bInt fun i j => some (i - j)
def bMulI : DB := bInt fun i j => if small64 i || small64 j then some (i * j) else none
def bFdiv : DB := bInt fun i j => if 0 < j ∧ j < 1073741824 then some (i / j) else none
def bMod : DB := bInt fun i j => if 0 < j then some (i % j) else none
def bPow : DB := bInt fun i j => if 0 ≤ j ∧ j ≤ 1000000 ∧ i.natAbs < 2 ^ 64 then some (i ^ j.toNat) else none
def bShl : DB := bInt fun i j => if 0 ≤ j ∧ j ≤ 1000000 ∧ i.natAbs < 2 ^ 64 then some (i * 2 ^ j.toNat) else none
def bShr : DB := bInt fun i j => if 0 ≤ j then some (i / 2 ^ j.toNat) else none
def bAnd : DB := bInt fun i j => some (Builtin.bitAnd i j)
def bOr : DB := bInt fun i j => some (Builtin.bitOr i j)
def bXor : DB := bInt fun i j => some (Builtin.bitXor i j)
section
variable {X : Cx} {a b c : Expr} {ta tb tc : DE} {pos : Pos}
theorem pev_sub (ha : PEv X a ta) (hb : PEv X b tb) : PEv X (.BinOp a .Sub b pos) (d2 bSub ta tb) := pev_op op_sub (sim_int fun i j k H Q e q => by cases e; exact ⟨i, j, rfl, rfl, q⟩) ha hb
theorem pev_fdiv (ha : PEv X a ta) (hb : PEv X b tb) : PEv X (.BinOp a .FloorDiv b pos) (d2 bFdiv ta tb) := pev_op op_fdiv (sim_int fun i j k H Q e q => by
  split at e
  · rename_i h; cases e; exact ⟨i, j, rfl, rfl, h, q⟩
  · cases e) ha hb
theorem pev_mod (ha : PEv X a ta) (hb : PEv X b tb) : PEv X (.BinOp a .Mod b pos) (d2 bMod ta tb) := pev_op op_mod (sim_int fun i j k H Q e q => by
  split at e
  · rename_i h; cases e; exact ⟨i, j, rfl, rfl, h, q⟩
  · cases e) ha hb
theorem pev_pow (ha : PEv X a ta) (hb : PEv X b tb) : PEv X (.BinOp a .Pow b pos) (d2 bPow ta tb) := pev_op op_pow (sim_int fun i j k H Q e q => by
  split at e
  · rename_i h; cases e; exact ⟨i, j, rfl, rfl, h, q⟩
  · cases e) ha hb
theorem pev_shl (ha : PEv X a ta) (hb : PEv X b tb) : PEv X (.BinOp a .LShift b pos) (d2 bShl ta tb) := pev_op op_shl (sim_int fun i j k H Q e q => by
  split at e
  · rename_i h; cases e; exact ⟨i, j, rfl, rfl, h, q⟩
  · cases e) ha hb
theorem pev_shr (ha : PEv X a ta) (hb : PEv X b tb) : PEv X (.BinOp a .RShift b pos) (d2 bShr ta tb) := pev_op op_shr (sim_int fun i j k H Q e q => by
  split at e
  · rename_i h; cases e; exact ⟨i, j, rfl, rfl, h, q⟩
  · cases e) ha hb
theorem pev_band (ha : PEv X a ta) (hb : PEv X b tb) : PEv X (.BinOp a .BitAnd b pos) (d2 bAnd ta tb) := pev_op op_and (sim_int fun i j k H Q e q => by cases e; exact ⟨i, j, rfl, rfl, q⟩) ha hb
theorem pev_bor (ha : PEv X a ta) (hb : PEv X b tb) : PEv X (.BinOp a .BitOr b pos) (d2 bOr ta tb) := pev_op op_or (sim_int fun i j k H Q e q => by cases e; exact ⟨i, j, rfl, rfl, q⟩) ha hb
theorem pev_bxor (ha : PEv X a ta) (hb : PEv X b tb) : PEv X (.BinOp a .BitXor b pos) (d2 bXor ta tb) := pev_op op_xor (sim_int fun i j k H Q e q => by cases e; exact ⟨i, j, rfl, rfl, q⟩) ha hb
/-! ### + and * -/
def bAddI : DB := bInt fun i j => some (i + j)
def bAddS : DB := fun x y _ => match x, y with
  | .str a, .str b => if a.length + b.length ≤ sizeLine then some (.str (a ++ b)) else none
  | _, _ => none
def bAddT : DB := fun x y _ => match x, y with
  | .tup a, .tup b => if a.length + b.length ≤ sizeLine then some (.tup (a ++ b)) else none
  | _, _ => none
def bAddL : DB := fun x y S => match getL x S, getL y S with
  | some a, some b => if a.length + b.length ≤ sizeLine then some (.lst (a ++ b)) else none
  | _, _ => none
def bAdd : DB := fun x y S => match bAddI x y S with
  | some d => some d
  | none => match bAddS x y S with
    | some d => some d
    | none => match bAddT x y S with
      | some d => some d
      | none => bAddL x y S
theorem sim_addS {K : PySem.W.Frag} : Sim2 K (fun x y H Q => ∃ i j, x = .str i ∧ y = .str j ∧ i.length + j.length ≤ sizeLine ∧ Q (.str (i ++ j)) H) bAddS := by
  intro m S H x y v u d Q rs rv ru e q
  unfold bAddS at e
  split at e
  · split at e
    · rename_i i j h
      cases rv.strOf; cases ru.strOf; cases e
      exact ⟨i, j, rfl, rfl, h, q _ m H .refl rs (.str _)⟩
    · cases e
  · cases e
theorem sim_addT {K : PySem.W.Frag} : Sim2 K (rCatA K) bAddT := by
  intro m S H x y v u d Q rs rv ru e q
  unfold bAddT at e
  split at e
  · split at e
    · rename_i ds es h
      cases e
      obtain ⟨a, vs, rfl, h1, r1⟩ := rv.tupAt
      obtain ⟨b, us, rfl, h2, r2⟩ := ru.tupAt
      refine ⟨a, b, vs, us, rfl, rfl, h1, h2, by rw [← r1.length, ← r2.length]; exact h, fun z => ?_, fun _ z => ?_, fun _ _ p hp => ?_⟩
      · subst z
        cases r1
        exact q _ m H .refl rs ru
      · subst z
        cases r2
        rw [List.append_nil] at q
        exact q _ m H .refl rs rv
      · obtain ⟨e', rs', rp⟩ := rs.newTup hp (r1.append r2)
        exact q _ m _ e' rs' rp
    · cases e
  · cases e
theorem sim_addL {K : PySem.W.Frag} : Sim2 K rCat bAddL := by
  intro m S H x y v u d Q rs rv ru e q
  unfold bAddL at e
  split at e
  · split at e
    · rename_i ds es h1 h2 h
      cases e
      obtain ⟨a, vs, rfl, h1, r1⟩ := getL_rv rs rv h1
      obtain ⟨b, us, rfl, h2, r2⟩ := getL_rv rs ru h2
      refine ⟨a, b, vs, us, rfl, rfl, h1, h2, by rw [← r1.length, ← r2.length]; exact h, fun p hp => ?_⟩
      obtain ⟨e', rs', rp⟩ := rs.newLst hp (r1.append r2)
      exact q _ m _ e' rs' rp
    · cases e
  · cases e
theorem sim_addI {K : PySem.W.Frag} : Sim2 K (rI0 fun i j => .int (i + j)) bAddI := sim_int fun i j k H Q e q => by cases e; exact ⟨i, j, rfl, rfl, q⟩
theorem pev_add (ha : PEv X a ta) (hb : PEv X b tb) : PEv X (.BinOp a .Add b pos) (d2 bAdd ta tb) :=
  pev_op (op_add.or (op_add_str.or (op_catA.or op_cat))) (sim_addI.or (sim_addS.or (sim_addT.or sim_addL))) ha hb
def bMulT : DB := fun x y _ => match x, y with
  | .tup xs, .int k => if xs ≠ [] ∧ 2 ≤ k ∧ k ≤ 1000 ∧ xs.length ≤ 1000 then some (.tup (List.replicate k.toNat xs).flatten) else none
  | _, _ => none
def bMul : DB := fun x y S => match bMulI x y S with
  | some d => some d
  | none => bMulT x y S
theorem Rvs.rep {K : PySem.W.Frag} {m : Mm} {H : Hp} {ds : List D} {vs : List V} (r : Rvs K m H ds vs) : ∀ k : Nat, Rvs K m H (List.replicate k ds).flatten (List.replicate k vs).flatten
  | 0 => .nil
  | k + 1 => by
    rw [List.replicate_succ, List.replicate_succ, List.flatten_cons, List.flatten_cons]
    exact r.append (Rvs.rep r k)
theorem sim_mulI {K : PySem.W.Frag} : Sim2 K (rI CMul fun i j => .int (i * j)) bMulI := sim_int fun i j k H Q e q => by
  split at e
  · rename_i h
    cases e
    refine ⟨i, j, rfl, rfl, ?_, q⟩
    unfold small64 at h
    simp only [Bool.or_eq_true, Bool.and_eq_true, decide_eq_true_eq] at h
    exact h
  · cases e
theorem sim_mulT {K : PySem.W.Frag} : Sim2 K (rRepT K) bMulT := by
  intro m S H x y v u d Q rs rv ru e q
  unfold bMulT at e
  split at e
  · split at e
    · rename_i ds k h
      cases e
      obtain ⟨a, vs, rfl, h1, r1⟩ := rv.tupAt
      cases ru.intOf
      refine ⟨a, k, vs, rfl, rfl, h1, fun z => ?_, h.2.1, h.2.2.1, r1.length ▸ h.2.2.2, fun p hp => ?_⟩
      · subst z; cases r1; exact h.1 rfl
      · obtain ⟨e', rs', rp⟩ := rs.newTup hp (r1.rep k.toNat)
        exact q _ m _ e' rs' rp
    · cases e
  · cases e
theorem pev_mul (ha : PEv X a ta) (hb : PEv X b tb) : PEv X (.BinOp a .Mult b pos) (d2 bMul ta tb) := pev_op (op_mul.or op_repT) (sim_mulI.or sim_mulT) ha hb
def uNeg : D → Sto → Option D := fun x _ => match x with
  | .int i => some (.int (-i))
  | _ => none
theorem pev_neg (ha : PEv X a ta) : PEv X (.UnaryOp .USub a pos) (d1 uNeg ta) := pev_un un_neg (fun m S H x v d Q rs rv e q => by
  unfold uNeg at e
  split at e
  · rename_i i
    cases e; cases rv.intOf
    exact ⟨i, rfl, q _ m H .refl rs (.int _)⟩
  · cases e) ha
end
end QB
set_option maxHeartbeats 4000000
namespace QB
open PySem PySem.Spec PyProof.Rows L2
/-! ### scalars, deep data -/
def sv : D → Option V
  | .non => some .non
  | .bl b => some (.bl b)
  | .int i => some (.int i)
  | .str x => some (.str x)
  | _ => none
def svs : List D → Option (List V)
  | [] => some []
  | d :: ds => match sv d, svs ds with
    | some v, some vs => some (v :: vs)
    | _, _ => none
mutual
def toPy : D → Option PyData
  | .non => some .none
  | .bl b => some (.bool b)
  | .int i => some (.int i)
  | .str x => some (.str x)
  | .tup xs => (toPys xs).map .tuple
  | .lst xs => (toPys xs).map .list
  | .frz xs => (toPys xs).map .list
  | _ => none
def toPys : List D → Option (List PyData)
  | [] => some []
  | d :: ds => match toPy d, toPys ds with
    | some v, some vs => some (v :: vs)
    | _, _ => none
end
def toPyS (d : D) (S : Sto) : Option PyData := match d with
  | .ref i => (match S[i]? with
    | some (.lst ds) => (toPys ds).map .list
    | _ => none)
  | d => toPy d
section
variable {K : PySem.W.Frag} {m m' : Mm} {H H' : Hp} {S : Sto}
theorem sv_rv {d : D} {v u : V} (r : Rv K m H d v) (h : sv d = some u) : v = u := by
  cases r <;> simp [sv] at h <;> exact h
theorem svs_rv : ∀ {ds : List D} {vs us : List V}, Rvs K m H ds vs → svs ds = some us → vs = us
  | [], _, _, .nil, h => by simp [svs] at h; exact h.symm ▸ rfl
  | d :: ds, _, us, .cons r rs, h => by
    simp only [svs] at h
    split at h
    · rename_i v vs h1 h2
      cases h
      rw [sv_rv r h1, svs_rv rs h2]
    · cases h
mutual
theorem toPy_rv : ∀ {d : D} {v : V} {p : PyData}, Rv K m H d v → toPy d = some p → Dp K H v p
  | .non, _, _, .non, h => by simp [toPy] at h; subst h; exact .non
  | .bl _, _, _, .bl b, h => by simp [toPy] at h; subst h; exact .bl b
  | .int _, _, _, .int b, h => by simp [toPy] at h; subst h; exact .int b
  | .str _, _, _, .str b, h => by simp [toPy] at h; subst h; exact .str b
  | .tup ds, _, p, .tup h1 r, h => by
    simp only [toPy, Option.map_eq_some_iff] at h
    obtain ⟨ps, h2, rfl⟩ := h
    exact .tup (by
      rcases h1 with h1 | ⟨o, its, n, a1, a2, a3, a4, a5, _⟩
      · exact .inl (.inl h1.1)
      · exact .inr ⟨o, its, n, a1, a2, a3, a4, a5⟩) (toPys_rv r h2)
  | .lst ds, _, p, .lst h1 r, h => by
    simp only [toPy, Option.map_eq_some_iff] at h
    obtain ⟨ps, h2, rfl⟩ := h
    exact .lst (SqL.of h1.1) (toPys_rv r h2)
  | .frz ds, _, p, .frz h1 r, h => by
    simp only [toPy, Option.map_eq_some_iff] at h
    obtain ⟨ps, h2, rfl⟩ := h
    exact .lst (h1.imp (fun h => h.1) id) (toPys_rv r h2)
theorem toPys_rv : ∀ {ds : List D} {vs : List V} {ps : List PyData}, Rvs K m H ds vs → toPys ds = some ps → DpAll K H vs ps
  | [], _, _, .nil, h => by simp [toPys] at h; subst h; exact .nil
  | d :: ds, _, ps, .cons r rs, h => by
    simp only [toPys] at h
    split at h
    · rename_i v vs h1 h2
      cases h
      exact .cons (toPy_rv r h1) (toPys_rv rs h2)
    · cases h
end
theorem toPyS_rv (rs : RelS K m S H) {d : D} {v : V} {p : PyData} (r : Rv K m H d v) (h : toPyS d S = some p) : Dp K H v p := by
  unfold toPyS at h
  split at h
  · rename_i i
    split at h
    · rename_i ds q
      simp only [Option.map_eq_some_iff] at h
      obtain ⟨ps, h2, rfl⟩ := h
      obtain ⟨a, vs, rfl, _, h3, h4⟩ := rs.lstCell r q
      exact .lst (SqL.of h3) (toPys_rv h4 h2)
    · cases h
  · exact toPy_rv r h
end
/-! ### == != -/
def bEqS (f : Bool → Bool) : DB := fun x y _ => match sv x, sv y with
  | some v, some u => if scal v u = true then some (.bl (f (decide (v = u)))) else none
  | _, _ => none
def bEqD (f : Bool → Bool) : DB := fun x y S => match toPyS x S, toPyS y S with
  | some p, some q => if (SeqAt.shaped p && SeqAt.shaped q) = true then some (.bl (f (PyData.eqv p q))) else none
  | _, _ => none
def orB (f g : DB) : DB := fun x y S => match f x y S with
  | some d => some d
  | none => g x y S
def bEq : DB := orB (bEqS id) (bEqD id)
def bNe : DB := orB (bEqS not) (bEqD not)
theorem Sim2.orB {K : PySem.W.Frag} {r r' : R2} {f g : DB} (h : Sim2 K r f) (h' : Sim2 K r' g) : Sim2 K (fun x y H Q => r x y H Q ∨ r' x y H Q) (QB.orB f g) := Sim2.or h h'
section
variable {X : Cx} {K : PySem.W.Frag} {a b c : Expr} {ta tb tc : DE} {pos : Pos}
theorem sim_eqS : Sim2 K rEq (bEqS id) := by
  intro m S H x y v u d Q rs rv ru e q
  unfold bEqS at e
  split at e
  · rename_i v' u' h1 h2
    split at e
    · rename_i hs
      cases e
      cases sv_rv rv h1; cases sv_rv ru h2
      exact ⟨hs, q _ m H .refl rs (.bl _)⟩
    · cases e
  · cases e
theorem sim_neS : Sim2 K rNe (bEqS not) := by
  intro m S H x y v u d Q rs rv ru e q
  unfold bEqS at e
  split at e
  · rename_i v' u' h1 h2
    split at e
    · rename_i hs
      cases e
      cases sv_rv rv h1; cases sv_rv ru h2
      exact ⟨hs, q _ m H .refl rs (.bl _)⟩
    · cases e
  · cases e
theorem sim_eqD : Sim2 K (rEqD K) (bEqD id) := by
  intro m S H x y v u d Q rs rv ru e q
  unfold bEqD at e
  split at e
  · rename_i p p' h1 h2
    split at e
    · rename_i hs
      cases e
      have hs' := Bool.and_eq_true_iff.mp hs
      exact ⟨p, p', toPyS_rv rs rv h1, toPyS_rv rs ru h2, hs'.1, hs'.2, q _ m H .refl rs (.bl _)⟩
    · cases e
  · cases e
theorem sim_neD : Sim2 K (rNeD K) (bEqD not) := by
  intro m S H x y v u d Q rs rv ru e q
  unfold bEqD at e
  split at e
  · rename_i p p' h1 h2
    split at e
    · rename_i hs
      cases e
      have hs' := Bool.and_eq_true_iff.mp hs
      exact ⟨p, p', toPyS_rv rs rv h1, toPyS_rv rs ru h2, hs'.1, hs'.2, q _ m H .refl rs (.bl _)⟩
    · cases e
  · cases e
theorem or_eq {k : Nat} (hr : Room k X.A) : OpR X (compareOp .Eq) (fun x y H Q => rEq x y H Q ∨ rEqD X.K x y H Q) := op_eq.or (op_eqD hr.units)
theorem or_ne {k : Nat} (hr : Room k X.A) : OpR X (compareOp .NotEq) (fun x y H Q => rNe x y H Q ∨ rNeD X.K x y H Q) := op_ne.or (op_neD hr.units)
/-! ### < <= > >= -/
def bCmpI (f : Int → Int → Bool) : DB := fun x y _ => match x, y with
  | .int i, .int j => some (.bl (f i j))
  | _, _ => none
def bCmpS (f : List Nat → List Nat → Bool) : DB := fun x y _ => match x, y with
  | .str i, .str j => some (.bl (f i.cps.toList j.cps.toList))
  | _, _ => none
theorem sim_cmpI {f : Int → Int → Bool} : Sim2 K (rI0 fun i j => .bl (f i j)) (bCmpI f) := by
  intro m S H x y v u d Q rs rv ru e q
  unfold bCmpI at e
  split at e
  · rename_i i j
    cases rv.intOf; cases ru.intOf; cases e
    exact ⟨i, j, rfl, rfl, q _ m H .refl rs (.bl _)⟩
  · cases e
theorem sim_cmpS {f : List Nat → List Nat → Bool} : Sim2 K (fun x y H Q => ∃ i j, x = .str i ∧ y = .str j ∧ Q (.bl (f i.cps.toList j.cps.toList)) H) (bCmpS f) := by
  intro m S H x y v u d Q rs rv ru e q
  unfold bCmpS at e
  split at e
  · rename_i i j
    cases rv.strOf; cases ru.strOf; cases e
    exact ⟨i, j, rfl, rfl, q _ m H .refl rs (.bl _)⟩
  · cases e
def bLt : DB := orB (bCmpI fun i j => decide (i < j)) (bCmpS fun i j => decide (i < j))
def bLe : DB := orB (bCmpI fun i j => decide (i ≤ j)) (bCmpS fun i j => !decide (j < i))
def bGt : DB := orB (bCmpI fun i j => decide (j < i)) (bCmpS fun i j => decide (j < i))
def bGe : DB := orB (bCmpI fun i j => decide (j ≤ i)) (bCmpS fun i j => !decide (i < j))
abbrev rLt' : R2 := fun x y H Q => rI0 (fun i j => .bl (decide (i < j))) x y H Q ∨ ∃ i j : Str, x = .str i ∧ y = .str j ∧ Q (.bl (decide (i.cps.toList < j.cps.toList))) H
abbrev rLe' : R2 := fun x y H Q => rI0 (fun i j => .bl (decide (i ≤ j))) x y H Q ∨ ∃ i j : Str, x = .str i ∧ y = .str j ∧ Q (.bl (!decide (j.cps.toList < i.cps.toList))) H
abbrev rGt' : R2 := fun x y H Q => rI0 (fun i j => .bl (decide (j < i))) x y H Q ∨ ∃ i j : Str, x = .str i ∧ y = .str j ∧ Q (.bl (decide (j.cps.toList < i.cps.toList))) H
abbrev rGe' : R2 := fun x y H Q => rI0 (fun i j => .bl (decide (j ≤ i))) x y H Q ∨ ∃ i j : Str, x = .str i ∧ y = .str j ∧ Q (.bl (!decide (i.cps.toList < j.cps.toList))) H
theorem or_lt : OpR X (compareOp .Lt) rLt' := op_lt.or op_lt_str
theorem or_le : OpR X (compareOp .LtE) rLe' := op_le.or op_le_str
theorem or_gt : OpR X (compareOp .Gt) rGt' := op_gt.or op_gt_str
theorem or_ge : OpR X (compareOp .GtE) rGe' := op_ge.or op_ge_str
theorem sim_lt : Sim2 K rLt' bLt := sim_cmpI.orB (sim_cmpS (f := fun i j => decide (i < j)))
theorem sim_le : Sim2 K rLe' bLe := sim_cmpI.orB (sim_cmpS (f := fun i j => !decide (j < i)))
theorem sim_gt : Sim2 K rGt' bGt := sim_cmpI.orB (sim_cmpS (f := fun i j => decide (j < i)))
theorem sim_ge : Sim2 K rGe' bGe := sim_cmpI.orB (sim_cmpS (f := fun i j => !decide (i < j)))
/-! ### is, is not: None, True, False on the right -/
def isNon : D → Bool
  | .non => true
  | _ => false
def bIs (f : Bool → Bool) : DB := fun x y _ => match y with
  | .non => some (.bl (f (isNon x)))
  | .bl b => (match x with
    | .bl a => some (.bl (f (decide (a = b))))
    | _ => none)
  | _ => none
theorem isNon_rv {m : Mm} {H : Hp} {d : D} {v : V} (r : Rv K m H d v) : decide (v = .non) = isNon d := by
  cases r <;> simp [isNon]
theorem or_is : OpR X (compareOp .Is) (fun x y H Q => (y = .non ∧ Q (.bl (decide (x = .non))) H) ∨ rIsB x y H Q) := op_isN.or op_isBl
theorem or_isnot : OpR X (compareOp .IsNot) (fun x y H Q => (y = .non ∧ Q (.bl (!decide (x = .non))) H) ∨ rNotB x y H Q) := op_notN.or op_notBl
theorem sim_is : Sim2 K (fun x y H Q => (y = .non ∧ Q (.bl (decide (x = .non))) H) ∨ rIsB x y H Q) (bIs id) := by
  intro m S H x y v u d Q rs rv ru e q
  unfold bIs at e
  split at e
  · cases e
    refine .inl ⟨ru.nonOf, ?_⟩
    rw [isNon_rv rv]
    exact q _ m H .refl rs (.bl _)
  · split at e
    · cases e
      exact .inr ⟨_, _, rv.blOf, ru.blOf, q _ m H .refl rs (.bl _)⟩
    · cases e
  · cases e
theorem sim_isnot : Sim2 K (fun x y H Q => (y = .non ∧ Q (.bl (!decide (x = .non))) H) ∨ rNotB x y H Q) (bIs not) := by
  intro m S H x y v u d Q rs rv ru e q
  unfold bIs at e
  split at e
  · cases e
    refine .inl ⟨ru.nonOf, ?_⟩
    rw [isNon_rv rv]
    exact q _ m H .refl rs (.bl _)
  · split at e
    · cases e
      exact .inr ⟨_, _, rv.blOf, ru.blOf, q _ m H .refl rs (.bl _)⟩
    · cases e
  · cases e
/-! ### in, not in -/
def keyD : D → Option Key
  | .int i => some (.inl i)
  | .str x => some (.inr x)
  | _ => none
def valD (kvs : List (Key × D)) (k : Key) : Option D := (kvs.find? fun kv => decide (kv.1 = k)).map (·.2)
theorem keyD_rv {m : Mm} {H : Hp} {d : D} {v : V} {k : Key} (r : Rv K m H d v) (h : keyD d = some k) : v = kV k := by
  cases r <;> simp [keyD] at h <;> subst h <;> rfl
theorem valD_rv {m : Mm} {H : Hp} {k : Key} : ∀ {kvs : List (Key × D)} {vs : List V}, Rvs K m H (kvs.map (·.2)) vs →
    (valD kvs k = none ∧ valV ((kvs.map (·.1)).zip vs) k = none) ∨ ∃ d v, valD kvs k = some d ∧ valV ((kvs.map (·.1)).zip vs) k = some v ∧ Rv K m H d v
  | [], vs, r => by
    cases r
    exact .inl ⟨rfl, rfl⟩
  | (k', d) :: kvs, vs, r => by
    cases r with
    | @cons _ v _ vs h r =>
      by_cases e : k' = k
      · refine .inr ⟨d, v, ?_, ?_, h⟩
        · simp [valD, List.find?, e]
        · simp [valV, List.find?, e]
      · rcases valD_rv (k := k) r with ⟨h1, h2⟩ | ⟨d', v', h1, h2, h3⟩
        · refine .inl ⟨?_, ?_⟩
          · simpa [valD, List.find?, e] using h1
          · simpa [valV, List.find?, e] using h2
        · refine .inr ⟨d', v', ?_, ?_, h3⟩
          · simpa [valD, List.find?, e] using h1
          · simpa [valV, List.find?, e] using h2
/-- one sign in a text -/
def bInC (f : Bool → Bool) : DB := fun x y _ => match x, y with
  | .str s, .str z => (match s.cps.toList with
    | [c] => some (.bl (f (decide (c ∈ z.cps.toList))))
    | _ => none)
  | _, _ => none
def bInK (f : Bool → Bool) : DB := fun x y S => match getK y S, keyD x with
  | some kvs, some k => some (.bl (f (valD kvs k).isSome))
  | _, _ => none
def bInF (f : Bool → Bool) : DB := fun x y S => match getQ y S, sv x with
  | some ds, some v => (match svs ds with
    | some vs => some (.bl (f (inV v vs)))
    | none => none)
  | _, _ => none
def bInD (f : Bool → Bool) : DB := fun x y S => match toPyS x S, (getL y S).bind toPys with
  | some p, some ps => if (SeqAt.shaped p && SeqAt.shaped (.list ps)) = true then some (.bl (f (ps.any fun z => PyData.eqv z p))) else none
  | _, _ => none
def bIn (f : Bool → Bool) : DB := orB (bInC f) (orB (bInK f) (orB (bInF f) (bInD f)))
def rInC (f : Bool → Bool) : R2 := fun x y H Q => ∃ (c : Nat) (z : Str), x = .str ⟨#[c]⟩ ∧ y = .str z ∧ Q (.bl (f (decide (c ∈ z.cps.toList)))) H
def rInK (f : Bool → Bool) : R2 := fun x y H Q => ∃ a o, y = .ref a ∧ DGet H a x o ∧ Q (.bl (f o.isSome)) H
def rInS (K : PySem.W.Frag) (f : Bool → Bool) : R2 := fun x y H Q => ∃ p xs, y = .ref p ∧ (SqL K H p xs ∨ SqT K H p xs) ∧ flatV x = true ∧ xs.all flatV = true ∧ Q (.bl (f (inV x xs))) H
def rInDD (K : PySem.W.Frag) (f : Bool → Bool) : R2 := fun x y H Q => ∃ d ds, Dp K H x d ∧ Dp K H y (.list ds) ∧ SeqAt.shaped d = true ∧ SeqAt.shaped (.list ds) = true ∧ Q (.bl (f (ds.any fun z => PyData.eqv z d))) H
def rIn' (K : PySem.W.Frag) (f : Bool → Bool) : R2 := fun x y H Q => rInC f x y H Q ∨ rInK f x y H Q ∨ rInS K f x y H Q ∨ rInDD K f x y H Q
theorem sim_inC {f : Bool → Bool} : Sim2 K (rInC f) (bInC f) := by
  intro m S H x y v u d Q rs rv ru e q
  unfold bInC at e
  split at e
  · rename_i s z
    split at e
    · rename_i c hc
      cases e
      refine ⟨c, z, ?_, ru.strOf, q _ m H .refl rs (.bl _)⟩
      rw [rv.strOf]
      have : s = ⟨#[c]⟩ := TL.ext_tl (by show s.cps.toList = _; rw [hc])
      rw [this]
    · cases e
  · cases e
theorem sim_inK {f : Bool → Bool} : Sim2 K (rInK f) (bInK f) := by
  intro m S H x y v u d Q rs rv ru e q
  unfold bInK at e
  split at e
  · rename_i kvs k h1 h2
    cases e
    obtain ⟨a, vs, rfl, h3, h4⟩ := getK_rv rs ru h1
    have hk := keyD_rv rv h2
    refine ⟨a, _, rfl, .inl ⟨_, k, .inl h3, hk, rfl⟩, ?_⟩
    rcases valD_rv (k := k) h4 with ⟨e1, e2⟩ | ⟨d', v', e1, e2, _⟩
    · rw [e2]; rw [e1] at q; exact q _ m H .refl rs (.bl _)
    · rw [e2]; rw [e1] at q; exact q _ m H .refl rs (.bl _)
  · cases e
theorem sv_flat {d : D} {v : V} (h : sv d = some v) : flatV v = true := by
  cases d <;> simp [sv] at h <;> subst h <;> rfl
theorem svs_flat : ∀ {ds : List D} {vs : List V}, svs ds = some vs → vs.all flatV = true
  | [], vs, h => by simp [svs] at h; subst h; rfl
  | d :: ds, vs, h => by
    simp only [svs] at h
    split at h
    · rename_i v vs h1 h2
      cases h
      rw [List.all_cons, sv_flat h1, svs_flat h2]
      rfl
    · cases h
theorem sim_inS {f : Bool → Bool} : Sim2 K (rInS K f) (bInF f) := by
  intro m S H x y v u d Q rs rv ru e q
  unfold bInF at e
  split at e
  · rename_i ds v' h1 h2
    split at e
    · rename_i vs h3
      cases e
      obtain ⟨a, ws, rfl, h4, h5⟩ := getQ_rv rs ru h1
      cases sv_rv rv h2
      cases svs_rv h5 h3
      exact ⟨a, _, rfl, h4, sv_flat h2, svs_flat h3, q _ m H .refl rs (.bl _)⟩
    · cases e
  · cases e
theorem sim_inD {f : Bool → Bool} : Sim2 K (rInDD K f) (bInD f) := by
  intro m S H x y v u d Q rs rv ru e q
  unfold bInD at e
  split at e
  · rename_i p ps h1 h2
    split at e
    · rename_i hs
      cases e
      obtain ⟨ds, h3, h4⟩ := Option.bind_eq_some_iff.mp h2
      obtain ⟨a, vs, rfl, h5, h6⟩ := getL_rv rs ru h3
      have hs' := Bool.and_eq_true_iff.mp hs
      exact ⟨p, ps, toPyS_rv rs rv h1, .lst (SqL.of h5) (toPys_rv h6 h4), hs'.1, hs'.2, q _ m H .refl rs (.bl _)⟩
    · cases e
  · cases e
theorem sim_in {f : Bool → Bool} : Sim2 K (rIn' K f) (bIn f) := sim_inC.orB (sim_inK.orB (sim_inS.orB sim_inD))
theorem or_in {k : Nat} (hr : Room k X.A) : OpR X (compareOp .In) (rIn' X.K id) := by
  have hu : X.A.units + 1 < cLine := hu_of hr
  have hu2 : X.A.units + 65 < cLine := by have := hr.un; omega
  refine OpR.or op_in_sign (OpR.or ?_ (OpR.or ?_ (op_inD hu2)))
  · intro pins s σ H x y v u Q I rx ry ⟨a, o, e, g, q⟩
    subst e
    obtain rfl : u = Value.ref a := ry
    exact d_in hu I g rx fun s3 I3 => ⟨.bl o.isSome, H, I3, rfl, q⟩
  · intro pins s σ H x y v u Q I rx ry h
    exact op_in_seq pins s σ H x y v u Q I rx ry h
theorem or_notin {k : Nat} (hr : Room k X.A) : OpR X (compareOp .NotIn) (rIn' X.K not) := by
  have hu : X.A.units + 1 < cLine := hu_of hr
  have hu2 : X.A.units + 65 < cLine := by have := hr.un; omega
  refine OpR.or op_notIn_sign (OpR.or ?_ (OpR.or ?_ (op_notInD hu2)))
  · intro pins s σ H x y v u Q I rx ry ⟨a, o, e, g, q⟩
    subst e
    obtain rfl : u = Value.ref a := ry
    exact d_notIn hu I g rx fun s3 I3 => ⟨.bl (!o.isSome), H, I3, rfl, q⟩
  · intro pins s σ H x y v u Q I rx ry h
    exact op_notIn_seq pins s σ H x y v u Q I rx ry h
end
end QB
set_option maxHeartbeats 4000000
namespace QB
open PySem PySem.Spec PyProof.Rows L2
/-! ### truth -/
def dTru (d : D) (S : Sto) : Option Bool := match d with
  | .non => some false
  | .bl b => some b
  | .int i => some (i != 0)
  | .str x => if x.length ≤ sizeLine then some ((x.length : Int) != 0) else none
  | d => match getQ d S with
    | some ds => some (!ds.isEmpty)
    | none => (match getK d S with
      | some kvs => some (!kvs.isEmpty)
      | none => none)
section
variable {K : PySem.W.Frag} {m m' : Mm} {H H' : Hp} {S : Sto}
theorem Rvs.isEmpty {ds : List D} {vs : List V} (r : Rvs K m H ds vs) : vs.isEmpty = ds.isEmpty := by cases r <;> rfl
theorem dTru_rv (rs : RelS K m S H) {d : D} {v : V} {b : Bool} (r : Rv K m H d v) (h : dTru d S = some b) : TruV K v H b := by
  have seqs : ∀ d : D, Rv K m H d v → (match getQ d S with
    | some ds => some (!ds.isEmpty)
    | none => (match getK d S with
      | some kvs => some (!kvs.isEmpty)
      | none => none)) = some b → TruV K v H b := by
    intro d r h
    split at h
    · rename_i ds e
      cases h
      obtain ⟨a, vs, rfl, h1, h2⟩ := getQ_rv rs r e
      rcases h1 with h1 | h1
      · exact .inl ⟨vs, h1, by rw [h2.isEmpty]⟩
      · exact .inr (.inl ⟨vs, h1, by rw [h2.isEmpty]⟩)
    · split at h
      · rename_i kvs e
        cases h
        obtain ⟨a, vs, rfl, h1, h2⟩ := getK_rv rs r e
        refine .inr (.inr ⟨_, h1, ?_⟩)
        have hl := h2.length
        cases kvs with
        | nil => cases h2; rfl
        | cons kv kvs => cases h2; rfl
      · cases h
  cases d with
  | non => cases h; cases r; rfl
  | bl c => cases h; cases r; rfl
  | int i => cases h; cases r; rfl
  | str x =>
    cases r
    simp only [dTru] at h
    split at h
    · rename_i hx
      cases h
      exact ⟨hx, rfl⟩
    · cases h
  | ty n => exact seqs _ r h
  | tup ds => exact seqs _ r h
  | lst ds => exact seqs _ r h
  | frz ds => exact seqs _ r h
  | dic ks vs => exact seqs _ r h
  | ref i => exact seqs _ r h
  | exc a b c k x => exact seqs _ r h
end
def dAnd (ta tb : DE) : DE := fun δ S => (ta δ S).bind fun x S1 => match dTru x S1 with
  | some true => tb δ S1
  | some false => .ok x S1
  | none => .stuck
def dOr (ta tb : DE) : DE := fun δ S => (ta δ S).bind fun x S1 => match dTru x S1 with
  | some false => tb δ S1
  | some true => .ok x S1
  | none => .stuck
def dNot (ta : DE) : DE := fun δ S => (ta δ S).bind fun x S1 => match dTru x S1 with
  | some b => .ok (.bl (!b)) S1
  | none => .stuck
def dIf (t : DT) (ta tb : DE) : DE := fun δ S => (t δ S).bind fun b S1 => if b = true then ta δ S1 else tb δ S1
/-- tests -/
def tTru (ta : DE) : DT := fun δ S => (ta δ S).bind fun x S1 => match dTru x S1 with
  | some b => .ok b S1
  | none => .stuck
def tBool (ta : DE) : DT := fun δ S => (ta δ S).bind fun x S1 => match x with
  | .bl b => .ok b S1
  | _ => .stuck
def tNotD (t : DT) : DT := fun δ S => (t δ S).bind fun b S1 => .ok (!b) S1
def tAndD (t u : DT) : DT := fun δ S => (t δ S).bind fun b S1 => if b = true then u δ S1 else .ok false S1
def tOrD (t u : DT) : DT := fun δ S => (t δ S).bind fun b S1 => if b = true then .ok true S1 else u δ S1
def dChain (f g : DB) (ta tb tc : DE) : DE := fun δ S => (ta δ S).bind fun x S1 => (tb δ S1).bind fun y S2 => match f x y S2 with
  | some (.bl true) => (tc δ S2).bind fun z S3 => ofOpt (g y z S3) S3
  | some (.bl false) => .ok (.bl false) S2
  | _ => .stuck
section
variable {X : Cx} {a b c : Expr} {rest : List Expr} {ta tb tc : DE} {t u : DT} {pos : Pos}
theorem pev_one {op : BoolOp} (h : PEv X a ta) : PEv X (.BoolOp op [a] pos) ta := fun W tk => pe_one (h W tk)
theorem pev_and (ha : PEv X a ta) (hb : PEv X (.BoolOp .And (b :: rest) pos) tb) : PEv X (.BoolOp .And (a :: b :: rest) pos) (dAnd ta tb) := fun W tk =>
  PE.imp (pe_andT (ha W tk) (hb W tk)) fun σ H Q ⟨m, S, δ, rs, re, q⟩ => by
    refine le_bind rs re q fun x S1 v m1 H1 e1 rs1 re1 rv q1 => ?_
    cases e : dTru x S1 with
    | none => rw [e] at q1; exact q1.elim
    | some k =>
      rw [e] at q1
      refine ⟨k, dTru_rv rs1 rv e, ?_⟩
      cases k
      · exact q1 v m1 H1 .refl rs1 rv
      · exact ⟨m1, S1, δ, rs1, re1, q1⟩
theorem pev_or (ha : PEv X a ta) (hb : PEv X (.BoolOp .Or (b :: rest) pos) tb) : PEv X (.BoolOp .Or (a :: b :: rest) pos) (dOr ta tb) := fun W tk =>
  PE.imp (pe_orT (ha W tk) (hb W tk)) fun σ H Q ⟨m, S, δ, rs, re, q⟩ => by
    refine le_bind rs re q fun x S1 v m1 H1 e1 rs1 re1 rv q1 => ?_
    cases e : dTru x S1 with
    | none => rw [e] at q1; exact q1.elim
    | some k =>
      rw [e] at q1
      refine ⟨k, dTru_rv rs1 rv e, ?_⟩
      cases k
      · exact ⟨m1, S1, δ, rs1, re1, q1⟩
      · exact q1 v m1 H1 .refl rs1 rv
theorem pev_not (ha : PEv X a ta) : PEv X (.UnaryOp .Not a pos) (dNot ta) := fun W tk =>
  PE.imp (pe_notT (ha W tk)) fun σ H Q ⟨m, S, δ, rs, re, q⟩ => by
    refine le_bind rs re q fun x S1 v m1 H1 e1 rs1 re1 rv q1 => ?_
    cases e : dTru x S1 with
    | none => rw [e] at q1; exact q1.elim
    | some k =>
      rw [e] at q1
      exact ⟨k, dTru_rv rs1 rv e, q1 _ m1 H1 .refl rs1 (.bl _)⟩
theorem pev_if (hc : PTv X c t) (ha : PEv X a ta) (hb : PEv X b tb) : PEv X (.IfExp c a b pos) (dIf t ta tb) := fun W tk =>
  PE.imp (pe_ifExp (hc W tk) (ha W tk) (hb W tk)) fun σ H Q ⟨m, S, δ, rs, re, q⟩ => by
    refine lt_bind rs re q fun b S1 m1 H1 e1 rs1 re1 q1 => ?_
    cases b
    · exact ⟨m1, S1, δ, rs1, re1, q1⟩
    · exact ⟨m1, S1, δ, rs1, re1, q1⟩
/-! ### tests -/
theorem ptv_truth (ha : PEv X a ta) (he : ∀ whole, isTrue a X.env whole = (do let v ← whole; standAt a.pos; holding [v] (truthy v)) := by intro _; rfl) : PTv X a (tTru ta) := fun W tk =>
  PT.imp (pt_truth (ha W tk) he) fun σ H Q ⟨m, S, δ, rs, re, q⟩ => by
    refine le_bind rs re q fun x S1 v m1 H1 e1 rs1 re1 rv q1 => ?_
    cases e : dTru x S1 with
    | none => rw [e] at q1; exact q1.elim
    | some k =>
      rw [e] at q1
      exact ⟨k, dTru_rv rs1 rv e, q1 _ m1 H1 .refl rs1 rfl⟩
theorem tTest_of {K : PySem.W.Frag} {mg : Str → Option Value} {W : WX} {te : TE} {td : DE} (h : ∀ σ H Q, LE K mg W td σ H Q → te σ H Q) {σ : L2.St} {H : Hp} {Q : Bool → Hp → Prop} (q : LT K mg W (tBool td) σ H Q) : tTest te σ H Q := by
  obtain ⟨m, S, δ, rs, re, q⟩ := q
  refine h _ _ _ (le_bind rs re q fun x S1 v m1 H1 e1 rs1 re1 rv q1 => ?_)
  cases x with
  | bl b => exact ⟨b, rv.blOf, q1 _ m1 H1 .refl rs1 rfl⟩
  | _ => exact q1.elim
theorem ptv_cmp {op : CmpOp} {r : R2} {f : DB} (ho : OpR X (compareOp op) r) (hs : Sim2 X.K r f) (ha : PEv X a ta) (hb : PEv X b tb) (hm : behindInMarks op b = false := by first | exact nomark _ | rfl) : PTv X (.Compare a [op] [b] pos) (tBool (d2 f ta tb)) := fun W tk =>
  PT.imp (pt_cmpR ho (ha W tk) (hb W tk) hm) fun σ H Q h => tTest_of (fun _ _ _ h => tOp_of hs h) h
theorem tChain_of {K : PySem.W.Frag} {mg : Str → Option Value} {W : WX} {r r' : R2} {f g : DB} (hs : Sim2 K r f) (hs' : Sim2 K r' g) {σ : L2.St} {H : Hp} {Q : VK} (h : LE K mg W (dChain f g ta tb tc) σ H Q) : tChain r r' (LE K mg W ta) (LE K mg W tb) (LE K mg W tc) σ H Q := by
  obtain ⟨m, S, δ, rs, re, q⟩ := h
  refine le_bind rs re q fun x S1 v m1 H1 e1 rs1 re1 rv q1 => ?_
  refine le_bind rs1 re1 q1 fun y S2 u m2 H2 e2 rs2 re2 ru q2 => ?_
  split at q2
  · rename_i e
    refine hs m2 S2 H2 x y v u _ _ rs2 (rv.mono e2 x) ru e fun w m3 H3 e3 rs3 rw3 => ⟨true, rw3.blOf, ?_⟩
    refine le_bind rs3 (re2.mono e3) (OkR.ext q2 e3) fun z S4 w4 m4 H4 e4 rs4 re4 rw4 q4 => ?_
    cases e' : g y z S4 with
    | none => rw [e'] at q4; exact q4.elim
    | some d =>
      rw [e'] at q4
      exact hs' m4 S4 H4 y z u w4 d Q rs4 ((ru.mono e3 y).mono e4 y) rw4 e' fun w m' H' e' rs' rw' => q4 w m' H' e' rs' rw'
  · rename_i e
    refine hs m2 S2 H2 x y v u _ _ rs2 (rv.mono e2 x) ru e fun w m3 H3 e3 rs3 rw3 => ⟨false, rw3.blOf, ?_⟩
    exact q2 _ m3 H3 e3 rs3 (.bl _)
  · exact q2.elim
theorem pev_chain {op op' : CmpOp} {r r' : R2} {f g : DB} (ho : OpR X (compareOp op) r) (hs : Sim2 X.K r f) (ho' : OpR X (compareOp op') r') (hs' : Sim2 X.K r' g) (ha : PEv X a ta) (hb : PEv X b tb) (hc : PEv X c tc)
    (hm : lastMarks [op, op'] [b, c] = false := by with_unfolding_all rfl) : PEv X (.Compare a [op, op'] [b, c] pos) (dChain f g ta tb tc) := fun W tk =>
  PE.imp (pe_chain ho ho' (ha W tk) (hb W tk) (hc W tk) hm) fun σ H Q h => tChain_of hs hs' h
theorem ptv_chain {op op' : CmpOp} {r r' : R2} {f g : DB} (ho : OpR X (compareOp op) r) (hs : Sim2 X.K r f) (ho' : OpR X (compareOp op') r') (hs' : Sim2 X.K r' g) (ha : PEv X a ta) (hb : PEv X b tb) (hc : PEv X c tc)
    (hm : lastMarks [op, op'] [b, c] = false := by with_unfolding_all rfl) : PTv X (.Compare a [op, op'] [b, c] pos) (tBool (dChain f g ta tb tc)) := fun W tk =>
  PT.imp (pt_chain ho ho' (ha W tk) (hb W tk) (hc W tk) hm) fun σ H Q h => tTest_of (fun _ _ _ h => tChain_of hs hs' h) h
theorem ptv_not (ha : PTv X a t) : PTv X (.UnaryOp .Not a pos) (tNotD t) := fun W tk =>
  PT.imp (pt_not (ha W tk)) fun σ H Q ⟨m, S, δ, rs, re, q⟩ => lt_bind rs re q fun b S1 m1 H1 e1 rs1 re1 q1 => q1 _ m1 H1 .refl rs1 rfl
theorem PWv.pt (h : PWv X a t) : PTv X a t := fun W tk => (h W tk).pt
theorem pwv_and1 (ha : PTv X a t) : PWv X (.BoolOp .And [a] pos) t := fun W tk => pw_and1 (ha W tk)
theorem pwv_or1 (ha : PTv X a t) : PWv X (.BoolOp .Or [a] pos) t := fun W tk => pw_or1 (ha W tk)
theorem pwv_and (ha : PTv X a t) (hb : PWv X (.BoolOp .And (b :: rest) pos) u) : PWv X (.BoolOp .And (a :: b :: rest) pos) (tAndD t u) := fun W tk =>
  PW.imp (pw_and (ha W tk) (hb W tk)) fun σ H Q ⟨m, S, δ, rs, re, q⟩ => by
    refine lt_bind rs re q fun b S1 m1 H1 e1 rs1 re1 q1 => ?_
    cases b
    · exact q1 _ m1 H1 .refl rs1 rfl
    · exact ⟨m1, S1, δ, rs1, re1, q1⟩
theorem pwv_or (ha : PTv X a t) (hb : PWv X (.BoolOp .Or (b :: rest) pos) u) : PWv X (.BoolOp .Or (a :: b :: rest) pos) (tOrD t u) := fun W tk =>
  PW.imp (pw_or (ha W tk) (hb W tk)) fun σ H Q ⟨m, S, δ, rs, re, q⟩ => by
    refine lt_bind rs re q fun b S1 m1 H1 e1 rs1 re1 q1 => ?_
    cases b
    · exact ⟨m1, S1, δ, rs1, re1, q1⟩
    · exact q1 _ m1 H1 .refl rs1 rfl
end
/-! ### argument lists, displays -/
def aNil : DA := fun _ S => .ok [] S
def aCons (t : DE) (ts : DA) : DA := fun δ S => (t δ S).bind fun x S1 => (ts δ S1).bind fun xs S2 => .ok (x :: xs) S2
def dTup (ts : DA) : DE := fun δ S => (ts δ S).bind fun xs S1 => if xs.length ≤ sizeLine then .ok (.tup xs) S1 else .stuck
def dLst (ts : DA) : DE := fun δ S => (ts δ S).bind fun xs S1 => if xs.length ≤ sizeLine then .ok (.lst xs) S1 else .stuck
def dLstC (ts : DA) : DE := fun δ S => (ts δ S).bind fun xs S1 => if xs.length ≤ sizeLine then .ok (.ref S1.length) (S1 ++ [.lst xs]) else .stuck
section
variable {X : Cx} {e : Expr} {es : List Expr} {t : DE} {ts : DA} {pos : Pos}
theorem pav_nil : PAv X [] aNil := fun W tk => PA.imp pa_nil fun σ H Q ⟨m, S, δ, rs, re, q⟩ => q _ m H .refl rs .nil
theorem pav_cons (ha : PEv X e t) (hr : PAv X es ts) (hs : starEach (e :: es) X.env = (false, eval e X.env) :: starEach es X.env := by rfl) : PAv X (e :: es) (aCons t ts) := fun W tk =>
  PA.imp (pa_cons (ha W tk) (hr W tk) hs) fun σ H Q ⟨m, S, δ, rs, re, q⟩ => by
    refine le_bind rs re q fun x S1 v m1 H1 e1 rs1 re1 rv q1 => ?_
    refine la_bind rs1 re1 q1 fun xs S2 vs m2 H2 e2 rs2 re2 rvs q2 => ?_
    exact q2 _ m2 H2 .refl rs2 (.cons (rv.mono e2 x) rvs)
theorem pev_tup {x1 : Nat} (h : PAv X es ts) : PEv X (.Tuple es x1 pos) (dTup ts) := fun W tk =>
  PE.imp (pe_tup (h W tk)) fun σ H Q ⟨m, S, δ, rs, re, q⟩ => by
    refine la_bind rs re q fun xs S1 vs m1 H1 e1 rs1 re1 rvs q1 => ?_
    split at q1
    · rename_i hl
      refine ⟨by rw [← rvs.length]; exact hl, fun p hp => ?_⟩
      obtain ⟨e', rs', rp⟩ := rs1.newTup hp rvs
      exact q1 _ m1 _ e' rs' rp
    · exact q1.elim
theorem pev_lst (h : PAv X es ts) : PEv X (.List es pos) (dLst ts) := fun W tk =>
  PE.imp (pe_lst (h W tk)) fun σ H Q ⟨m, S, δ, rs, re, q⟩ => by
    refine la_bind rs re q fun xs S1 vs m1 H1 e1 rs1 re1 rvs q1 => ?_
    split at q1
    · rename_i hl
      refine ⟨by rw [← rvs.length]; exact hl, fun p hp => ?_⟩
      obtain ⟨e', rs', rp⟩ := rs1.newLst hp rvs
      exact q1 _ m1 _ e' rs' rp
    · exact q1.elim
theorem RelS.newLstC {K : PySem.W.Frag} {m : Mm} {H : Hp} {S : Sto} (r : RelS K m S H) {p : Addr} (hp : H p = none) {ds : List D} {vs : List V} (q : Rvs K m H ds vs) :
    Ext m H (m.add p) (L2.upd H p (.lst vs)) ∧ RelS K (m.add p) (S ++ [.lst ds]) (L2.upd H p (.lst vs)) ∧ Rv K (m.add p) (L2.upd H p (.lst vs)) (.ref S.length) (.ref p) :=
  r.newCell hp fun m' H' e h => ⟨vs, h, q.mono e⟩
theorem pev_lstC (h : PAv X es ts) : PEv X (.List es pos) (dLstC ts) := fun W tk =>
  PE.imp (pe_lst (h W tk)) fun σ H Q ⟨m, S, δ, rs, re, q⟩ => by
    refine la_bind rs re q fun xs S1 vs m1 H1 e1 rs1 re1 rvs q1 => ?_
    split at q1
    · rename_i hl
      refine ⟨by rw [← rvs.length]; exact hl, fun p hp => ?_⟩
      obtain ⟨e', rs', rp⟩ := rs1.newLstC hp rvs
      exact q1 _ _ _ e' rs' rp
    · exact q1.elim
end
/-- {} to be filled -/
def dDicC : DE := fun _ S => .ok (.ref S.length) (S ++ [.dic []])
theorem pev_dicC {X : Cx} {pos : Pos} : PEv X (.Dict [] [] pos) dDicC := fun W tk =>
  PE.imp pe_dnewK fun σ H Q ⟨m, S, δ, rs, re, q⟩ => fun p hp => by
    obtain ⟨e', rs', rp⟩ := rs.newCell (u := .dic []) hp (o := .dK []) fun m' H' e h => ⟨[], h, .nil⟩
    exact q _ _ _ e' rs' rp
/-! ### subscripts -/
def bIxQ : DB := fun x y S => match getQ x S, y with
  | some ds, .int i => atI ds i
  | _, _ => none
def bIxS : DB := fun x y _ => match x, y with
  | .str z, .int i => if z.length ≤ sizeLine then (atI z.cps.toList i).map fun c => .str ⟨#[c]⟩ else none
  | _, _ => none
def bIxK : DB := fun x y S => match getK x S, keyD y with
  | some kvs, some k => valD kvs k
  | _, _ => none
def bIx : DB := orB bIxQ (orB bIxS bIxK)
def rIxK : R2 := fun x y H Q => ∃ a v, x = .ref a ∧ DGet H a y (some v) ∧ Q v H
def rIxQ (K : PySem.W.Frag) : R2 := fun x y H Q => rIxL K x y H Q ∨ rIxT K x y H Q
def rIx' (K : PySem.W.Frag) : R2 := fun x y H Q => rIxQ K x y H Q ∨ rIxS x y H Q ∨ rIxK x y H Q
section
variable {X : Cx} {K : PySem.W.Frag} {a b c : Expr} {rest : List Expr} {ta tb tc : DE} {t u : DT} {pos : Pos}
theorem atI_rvs {m : Mm} {H : Hp} {ds : List D} {vs : List V} {i : Int} {d : D} (r : Rvs K m H ds vs) (h : atI ds i = some d) : ∃ v, atI vs i = some v ∧ Rv K m H d v := by
  unfold atI at *
  rw [← r.length]
  obtain ⟨j, h1, h2⟩ := Option.bind_eq_some_iff.mp h
  obtain ⟨v, h3, h4⟩ := r.get h2
  exact ⟨v, by rw [h1]; exact h3, h4⟩
theorem sim_ixQ : Sim2 K (rIxQ K) bIxQ := by
  intro m S H x y v u d Q rs rv ru e q
  unfold bIxQ at e
  split at e
  · rename_i ds i h
    obtain ⟨p, vs, rfl, h1, h2⟩ := getQ_rv rs rv h
    obtain ⟨w, h3, h4⟩ := atI_rvs h2 e
    rcases h1 with h1 | h1
    · exact .inl ⟨p, vs, i, w, rfl, ru.intOf, h1, h3, q w m H .refl rs h4⟩
    · exact .inr ⟨p, vs, i, w, rfl, ru.intOf, h1, h3, q w m H .refl rs h4⟩
  · cases e
theorem sim_ixS : Sim2 K rIxS bIxS := by
  intro m S H x y v u d Q rs rv ru e q
  unfold bIxS at e
  split at e
  · rename_i z i
    split at e
    · rename_i hz
      simp only [Option.map_eq_some_iff] at e
      obtain ⟨c, h1, rfl⟩ := e
      exact ⟨z, i, c, rv.strOf, ru.intOf, hz, h1, q _ m H .refl rs (.str _)⟩
    · cases e
  · cases e
theorem sim_ixK : Sim2 K rIxK bIxK := by
  intro m S H x y v u d Q rs rv ru e q
  unfold bIxK at e
  split at e
  · rename_i kvs k h1 h2
    obtain ⟨a, vs, rfl, h3, h4⟩ := getK_rv rs rv h1
    have hk := keyD_rv ru h2
    rcases valD_rv (k := k) h4 with ⟨e1, _⟩ | ⟨d', v', e1, e2, h5⟩
    · rw [e] at e1; cases e1
    · rw [e] at e1; cases e1
      exact ⟨a, v', rfl, .inl ⟨_, k, .inl h3, hk, e2.symm⟩, q _ m H .refl rs h5⟩
  · cases e
theorem sim_ix : Sim2 K (rIx' K) bIx := sim_ixQ.orB (sim_ixS.orB sim_ixK)
theorem ix_dict {k : Nat} (hr : Room k X.A) : IxR X rIxK := by
  have hu : X.A.units + 1 < cLine := hu_of hr
  intro value slice pins s σ H x y v u Q I rx ry ⟨a, w, e, g, q⟩ hs
  subst e
  obtain rfl : v = Value.ref a := rx
  have hT := dict_typeIs I g
  have h₂ : wpAny (model X.prog X.w) X.A (getItem (.ref a) u) (EP X pins σ Q) X.xe s := d_getItem hu I g ry fun w' s3 I3 rw' => ⟨w, H, I3, rw', q⟩
  unfold subscriptTail
  refine wpAny_bind ?_
  rw [getitemInPython_of_ne hT.not_modules]
  refine wpAny_bind (wpAny_specialOf hT PySem.F.slot_dict_getitem.lookup ?_)
  have fin : wpAny (model X.prog X.w) X.A (subscripted slice false (.ref a) u) (fun r s₃ => wpAny (model X.prog X.w) X.A (letTemporaryGo value (.ref a) r >>= fun _ => pure r) (EP X pins σ Q) X.xe s₃) X.xe s := by
    rw [hs]
    exact wpAny_operating (wpAny_mono h₂ (fun r s₃ h₃ => wpAny_bind (wpAny_letTemporaryGo (wpAny_pure h₃))) fun _ _ x => x)
  first
    | exact wpAny_pure (wpAny_bind fin)
    | exact wpAny_bind (wpAny_pure (wpAny_bind fin))
    | exact wpAny_bind fin
theorem ix_all {k : Nat} (hr : Room k X.A) : IxR X (rIx' X.K) := IxR.or (IxR.or ix_list ix_tup) (IxR.or ix_str (ix_dict hr))
theorem pev_ix {k : Nat} (hr : Room k X.A) (ha : PEv X a ta) (hb : PEv X b tb) (hs : PlainIx b := by exact fun _ _ => rfl) : PEv X (.Subscript a b pos) (d2 bIx ta tb) := fun W tk =>
  PE.imp (pe_ix (ix_all hr) (ha W tk) (hb W tk) hs) fun σ H Q h => tOp_of sim_ix h
end
end QB
set_option maxHeartbeats 4000000
namespace QB
open PySem PySem.Spec PyProof.Rows L2
/-! ### slices -/
abbrev DO := Sl → Sto → R (Option Int)
def LO (K : PySem.W.Frag) (mg : Str → Option Value) (W : WX) (t : DO) : TO := fun σ H Q => ∃ m S δ, RelS K m S H ∧ RelE K m H δ σ ∧ OkR K mg (fun _ _ b b' => b' = b) m H (t δ S) Q (fun c d H' => W c d σ H')
def POv (X : Cx) (e : Option Expr) (t : DO) : Prop := ∀ W, Takes X W → PO X e (LO X.K X.mg W t)
def oNone : DO := fun _ S => .ok none S
def oSome (t : DE) : DO := fun δ S => (t δ S).bind fun x S1 => match x with
  | .int i => .ok (some i) S1
  | _ => .stuck
def cutL {α : Type} (xs : List α) (lo hi : Option Int) : List α := (xs.drop (HT.sIx xs.length 0 lo)).take (HT.sIx xs.length xs.length hi - HT.sIx xs.length 0 lo)
def sliceD (d : D) (lo hi : Option Int) (S : Sto) : Option D := match d with
  | .tup xs => some (.tup (cutL xs lo hi))
  | .str z => if z.length ≤ sizeLine then some (.str (cutS z lo hi)) else none
  | d => (getL d S).map fun xs => .lst (cutL xs lo hi)
def dSl (t : DE) (lo hi : DO) : DE := fun δ S => (t δ S).bind fun x S1 => (lo δ S1).bind fun l S2 => (hi δ S2).bind fun h S3 => ofOpt (sliceD x l h S3) S3
section
variable {K : PySem.W.Frag} {mg : Str → Option Value} {m m' : Mm} {H H' : Hp} {S : Sto} {δ : Sl} {σ : L2.St} {W : WX}
theorem lo_bind {α β : Type} {Rel : Mm → Hp → α → β → Prop} {t : DO} {k : Option Int → Sto → R α} {Q : β → Hp → Prop} {Q' : Option Int → Hp → Prop} (rs : RelS K m S H) (re : RelE K m H δ σ)
    (h : OkR K mg Rel m H ((t δ S).bind k) Q (fun c d H' => W c d σ H'))
    (hk : ∀ b S1 m1 H1, Ext m H m1 H1 → RelS K m1 S1 H1 → RelE K m1 H1 δ σ → OkR K mg Rel m1 H1 (k b S1) Q (fun c d H' => W c d σ H') → Q' b H1) :
    LO K mg W t σ H Q' := by
  refine ⟨m, S, δ, rs, re, ?_⟩
  cases e : t δ S with
  | ok d S1 =>
    rw [e] at h
    intro v m1 H1 x r1 rv
    subst rv
    exact hk v S1 m1 H1 x r1 (re.mono x) (OkR.ext h x)
  | ex c fs S1 =>
    rw [e] at h
    exact h
  | stuck =>
    rw [e] at h
    exact h
theorem Rvs.cut {ds : List D} {vs : List V} (r : Rvs K m H ds vs) (lo hi : Option Int) : Rvs K m H (cutL ds lo hi) (cutV vs lo hi) := by
  unfold cutL cutV
  rw [← r.length]
  exact (r.drop _).take _
end
section
variable {X : Cx} {e : Expr} {t : DE} {lo hi : Option Expr} {tl th : DO} {pos p2 : Pos}
theorem pov_none : POv X none oNone := fun W tk => ⟨fun pins s σ H Q I ⟨m, S, δ, rs, re, q⟩ => po_none.run pins s σ H Q I (q none m H .refl rs rfl)⟩
theorem pov_some (h : PEv X e t) : POv X (some e) (oSome t) := fun W tk => ⟨fun pins s σ H Q I ⟨m, S, δ, rs, re, q⟩ => (po_some (h W tk)).run pins s σ H Q I (by
  refine le_bind rs re q fun x S1 v m1 H1 e1 rs1 re1 rv q1 => ?_
  cases x with
  | int i => exact ⟨i, rv.intOf, q1 _ m1 H1 .refl rs1 rfl⟩
  | _ => exact q1.elim)⟩
theorem sl_all : SlR X (fun x lo hi H Q => rSlL X.K x lo hi H Q ∨ rSlA X.K x lo hi H Q ∨ rSlS x lo hi H Q) := sl_list.or (sl_tupA.or sl_str)
theorem PE.imp' {X : Cx} {e : Expr} {t t' : TE} (h : PE X e t) (i : ∀ σ H Q, t' σ H Q → t σ H Q) : PE X e t' := PE.imp h i
theorem pev_slice (he : PEv X e t) (hl : POv X lo tl) (hu : POv X hi th) : PEv X (.Subscript e (.Slice lo hi none p2) pos) (dSl t tl th) := fun W tk =>
  PE.imp (pe_slice sl_all (he W tk) (hl W tk) (hu W tk)) fun σ H Q ⟨m, S, δ, rs, re, q⟩ => by
    refine le_bind rs re q fun x S1 v m1 H1 e1 rs1 re1 rv q1 => ?_
    refine lo_bind rs1 re1 q1 fun l S2 m2 H2 e2 rs2 re2 q2 => ?_
    refine lo_bind rs2 re2 q2 fun h S3 m3 H3 e3 rs3 re3 q3 => ?_
    have rv := (rv.mono e2 x).mono e3 x
    have seqs : ∀ d, Rv X.K m3 H3 d v → OkR X.K X.mg (Rv X.K) m3 H3 (ofOpt ((getL d S3).map fun xs => .lst (cutL xs l h)) S3) Q (fun c d H' => W c d σ H') → rSlL X.K v l h H3 Q := by
      intro d r q
      cases e : getL d S3 with
      | none => rw [e] at q; exact q.elim
      | some ds =>
        rw [e] at q
        obtain ⟨a, vs, rfl, h1, h2⟩ := getL_rv rs3 r e
        refine ⟨a, vs, rfl, SqL.of h1, fun p hp => ?_⟩
        obtain ⟨e', rs', rp⟩ := rs3.newLst hp (h2.cut l h)
        exact q _ m3 _ e' rs' rp
    cases x with
    | tup xs =>
      obtain ⟨a, vs, rfl, h1, h2⟩ := rv.tupAt
      refine .inr (.inl ⟨a, vs, rfl, h1, fun z => ?_, fun z p hp => ?_⟩)
      · have ec : cutL xs l h = xs := by
          unfold cutL
          rw [h2.length, z.1, z.2, List.drop_zero, Nat.sub_zero, ← h2.length, List.take_length]
        have q4 : OkR X.K X.mg (Rv X.K) m3 H3 (.ok (.tup (cutL xs l h)) S3) Q (fun c d H' => W c d σ H') := q3
        rw [ec] at q4
        exact q4 _ m3 H3 .refl rs3 rv
      · obtain ⟨e', rs', rp⟩ := rs3.newTup hp (h2.cut l h)
        exact q3 _ m3 _ e' rs' rp
    | str z =>
      simp only [sliceD] at q3
      split at q3
      · rename_i hz
        exact .inr (.inr ⟨z, rv.strOf, hz, q3 _ m3 H3 .refl rs3 (.str _)⟩)
      · exact q3.elim
    | _ => exact .inl (seqs _ rv q3)
end
/-! ### calls of built-ins by values -/
abbrev DF := List D → Sto → Option D
def SimC (K : PySem.W.Frag) (r : List V → Hp → VK → Prop) (f : DF) : Prop := ∀ (m : Mm) (S : Sto) (H : Hp) (xs : List D) (vs : List V) (d : D) (Q : VK), RelS K m S H → Rvs K m H xs vs → f xs S = some d →
  (∀ w m' H', Ext m H m' H' → RelS K m' S H' → Rv K m' H' d w → Q w H') → r vs H Q
def dF (f : DF) (ts : DA) : DE := fun δ S => (ts δ S).bind fun xs S1 => ofOpt (f xs S1) S1
section
variable {X : Cx} {K : PySem.W.Frag} {x : Str} {p pos : Pos} {e : Expr} {es : List Expr} {ts : DA} {id T : String} {r : List V → Hp → VK → Prop} {f : DF}
theorem tCB_of {mg : Str → Option Value} {W : WX} (hs : SimC K r f) {σ : L2.St} {H : Hp} {Q : VK} (h : LE K mg W (dF f ts) σ H Q) : tCB r (LA K mg W ts) σ H Q := by
  obtain ⟨m, S, δ, rs, re, q⟩ := h
  refine la_bind rs re q fun xs S1 vs m1 H1 e1 rs1 re1 rv q1 => ?_
  cases e : f xs S1 with
  | none => rw [e] at q1; exact q1.elim
  | some d =>
    rw [e] at q1
    exact hs m1 S1 H1 xs vs d Q rs1 rv e fun w m' H' e' rs' rw' => q1 w m' H' e' rs' rw'
theorem pev_callB (hc : CallR X (.builtin id) r) (hs : SimC X.K r f) (hg : Gl X x) (hm : X.mg x = none) (hv : bootBuiltins x = some (.builtin id)) (ha : PAv X (e :: es) ts) (hn : x ≠ "__name__" := by decide) (hdb : (x == ("__debug__" : Str)) = false := by decide)
    (he : starEach (e :: es) X.env = (false, eval e X.env) :: starEach es X.env := by rfl) (hpl : (backTo pos (starEach es X.env)).any (·.1) = false := by rfl) : PEv X (.Call (.Name x p) (e :: es) [] pos) (dF f ts) := fun W tk =>
  PE.imp (pe_callB hc hg hm hv (ha W tk) hn hdb he hpl) fun σ H Q h => tCB_of hs h
theorem pev_callTy (hc : CallR X (.type T) r) (hs : SimC X.K r f) (hg : Gl X x) (hm : X.mg x = none) (hv : bootBuiltins x = some (.type T)) (ha : PAv X (e :: es) ts) (hn : x ≠ "__name__" := by decide) (hdb : (x == ("__debug__" : Str)) = false := by decide)
    (he : starEach (e :: es) X.env = (false, eval e X.env) :: starEach es X.env := by rfl) (hpl : (backTo pos (starEach es X.env)).any (·.1) = false := by rfl) : PEv X (.Call (.Name x p) (e :: es) [] pos) (dF f ts) := fun W tk =>
  PE.imp (pe_callTy hc hg hm hv (ha W tk) hn hdb he hpl) fun σ H Q h => tCB_of hs h
theorem SimC.or {r r' : List V → Hp → VK → Prop} {f g : DF} (h : SimC K r f) (h' : SimC K r' g) : SimC K (fun x H Q => r x H Q ∨ r' x H Q) (fun xs S => match f xs S with | some d => some d | none => g xs S) := by
  intro m S H xs vs d Q rs rv e q
  cases e1 : f xs S with
  | some d' =>
    simp only [e1] at e
    cases e
    exact .inl (h m S H xs vs d Q rs rv e1 q)
  | none =>
    simp only [e1] at e
    exact .inr (h' m S H xs vs d Q rs rv e q)
end
/-! len -/
def lenD (d : D) (S : Sto) : Option Nat := match d with
  | .str z => if z.length ≤ sizeLine then some z.length else none
  | d => match getQ d S with
    | some ds => some ds.length
    | none => (getK d S).map (·.length)
def fLen : DF := fun xs S => match xs with
  | [d] => (lenD d S).map fun (n : Nat) => D.int (n : Int)
  | _ => none
def rLenA (K : PySem.W.Frag) : List V → Hp → VK → Prop := fun xs H Q => (∃ x n, xs = [x] ∧ LenV K x H n ∧ Q (.int n) H) ∨ ∃ a kvs, xs = [V.ref a] ∧ H a = some (.dK kvs) ∧ Q (.int kvs.length) H
section
variable {X : Cx} {K : PySem.W.Frag} {p pos apos : Pos} {e o : Expr} {es : List Expr} {ts : DA} {t te : DE}
theorem call_lenA : CallR X (.builtin "len") (rLenA X.K) := by
  intro pins s σ H xs us Q I rv h
  rcases h with h | ⟨a, kvs, rfl, h1, q⟩
  · exact call_len pins s σ H xs us Q I rv h
  · obtain ⟨u, rfl, ru⟩ := rv.one
    obtain rfl : u = Value.ref a := ru
    exact d_len I (.inl h1) fun t s' I' => ⟨.int kvs.length, H, I', ⟨t, rfl⟩, q⟩
theorem sim_len : SimC K (rLenA K) fLen := by
  intro m S H xs vs d Q rs rv e q
  unfold fLen at e
  split at e
  · rename_i x
    obtain ⟨v, rfl, r⟩ := rv.one
    simp only [Option.map_eq_some_iff] at e
    obtain ⟨n, e1, rfl⟩ := e
    have seqs : ∀ x : D, Rv K m H x v → (match getQ x S with
      | some ds => some ds.length
      | none => (getK x S).map (·.length)) = some n → rLenA K [v] H Q := by
      intro x r e1
      split at e1
      · rename_i ds e2
        cases e1
        obtain ⟨a, vs, rfl, h1, h2⟩ := getQ_rv rs r e2
        refine .inl ⟨_, _, rfl, ?_, q _ m H .refl rs (.int _)⟩
        rcases h1 with h1 | h1
        · exact .inl ⟨vs, h1, h2.length⟩
        · exact .inr ⟨vs, h1, h2.length⟩
      · simp only [Option.map_eq_some_iff] at e1
        obtain ⟨kvs, e2, rfl⟩ := e1
        obtain ⟨a, vs, rfl, h1, h2⟩ := getK_rv rs r e2
        have hl := h2.length
        rw [List.length_map] at hl
        refine .inr ⟨a, _, rfl, h1, ?_⟩
        rw [List.length_zip, List.length_map, ← hl, Nat.min_self]
        exact q _ m H .refl rs (.int _)
    cases x with
    | str z =>
      simp only [lenD] at e1
      split at e1
      · rename_i hz
        cases e1
        refine .inl ⟨_, _, rfl, ?_, q _ m H .refl rs (.int _)⟩
        rw [r.strOf]
        exact ⟨hz, rfl⟩
      · cases e1
    | _ => exact seqs _ r e1
  · cases e
/-! tuple(x), list(x) -/
def fTuple : DF := fun xs S => match xs with
  | [.tup ds] => some (.tup ds)
  | [d] => (getL d S).map .tup
  | _ => none
def fList : DF := fun xs S => match xs with
  | [d] => (getQ d S).map .lst
  | _ => none
def rTupleA (K : PySem.W.Frag) : List V → Hp → VK → Prop := fun xs H Q => ∃ p ys, xs = [V.ref p] ∧ ((SqL K H p ys ∧ ∀ l, H l = none → Q (.ref l) (upd H l (.tup ys))) ∨ (SqT K H p ys ∧ Q (.ref p) H))
def rListA (K : PySem.W.Frag) : List V → Hp → VK → Prop := fun xs H Q => ∃ p ys, xs = [V.ref p] ∧ (SqL K H p ys ∨ SqT K H p ys) ∧ ∀ l, H l = none → Q (.ref l) (upd H l (.lst ys))
theorem sim_tuple : SimC K (rTupleA K) fTuple := by
  intro m S H xs vs d Q rs rv e q
  unfold fTuple at e
  split at e
  · rename_i ds
    cases e
    obtain ⟨v, rfl, r⟩ := rv.one
    obtain ⟨a, vs, rfl, h1, h2⟩ := r.tupAt
    exact ⟨a, vs, rfl, .inr ⟨h1, q _ m H .refl rs r⟩⟩
  · rename_i x _
    obtain ⟨v, rfl, r⟩ := rv.one
    simp only [Option.map_eq_some_iff] at e
    obtain ⟨ds, e2, rfl⟩ := e
    obtain ⟨a, vs, rfl, h1, h2⟩ := getL_rv rs r e2
    refine ⟨a, vs, rfl, .inl ⟨SqL.of h1, fun p hp => ?_⟩⟩
    obtain ⟨e', rs', rp⟩ := rs.newTup hp h2
    exact q _ m _ e' rs' rp
  · cases e
theorem sim_list : SimC K (rListA K) fList := by
  intro m S H xs vs d Q rs rv e q
  unfold fList at e
  split at e
  · rename_i x
    obtain ⟨v, rfl, r⟩ := rv.one
    simp only [Option.map_eq_some_iff] at e
    obtain ⟨ds, e2, rfl⟩ := e
    obtain ⟨a, vs, rfl, h1, h2⟩ := getQ_rv rs r e2
    refine ⟨a, vs, rfl, h1, fun p hp => ?_⟩
    obtain ⟨e', rs', rp⟩ := rs.newLst hp h2
    exact q _ m _ e' rs' rp
  · cases e
/-- list(x), to be changed -/
def dListC (ts : DA) : DE := fun δ S => (ts δ S).bind fun xs S1 => match xs with
  | [d] => (match getQ d S1 with
    | some ds => .ok (.ref S1.length) (S1 ++ [.lst ds])
    | none => .stuck)
  | _ => .stuck
theorem pev_listC {x : Str} (hg : Gl X x) (hm : X.mg x = none) (hv : bootBuiltins x = some (.type "list")) (ha : PAv X (e :: es) ts) (hn : x ≠ "__name__" := by decide) (hdb : (x == ("__debug__" : Str)) = false := by decide)
    (he : starEach (e :: es) X.env = (false, eval e X.env) :: starEach es X.env := by rfl) (hpl : (backTo pos (starEach es X.env)).any (·.1) = false := by rfl) : PEv X (.Call (.Name x p) (e :: es) [] pos) (dListC ts) := fun W tk =>
  PE.imp (pe_callTy call_list_of hg hm hv (ha W tk) hn hdb he hpl) fun σ H Q ⟨m, S, δ, rs, re, q⟩ => by
    refine la_bind rs re q fun xs S1 vs m1 H1 e1 rs1 re1 rv q1 => ?_
    split at q1
    · obtain ⟨v, rfl, r⟩ := rv.one
      split at q1
      · rename_i ds e2
        obtain ⟨a, vs, rfl, h1, h2⟩ := getQ_rv rs1 r e2
        refine ⟨a, vs, rfl, h1, fun p hp => ?_⟩
        obtain ⟨e', rs', rp⟩ := rs1.newLstC hp h2
        exact q1 _ _ _ e' rs' rp
      · exact q1.elim
    · exact q1.elim
/-! int(x), str(n), abs(n), max, min of two -/
def fInt : DF := fun xs _ => match xs with
  | [.int i] => some (.int i)
  | [.bl k] => some (.int (if k then 1 else 0))
  | _ => none
def rInt1 : List V → Hp → VK → Prop := fun xs H Q => (∃ i, xs = [V.int i] ∧ Q (.int i) H) ∨ ∃ k, xs = [V.bl k] ∧ Q (.int (if k then 1 else 0)) H
theorem sim_int1 : SimC K rInt1 fInt := by
  intro m S H xs vs d Q rs rv e q
  unfold fInt at e
  split at e
  · cases e
    obtain ⟨v, rfl, r⟩ := rv.one
    cases r.intOf
    exact .inl ⟨_, rfl, q _ m H .refl rs (.int _)⟩
  · cases e
    obtain ⟨v, rfl, r⟩ := rv.one
    cases r.blOf
    exact .inr ⟨_, rfl, q _ m H .refl rs (.int _)⟩
  · cases e
def fStr : DF := fun xs _ => match xs with
  | [.int i] => if i.natAbs.log2 < 1920 then some (.str (Str.ofString (toString i))) else none
  | _ => none
def rStr1 : List V → Hp → VK → Prop := fun xs H Q => ∃ i : Int, xs = [V.int i] ∧ i.natAbs.log2 < 1920 ∧ Q (.str (toString i)) H
theorem sim_str1 : SimC K rStr1 fStr := by
  intro m S H xs vs d Q rs rv e q
  unfold fStr at e
  split at e
  · split at e
    · rename_i hl
      cases e
      obtain ⟨v, rfl, r⟩ := rv.one
      cases r.intOf
      exact ⟨_, rfl, hl, q _ m H .refl rs (.str _)⟩
    · cases e
  · cases e
def fAbs : DF := fun xs _ => match xs with
  | [.int i] => some (.int (if i < 0 then -i else i))
  | _ => none
def rAbs1 : List V → Hp → VK → Prop := fun xs H Q => ∃ i, xs = [V.int i] ∧ Q (.int (if i < 0 then -i else i)) H
theorem sim_abs : SimC K rAbs1 fAbs := by
  intro m S H xs vs d Q rs rv e q
  unfold fAbs at e
  split at e
  · cases e
    obtain ⟨v, rfl, r⟩ := rv.one
    cases r.intOf
    exact ⟨_, rfl, q _ m H .refl rs (.int _)⟩
  · cases e
def intsOf : List D → Option (List Int)
  | [] => some []
  | .int i :: ds => (intsOf ds).map (i :: ·)
  | _ :: _ => none
def boolsOf : List D → Option (List Bool)
  | [] => some []
  | .bl i :: ds => (boolsOf ds).map (i :: ·)
  | _ :: _ => none
def strsOf : List D → Option (List Str)
  | [] => some []
  | .str i :: ds => (strsOf ds).map (i :: ·)
  | _ :: _ => none
theorem ints_rv {m : Mm} {H : Hp} : ∀ {ds : List D} {vs : List V} {ns : List Int}, Rvs K m H ds vs → intsOf ds = some ns → vs = ns.map V.int
  | [], _, _, .nil, h => by simp [intsOf] at h; subst h; rfl
  | .int i :: ds, _, ns, .cons r rs, h => by
    simp only [intsOf, Option.map_eq_some_iff] at h
    obtain ⟨ns', h1, rfl⟩ := h
    rw [r.intOf, ints_rv rs h1]; rfl
  | .non :: _, _, _, _, h => by simp [intsOf] at h
  | .bl _ :: _, _, _, _, h => by simp [intsOf] at h
  | .str _ :: _, _, _, _, h => by simp [intsOf] at h
  | .ty _ :: _, _, _, _, h => by simp [intsOf] at h
  | .tup _ :: _, _, _, _, h => by simp [intsOf] at h
  | .lst _ :: _, _, _, _, h => by simp [intsOf] at h
  | .frz _ :: _, _, _, _, h => by simp [intsOf] at h
  | .dic _ _ :: _, _, _, _, h => by simp [intsOf] at h
  | .ref _ :: _, _, _, _, h => by simp [intsOf] at h
theorem bools_rv {m : Mm} {H : Hp} : ∀ {ds : List D} {vs : List V} {ns : List Bool}, Rvs K m H ds vs → boolsOf ds = some ns → vs = ns.map V.bl
  | [], _, _, .nil, h => by simp [boolsOf] at h; subst h; rfl
  | .bl i :: ds, _, ns, .cons r rs, h => by
    simp only [boolsOf, Option.map_eq_some_iff] at h
    obtain ⟨ns', h1, rfl⟩ := h
    rw [r.blOf, bools_rv rs h1]; rfl
  | .non :: _, _, _, _, h => by simp [boolsOf] at h
  | .int _ :: _, _, _, _, h => by simp [boolsOf] at h
  | .str _ :: _, _, _, _, h => by simp [boolsOf] at h
  | .ty _ :: _, _, _, _, h => by simp [boolsOf] at h
  | .tup _ :: _, _, _, _, h => by simp [boolsOf] at h
  | .lst _ :: _, _, _, _, h => by simp [boolsOf] at h
  | .frz _ :: _, _, _, _, h => by simp [boolsOf] at h
  | .dic _ _ :: _, _, _, _, h => by simp [boolsOf] at h
  | .ref _ :: _, _, _, _, h => by simp [boolsOf] at h
theorem strs_rv {m : Mm} {H : Hp} : ∀ {ds : List D} {vs : List V} {ns : List Str}, Rvs K m H ds vs → strsOf ds = some ns → vs = ns.map V.str
  | [], _, _, .nil, h => by simp [strsOf] at h; subst h; rfl
  | .str i :: ds, _, ns, .cons r rs, h => by
    simp only [strsOf, Option.map_eq_some_iff] at h
    obtain ⟨ns', h1, rfl⟩ := h
    rw [r.strOf, strs_rv rs h1]; rfl
  | .non :: _, _, _, _, h => by simp [strsOf] at h
  | .bl _ :: _, _, _, _, h => by simp [strsOf] at h
  | .int _ :: _, _, _, _, h => by simp [strsOf] at h
  | .ty _ :: _, _, _, _, h => by simp [strsOf] at h
  | .tup _ :: _, _, _, _, h => by simp [strsOf] at h
  | .lst _ :: _, _, _, _, h => by simp [strsOf] at h
  | .frz _ :: _, _, _, _, h => by simp [strsOf] at h
  | .dic _ _ :: _, _, _, _, h => by simp [strsOf] at h
  | .ref _ :: _, _, _, _, h => by simp [strsOf] at h
/-! max, min -/
def maxI : List Int → Int
  | [] => 0
  | [a] => a
  | a :: r => if a < maxI r then maxI r else a
def minI : List Int → Int
  | [] => 0
  | [a] => a
  | a :: r => if minI r < a then minI r else a
theorem maxI_mem : ∀ {l : List Int}, l ≠ [] → maxI l ∈ l ∧ ∀ y ∈ l, y ≤ maxI l
  | [a], _ => by simp [maxI]
  | a :: b :: r, _ => by
    have ih := maxI_mem (l := b :: r) (by simp)
    unfold maxI
    split
    · rename_i h
      refine ⟨List.mem_cons_of_mem _ ih.1, fun y hy => ?_⟩
      rcases List.mem_cons.mp hy with rfl | hy
      · omega
      · exact ih.2 y hy
    · rename_i h
      refine ⟨List.mem_cons_self, fun y hy => ?_⟩
      rcases List.mem_cons.mp hy with rfl | hy
      · omega
      · have := ih.2 y hy; omega
theorem minI_mem : ∀ {l : List Int}, l ≠ [] → minI l ∈ l ∧ ∀ y ∈ l, minI l ≤ y
  | [a], _ => by simp [minI]
  | a :: b :: r, _ => by
    have ih := minI_mem (l := b :: r) (by simp)
    unfold minI
    split
    · rename_i h
      refine ⟨List.mem_cons_of_mem _ ih.1, fun y hy => ?_⟩
      rcases List.mem_cons.mp hy with rfl | hy
      · omega
      · exact ih.2 y hy
    · rename_i h
      refine ⟨List.mem_cons_self, fun y hy => ?_⟩
      rcases List.mem_cons.mp hy with rfl | hy
      · omega
      · have := ih.2 y hy; omega
def fMax : DF := fun xs S => match xs with
  | [.int i, .int j] => some (.int (if j > i then j else i))
  | [d] => match (getL d S).bind intsOf with
    | some ns => if ns ≠ [] then some (.int (maxI ns)) else none
    | none => none
  | _ => none
def fMin : DF := fun xs S => match xs with
  | [.int i, .int j] => some (.int (if j < i then j else i))
  | [d] => match (getL d S).bind intsOf with
    | some ns => if ns ≠ [] then some (.int (minI ns)) else none
    | none => none
  | _ => none
def rMaxA (K : PySem.W.Frag) : List V → Hp → VK → Prop := fun xs H Q => (∃ i j, xs = [V.int i, V.int j] ∧ Q (.int (if j > i then j else i)) H) ∨ rMax K xs H Q
def rMinA (K : PySem.W.Frag) : List V → Hp → VK → Prop := fun xs H Q => (∃ i j, xs = [V.int i, V.int j] ∧ Q (.int (if j < i then j else i)) H) ∨ rMin K xs H Q
theorem call_maxA (hc : X.calm = true) : CallR X (.builtin "max") (rMaxA X.K) := (call_max2 hc).or (cr_max hc)
theorem call_minA (hc : X.calm = true) : CallR X (.builtin "min") (rMinA X.K) := (call_min2 hc).or (cr_min hc)
theorem sim_max : SimC K (rMaxA K) fMax := by
  intro m S H xs vs d Q rs rv e q
  unfold fMax at e
  split at e
  · cases e
    obtain ⟨v, u, rfl, r, r'⟩ := rv.two
    cases r.intOf; cases r'.intOf
    exact .inl ⟨_, _, rfl, q _ m H .refl rs (.int _)⟩
  · split at e
    · split at e
      · rename_i ns h1 h2
        cases e
        obtain ⟨ds, h3, h4⟩ := Option.bind_eq_some_iff.mp h1
        obtain ⟨v, rfl, r⟩ := rv.one
        obtain ⟨a, vs, rfl, h5, h6⟩ := getL_rv rs r h3
        cases ints_rv h6 h4
        refine .inr ⟨a, ns, rfl, SqL.of h5, by cases ns with | nil => exact absurd rfl h2 | cons => simp, fun k hk hle => ?_⟩
        obtain ⟨e1, e2⟩ := maxI_mem h2
        have : k = maxI ns := Int.le_antisymm (e2 k hk) (hle _ e1)
        rw [this]
        exact q _ m H .refl rs (.int _)
      · cases e
    · cases e
  · cases e
theorem sim_min : SimC K (rMinA K) fMin := by
  intro m S H xs vs d Q rs rv e q
  unfold fMin at e
  split at e
  · cases e
    obtain ⟨v, u, rfl, r, r'⟩ := rv.two
    cases r.intOf; cases r'.intOf
    exact .inl ⟨_, _, rfl, q _ m H .refl rs (.int _)⟩
  · split at e
    · split at e
      · rename_i ns h1 h2
        cases e
        obtain ⟨ds, h3, h4⟩ := Option.bind_eq_some_iff.mp h1
        obtain ⟨v, rfl, r⟩ := rv.one
        obtain ⟨a, vs, rfl, h5, h6⟩ := getL_rv rs r h3
        cases ints_rv h6 h4
        refine .inr ⟨a, ns, rfl, SqL.of h5, by cases ns with | nil => exact absurd rfl h2 | cons => simp, fun k hk hle => ?_⟩
        obtain ⟨e1, e2⟩ := minI_mem h2
        have : k = minI ns := Int.le_antisymm (hle _ e1) (e2 k hk)
        rw [this]
        exact q _ m H .refl rs (.int _)
      · cases e
    · cases e
  · cases e
/-! sum, any, all -/
def fSum : DF := fun xs S => match xs with
  | [d] => ((getL d S).bind intsOf).map fun ns => .int ns.sum
  | _ => none
def fAny : DF := fun xs S => match xs with
  | [d] => ((getL d S).bind boolsOf).map fun ns => .bl (ns.any id)
  | _ => none
def fAll : DF := fun xs S => match xs with
  | [d] => ((getL d S).bind boolsOf).map fun ns => .bl (ns.all id)
  | _ => none
theorem sim_sum : SimC K (rSum K) fSum := by
  intro m S H xs vs d Q rs rv e q
  unfold fSum at e
  split at e
  · simp only [Option.map_eq_some_iff] at e
    obtain ⟨ns, h1, rfl⟩ := e
    obtain ⟨ds, h3, h4⟩ := Option.bind_eq_some_iff.mp h1
    obtain ⟨v, rfl, r⟩ := rv.one
    obtain ⟨a, vs, rfl, h5, h6⟩ := getL_rv rs r h3
    cases ints_rv h6 h4
    exact ⟨a, ns, rfl, SqL.of h5, q _ m H .refl rs (.int _)⟩
  · cases e
theorem sim_any : SimC K (rAny K) fAny := by
  intro m S H xs vs d Q rs rv e q
  unfold fAny at e
  split at e
  · simp only [Option.map_eq_some_iff] at e
    obtain ⟨ns, h1, rfl⟩ := e
    obtain ⟨ds, h3, h4⟩ := Option.bind_eq_some_iff.mp h1
    obtain ⟨v, rfl, r⟩ := rv.one
    obtain ⟨a, vs, rfl, h5, h6⟩ := getL_rv rs r h3
    cases bools_rv h6 h4
    exact ⟨a, ns, rfl, SqL.of h5, q _ m H .refl rs (.bl _)⟩
  · cases e
theorem sim_all : SimC K (rAll K) fAll := by
  intro m S H xs vs d Q rs rv e q
  unfold fAll at e
  split at e
  · simp only [Option.map_eq_some_iff] at e
    obtain ⟨ns, h1, rfl⟩ := e
    obtain ⟨ds, h3, h4⟩ := Option.bind_eq_some_iff.mp h1
    obtain ⟨v, rfl, r⟩ := rv.one
    obtain ⟨a, vs, rfl, h5, h6⟩ := getL_rv rs r h3
    cases bools_rv h6 h4
    exact ⟨a, ns, rfl, SqL.of h5, q _ m H .refl rs (.bl _)⟩
  · cases e
/-! isinstance -/
def tyD (d : D) (S : Sto) : Option String := match d with
  | .non => some "NoneType"
  | .bl _ => some "bool"
  | .int _ => some "int"
  | .str _ => some "str"
  | .tup _ => some "tuple"
  | .lst _ => some "list"
  | .frz _ => some "list"
  | .dic _ _ => some "dict"
  | .ref i => (match S[i]? with
    | some (.lst _) => some "list"
    | some (.dic _) => some "dict"
    | none => none)
  | .ty _ => none
  | .exc .. => none
theorem tyD_rv {m : Mm} {H : Hp} {S : Sto} (rs : RelS K m S H) {d : D} {v : V} {n : String} (r : Rv K m H d v) (h : tyD d S = some n) : TyX K H v (.type n) := by
  cases r with
  | non => cases h; exact .base .non
  | bl b => cases h; exact .base (.bl b)
  | int b => cases h; exact .base (.int b)
  | str b => cases h; exact .base (.str b)
  | ty b => cases h
  | tup h1 h2 =>
    cases h
    rcases h1 with h1 | ⟨o, its, k, a1, a2, _⟩
    · exact .base (.tup h1.1)
    · exact .kTuple a1 a2
  | lst h1 h2 => cases h; exact .base (.lst h1.1)
  | frz h1 h2 =>
    cases h
    rcases h1 with ⟨h1 | ⟨o, h1⟩, _⟩ | ⟨o, its, k, a1, a2, _⟩
    · exact .base (.lst h1)
    · exact .base (.frz h1)
    · exact .kList a1 a2
  | dic h1 h2 h3 => cases h; exact .base (.dK h1.1)
  | @ref i a h1 =>
    unfold tyD at h
    simp only at h
    split at h
    · rename_i ds e
      cases h
      obtain ⟨vs, h3, _⟩ := rs.cell i a _ h1 e
      exact .base (.lst h3)
    · rename_i ds e
      cases h
      obtain ⟨vs, h3, _⟩ := rs.cell i a _ h1 e
      exact .base (.dK h3)
    · cases h
  | exc => cases h
def kitAnyB (t : String) : List D → Option Bool
  | [] => some false
  | .ty n :: r => match kitB t n, kitAnyB t r with
    | some true, some _ => some true
    | some false, some b => some b
    | _, _ => none
  | _ :: _ => none
def fIsi : DF := fun xs S => match xs with
  | [x, .ty n] => ((tyD x S).bind fun t => kitB t n).map .bl
  | [x, .tup cs] => ((tyD x S).bind fun t => kitAnyB t cs).map .bl
  | _ => none
def rIsiA (K : PySem.W.Frag) : List V → Hp → VK → Prop := fun xs H Q => rIsi K xs H Q ∨ rIsiT K xs H Q ∨ rIsiK K xs H Q
theorem call_isiA : CallR X (.builtin "isinstance") (rIsiA X.K) := call_isi.or (call_isiT.or call_isiK)
theorem kitAnyB_rv {m : Mm} {H : Hp} {t : String} : ∀ {ds : List D} {vs : List V} {b : Bool}, Rvs K m H ds vs → kitAnyB t ds = some b → ∃ us : List Value, Paired ClsV vs us ∧ PySem.W.kitAny K (.type t) us = some b
  | [], _, b, .nil, h => by simp [kitAnyB] at h; subst h; exact ⟨[], .nil, kitAny_nil⟩
  | .ty n :: ds, _, b, .cons r rs, h => by
    cases r
    simp only [kitAnyB] at h
    split at h
    · rename_i b' h1 h2
      cases h
      obtain ⟨us, h3, h4⟩ := kitAnyB_rv rs h2
      exact ⟨.type n :: us, .cons (.ty n) h3, kitAny_cons (kit_ty h1) (fun z => by cases z) fun _ => rfl⟩
    · rename_i h1 h2
      cases h
      obtain ⟨us, h3, h4⟩ := kitAnyB_rv rs h2
      exact ⟨.type n :: us, .cons (.ty n) h3, kitAny_cons (kit_ty h1) (fun _ => h4) fun z => by cases z⟩
    · cases h
  | .non :: _, _, _, _, h => by simp [kitAnyB] at h
  | .bl _ :: _, _, _, _, h => by simp [kitAnyB] at h
  | .int _ :: _, _, _, _, h => by simp [kitAnyB] at h
  | .str _ :: _, _, _, _, h => by simp [kitAnyB] at h
  | .tup _ :: _, _, _, _, h => by simp [kitAnyB] at h
  | .lst _ :: _, _, _, _, h => by simp [kitAnyB] at h
  | .frz _ :: _, _, _, _, h => by simp [kitAnyB] at h
  | .dic _ _ :: _, _, _, _, h => by simp [kitAnyB] at h
  | .ref _ :: _, _, _, _, h => by simp [kitAnyB] at h
theorem paired_uniq : ∀ {cs : List V} {us ws : List Value}, Paired ClsV cs us → Vals cs ws → ws = us := ClsV.all
theorem sim_isi : SimC K (rIsiA K) fIsi := by
  intro m S H xs vs d Q rs rv e q
  unfold fIsi at e
  split at e
  · simp only [Option.map_eq_some_iff] at e
    obtain ⟨b, h1, rfl⟩ := e
    obtain ⟨t, h3, h4⟩ := Option.bind_eq_some_iff.mp h1
    obtain ⟨v, u, rfl, r, r'⟩ := rv.two
    cases r'
    exact .inl ⟨v, _, .type t, _, b, rfl, .ty _, tyD_rv rs r h3, kit_ty h4, q _ m H .refl rs (.bl _)⟩
  · simp only [Option.map_eq_some_iff] at e
    obtain ⟨b, h1, rfl⟩ := e
    obtain ⟨t, h3, h4⟩ := Option.bind_eq_some_iff.mp h1
    obtain ⟨v, u, rfl, r, r'⟩ := rv.two
    cases r' with
    | @tup a ws ds h5 h6 =>
      obtain ⟨us, h7, h8⟩ := kitAnyB_rv h6 h4
      rcases h5 with h5 | ⟨o, its, n, a1, a2, a3, a4, a5, a6⟩
      · exact .inr (.inl ⟨v, a, ws, .type t, us, b, rfl, h5.1, h7, tyD_rv rs r h3, h8, q _ m H .refl rs (.bl _)⟩)
      · have e1 := paired_uniq h7 a5
        refine .inr (.inr ⟨v, a, o.dict, us, n, o.slots, .type t, b, rfl, ?_, tyD_rv rs r h3, h8, q _ m H .refl rs (.bl _)⟩)
        rw [a1]
        obtain ⟨oc, od, odt, osl⟩ := o
        simp only at a2 a3
        subst a2 a3
        rw [← e1]
  · cases e
end
end QB
set_option maxHeartbeats 4000000
namespace QB
open PySem PySem.Spec PyProof.Rows L2
/-! ### defs -/
abbrev DFn := List D → Sto → R D
def spD (K : PySem.W.Frag) (mg : Str → Option Value) (n : Nat) (F : DFn) : Sp := fun vs H Q E => vs.length = n ∧ ∃ m S ds, RelS K m S H ∧ Rvs K m H ds vs ∧ OkR K mg (Rv K) m H (F ds S) Q E
/-- a def of the text, as it stands behind the top, and what it computes -/
structure FnV (P : Program) (w : World) (K : PySem.W.Frag) (mg : Str → Option Value) (base : Heap) (st : Stmt) (x : Str) (dvs : List V) (ps : List Str) (k : Nat) (F : DFn) : Prop where
  ex : ∃ f fd, FnOk P w K mg base (L2.CX P w) k f fd ps (spD K mg ps.length F) ∧ mg x = some (.ref f) ∧ FunD K x x (defArgs st) (defBody st) (defScope st) dvs [] f fd
def BindP (st : Stmt) (x : Str) (ps : List Str) : Prop := ∀ (kV doc pm : Value) (an : Option Addr) (cdv ct : Value) (us : List Value), us.length = ps.length →
  bindArgs (PySem.W.fnOf x x (defArgs st) (defBody st) (defScope st) .none kV doc pm an cdv ct) ⟨us, []⟩ = pure (ps.zip us)
def pick {α : Type} (idx : List Nat) (xs : List α) : List α := idx.filterMap fun i => xs[i]?
def BindK (st : Stmt) (x : Str) (ps : List Str) (n : Nat) (ks : List Str) (idx : List Nat) : Prop := ∀ (kV doc pm : Value) (an : Option Addr) (cdv ct : Value) (us ws : List Value), us.length = n → ws.length = ks.length →
  bindArgs (PySem.W.fnOf x x (defArgs st) (defBody st) (defScope st) .none kV doc pm an cdv ct) ⟨us, ks.zip ws⟩ = pure (ps.zip (pick idx (us ++ ws)))
/-- the last parameters have defaults, the others are written -/
def BindD (st : Stmt) (x : Str) (ps : List Str) (n j m : Nat) : Prop := ∀ (T : Addr) (kV doc pm : Value) (an : Option Addr) (cdv ct : Value) (us its : List Value), us.length = n → its.length = m →
  ∃ k, bindArgs (PySem.W.fnOf x x (defArgs st) (defBody st) (defScope st) (.ref T) kV doc pm an cdv ct) ⟨us, []⟩ = seqItems? (.ref T) >>= k ∧ k (some its.toArray) = pure (ps.zip (us ++ its.drop j))
def dCall (F : DFn) (ts : DA) : DE := fun δ S => (ts δ S).bind F
def dCallD (F : DFn) (dd : List D) (ts : DA) : DE := fun δ S => (ts δ S).bind fun xs S1 => F (xs ++ dd) S1
def dCall0 (F : DFn) : DE := fun _ S => match F [] S with
  | .ok d S' => .ok d S'
  | _ => .stuck
def dCallK (F : DFn) (idx : List Nat) (n m : Nat) (ts tk : DA) : DE := fun δ S => (ts δ S).bind fun xs S1 => (tk δ S1).bind fun ys S2 => if xs.length = n ∧ ys.length = m then F (pick idx (xs ++ ys)) S2 else .stuck
section
variable {K : PySem.W.Frag} {m : Mm} {H : Hp}
theorem Rvs.pick {ds : List D} {vs : List V} (r : Rvs K m H ds vs) : ∀ idx : List Nat, Rvs K m H (QB.pick idx ds) (QB.pick idx vs)
  | [] => .nil
  | i :: idx => by
    unfold QB.pick
    rw [List.filterMap_cons, List.filterMap_cons]
    cases h : ds[i]? with
    | none =>
      have h' : vs[i]? = none := by
        rw [List.getElem?_eq_none_iff, ← r.length]
        exact List.getElem?_eq_none_iff.mp h
      rw [h']
      exact Rvs.pick r idx
    | some d =>
      obtain ⟨v, h1, h2⟩ := r.get h
      rw [h1]
      exact .cons h2 (Rvs.pick r idx)
end
theorem vals_pick {vs : List V} {us : List Value} (r : Vals vs us) : ∀ idx : List Nat, Vals (QB.pick idx vs) (QB.pick idx us)
  | [] => .nil
  | i :: idx => by
    unfold QB.pick
    rw [List.filterMap_cons, List.filterMap_cons]
    cases h : vs[i]? with
    | none =>
      rw [r.none_of h]
      exact vals_pick r idx
    | some d =>
      obtain ⟨v, h1, h2⟩ := r.get h
      rw [h1]
      exact .cons h2 (vals_pick r idx)
theorem FunD.bindP {K : PySem.W.Frag} {st : Stmt} {x : Str} {f : Addr} {fd : FuncData} {ps : List Str} (F : FunD K x x (defArgs st) (defBody st) (defScope st) [] [] f fd) (h : BindP st x ps) : Binds K fd ps [] :=
  F.bindsN h
/-- the keywords' own judgement -/
def PKv (X : Cx) (kws : List Keyword) (t : DA) : Prop := ∀ W, Takes X W → PK X kws (LA X.K X.mg W t)
section
variable {X : Cx} {st : Stmt} {x : Str} {ps : List Str} {k : Nat} {F : DFn} {p pos : Pos} {e : Expr} {es : List Expr} {ts tk : DA} {dvs : List V} {dd : List D}
theorem pkv_nil : PKv X [] aNil := fun W tk => ⟨fun pos pins s σ H Q I ⟨m, S, δ, rs, re, q⟩ => pk_nil.run pos pins s σ H Q I (q _ m H .refl rs .nil)⟩
theorem pkv_cons {kws : List Keyword} {nm : Option Str} {kpos : Pos} {t : DE} (ha : PEv X e t) (hr : PKv X kws ts) : PKv X (⟨nm, e, kpos⟩ :: kws) (aCons t ts) := fun W tk => ⟨fun pos pins s σ H Q I ⟨m, S, δ, rs, re, q⟩ =>
  (pk_cons (ha W tk) (hr W tk)).run pos pins s σ H Q I (by
    refine le_bind rs re q fun x S1 v m1 H1 e1 rs1 re1 rv q1 => ?_
    refine la_bind rs1 re1 q1 fun xs S2 vs m2 H2 e2 rs2 re2 rvs q2 => ?_
    exact q2 _ m2 H2 .refl rs2 (.cons (rv.mono e2 x) rvs))⟩
theorem ok_spD {W : WX} {σ : L2.St} {m : Mm} {S : Sto} {H : Hp} {ds : List D} {vs : List V} {n : Nat} {Q : VK} (rs : RelS X.K m S H) (r : Rvs X.K m H ds vs) (hn : vs.length = n) (q : OkR X.K X.mg (Rv X.K) m H (F ds S) Q (fun c d H' => W c d σ H')) :
    spD X.K X.mg n F vs H Q (WE W σ) := ⟨hn, m, S, ds, rs, r, q⟩
/-- f(e, ..) -/
theorem pev_call (G : FnV X.prog X.w X.K X.mg X.base st x [] ps k F) (hb : BindP st x ps) (hr : Room k X.A) (hg : Gl X x) (hn : (e :: es).length = ps.length) (ha : PAv X (e :: es) ts) (hl : ∀ δ S xs S', ts δ S = .ok xs S' → xs.length = (e :: es).length)
    (hdb : (x == ("__debug__" : Str)) = false := by decide) (he : starEach (e :: es) X.env = (false, eval e X.env) :: starEach es X.env := by rfl) (hpl : (backTo pos (starEach es X.env)).any (·.1) = false := by rfl) :
    PEv X (.Call (.Name x p) (e :: es) [] pos) (dCall F ts) := fun W tk => by
  obtain ⟨f, fd, hF, hm, hD⟩ := G.ex
  refine PE.imp (pe_callSD (dvs := []) (E := WE W) hF hr hg hm hD.kp (FunD.bindP hD hb) .nil (fun σ => passAt tk σ) (ha W tk) hdb he hpl) fun σ H Q ⟨m, S, δ, rs, re, q⟩ => ?_
  cases e1 : ts δ S with
  | ok xs S1 =>
    refine ⟨m, S, δ, rs, re, ?_⟩
    rw [e1]
    intro vs m1 H1 x1 rs1 rv
    unfold dCall at q
    rw [e1] at q
    rw [List.append_nil]
    exact ok_spD rs1 rv (by rw [← rv.length, hl _ _ _ _ e1, hn]) (OkR.ext (show OkR X.K X.mg (Rv X.K) m H (F xs S1) Q (fun c d H' => W c d σ H') from q) x1)
  | ex c fs S1 =>
    refine ⟨m, S, δ, rs, re, ?_⟩
    rw [e1]
    unfold dCall at q
    rw [e1] at q
    exact q
  | stuck =>
    unfold dCall at q
    rw [e1] at q
    exact q.elim
/-- f(e, ..), the last parameters by their defaults -/
theorem pev_callD (n j : Nat) (G : FnV X.prog X.w X.K X.mg X.base st x dvs ps k F) (hb : BindD st x ps n j dvs.length) (hnn : dvs ≠ []) (hr : Room k X.A) (hg : Gl X x) (hn : n + (dvs.length - j) = ps.length) (hr2 : ∀ m H, Rvs X.K m H dd (dvs.drop j)) (hes : (e :: es).length = n)
    (ha : PAv X (e :: es) ts) (hl : ∀ δ S xs S', ts δ S = .ok xs S' → xs.length = (e :: es).length)
    (hdb : (x == ("__debug__" : Str)) = false := by decide) (he : starEach (e :: es) X.env = (false, eval e X.env) :: starEach es X.env := by rfl) (hpl : (backTo pos (starEach es X.env)).any (·.1) = false := by rfl) :
    PEv X (.Call (.Name x p) (e :: es) [] pos) (dCallD F dd ts) := fun W tk => by
  obtain ⟨f, fd, hF, hm, hD⟩ := G.ex
  obtain ⟨ds, hds, hbs⟩ := FunD.binds1 hD n j hnn hn hb
  refine PE.imp (pe_callSD (dvs := dvs.drop j) (E := WE W) hF hr hg hm hD.kp hbs hds (fun σ => passAt tk σ) (ha W tk) hdb he hpl) fun σ H Q ⟨m, S, δ, rs, re, q⟩ => ?_
  cases e1 : ts δ S with
  | ok xs S1 =>
    refine ⟨m, S, δ, rs, re, ?_⟩
    rw [e1]
    intro vs m1 H1 x1 rs1 rv
    unfold dCallD at q
    rw [e1] at q
    exact ok_spD rs1 (rv.append (hr2 _ _)) (by rw [List.length_append, ← rv.length, hl _ _ _ _ e1, hes, List.length_drop, hn]) (OkR.ext (show OkR X.K X.mg (Rv X.K) m H (F (xs ++ dd) S1) Q (fun c d H' => W c d σ H') from q) x1)
  | ex c fs S1 =>
    refine ⟨m, S, δ, rs, re, ?_⟩
    rw [e1]
    unfold dCallD at q
    rw [e1] at q
    exact q
  | stuck =>
    unfold dCallD at q
    rw [e1] at q
    exact q.elim
theorem pev_call0 (G : FnV X.prog X.w X.K X.mg X.base st x [] [] k F) (hb : BindP st x []) (hr : Room k X.A) (hg : Gl X x) (hdb : (x == ("__debug__" : Str)) = false := by decide) : PEv X (.Call (.Name x p) [] [] pos) (dCall0 F) := fun W tk => by
  obtain ⟨f, fd, hF, hm, hD⟩ := G.ex
  refine PE.imp (pe_call0 (dvs := []) (E := fun _ _ _ => False) hF hr hg hm hD.kp (FunD.bindP hD hb) .nil (passes_call tk fun _ _ _ _ z => z.elim) hdb) fun σ H Q ⟨m, S, δ, rs, re, q⟩ => ?_
  unfold dCall0 at q
  refine ⟨rfl, m, S, [], rs, .nil, ?_⟩
  cases e1 : F [] S with
  | ok d S' => rw [e1] at q; exact q
  | ex c fs S' => rw [e1] at q; exact q.elim
  | stuck => rw [e1] at q; exact q.elim
/-- with keywords -/
theorem run_fnKS {f : Addr} {fd : FuncData} {n : Nat} {ks : List Str} {idx : List Nat} {sp : Sp} {E : XK} {pins : List (Addr × Obj)} {σ : L2.St} {H : Hp} {s : Shared} {Q : VK} {us ws : List Value} {vs zs : List V} (hF : FnOk X.prog X.w X.K X.mg X.base (L2.CX X.prog X.w) k f fd ps sp) (hr : Room k X.A)
    (hD : FunD X.K x x (defArgs st) (defBody st) (defScope st) [] [] f fd) (hb : BindK st x ps n ks idx) (hx : PassesAt (L2.CX X.prog X.w) X σ E)
    (I : Inv X pins σ H s) (r : Vals vs us) (rz : Vals zs ws) (l1 : vs.length = n) (l2 : zs.length = ks.length) (h : sp (pick idx (vs ++ zs)) H Q E) : wpAny (model X.prog X.w) X.A (call (.ref f) us (ks.zip ws)) (EP X pins σ Q) X.xe s := by
  have r2 := vals_pick (r.append rz) idx
  obtain ⟨oc, od, dV, kV, doc, pm, an, cdv, ct, osl, rfl, lk, hcd, hDf, hK⟩ := hD.ex
  have hd : dV = .none := by
    rcases hDf with ⟨_, h⟩ | ⟨h, _⟩
    · exact h
    · exact absurd rfl h
  subst hd
  refine wpAny_call (codeAny_mono (hF.run X.A X.stack s H ⟨us, ks.zip ws⟩ (pick idx (us ++ ws)) (pick idx (vs ++ zs)) Q E hr I.env0 (.of_eq (hb kV doc pm an cdv ct us ws (r.length.symm.trans l1) (rz.length.symm.trans l2))) r2 h) fun r s' hq => ?_)
  cases r with
  | error e => exact hx pins H s e s' I hq
  | ok fl =>
    cases fl with
    | ret u => exact I.after hq
    | next => exact False.elim hq
    | brk => exact False.elim hq
    | cont => exact False.elim hq
def tCallKS (sp : Sp) (idx : List Nat) (n m : Nat) (E : L2.St → XK) (t tk : TA) : TE := fun σ H Q => t σ H fun vs H1 => tk σ H1 fun zs H2 => vs.length = n ∧ zs.length = m ∧ sp (pick idx (vs ++ zs)) H2 Q (E σ)
theorem tCallKS_of {W : WX} {idx : List Nat} {n m' : Nat} (hps : (pick idx (List.range (n + m'))).length = ps.length) {σ : L2.St} {H : Hp} {Q : VK} (h : LE X.K X.mg W (dCallK F idx n m' ts tk) σ H Q) :
    tCallKS (spD X.K X.mg ps.length F) idx n m' (WE W) (LA X.K X.mg W ts) (LA X.K X.mg W tk) σ H Q := by
  obtain ⟨m, S, δ, rs, re, q⟩ := h
  refine la_bind rs re q fun xs S1 vs m1 H1 e1 rs1 re1 rv q1 => ?_
  refine la_bind rs1 re1 q1 fun ys S2 us m2 H2 e2 rs2 re2 ru q2 => ?_
  split at q2
  · rename_i hl
    have rv := Rvs.mono e2 xs rv
    have r3 := (rv.append ru).pick idx
    refine ⟨rv.length ▸ hl.1, ru.length ▸ hl.2, ?_, m2, S2, _, rs2, r3, q2⟩
    have gen : ∀ {α β : Type} (idx : List Nat) (a : List α) (b : List β), a.length = b.length → (pick idx a).length = (pick idx b).length := by
      intro α β idx a b hab
      induction idx with
      | nil => rfl
      | cons i idx ih =>
        unfold pick
        rw [List.filterMap_cons, List.filterMap_cons]
        by_cases hi : i < a.length
        · rw [List.getElem?_eq_getElem hi, List.getElem?_eq_getElem (hab ▸ hi)]
          exact congrArg (· + 1) ih
        · rw [List.getElem?_eq_none (by omega), List.getElem?_eq_none (by omega)]
          exact ih
    rw [← hps]
    refine gen idx _ _ ?_
    rw [List.length_append, List.length_range, ← rv.length, ← ru.length, hl.1, hl.2]
  · exact q2.elim
theorem pev_callK {n : Nat} {ks : List Str} {idx : List Nat} {kws : List Keyword} (G : FnV X.prog X.w X.K X.mg X.base st x [] ps k F) (hb : BindK st x ps n ks idx) (hps : (pick idx (List.range (n + ks.length))).length = ps.length) (hr : Room k X.A) (hg : Gl X x)
    (ha : PAv X (e :: es) ts) (hkw : PKv X kws tk) (hall : (backToKw pos (keywordEach kws X.env)).all (·.1.isSome) = true := by rfl) (hks : (backToKw pos (keywordEach kws X.env)).filterMap (·.1) = ks := by rfl)
    (hdb : (x == ("__debug__" : Str)) = false := by decide) (he : starEach (e :: es) X.env = (false, eval e X.env) :: starEach es X.env := by rfl)
    (hpl : ((backTo pos (starEach (e :: es) X.env)).any (·.1) || (backToKw pos (keywordEach kws X.env)).any (·.1.isNone)) = false := by rfl) :
    PEv X (.Call (.Name x p) (e :: es) kws pos) (dCallK F idx n ks.length ts tk) := fun W tk' => by
  obtain ⟨f, fd, hF, hm, hD⟩ := G.ex
  refine ⟨fun pins s σ H Q I h => ?_⟩
  refine wpAny_Call_Name_kw (ld_glob I hg hm ?_ hdb)
  refine PySem.W.callWith_KW (h₀ := X.base) I.ok.mod.kin hD.kp hall (thn ((ha W tk').run pos pins s σ H _ I (tCallKS_of hps h)) fun us s1 ⟨vs, H1, I1, r, q⟩ => ?_) hpl he
  refine thn ((hkw W tk').run pos pins s1 σ H1 _ I1 q) fun ws s2 ⟨zs, H2, I2, rz, l1, l2, q2⟩ => ⟨I2.kIn, ?_⟩
  rw [hks]
  exact run_fnKS hF hr hD hb (passAt tk' σ) I2 r rz l1 l2 q2
theorem pev_callK0 {ks : List Str} {idx : List Nat} {kws : List Keyword} (G : FnV X.prog X.w X.K X.mg X.base st x [] ps k F) (hb : BindK st x ps 0 ks idx) (hps : (pick idx (List.range (0 + ks.length))).length = ps.length) (hr : Room k X.A) (hg : Gl X x)
    (hkw : PKv X kws tk) (hall : (backToKw pos (keywordEach kws X.env)).all (·.1.isSome) = true := by rfl) (hks : (backToKw pos (keywordEach kws X.env)).filterMap (·.1) = ks := by rfl)
    (hdb : (x == ("__debug__" : Str)) = false := by decide)
    (hpl : ((backTo pos (starEach [] X.env)).any (·.1) || (backToKw pos (keywordEach kws X.env)).any (·.1.isNone)) = false := by rfl) :
    PEv X (.Call (.Name x p) [] kws pos) (dCallK F idx 0 ks.length aNil tk) := fun W tk' => by
  obtain ⟨f, fd, hF, hm, hD⟩ := G.ex
  refine ⟨fun pins s σ H Q I h => ?_⟩
  refine wpAny_Call_Name_kw (ld_glob I hg hm ?_ hdb)
  refine PySem.W.callWith_KW0 (h₀ := X.base) I.ok.mod.kin hD.kp hall ?_ hpl
  have h' := tCallKS_of (ts := aNil) hps h
  obtain ⟨m, S, δ, rs, re, q0⟩ := h'
  have q := q0 [] m H .refl rs .nil
  refine thn ((hkw W tk').run pos pins s σ H _ I q) fun ws s2 ⟨zs, H2, I2, rz, l1, l2, q2⟩ => ⟨I2.kIn, ?_⟩
  rw [hks]
  exact run_fnKS hF hr hD hb (passAt tk' σ) I2 .nil rz l1 l2 q2
end
end QB
set_option maxHeartbeats 4000000
namespace QB
open PySem PySem.Spec PyProof.Rows L2
theorem len_nil : ∀ (δ : Sl) (S : Sto) (xs : List D) (S' : Sto), aNil δ S = .ok xs S' → xs.length = 0 := fun δ S xs S' h => by cases h; rfl
theorem len_cons {t : DE} {ts : DA} {n : Nat} (h : ∀ (δ : Sl) (S : Sto) (xs : List D) (S' : Sto), ts δ S = .ok xs S' → xs.length = n) : ∀ (δ : Sl) (S : Sto) (xs : List D) (S' : Sto), aCons t ts δ S = .ok xs S' → xs.length = n + 1 := fun δ S xs S' q => by
  unfold aCons at q
  cases e : t δ S with
  | ok x S1 =>
    rw [e] at q
    simp only [R.bind] at q
    cases e1 : ts δ S1 with
    | ok ys S2 =>
      rw [e1] at q
      simp only [R.bind] at q
      cases q
      rw [List.length_cons, h _ _ _ _ e1]
    | ex c fs S2 => rw [e1] at q; cases q
    | stuck => rw [e1] at q; cases q
  | ex c fs S2 => rw [e] at q; cases q
  | stuck => rw [e] at q; cases q
/-! ### methods that change a cell -/
def dAppend (to te : DE) : DE := fun δ S => (to δ S).bind fun x S1 => match x with
  | .ref i => (match S1[i]? with
    | some (.lst _) => (te δ S1).bind fun y S2 => (match S2[i]? with
      | some (.lst ds) => if ds.length < sizeLine then .ok .non (S2.set i (.lst (ds ++ [y]))) else .stuck
      | _ => .stuck)
    | _ => .stuck)
  | _ => .stuck
def dPop (to : DE) : DE := fun δ S => (to δ S).bind fun x S1 => match x with
  | .ref i => (match S1[i]? with
    | some (.lst ds) => (match ds[ds.length - 1]? with
      | some d => .ok d (S1.set i (.lst ds.dropLast))
      | none => .stuck)
    | _ => .stuck)
  | _ => .stuck
section
variable {X : Cx} {o e : Expr} {to te : DE} {apos cpos pos : Pos}
theorem pev_append (ho : PEv X o to) (he : PEv X e te) (hbase : attributeBase o "append" X.env (eval o X.env) = eval o X.env := by rfl)
    (hfew : ((backTo cpos (starEach [e] X.env)).all (fun x => !x.1) && (backToKw cpos (keywordEach [] X.env)).all (fun x => x.1.isSome)
      && decide (([e] : List Expr).length + ([] : List Keyword).length + (if ([] : List Keyword).isEmpty then 0 else 1) < 30)) = true := by rfl)
    (hline : (apos.endLine == cpos.line) = true := by rfl) (hs : starEach [e] X.env = (false, eval e X.env) :: starEach [] X.env := by rfl) (hplain : (backTo cpos (starEach [] X.env)).any (·.1) = false := by rfl) :
    PEv X (.Call (.Attribute o "append" apos) [e] [] cpos) (dAppend to te) := fun W tk =>
  PE.imp (pe_bm PySem.F.plainAttrs_list PySem.F.slot_list_append PySem.F.type_list_append mt_append (ho W tk) (pa_cons (he W tk) pa_nil hs) hbase hfew hline hs hplain) fun σ H Q ⟨m, S, δ, rs, re, q⟩ => by
    refine le_bind rs re q fun x S1 v m1 H1 e1 rs1 re1 rv q1 => ?_
    split at q1
    · rename_i i
      split at q1
      · rename_i ds e0
        obtain ⟨a, vs, rfl, hm, h1, h2⟩ := rs1.lstCell rv e0
        refine ⟨.inl ⟨rfl, vs, SqL.of h1⟩, ?_⟩
        refine le_bind rs1 re1 q1 fun y S2 u m2 H2 e2 rs2 re2 ru q2 => ?_
        split at q2
        · rename_i ds2 e3
          split at q2
          · rename_i hl
            obtain ⟨a', vs', ea, hm', h1', h2'⟩ := rs2.lstCell (rv.mono e2 _) e3
            cases ea
            refine ⟨a, vs', u, rfl, rfl, h1', by rw [← h2'.length]; exact hl, ?_⟩
            obtain ⟨e', rs'⟩ := rs2.write (o := .lst (vs' ++ [u])) (u := .lst (ds2 ++ [y])) hm' fun m' H' e h => ⟨_, h, (h2'.append (.cons ru .nil)).mono e⟩
            exact q2 _ m2 _ e' rs' .non
          · exact q2.elim
        · exact q2.elim
      · exact q1.elim
    · exact q1.elim
theorem pev_pop (ho : PEv X o to) (hbase : attributeBase o "pop" X.env (eval o X.env) = eval o X.env := by rfl) (hline : (apos.endLine == cpos.line) = true := by rfl) :
    PEv X (.Call (.Attribute o "pop" apos) [] [] cpos) (dPop to) := fun W tk =>
  PE.imp (pe_bm0 PySem.F.plainAttrs_list PySem.F.slot_list_pop PySem.F.type_list_pop mt_pop (ho W tk) hbase hline) fun σ H Q ⟨m, S, δ, rs, re, q⟩ => by
    refine le_bind rs re q fun x S1 v m1 H1 e1 rs1 re1 rv q1 => ?_
    split at q1
    · rename_i i
      split at q1
      · rename_i ds e0
        split at q1
        · rename_i d e3
          obtain ⟨a, vs, rfl, hm, h1, h2⟩ := rs1.lstCell rv e0
          obtain ⟨u, h3, h4⟩ := h2.get e3
          refine ⟨.inl ⟨rfl, vs, SqL.of h1⟩, a, vs, u, rfl, rfl, h1, by rw [← h2.length]; exact h3, ?_⟩
          obtain ⟨e', rs'⟩ := rs1.write (o := .lst vs.dropLast) (u := .lst ds.dropLast) hm fun m' H' e h => ⟨_, h, h2.dropLast.mono e⟩
          exact q1 _ m1 _ e' rs' (h4.mono e' d)
        · exact q1.elim
      · exact q1.elim
    · exact q1.elim
/-! ### methods of texts and numbers -/
def dJoin (to te : DE) : DE := fun δ S => (to δ S).bind fun x S1 => match x with
  | .str a => (te δ S1).bind fun y S2 => (match (getQ y S2).bind strsOf with
    | some ys => if (ys.map (·.length)).sum + ys.length * a.length ≤ 16777216 then .ok (.str (Txt.join a ys)) S2 else .stuck
    | none => .stuck)
  | _ => .stuck
def dUpper (to : DE) : DE := fun δ S => (to δ S).bind fun x S1 => match x with
  | .str a => if a.length ≤ 5592405 then .ok (.str (Txt.upper a)) S1 else .stuck
  | _ => .stuck
def dBits (to : DE) : DE := fun δ S => (to δ S).bind fun x S1 => match x with
  | .int i => .ok (.int (Builtin.Int.intBits i : Nat)) S1
  | _ => .stuck
theorem pev_join (ho : PEv X o to) (he : PEv X e te) (hs : starEach [e] X.env = [(false, eval e X.env)] := by rfl) (hbase : attributeBase o "join" X.env (eval o X.env) = eval o X.env := by rfl) (hline : (apos.endLine == pos.line) = true := by rfl) :
    PEv X (.Call (.Attribute o "join" apos) [e] [] pos) (dJoin to te) := fun W tk =>
  PE.imp (pe_join (ho W tk) (he W tk) hs hbase hline) fun σ H Q ⟨m, S, δ, rs, re, q⟩ => by
    refine le_bind rs re q fun x S1 v m1 H1 e1 rs1 re1 rv q1 => ?_
    split at q1
    · rename_i a
      refine ⟨⟨a, rv.strOf⟩, ?_⟩
      refine le_bind rs1 re1 q1 fun y S2 u m2 H2 e2 rs2 re2 ru q2 => ?_
      split at q2
      · rename_i ys h1
        split at q2
        · rename_i hl
          obtain ⟨ds, h3, h4⟩ := Option.bind_eq_some_iff.mp h1
          obtain ⟨p, vs, rfl, h5, h6⟩ := getQ_rv rs2 ru h3
          cases strs_rv h6 h4
          exact ⟨a, p, ys, rv.strOf, rfl, h5, hl, q2 _ m2 H2 .refl rs2 (.str _)⟩
        · exact q2.elim
      · exact q2.elim
    · exact q1.elim
theorem pev_upper (ho : PEv X o to) (hbase : attributeBase o "upper" X.env (eval o X.env) = eval o X.env := by rfl) (hline : (apos.endLine == pos.line) = true := by rfl) :
    PEv X (.Call (.Attribute o "upper" apos) [] [] pos) (dUpper to) := fun W tk =>
  PE.imp (pe_upper (ho W tk) hbase hline) fun σ H Q ⟨m, S, δ, rs, re, q⟩ => by
    refine le_bind rs re q fun x S1 v m1 H1 e1 rs1 re1 rv q1 => ?_
    split at q1
    · rename_i a
      split at q1
      · rename_i hl
        exact ⟨⟨a, rv.strOf⟩, a, rv.strOf, rfl, hl, q1 _ m1 H1 .refl rs1 (.str _)⟩
      · exact q1.elim
    · exact q1.elim
theorem pev_bits (ho : PEv X o to) (hbase : attributeBase o "bit_length" X.env (eval o X.env) = eval o X.env := by rfl) (hline : (apos.endLine == pos.line) = true := by rfl) : PEv X (.Call (.Attribute o "bit_length" apos) [] [] pos) (dBits to) := fun W tk =>
  PE.imp (pe_bits (ho W tk) hbase hline) fun σ H Q ⟨m, S, δ, rs, re, q⟩ => by
    refine le_bind rs re q fun x S1 v m1 H1 e1 rs1 re1 rv q1 => ?_
    split at q1
    · rename_i a
      exact ⟨a, rv.intOf, q1 _ m1 H1 .refl rs1 (.int _)⟩
    · exact q1.elim
end
/-! ### statements -/
def Out.seq (o : Out) (f : Sl → Sto → Out) : Out := match o with
  | .nx δ S => f δ S
  | o => o
def sSkip : DS := fun δ S => .nx δ S
def sSeq (t u : DS) : DS := fun δ S => (t δ S).seq u
def ofR (δ : Sl) {α : Type} (r : R α) (f : α → Sto → Out) : Out := match r with
  | .ok a S => f a S
  | .ex c fs S => .ex c fs δ S
  | .stuck => .stuck
def sExpr (t : DE) : DS := fun δ S => ofR δ (t δ S) fun _ S1 => .nx δ S1
def sRet (t : DE) : DS := fun δ S => ofR δ (t δ S) fun d S1 => .rt d S1
def sRetN : DS := fun _ S => .rt .non S
def sIf (c : DT) (t u : DS) : DS := fun δ S => ofR δ (c δ S) fun b S1 => if b = true then t δ S1 else u δ S1
def sBreak : DS := fun δ S => .bk δ S
def sCont : DS := fun δ S => .ct δ S
section
variable {K : PySem.W.Frag} {mg : Str → Option Value} {m : Mm} {H : Hp} {S : Sto} {δ : Sl} {σ : L2.St} {W : WX} {Dn : Ends}
theorem le_ofR {t : DE} {f : D → Sto → Out} {Q' : VK} (rs : RelS K m S H) (re : RelE K m H δ σ) (h : OkS K mg W m H (ofR δ (t δ S) f) Dn)
    (hk : ∀ d S1 v m1 H1, Ext m H m1 H1 → RelS K m1 S1 H1 → RelE K m1 H1 δ σ → Rv K m1 H1 d v → OkS K mg W m1 H1 (f d S1) Dn → Q' v H1) : LE K mg W t σ H Q' := by
  refine ⟨m, S, δ, rs, re, ?_⟩
  cases e : t δ S with
  | ok d S1 =>
    rw [e] at h
    exact fun v m1 H1 x r1 rv => hk d S1 v m1 H1 x r1 (re.mono x) rv (OkS.ext h x)
  | ex c fs S1 =>
    rw [e] at h
    exact fun C dd fv m1 H1 g x r1 hd hf => h C dd fv σ m1 H1 g x r1 (re.mono x) hd hf
  | stuck =>
    rw [e] at h
    exact h
theorem lt_ofR {t : DT} {f : Bool → Sto → Out} {Q' : Bool → Hp → Prop} (rs : RelS K m S H) (re : RelE K m H δ σ) (h : OkS K mg W m H (ofR δ (t δ S) f) Dn)
    (hk : ∀ b S1 m1 H1, Ext m H m1 H1 → RelS K m1 S1 H1 → RelE K m1 H1 δ σ → OkS K mg W m1 H1 (f b S1) Dn → Q' b H1) : LT K mg W t σ H Q' := by
  refine ⟨m, S, δ, rs, re, ?_⟩
  cases e : t δ S with
  | ok d S1 =>
    rw [e] at h
    intro v m1 H1 x r1 rv
    subst rv
    exact hk v S1 m1 H1 x r1 (re.mono x) (OkS.ext h x)
  | ex c fs S1 =>
    rw [e] at h
    exact fun C dd fv m1 H1 g x r1 hd hf => h C dd fv σ m1 H1 g x r1 (re.mono x) hd hf
  | stuck =>
    rw [e] at h
    exact h
/-- behind a statement -/
theorem ls_seq {t : DS} {f : Sl → Sto → Out} {nx : L2.St → Hp → Prop} (rs : RelS K m S H) (re : RelE K m H δ σ) (h : OkS K mg W m H ((t δ S).seq f) Dn)
    (hk : ∀ δ1 S1 σ1 m1 H1, Ext m H m1 H1 → RelS K m1 S1 H1 → RelE K m1 H1 δ1 σ1 → OkS K mg W m1 H1 (f δ1 S1) Dn → nx σ1 H1) : LS K mg W t { Dn with nx := nx } σ H := by
  refine ⟨m, S, δ, rs, re, ?_⟩
  cases e : t δ S with
  | nx δ1 S1 =>
    rw [e] at h
    exact fun σ1 m1 H1 x r1 re1 => hk δ1 S1 σ1 m1 H1 x r1 re1 (OkS.ext h x)
  | bk δ1 S1 => rw [e] at h; exact h
  | ct δ1 S1 => rw [e] at h; exact h
  | rt d S1 => rw [e] at h; exact h
  | ex c fs δ1 S1 => rw [e] at h; exact h
  | stuck => rw [e] at h; exact h
end
section
variable {X : Cx} {e : Expr} {st : Stmt} {sts a b : List Stmt} {t : DE} {c : DT} {u v : DS} {pos : Pos}
theorem pssv_nil : PSsv X [] sSkip := fun W tk => PSs.imp pss_nil fun Dn σ H ⟨m, S, δ, rs, re, q⟩ => q σ m H .refl rs re
theorem pssv_cons (h1 : PSv X st u) (h2 : PSsv X sts v) : PSsv X (st :: sts) (sSeq u v) := fun W tk =>
  PSs.imp (pss_cons (h1 W tk) (h2 W tk)) fun Dn σ H ⟨m, S, δ, rs, re, q⟩ =>
    ls_seq rs re q fun δ1 S1 σ1 m1 H1 x r1 re1 q1 => ⟨m1, S1, δ1, r1, re1, q1⟩
theorem pssv_one (h1 : PSv X st u) : PSsv X [st] u := fun W tk => pss_one (h1 W tk)
theorem psv_pass : PSv X (.Pass pos) sSkip := fun W tk => PS.imp ps_pass fun Dn σ H ⟨m, S, δ, rs, re, q⟩ => q σ m H .refl rs re
theorem psv_break : PSv X (.Break pos) sBreak := fun W tk => PS.imp ps_break fun Dn σ H ⟨m, S, δ, rs, re, q⟩ => q σ m H .refl rs re
theorem psv_continue : PSv X (.Continue pos) sCont := fun W tk => PS.imp ps_continue fun Dn σ H ⟨m, S, δ, rs, re, q⟩ => q σ m H .refl rs re
theorem psv_expr (he : PEv X e t) (hs : swapsWith e none pos.line X.env = pure false := by rfl) : PSv X (.Expr e pos) (sExpr t) := fun W tk =>
  PS.imp (ps_expr (he W tk) hs) fun Dn σ H ⟨m, S, δ, rs, re, q⟩ => le_ofR rs re q fun d S1 v m1 H1 x r1 re1 rv q1 => q1 σ m1 H1 .refl r1 re1
theorem psv_ret (he : PEv X e t) : PSv X (.Return (some e) pos) (sRet t) := fun W tk =>
  PS.imp (ps_ret (he W tk)) fun Dn σ H ⟨m, S, δ, rs, re, q⟩ => le_ofR rs re q fun d S1 v m1 H1 x r1 re1 rv q1 => q1 v m1 H1 .refl r1 rv
theorem psv_retN : PSv X (.Return none pos) sRetN := fun W tk =>
  PS.imp ps_retN fun Dn σ H ⟨m, S, δ, rs, re, q⟩ => q _ m H .refl rs .non
theorem psv_if {ce : Expr} (hc : PTv X ce c) (ha : PSsv X a u) (hb : PSsv X b v) : PSv X (.If ce a b pos) (sIf c u v) := fun W tk =>
  PS.imp (ps_if (hc W tk) (ha W tk) (hb W tk)) fun Dn σ H ⟨m, S, δ, rs, re, q⟩ => lt_ofR rs re q fun b S1 m1 H1 x r1 re1 q1 => by
    cases b
    · exact ⟨m1, S1, δ, r1, re1, q1⟩
    · exact ⟨m1, S1, δ, r1, re1, q1⟩
end
/-! ### targets -/
abbrev DG := D → Sl → Sto → Option Sl
def LG (K : PySem.W.Frag) (g : DG) : TG := fun v σ H Q => ∃ m S δ d δ', RelS K m S H ∧ RelE K m H δ σ ∧ Rv K m H d v ∧ g d δ S = some δ' ∧ ∀ σ' m' H', Ext m H m' H' → RelS K m' S H' → RelE K m' H' δ' σ' → Q σ' H'
def LGs (K : PySem.W.Frag) (g : List D → Sl → Sto → Option Sl) : TGs := fun vs σ H Q => ∃ m S δ ds δ', RelS K m S H ∧ RelE K m H δ σ ∧ Rvs K m H ds vs ∧ g ds δ S = some δ' ∧ ∀ σ' m' H', Ext m H m' H' → RelS K m' S H' → RelE K m' H' δ' σ' → Q σ' H'
def PGv (X : Cx) (tg : Expr) (g : DG) : Prop := PG X tg (LG X.K g)
def PGsv (X : Cx) (tgs : List Expr) (g : List D → Sl → Sto → Option Sl) : Prop := PGs X tgs (LGs X.K g)
def gNm (i : Nat) : DG := fun d δ _ => some (δ.set i (some d))
def gsNil : List D → Sl → Sto → Option Sl := fun ds δ _ => match ds with
  | [] => some δ
  | _ => none
def gsCons (g : DG) (gs : List D → Sl → Sto → Option Sl) : List D → Sl → Sto → Option Sl := fun ds δ S => match ds with
  | d :: r => (match g d δ S with
    | some δ' => gs r δ' S
    | none => none)
  | [] => none
def gTp (n : Nat) (gs : List D → Sl → Sto → Option Sl) : DG := fun d δ S => match d with
  | .tup ds => if ds.length = n then gs ds δ S else none
  | _ => none
theorem PG.imp {X : Cx} {e : Expr} {t t' : TG} (h : PG X e t) (i : ∀ v σ H Q, t' v σ H Q → t v σ H Q) : PG X e t' := ⟨fun pins s σ H v u Q I r q => h.run pins s σ H v u Q I r (i v σ H Q q)⟩
theorem PGs.imp {X : Cx} {e : List Expr} {t t' : TGs} (h : PGs X e t) (i : ∀ v σ H Q, t' v σ H Q → t v σ H Q) : PGs X e t' := ⟨fun pins s σ H v u Q I r q => h.run pins s σ H v u Q I r (i v σ H Q q)⟩
section
variable {X : Cx} {e : Expr} {es : List Expr} {g : DG} {gs : List D → Sl → Sto → Option Sl} {t : DE} {pos : Pos}
theorem pgv_name {i : Nat} {x : Str} (hN : X.N.Nodup) (hi : X.N[i]? = some x := by rfl) (hx : Loc X.env.scope x := by first | exact Or.inl rfl | exact Or.inr rfl) (hf : X.fn x = true ∨ X.env.scope.names.lookup x = some .local := by first | exact .inl rfl | exact .inr rfl) : PGv X (.Name x pos) (gNm i) :=
  PG.imp (pg_name hN hi hx hf) fun v σ H Q ⟨m, S, δ, d, δ', rs, re, rv, e, q⟩ => by
    cases e
    exact q _ m H .refl rs (re.set rv i)
theorem pgsv_nil : PGsv X [] gsNil := PGs.imp pgs_nil fun vs σ H Q ⟨m, S, δ, d, δ', rs, re, rv, e, q⟩ => by
  cases rv with
  | nil => cases e; exact ⟨rfl, q _ m H .refl rs re⟩
  | cons => cases e
theorem pgsv_cons (h1 : PGv X e g) (h2 : PGsv X es gs) (hs : (assignEach (e :: es) X.env).map (·.2) = assign e X.env :: (assignEach es X.env).map (·.2) := by rfl) : PGsv X (e :: es) (gsCons g gs) :=
  PGs.imp (pgs_cons h1 h2 hs) fun vs σ H Q ⟨m, S, δ, d, δ', rs, re, rv, e, q⟩ => by
    cases rv with
    | nil => cases e
    | @cons d v ds vs h r =>
      simp only [gsCons] at e
      split at e
      · rename_i δ1 e1
        refine ⟨v, vs, rfl, m, S, δ, d, δ1, rs, re, h, e1, fun σ1 m1 H1 x1 rs1 re1 => ?_⟩
        refine ⟨m1, S, δ1, ds, δ', rs1, re1, r.mono x1, e, fun σ2 m2 H2 x2 rs2 re2 => q _ m2 H2 (x1.trans x2) rs2 re2⟩
      · cases e
end
end QB
set_option maxHeartbeats 4000000
namespace QB
open PySem PySem.Spec PyProof.Rows L2
mutual
def deqD : D → D → Bool
  | .non, .non => true
  | .bl a, .bl b => a == b
  | .int a, .int b => decide (a = b)
  | .str a, .str b => decide (a = b)
  | .ty a, .ty b => decide (a = b)
  | .tup a, .tup b => deqDs a b
  | .lst a, .lst b => deqDs a b
  | .frz a, .frz b => deqDs a b
  | .dic k a, .dic l b => decide (k = l) && deqDs a b
  | .ref a, .ref b => decide (a = b)
  | .exc a b c k x, .exc a' b' c' k' x' => decide (a = a') && decide (b = b') && decide (c = c') && decide (k = k') && deqDs x x'
  | _, _ => false
def deqDs : List D → List D → Bool
  | [], [] => true
  | a :: r, b :: s => deqD a b && deqDs r s
  | _, _ => false
end
mutual
theorem deqD_refl : ∀ a : D, deqD a a = true
  | .non => by simp [deqD]
  | .bl a => by simp [deqD]
  | .int a => by simp [deqD]
  | .str a => by simp [deqD]
  | .ty a => by simp [deqD]
  | .tup a => by rw [deqD]; exact deqDs_refl a
  | .lst a => by rw [deqD]; exact deqDs_refl a
  | .frz a => by rw [deqD]; exact deqDs_refl a
  | .dic k a => by rw [deqD, decide_eq_true rfl, deqDs_refl a]; rfl
  | .ref a => by simp [deqD]
  | .exc a b c k x => by rw [deqD, deqDs_refl x]; simp
theorem deqDs_refl : ∀ a : List D, deqDs a a = true
  | [] => by rw [deqDs]
  | a :: r => by rw [deqDs, deqD_refl a, deqDs_refl r]; rfl
end
mutual
theorem deqD_eq : ∀ a b : D, deqD a b = true → a = b
  | .non, b, h => by cases b <;> simp [deqD] at h; rfl
  | .bl a, b, h => by cases b <;> simp [deqD] at h; rw [h]
  | .int a, b, h => by cases b <;> simp [deqD] at h; rw [h]
  | .str a, b, h => by cases b <;> simp [deqD] at h; rw [h]
  | .ty a, b, h => by cases b <;> simp [deqD] at h; rw [h]
  | .tup a, b, h => by cases b <;> simp [deqD] at h; rw [deqDs_eq a _ h]
  | .lst a, b, h => by cases b <;> simp [deqD] at h; rw [deqDs_eq a _ h]
  | .frz a, b, h => by cases b <;> simp [deqD] at h; rw [deqDs_eq a _ h]
  | .dic k a, b, h => by cases b <;> simp [deqD] at h; rw [h.1, deqDs_eq a _ h.2]
  | .ref a, b, h => by cases b <;> simp [deqD] at h; rw [h]
  | .exc a b c k x, y, h => by cases y <;> simp [deqD] at h; rw [h.1.1.1.1, h.1.1.1.2, h.1.1.2, h.1.2, deqDs_eq x _ h.2]
theorem deqDs_eq : ∀ a b : List D, deqDs a b = true → a = b
  | [], b, h => by cases b <;> simp [deqDs] at h; rfl
  | a :: r, b, h => by
    cases b with
    | nil => simp [deqDs] at h
    | cons b s =>
      simp [deqDs] at h
      rw [deqD_eq a b h.1, deqDs_eq r s h.2]
end
/-! ### more targets, assignments -/
section
variable {X : Cx} {e o i : Expr} {es : List Expr} {g : DG} {gs : List D → Sl → Sto → Option Sl} {t to ti tv : DE} {pos pos' : Pos}
theorem pgv_tup {k n : Nat} (hc : X.calm = true) (h : PGsv X es gs) (hn : (assignEach es X.env).length = n := by rfl) (hst : (assignEach es X.env).findIdx? (·.1) = none := by rfl) : PGv X (.Tuple es k pos) (gTp n gs) :=
  PG.imp (pg_tup hc h hn hst) fun v σ H Q ⟨m, S, δ, d, δ', rs, re, rv, e, q⟩ => by
    cases d with
    | tup ds =>
      simp only [gTp] at e
      split at e
      · rename_i hl
        obtain ⟨a, vs, rfl, h1, h2⟩ := rv.tupAt
        exact ⟨a, vs, rfl, h1, by rw [← h2.length]; exact hl, m, S, δ, ds, δ', rs, re, h2, e, q⟩
      · cases e
    | _ => cases e
def sAsg (t : DE) (g : DG) : DS := fun δ S => ofR δ (t δ S) fun d S1 => match g d δ S1 with
  | some δ' => .nx δ' S1
  | none => .stuck
theorem tAsg_of {K : PySem.W.Frag} {mg : Str → Option Value} {W : WX} {Dn : Ends} {σ : L2.St} {H : Hp} (h : LS K mg W (sAsg t g) Dn σ H) : tAsg (LE K mg W t) (LG K g) Dn σ H := by
  obtain ⟨m, S, δ, rs, re, q⟩ := h
  refine le_ofR rs re q fun d S1 v m1 H1 x r1 re1 rv q1 => ?_
  split at q1
  · rename_i δ' e1
    exact ⟨m1, S1, δ, d, δ', r1, re1, rv, e1, fun σ' m' H' e' rs' re' => q1 σ' m' H' e' rs' re'⟩
  · exact q1.elim
theorem psv_asg {tg : Expr} (he : PEv X e t) (hg : PGv X tg g) (hs : swapsWithSole [tg] e pos.line X.env = pure false := by rfl) (hw : swappedStores [tg] e X.env = pure none := by rfl)
    (h1 : (assignEach [tg] X.env).map (·.2) = [assign tg X.env] := by rfl) : PSv X (.Assign [tg] e pos) (sAsg t g) := fun W tk =>
  PS.imp (ps_asg (he W tk) hg hs hw h1) fun Dn σ H h => tAsg_of h
theorem psv_set {j : Nat} {x : Str} (hN : X.N.Nodup) (he : PEv X e t) (hi : X.N[j]? = some x := by rfl) (hx : Loc X.env.scope x := by first | exact Or.inl rfl | exact Or.inr rfl) (hs : swapsWith e (some (.Name x pos')) pos.line X.env = pure false := by rfl)
    (hf : X.fn x = true ∨ X.env.scope.names.lookup x = some .local := by first | exact .inl rfl | exact .inr rfl) : PSv X (.Assign [.Name x pos'] e pos) (sAsg t (gNm j)) := fun W tk =>
  PS.imp (ps_set hN hi hx (he W tk) hs hf) fun Dn σ H ⟨m, S, δ, rs, re, q⟩ =>
    le_ofR rs re q fun d S1 v m1 H1 x r1 re1 rv q1 => q1 _ m1 H1 .refl r1 (re1.set rv j)
/-! o[i] = v -/
def putD (kvs : List (Key × D)) (k : Key) (v : D) : List (Key × D) :=
  if (kvs.any fun kv => decide (kv.1 = k)) = true then kvs.map (fun kv => if kv.1 = k then (kv.1, v) else kv) else kvs ++ [(k, v)]
def putAtD (o i v : D) (S : Sto) : Option Sto := match o with
  | .ref c => (match S[c]?, i with
    | some (.lst ds), .int k => (ixN ds.length k).map fun j => S.set c (.lst (ds.set j v))
    | some (.dic kvs), i => (keyD i).bind fun k => if kvs.length < sizeLine then some (S.set c (.dic (putD kvs k v))) else none
    | _, _ => none)
  | _ => none
def sPut (to ti tv : DE) : DS := fun δ S => ofR δ (tv δ S) fun v S1 => ofR δ (to δ S1) fun o S2 => ofR δ (ti δ S2) fun i S3 => match putAtD o i v S3 with
  | some S4 => .nx δ S4
  | none => .stuck
def rSetK : V → V → V → Hp → (Hp → Prop) → Prop := fun o i v H Q => ∃ a H4, o = .ref a ∧ DPut H a i v H4 ∧ Q H4
theorem set_dict {k : Nat} (hr : Room k X.A) : PSet X rSetK := by
  intro pins s σ H o i v ov iv u Q I ro ri rv ⟨a, H4, e, g, q⟩
  subst e
  obtain rfl : ov = Value.ref a := ro
  exact d_setItem (hu_of hr) I g ri rv fun s' I' => ⟨H4, I', q⟩
theorem PSet.or {r r' : TSet} (h : PSet X r) (h' : PSet X r') : PSet X (fun o i v H Q => r o i v H Q ∨ r' o i v H Q) := fun pins s σ H o i v ov iv u Q I ro ri rv q => by
  rcases q with q | q
  · exact h pins s σ H o i v ov iv u Q I ro ri rv q
  · exact h' pins s σ H o i v ov iv u Q I ro ri rv q
theorem putD_rv {K : PySem.W.Frag} {m : Mm} {H : Hp} {k : Key} {d : D} {v : V} (r : Rv K m H d v) {kvs : List (Key × D)} {vs : List V} (h : Rvs K m H (kvs.map (·.2)) vs) :
    ∃ ws, putK ((kvs.map (·.1)).zip vs) k v = ((putD kvs k d).map (·.1)).zip ws ∧ Rvs K m H ((putD kvs k d).map (·.2)) ws := by
  have any_eq : ∀ {kvs : List (Key × D)} {vs : List V}, Rvs K m H (kvs.map (·.2)) vs → (((kvs.map (·.1)).zip vs).any fun kv => decide (kv.1 = k)) = kvs.any fun kv => decide (kv.1 = k) := by
    intro kvs
    induction kvs with
    | nil => intro vs h; cases h; rfl
    | cons kv kvs ih =>
      intro vs h
      cases h with
      | cons a b =>
        rw [List.map_cons, List.zip_cons_cons, List.any_cons, List.any_cons, ih b]
  unfold putK putD
  rw [any_eq h]
  split
  · rename_i hany
    clear any_eq hany
    induction kvs generalizing vs with
    | nil => cases h; exact ⟨[], rfl, .nil⟩
    | cons kv kvs ih =>
      cases h with
      | @cons _ w _ ws' a b =>
        obtain ⟨ws, e1, e2⟩ := ih b
        obtain ⟨k', d'⟩ := kv
        by_cases hk : k' = k
        · refine ⟨v :: ws, ?_, ?_⟩
          · simp only [List.map_cons, List.zip_cons_cons, hk, if_true]
            exact congrArg _ e1
          · simp only [List.map_cons, hk, if_true]
            exact .cons r e2
        · refine ⟨w :: ws, ?_, ?_⟩
          · simp only [List.map_cons, List.zip_cons_cons, hk, if_false]
            exact congrArg _ e1
          · simp only [List.map_cons, hk, if_false]
            exact .cons a e2
  · refine ⟨vs ++ [v], ?_, ?_⟩
    · rw [List.map_append, List.zip_append (by rw [← h.length, List.length_map, List.length_map])]
      rfl
    · rw [List.map_append]
      exact h.append (.cons r .nil)
theorem psv_put {k : Nat} (hr : Room k X.A) (ho : PEv X o to) (hi : PEv X i ti) (hv : PEv X e tv) (hs : swapsWithSole [.Subscript o i pos'] e pos.line X.env = pure false := by rfl) (hw : swappedStores [.Subscript o i pos'] e X.env = pure none := by rfl)
    (h1 : (assignEach [.Subscript o i pos'] X.env).map (·.2) = [assign (.Subscript o i pos') X.env] := by rfl)
    (ha : ∀ v, assign (.Subscript o i pos') X.env v = (do
      let ov ← holding [v] (eval o X.env)
      let iv ← holding [v, ov] (eval i X.env)
      standAt pos'
      holding [v, ov, iv] (setItem ov iv v)
      release [v, ov, iv] []) := by intro _; rfl) : PSv X (.Assign [.Subscript o i pos'] e pos) (sPut to ti tv) := fun W tk =>
  PS.imp (ps_asg (hv W tk) (pg_sub (ho W tk) (hi W tk) (PSet.or set_list (set_dict hr)) ha) hs hw h1) fun Dn σ H ⟨m, S, δ, rs, re, q⟩ => by
    refine le_ofR rs re q fun v S1 vv m1 H1 x1 r1 re1 rv q1 => ?_
    refine le_ofR r1 re1 q1 fun o S2 ov m2 H2 x2 r2 re2 ro q2 => ?_
    refine le_ofR r2 re2 q2 fun i S3 iv m3 H3 x3 r3 re3 ri q3 => ?_
    have rv := (rv.mono x2 v).mono x3 v
    have ro := ro.mono x3 o
    split at q3
    · rename_i S4 e4
      unfold putAtD at e4
      split at e4
      · rename_i c
        split at e4
        · rename_i _ ds k e5
          simp only [Option.map_eq_some_iff] at e4
          obtain ⟨j, e6, rfl⟩ := e4
          obtain ⟨a, vs, rfl, hm, h1, h2⟩ := r3.lstCell ro e5
          refine .inl ⟨a, vs, k, j, rfl, ri.intOf, h1, by rw [← h2.length]; exact e6, ?_⟩
          obtain ⟨e', rs'⟩ := r3.write (o := .lst (vs.set j vv)) (u := .lst (ds.set j v)) hm fun m' H' e h => ⟨_, h, (Rvs.set rv j h2).mono e⟩
          exact q3 σ m3 _ e' rs' (re3.mono e')
        · rename_i kvs e5
          obtain ⟨k, e6, e7⟩ := Option.bind_eq_some_iff.mp e4
          split at e7
          · rename_i hl
            cases e7
            obtain ⟨a, vs, rfl, hm, h1, h2⟩ := r3.dicCell ro e5
            have hk := keyD_rv ri e6
            obtain ⟨ws, w1, w2⟩ := putD_rv (k := k) rv h2
            refine .inr ⟨a, _, rfl, .inl ⟨_, k, h1, hk, ?_, rfl⟩, ?_⟩
            · rw [List.length_zip, List.length_map]
              omega
            · rw [w1]
              obtain ⟨e', rs'⟩ := r3.write (o := .dK (((putD kvs k v).map (·.1)).zip ws)) (u := .dic (putD kvs k v)) hm fun m' H' e h => ⟨_, h, w2.mono e⟩
              exact q3 σ m3 _ e' rs' (re3.mono e')
          · cases e7
        · cases e4
      · cases e4
    · exact q3.elim
/-! x += e, ints -/
def sAugI (j : Nat) (f : DB) (t : DE) : DS := fun δ S => match δ[j]? with
  | some (some x) => ofR δ (t δ S) fun y S1 => match f x y S1 with
    | some z => .nx (δ.set j (some z)) S1
    | none => .stuck
  | _ => .stuck
theorem psv_aug {op : Operator} {r : R2} {f : DB} {j : Nat} {x : Str} (hN : X.N.Nodup) (ho : OpR X (inplaceOp op) r) (hsim : Sim2 X.K r f) (he : PEv X e t) (hi : X.N[j]? = some x := by rfl) (hx : Loc X.env.scope x := by first | exact Or.inl rfl | exact Or.inr rfl)
    (hf : X.fn x = true ∨ X.env.scope.names.lookup x = some .local := by first | exact .inl rfl | exact .inr rfl) : PSv X (.AugAssign (.Name x pos') op e pos) (sAugI j f t) := fun W tk =>
  PS.imp (ps_aug (ti := fun x y H Q => r x y H Q) hN hi hx (he W tk) (fun pins s σ H x y v u Q I rx ry h => ho pins s σ H x y v u Q I rx ry h) hf) fun Dn σ H ⟨m, S, δ, rs, re, q⟩ => by
    unfold sAugI at q
    split at q
    · rename_i d e1
      obtain ⟨v, h1, h2⟩ := re.val j d e1
      refine ⟨v, h1, ?_⟩
      refine le_ofR rs re q fun y S1 u m1 H1 x1 r1 re1 ru q1 => ?_
      split at q1
      · rename_i z e2
        refine hsim m1 S1 H1 d y v u z _ r1 (h2.mono x1 d) ru e2 fun w m' H' e' rs' rw' => ?_
        exact q1 _ m' H' e' rs' ((re1.mono e').set rw' j)
      · exact q1.elim
    · exact q.elim
theorem psv_augadd {j : Nat} {x : Str} (hN : X.N.Nodup) (he : PEv X e t) (hi : X.N[j]? = some x := by rfl) (hx : Loc X.env.scope x := by first | exact Or.inl rfl | exact Or.inr rfl)
    (hf : X.fn x = true ∨ X.env.scope.names.lookup x = some .local := by first | exact .inl rfl | exact .inr rfl) : PSv X (.AugAssign (.Name x pos') .Add e pos) (sAugI j bAddI t) := psv_aug hN iop_add sim_addI he hi hx hf
end
end QB
set_option maxHeartbeats 4000000
namespace QB
open PySem PySem.Spec PyProof.Rows L2
/-! ### enumerate(a tuple) -/
section
open Sem (wp)
open AutoSeq1 (wpAny_loadPart')
theorem meets_enumerate_newT (l : Addr) (items : Array Value) (n : Nat) (dct : Option Addr) (sl : Array (Option Value)) :
    Meets (Builtin.«enumerate.__new__» ⟨[.type "enumerate", .ref l], []⟩) (fun _ R s => s.heap.get? l = some { cls := .type "tuple", dict := dct, data := .seq items n, slots := sl } ∧
      R (.ok (.ret (.ref (s.heap.push { cls := .type "tuple_iterator", data := .fields #[.ref l, .int 0 0] }).objs.size)))
        { s with heap := (s.heap.push { cls := .type "tuple_iterator", data := .fields #[.ref l, .int 0 0] }).push { cls := .type "enumerate", data := .fields #[.none, .bool false, .ref s.heap.objs.size, rawInt 0, .none, .none] } }) :=
  .of_wp fun prog w A R s h => by
    obtain ⟨hp, g, d, tk, os⟩ := s; obtain ⟨hl, h⟩ := h
    have hsub := sub_enumerate
    have hL : Heap.IsTuple (Shared.heap ⟨hp, g, d, tk, os⟩) l items := ⟨_, hl, rfl, n, rfl⟩
    wp_walk using wpAny_loadPart' hl
    refine wpAny_stack_any fun st => wpAny_pure ?_
    split
    · rename_i c _ _ _ _ _
      cases (c == Value.type "enumerate")
      · wp_walk using wpAny_loadPart' hl, wpAny_pyIter_tuple hL
        exact ⟨_, rfl, h⟩
      · wp_walk using wpAny_loadPart' hl, wpAny_pyIter_tuple hL
        exact ⟨_, rfl, h⟩
    · wp_walk using wpAny_loadPart' hl, wpAny_pyIter_tuple hL
      exact ⟨_, rfl, h⟩
theorem call_enumerate_tup {prog : Program} {w : World} {A : Around} {E : Value → Shared → Prop} {s : Shared} {l : Addr} {items : Array Value} {Q : Value → Shared → Prop} (hL : s.heap.IsTuple l items)
    (h : ∀ h', IsEnum h' (s.heap.objs.size + 1) s.heap.objs.size 0 .none → h'.IsTupleIter s.heap.objs.size l 0 → h'.objs.size = s.heap.objs.size + 2 →
      (∀ b o, s.heap.get? b = some o → h'.get? b = some o) → Q (.ref (s.heap.objs.size + 1)) { s with heap := h' }) :
    wpAny (model prog w) A (call (.type "enumerate") [.ref l]) Q E s := by
  obtain ⟨⟨c, dct, dt, sl⟩, hl, hc, n, hd⟩ := hL
  replace hc : c = .type "tuple" := hc
  replace hd : dt = .seq items n := hd
  subst hc hd
  refine callType_new F.called_enumerate (by decide) (F.typeCall_enumerate_1 _) (F.newCall_enumerate_1 _) (fun obj => F.args_object_init_2 obj _) F.entry_enumerate_new
    (meets_enumerate_newT l items n dct sl) ⟨hl, ?_⟩
  have hz : (s.heap.push { cls := .type "tuple_iterator", data := .fields #[.ref l, .int 0 0] }).objs.size = s.heap.objs.size + 1 := Heap.size_push ..
  show _ ∧ _
  rw [hz]
  have he : IsEnum ((s.heap.push { cls := .type "tuple_iterator", data := .fields #[.ref l, .int 0 0] }).push
      { cls := .type "enumerate", data := .fields #[.none, .bool false, .ref s.heap.objs.size, rawInt 0, .none, .none] }) (s.heap.objs.size + 1) s.heap.objs.size 0 .none := by
    have := Heap.get?_push_size (s.heap.push { cls := .type "tuple_iterator", data := .fields #[.ref l, .int 0 0] })
      (o := { cls := .type "enumerate", data := .fields #[.none, .bool false, .ref s.heap.objs.size, rawInt 0, .none, .none] }) rfl
    rw [hz] at this; exact this
  refine ⟨⟨_, he, rfl⟩, h _ he ⟨_, Heap.get?_push_of_some _ (Heap.get?_push_size _ rfl), rfl, rfl⟩ (by rw [Heap.size_push, hz]) fun b o x => Heap.get?_push_of_some _ (Heap.get?_push_of_some _ x)⟩
end
/-- the tuple at a, each item in a new pair -/
def IteT (K : PySem.W.Frag) (a : Addr) : It :=
  ⟨fun i H => ∃ (xs : List V) (x : V), SqT K H a xs ∧ xs[i]? = some x, fun i H v H' => ∃ T x, v = .ref T ∧ H T = none ∧ H' = upd H T (.tup [.int (i : Nat), x]) ∧ ∀ xs, SqT K H a xs → xs[i]? = some x, fun i H => ∃ xs : List V, SqT K H a xs ∧ xs.length ≤ i⟩
theorem turn_enumT {P : Program} {w : World} {K : PySem.W.Frag} {elts : List Expr} {kk : Nat} {tpos : Pos} (a e it : Addr) :
    Turn P w K (.Tuple elts kk tpos) (IteT K a) [e, it] e (fun i h => (∃ old, IsEnum h e it ((i : Nat) : Int) old) ∧ h.IsTupleIter it a i ∧ e ≠ it ∧ e ≠ a ∧ a ≠ it) where
  mem := by simp
  obj := fun i h st b hb => by
    obtain ⟨⟨old, he⟩, ⟨o, ho, hc, hd⟩, _⟩ := st
    have e' : b = e ∨ b = it := by simpa using hb
    rcases e' with z | z
    · rw [z]; exact ⟨_, he, fun v q => nomatch q⟩
    · rw [z]; exact ⟨o, ho, fun v q => by rw [hd] at q; cases q⟩
  keep := fun i h h' st k => let ⟨⟨old, he⟩, hi, hne⟩ := st; ⟨⟨old, k e (by simp) _ he⟩, hi.at fun o q => k it (by simp) o q, hne⟩
  item := by
    intro X hP hw hK hc i pins s σ H E I hf st hg
    subst hP hw hK
    obtain ⟨⟨old, he⟩, hit, hne, hea, hai⟩ := st
    obtain ⟨xs, x, hq, hx⟩ := hg
    obtain ⟨its, rv, p, hz⟩ := I.tuple hq
    obtain ⟨u, hu, ru⟩ := rv.get hx
    have hel : e < s.heap.objs.size := Heap.lt_size he
    have hil : it < s.heap.objs.size := by obtain ⟨_, q, _⟩ := hit; exact Heap.lt_size q
    have hsz : its.toArray.size = its.length := by simp
    have hlt : i < its.toArray.size := by rw [hsz]; exact (List.getElem?_eq_some_iff.mp hu).1
    refine wpAny_pyNext_enum_itemD (Draws.tuple (show X.A.in1.handled = none from I.ok.hd hc) it a hai its.toArray) he (St := fun i h => h.IsTupleIter it a i ∧ h.IsTuple a its.toArray) ⟨hit, p⟩ hlt hne (by simp [hne, hea]) fun x' h' tk hPx ho hSt hT hsz' hk => ?_
    have ex : x' = u := by
      have h2 : its.toArray[i]? = some u := by simpa using hu
      rw [h2] at hPx; cases hPx; rfl
    subst ex
    refine ⟨_, rfl, wpAny_letOwnedTupleGo_enum (s := { s with heap := h', toks := tk + 1 }) ho fun h'' he' sb => ?_⟩
    have hT2 : h''.get? s.heap.objs.size = some { cls := .type "tuple", data := .seq #[.int i tk, x'] } := (sb.2 _ (Nat.ne_of_gt hel)).trans hT
    have new : ObjOk X.prog X.w (upd H s.heap.objs.size (.tup [.int (i : Nat), x])) h'' s.heap.objs.size (.tup [.int (i : Nat), x]) :=
      ⟨by show 2 ≤ sizeLine; decide, [.int i tk, x'], .cons ⟨_, rfl⟩ (.cons ru .nil), ⟨_, hT2, rfl, _, rfl⟩⟩
    have I1 : Inv X pins σ (upd H s.heap.objs.size (.tup [.int (i : Nat), x])) { s with heap := h'', toks := tk + 1 } :=
      I.turnedNew (ch := [e, it]) (fun b ob hb q => (sb.2 b (fun z => hb (by simp [z]))).trans (hk b ob (fun z => hb (by simp [z])) (fun z => hb (by simp [z])) q)) hf (Nat.le_refl _) new
    refine ⟨.ref s.heap.objs.size, _, I1, rfl, ⟨_, x, rfl, I.hok.fresh (Nat.le_refl _), rfl, fun ys hy => by rw [I.tuple_inj hy hq]; exact hx⟩, ⟨⟨x', ?_⟩, hSt.1.at fun o q => (sb.2 it (Ne.symm hne)).trans q, hne, hea, hai⟩, fun b hb => ?_⟩
    · have e1 : ((i + 1 : Nat) : Int) = (i : Int) + 1 := by omega
      rw [e1]; exact he'
    · have hb' : b < s.heap.objs.size := by
        have e' : b = e ∨ b = it := by simpa using hb
        rcases e' with z | z
        · rw [z]; exact hel
        · rw [z]; exact hil
      rw [upd_ne (Nat.ne_of_lt hb')]
      exact (hf b hb).1
  done := by
    intro X hP hw hK hc i pins s σ H E I hf st hg
    subst hP hw hK
    obtain ⟨⟨old, he⟩, hit, hne, hea, hai⟩ := st
    obtain ⟨xs, hq, hx⟩ := hg
    obtain ⟨its, rv, p, hz⟩ := I.tuple hq
    obtain ⟨f0, f1, f2, f3, f4, f5⟩ := hf it (by simp)
    have hl := rv.length
    have hT : s.TypeIs (.ref e) "enumerate" := ⟨_, he, rfl⟩
    unfold pyNext
    refine wpAny_bind (wpAny_attempt (wpAny_callSpecial?_slot (name := Str.ofString "__next__") hT F.slot_enumerate_next
      (wpAny_call_entry F.slot_enumerate_next hT F.entry_enumerate_next ?_ (F.args_enumerate_next_1 _))))
    show wpAny _ _ (field (.ref e) 2 >>= _) _ _ _
    refine wpAny_bind (wpAny_field he rfl (x := .ref it) rfl ?_)
    refine wpAny_bind (wpAny_nextOf_tuple_end (I.ok.hd hc) hit (show s.heap.IsTuple a its.toArray from p) (by simp; omega) fun h' x he' hx' => ?_)
    obtain ⟨o, ho, hc'⟩ := hx'
    refine wpAny_bind (wpAny_isInstance (T := "StopIteration") (b := true) ⟨o, ho, hc'⟩ isSubtype_stop ?_)
    exact wpAny_pure ⟨rfl, I.turned (t' := s.toks) (fun b o hb q => he' b o hb q) f0 f1 f3 f4 f5⟩
  self := fun A i s Q E st h => let ⟨⟨_, he⟩, _⟩ := st; wpAny_pyIter_enum he h
def iEnumA (K : PySem.W.Frag) (ta : TA) : TI := fun σ H R => ta σ H fun vs H1 => ∃ a xs, vs = [.ref a] ∧ ((SqL K H1 a xs ∧ R (Ite K a) H1) ∨ (SqT K H1 a xs ∧ R (IteT K a) H1))
theorem pi_enumA {X : Cx} {e : Expr} {ta : TA} {p pos tpos : Pos} {elts : List Expr} {kk : Nat} (hg : Gl X "enumerate") (hm : X.mg "enumerate" = none) (ha : PA X [e] ta) (hs : starEach [e] X.env = [(false, eval e X.env)] := by rfl) :
    PI X (.Tuple elts kk tpos) (.Call (.Name "enumerate" p) [e] [] pos) (iEnumA X.K ta) := by
  refine ⟨fun pins s σ H R I h => ?_⟩
  refine Call_ (ld_blt I hg hm boot_enumerate (PyProof.Rows.callWith_type1 (thn (ha.run pos pins s σ H _ I h) fun us s1 ⟨vs, H1, I1, r1, q1⟩ => ?_) hs rfl))
  obtain ⟨a, xs, ex, q⟩ := q1
  subst ex
  cases r1 with
  | cons r rr =>
    cases rr
    cases r
    rcases q with ⟨hq, q⟩ | ⟨hq, q⟩
    · obtain ⟨its, rv, p', hz⟩ := I1.list hq
      refine call_enumerate_list p'.isList fun h' he hit hsz hk => wpAny_pyIter_enum he ?_
      have I2 : Inv X pins σ H1 { s1 with heap := h' } := I1.kept (t' := s1.toks) hk
      refine ⟨s1.heap.objs.size + 1, [s1.heap.objs.size + 1, s1.heap.objs.size], _, _, H1, rfl, I2, turn_enum a (s1.heap.objs.size + 1) s1.heap.objs.size, ⟨⟨.none, he⟩, hit, Nat.succ_ne_self _⟩, fun b hb => ?_, q⟩
      have e' : b = s1.heap.objs.size + 1 ∨ b = s1.heap.objs.size := by simpa using hb
      have hle : s1.heap.objs.size ≤ b := by
        rcases e' with z | z
        · rw [z]; exact Nat.le_add_right _ _
        · rw [z]; exact Nat.le_refl _
      exact I1.fpOk hle (I1.hok.fresh hle)
    · obtain ⟨its, rv, p', hz⟩ := I1.tuple hq
      have hla : a < s1.heap.objs.size := by obtain ⟨o, ho, _⟩ := p'; exact Heap.lt_size ho
      refine call_enumerate_tup (show s1.heap.IsTuple a its.toArray from p') fun h' he hit hsz hk => wpAny_pyIter_enum he ?_
      have I2 : Inv X pins σ H1 { s1 with heap := h' } := I1.kept (t' := s1.toks) hk
      refine ⟨s1.heap.objs.size + 1, [s1.heap.objs.size + 1, s1.heap.objs.size], _, _, H1, rfl, I2, turn_enumT a (s1.heap.objs.size + 1) s1.heap.objs.size, ⟨⟨.none, he⟩, hit, Nat.succ_ne_self _, Nat.ne_of_gt (Nat.lt_succ_of_lt hla), Nat.ne_of_lt hla⟩, fun b hb => ?_, q⟩
      have e' : b = s1.heap.objs.size + 1 ∨ b = s1.heap.objs.size := by simpa using hb
      have hle : s1.heap.objs.size ≤ b := by
        rcases e' with z | z
        · rw [z]; exact Nat.le_add_right _ _
        · rw [z]; exact Nat.le_refl _
      exact I1.fpOk hle (I1.hok.fresh hle)
/-! ### a list, a tuple or a text -/
def iAny (K : PySem.W.Frag) (tl : TE) : TI := fun σ H R => tl σ H fun x H1 => (∃ a, x = .ref a ∧ (∃ xs, SqL K H1 a xs) ∧ R (Itl K a) H1) ∨ (∃ a, x = .ref a ∧ (∃ xs, SqT K H1 a xs) ∧ R (Itt K a) H1) ∨ ∃ z, x = .str z ∧ R (Its z) H1
theorem pi_any {X : Cx} {tg l : Expr} {tl : TE} (hl : PE X l tl) : PI X tg l (iAny X.K tl) := by
  refine ⟨fun pins s σ H R I h => ?_⟩
  refine thn (hl.run pins s σ H _ I h) fun v s1 ⟨x, H1, I1, r1, q1⟩ => ?_
  rcases q1 with ⟨a, e, ⟨xs, hq⟩, q⟩ | ⟨a, e, ⟨xs, hq⟩, q⟩ | ⟨z, e, q⟩
  · subst e
    cases r1
    obtain ⟨its, rv, p, hz⟩ := I1.list hq
    refine wpAny_pyIter_list p.isList ?_
    refine ⟨s1.heap.objs.size, [s1.heap.objs.size], _, _, H1, rfl, I1.kept (t' := s1.toks) fun b o e => Heap.get?_push_of_some _ e, turn_list a _, ⟨_, Heap.get?_push_size _ rfl, rfl, rfl⟩, fun b hb => ?_, q⟩
    have e : b = s1.heap.objs.size := by simpa using hb
    subst e
    exact I1.fpOk (Nat.le_refl _) (I1.hok.fresh (Nat.le_refl _))
  · subst e
    cases r1
    obtain ⟨its, rv, p, hz⟩ := I1.tuple hq
    refine wpAny_pyIter_tuple (show s1.heap.IsTuple a its.toArray from p) ?_
    refine ⟨s1.heap.objs.size, [s1.heap.objs.size], _, _, H1, rfl, I1.kept (t' := s1.toks) fun b o e => Heap.get?_push_of_some _ e, turn_tuple a _, ⟨_, Heap.get?_push_size _ rfl, rfl, rfl⟩, fun b hb => ?_, q⟩
    have e : b = s1.heap.objs.size := by simpa using hb
    subst e
    exact I1.fpOk (Nat.le_refl _) (I1.hok.fresh (Nat.le_refl _))
  · subst e
    obtain ⟨t, rfl⟩ := r1
    cases ha : z.cps.all (· < 128)
    · exact wpAny_pyIter_wide ha (pi_one (tk := s1.toks) I1 _ (turn_str _ z t "str_iterator" (.inr rfl)) ⟨_, Heap.get?_push_size _ rfl, rfl, rfl⟩ q)
    · exact wpAny_pyIter_ascii ha (pi_one (tk := s1.toks) I1 _ (turn_str _ z t "str_ascii_iterator" (.inl rfl)) ⟨_, Heap.get?_push_size _ rfl, rfl, rfl⟩ q)
end QB
set_option maxHeartbeats 4000000
namespace QB
open PySem PySem.Spec PyProof.Rows L2
/-! ### what is walked: the items, and a cell that stays meanwhile -/
structure Src where
  ds : List D
  gd : Option (Nat × List D) := none
def Src.ok (s : Src) (S : Sto) : Bool := match s.gd with
  | none => true
  | some (c, xs) => match S[c]? with
    | some (.lst ys) => deqDs ys xs
    | _ => false
abbrev DI := Sl → Sto → R Src
structure SrcOk (K : PySem.W.Frag) (m1 : Mm) (H1 : Hp) (s : Src) (J : It) : Prop where
  go : ∀ i m S H, i < s.ds.length → Ext m1 H1 m H → RelS K m S H → s.ok S = true → J.go i H
  stop : ∀ m S H, Ext m1 H1 m H → RelS K m S H → s.ok S = true → J.stop s.ds.length H
  yld : ∀ i m S H x H', i < s.ds.length → Ext m1 H1 m H → RelS K m S H → s.ok S = true → J.yld i H x H' → ∃ d, s.ds[i]? = some d ∧ Ext m H m H' ∧ RelS K m S H' ∧ Rv K m H' d x
def LI (K : PySem.W.Frag) (mg : Str → Option Value) (W : WX) (t : DI) : TI := fun σ H R => ∃ m S δ, RelS K m S H ∧ RelE K m H δ σ ∧ OkR K mg (SrcOk K) m H (t δ S) R (fun c d H' => W c d σ H')
def PIv (X : Cx) (tg iter : Expr) (t : DI) : Prop := ∀ W, Takes X W → PI X tg iter (LI X.K X.mg W t)
theorem PI.imp {X : Cx} {tg e : Expr} {t t' : TI} (h : PI X tg e t) (i : ∀ σ H R, t' σ H R → t σ H R) : PI X tg e t' := ⟨fun pins s σ H R I q => h.run pins s σ H R I (i σ H R q)⟩
section
variable {K : PySem.W.Frag} {m m1 : Mm} {H H1 : Hp} {S S1 : Sto}
theorem src_tup {a : Addr} {vs : List V} {ds : List D} (h : (H1 a = some (.tup vs) ∧ a ∉ m1) ∨ KT K a vs) (r : Rvs K m1 H1 ds vs) : SrcOk K m1 H1 ⟨ds, none⟩ (Itt K a) := by
  have sq : ∀ m H, Ext m1 H1 m H → SqT K H a vs := fun m H e => by
    rcases h with h | ⟨o, its, n, a1, a2, a3, a4, a5, _⟩
    · exact .inl (.inl (e.keep' _ _ h.2 h.1))
    · exact .inr ⟨o, its, n, a1, a2, a3, a4, a5⟩
  refine ⟨fun i m S H hi e rs _ => ?_, fun m S H e rs _ => ⟨vs, sq m H e, by rw [← r.length]; exact Nat.le_refl _⟩, fun i m S H x H' hi e rs _ hy => ?_⟩
  · obtain ⟨v, h1, _⟩ := r.get (List.getElem?_eq_getElem hi)
    exact ⟨vs, v, sq m H e, h1⟩
  · obtain ⟨e', hx⟩ := hy
    subst e'
    obtain ⟨v, h1, h2⟩ := r.get (List.getElem?_eq_getElem hi)
    have := hx vs (sq m H' e)
    rw [h1] at this; cases this
    exact ⟨_, List.getElem?_eq_getElem hi, .refl, rs, h2.mono e _⟩
theorem src_lst {a : Addr} {vs : List V} {ds : List D} (h : (Rd H1 a (.lst vs) ∧ a ∉ m1) ∨ KL K a vs) (r : Rvs K m1 H1 ds vs) : SrcOk K m1 H1 ⟨ds, none⟩ (Itl K a) := by
  have sq : ∀ m H, Ext m1 H1 m H → SqL K H a vs := fun m H e => h.imp (fun h => (e.rd h.2 h.1).1) id
  refine ⟨fun i m S H hi e rs _ => ?_, fun m S H e rs _ => ⟨vs, sq m H e, by rw [← r.length]; exact Nat.le_refl _⟩, fun i m S H x H' hi e rs _ hy => ?_⟩
  · obtain ⟨v, h1, _⟩ := r.get (List.getElem?_eq_getElem hi)
    exact ⟨vs, v, sq m H e, h1⟩
  · obtain ⟨e', hx⟩ := hy
    subst e'
    obtain ⟨v, h1, h2⟩ := r.get (List.getElem?_eq_getElem hi)
    have := hx vs (sq m H' e)
    rw [h1] at this; cases this
    exact ⟨_, List.getElem?_eq_getElem hi, .refl, rs, h2.mono e _⟩
theorem Src.ok_cell {c : Nat} {xs : List D} {S : Sto} (h : Src.ok ⟨xs, some (c, xs)⟩ S = true) : S[c]? = some (.lst xs) := by
  unfold Src.ok at h
  simp only at h
  split at h
  · rename_i ys e
    rw [e, deqDs_eq _ _ h]
  · cases h
theorem src_cell {c : Nat} {a : Addr} {ds : List D} (h : m1.cs[c]? = some a) : SrcOk K m1 H1 ⟨ds, some (c, ds)⟩ (Itl K a) := by
  have sq : ∀ m S H, Ext m1 H1 m H → RelS K m S H → Src.ok ⟨ds, some (c, ds)⟩ S = true → ∃ vs, H a = some (.lst vs) ∧ Rvs K m H ds vs := fun m S H e rs ok =>
    rs.cell c a _ (e.get h) (Src.ok_cell ok)
  refine ⟨fun i m S H hi e rs ok => ?_, fun m S H e rs ok => ?_, fun i m S H x H' hi e rs ok hy => ?_⟩
  · obtain ⟨vs, q, r⟩ := sq m S H e rs ok
    obtain ⟨v, h1, _⟩ := r.get (List.getElem?_eq_getElem hi)
    exact ⟨vs, v, SqL.of q, h1⟩
  · obtain ⟨vs, q, r⟩ := sq m S H e rs ok
    exact ⟨vs, SqL.of q, by rw [← r.length]; exact Nat.le_refl _⟩
  · obtain ⟨e', hx⟩ := hy
    subst e'
    obtain ⟨vs, q, r⟩ := sq m S H' e rs ok
    obtain ⟨v, h1, h2⟩ := r.get (List.getElem?_eq_getElem hi)
    have := hx vs (SqL.of q)
    rw [h1] at this; cases this
    exact ⟨_, List.getElem?_eq_getElem hi, .refl, rs, h2⟩
/-- signs of a text -/
def signs (z : Str) : List D := z.cps.toList.map fun c => .str ⟨#[c]⟩
theorem src_str {z : Str} : SrcOk K m1 H1 ⟨signs z, none⟩ (Its z) := by
  have hl : (signs z).length = z.cps.size := by simp [signs]
  refine ⟨fun i m S H hi e rs _ => ?_, fun m S H e rs _ => ?_, fun i m S H x H' hi e rs _ hy => ?_⟩
  · show i < z.cps.size
    rw [← hl]; exact hi
  · show z.cps.size ≤ (signs z).length
    rw [hl]; exact Nat.le_refl _
  · obtain ⟨e', c, hc, rfl⟩ := hy
    subst e'
    refine ⟨.str ⟨#[c]⟩, ?_, .refl, rs, .str _⟩
    show (signs z)[i]? = _
    unfold signs
    rw [List.getElem?_map, Array.getElem?_toList, hc]
    rfl
theorem src_range {lo : Int} {n : Nat} : SrcOk K m1 H1 ⟨(List.range n).map fun (i : Nat) => D.int (lo + i), none⟩ (Itr lo n) := by
  have hl : ((List.range n).map fun (i : Nat) => D.int (lo + i)).length = n := by simp
  refine ⟨fun i m S H hi e rs _ => ?_, fun m S H e rs _ => ?_, fun i m S H x H' hi e rs _ hy => ?_⟩
  · show i < n
    rw [← hl]; exact hi
  · show n ≤ _
    rw [hl]; exact Nat.le_refl _
  · obtain ⟨e', rfl⟩ := hy
    subst e'
    have hi' : i < n := by rw [← hl]; exact hi
    refine ⟨.int (lo + i), ?_, .refl, rs, .int _⟩
    show ((List.range n).map fun (i : Nat) => D.int (lo + i))[i]? = _
    rw [List.getElem?_map, List.getElem?_range hi']
    rfl
theorem src_rangeC {lo c : Int} {n : Nat} : SrcOk K m1 H1 ⟨(List.range n).map fun (i : Nat) => D.int (lo + i * c), none⟩ (Itc lo c n) := by
  have hl : ((List.range n).map fun (i : Nat) => D.int (lo + i * c)).length = n := by simp
  refine ⟨fun i m S H hi e rs _ => ?_, fun m S H e rs _ => ?_, fun i m S H x H' hi e rs _ hy => ?_⟩
  · show i < n
    rw [← hl]; exact hi
  · show n ≤ _
    rw [hl]; exact Nat.le_refl _
  · obtain ⟨e', rfl⟩ := hy
    subst e'
    have hi' : i < n := by rw [← hl]; exact hi
    refine ⟨.int (lo + i * c), ?_, .refl, rs, .int _⟩
    show ((List.range n).map fun (i : Nat) => D.int (lo + i * c))[i]? = _
    rw [List.getElem?_map, List.getElem?_range hi']
    rfl
theorem getElem?_rev {α : Type} {xs : List α} {i : Nat} (h : i < xs.length) : xs.reverse[i]? = xs[xs.length - 1 - i]? := List.getElem?_reverse h
theorem src_revL {a : Addr} {vs : List V} {ds : List D} (h : (H1 a = some (.lst vs) ∧ a ∉ m1)) (r : Rvs K m1 H1 ds vs) : SrcOk K m1 H1 ⟨ds.reverse, none⟩ (Itv K a vs.length) := by
  have sq : ∀ m H, Ext m1 H1 m H → SqL K H a vs := fun m H e => SqL.of (e.keep' _ _ h.2 h.1)
  have hl : ds.reverse.length = vs.length := by rw [List.length_reverse, r.length]
  refine ⟨fun i m S H hi e rs _ => ?_, fun m S H e rs _ => ?_, fun i m S H x H' hi e rs _ hy => ?_⟩
  · have hi' : i < vs.length := hl ▸ hi
    refine ⟨hi', vs, vs[vs.length - 1 - i], sq m H e, List.getElem?_eq_getElem (by omega)⟩
  · show vs.length ≤ _
    rw [hl]; exact Nat.le_refl _
  · obtain ⟨e', hx⟩ := hy
    subst e'
    have hi' : i < vs.length := hl ▸ hi
    have h3 := hx vs (sq m H' e)
    rw [← getElem?_rev hi'] at h3
    obtain ⟨d, h1, h2⟩ := r.reverse.getV h3
    exact ⟨d, h1, .refl, rs, h2.mono e d⟩
theorem src_revT {a : Addr} {vs : List V} {ds : List D} (h : (H1 a = some (.tup vs) ∧ a ∉ m1) ∨ KT K a vs) (r : Rvs K m1 H1 ds vs) : SrcOk K m1 H1 ⟨ds.reverse, none⟩ (RT.ItvT K a vs.length) := by
  have sq : ∀ m H, Ext m1 H1 m H → SqT K H a vs := fun m H e => by
    rcases h with h | ⟨o, its, n, a1, a2, a3, a4, a5, _⟩
    · exact .inl (.inl (e.keep' _ _ h.2 h.1))
    · exact .inr ⟨o, its, n, a1, a2, a3, a4, a5⟩
  have hl : ds.reverse.length = vs.length := by rw [List.length_reverse, r.length]
  refine ⟨fun i m S H hi e rs _ => ?_, fun m S H e rs _ => ?_, fun i m S H x H' hi e rs _ hy => ?_⟩
  · have hi' : i < vs.length := hl ▸ hi
    refine ⟨hi', vs, vs[vs.length - 1 - i], sq m H e, List.getElem?_eq_getElem (by omega)⟩
  · show vs.length ≤ _
    rw [hl]; exact Nat.le_refl _
  · obtain ⟨e', hx⟩ := hy
    subst e'
    have hi' : i < vs.length := hl ▸ hi
    have h3 := hx vs (sq m H' e)
    rw [← getElem?_rev hi'] at h3
    obtain ⟨d, h1, h2⟩ := r.reverse.getV h3
    exact ⟨d, h1, .refl, rs, h2.mono e d⟩
/-- pairs of a number and an item -/
def enumD (ds : List D) : List D := (List.range ds.length).zipWith (fun (i : Nat) d => .tup [.int i, d]) ds
theorem enumD_length (ds : List D) : (enumD ds).length = ds.length := by simp [enumD]
theorem enumD_get {ds : List D} {i : Nat} {d : D} (h : ds[i]? = some d) : (enumD ds)[i]? = some (.tup [.int i, d]) := by
  have hi := (List.getElem?_eq_some_iff.mp h).1
  unfold enumD
  rw [List.getElem?_zipWith, h, List.getElem?_range hi]
theorem src_enumL {a : Addr} {vs : List V} {ds : List D} (h : (Rd H1 a (.lst vs) ∧ a ∉ m1) ∨ KL K a vs) (r : Rvs K m1 H1 ds vs) : SrcOk K m1 H1 ⟨enumD ds, none⟩ (Ite K a) := by
  have sq : ∀ m H, Ext m1 H1 m H → SqL K H a vs := fun m H e => h.imp (fun h => (e.rd h.2 h.1).1) id
  have hl := enumD_length ds
  refine ⟨fun i m S H hi e rs _ => ?_, fun m S H e rs _ => ⟨vs, sq m H e, by show vs.length ≤ (enumD ds).length; rw [hl, ← r.length]; exact Nat.le_refl _⟩, fun i m S H x H' hi e rs _ hy => ?_⟩
  · obtain ⟨v, h1, _⟩ := r.get (List.getElem?_eq_getElem (hl ▸ hi))
    exact ⟨vs, v, sq m H e, h1⟩
  · obtain ⟨T, u, rfl, hT, rfl, hx⟩ := hy
    obtain ⟨v, h1, h2⟩ := r.get (List.getElem?_eq_getElem (hl ▸ hi))
    have h3 := hx vs (sq m H e)
    rw [h1] at h3; cases h3
    obtain ⟨e', rs', rp⟩ := rs.newTup hT (ds := [.int i, ds[i]'(hl ▸ hi)]) (.cons (.int _) (.cons (h2.mono e _) .nil))
    exact ⟨_, enumD_get (List.getElem?_eq_getElem (hl ▸ hi)), e', rs', rp⟩
theorem src_enumT {a : Addr} {vs : List V} {ds : List D} (h : (H1 a = some (.tup vs) ∧ a ∉ m1) ∨ KT K a vs) (r : Rvs K m1 H1 ds vs) : SrcOk K m1 H1 ⟨enumD ds, none⟩ (IteT K a) := by
  have sq : ∀ m H, Ext m1 H1 m H → SqT K H a vs := fun m H e => by
    rcases h with h | ⟨o, its, n, a1, a2, a3, a4, a5, _⟩
    · exact .inl (.inl (e.keep' _ _ h.2 h.1))
    · exact .inr ⟨o, its, n, a1, a2, a3, a4, a5⟩
  have hl := enumD_length ds
  refine ⟨fun i m S H hi e rs _ => ?_, fun m S H e rs _ => ⟨vs, sq m H e, by show vs.length ≤ (enumD ds).length; rw [hl, ← r.length]; exact Nat.le_refl _⟩, fun i m S H x H' hi e rs _ hy => ?_⟩
  · obtain ⟨v, h1, _⟩ := r.get (List.getElem?_eq_getElem (hl ▸ hi))
    exact ⟨vs, v, sq m H e, h1⟩
  · obtain ⟨T, u, rfl, hT, rfl, hx⟩ := hy
    obtain ⟨v, h1, h2⟩ := r.get (List.getElem?_eq_getElem (hl ▸ hi))
    have h3 := hx vs (sq m H e)
    rw [h1] at h3; cases h3
    obtain ⟨e', rs', rp⟩ := rs.newTup hT (ds := [.int i, ds[i]'(hl ▸ hi)]) (.cons (.int _) (.cons (h2.mono e _) .nil))
    exact ⟨_, enumD_get (List.getElem?_eq_getElem (hl ▸ hi)), e', rs', rp⟩
theorem src_enumC {c : Nat} {a : Addr} {ds : List D} (h : m1.cs[c]? = some a) : SrcOk K m1 H1 ⟨enumD ds, some (c, ds)⟩ (Ite K a) := by
  have sq : ∀ m S H, Ext m1 H1 m H → RelS K m S H → Src.ok ⟨enumD ds, some (c, ds)⟩ S = true → ∃ vs, H a = some (.lst vs) ∧ Rvs K m H ds vs := fun m S H e rs ok =>
    rs.cell c a _ (e.get h) (Src.ok_cell (xs := ds) ok)
  have hl := enumD_length ds
  refine ⟨fun i m S H hi e rs ok => ?_, fun m S H e rs ok => ?_, fun i m S H x H' hi e rs ok hy => ?_⟩
  · obtain ⟨vs, q, r⟩ := sq m S H e rs ok
    obtain ⟨v, h1, _⟩ := r.get (List.getElem?_eq_getElem (hl ▸ hi))
    exact ⟨vs, v, SqL.of q, h1⟩
  · obtain ⟨vs, q, r⟩ := sq m S H e rs ok
    exact ⟨vs, SqL.of q, by show vs.length ≤ (enumD ds).length; rw [hl, ← r.length]; exact Nat.le_refl _⟩
  · obtain ⟨T, u, rfl, hT, rfl, hx⟩ := hy
    obtain ⟨vs, q, r⟩ := sq m S H e rs ok
    obtain ⟨v, h1, h2⟩ := r.get (List.getElem?_eq_getElem (hl ▸ hi))
    have h3 := hx vs (SqL.of q)
    rw [h1] at h3; cases h3
    obtain ⟨e', rs', rp⟩ := rs.newTup hT (ds := [.int i, ds[i]'(hl ▸ hi)]) (.cons (.int _) (.cons h2 .nil))
    exact ⟨_, enumD_get (List.getElem?_eq_getElem (hl ▸ hi)), e', rs', rp⟩
def zipD (ds es : List D) : List D := ds.zipWith (fun d e => .tup [d, e]) es
theorem zipD_get {ds es : List D} {i : Nat} {d e : D} (h : ds[i]? = some d) (h' : es[i]? = some e) : (zipD ds es)[i]? = some (.tup [d, e]) := by
  unfold zipD
  rw [List.getElem?_zipWith, h, h']
theorem src_zipT {a b : Addr} {vs us : List V} {ds es : List D} (h : (H1 a = some (.tup vs) ∧ a ∉ m1) ∨ KT K a vs) (r : Rvs K m1 H1 ds vs) (h' : (H1 b = some (.tup us) ∧ b ∉ m1) ∨ KT K b us) (r' : Rvs K m1 H1 es us) : SrcOk K m1 H1 ⟨zipD ds es, none⟩ (RZ.ItzT K a b) := by
  have sqg : ∀ {a : Addr} {vs : List V}, ((H1 a = some (.tup vs) ∧ a ∉ m1) ∨ KT K a vs) → ∀ m H, Ext m1 H1 m H → SqT K H a vs := fun h m H e => by
    rcases h with h | ⟨o, its, n, a1, a2, a3, a4, a5, _⟩
    · exact .inl (.inl (e.keep' _ _ h.2 h.1))
    · exact .inr ⟨o, its, n, a1, a2, a3, a4, a5⟩
  have hl : (zipD ds es).length = min ds.length es.length := by simp [zipD]
  refine ⟨fun i m S H hi e rs _ => ?_, fun m S H e rs _ => ⟨vs, us, sqg h m H e, sqg h' m H e, ?_⟩, fun i m S H x H' hi e rs _ hy => ?_⟩
  · have hi' : i < min ds.length es.length := hl ▸ hi
    obtain ⟨v, h1, _⟩ := r.get (List.getElem?_eq_getElem (show i < ds.length by omega))
    obtain ⟨u, h2, _⟩ := r'.get (List.getElem?_eq_getElem (show i < es.length by omega))
    exact ⟨vs, us, v, u, sqg h m H e, sqg h' m H e, h1, h2⟩
  · have h1 := r.length
    have h2 := r'.length
    show vs.length ≤ (zipD ds es).length ∨ us.length ≤ (zipD ds es).length
    omega
  · have hi' : i < min ds.length es.length := hl ▸ hi
    obtain ⟨T, x, y, rfl, hT, rfl, hx, hy⟩ := hy
    obtain ⟨v, h1, h2⟩ := r.get (List.getElem?_eq_getElem (show i < ds.length by omega))
    obtain ⟨u, h3, h4⟩ := r'.get (List.getElem?_eq_getElem (show i < es.length by omega))
    have h5 := hx vs (sqg h m H e)
    have h6 := hy us (sqg h' m H e)
    rw [h1] at h5; cases h5
    rw [h3] at h6; cases h6
    obtain ⟨e', rs', rp⟩ := rs.newTup hT (.cons (h2.mono e _) (.cons (h4.mono e _) .nil))
    exact ⟨_, zipD_get (List.getElem?_eq_getElem _) (List.getElem?_eq_getElem _), e', rs', rp⟩
theorem src_zipL {a b : Addr} {vs us : List V} {ds es : List D} (h : H1 a = some (.lst vs) ∧ a ∉ m1) (r : Rvs K m1 H1 ds vs) (h' : H1 b = some (.lst us) ∧ b ∉ m1) (r' : Rvs K m1 H1 es us) : SrcOk K m1 H1 ⟨zipD ds es, none⟩ (Itz K a b) := by
  have sqg : ∀ {a : Addr} {vs : List V}, (H1 a = some (.lst vs) ∧ a ∉ m1) → ∀ m H, Ext m1 H1 m H → SqL K H a vs := fun h m H e => SqL.of (e.keep' _ _ h.2 h.1)
  have hl : (zipD ds es).length = min ds.length es.length := by simp [zipD]
  refine ⟨fun i m S H hi e rs _ => ?_, fun m S H e rs _ => ⟨vs, us, sqg h m H e, sqg h' m H e, ?_⟩, fun i m S H x H' hi e rs _ hy => ?_⟩
  · have hi' : i < min ds.length es.length := hl ▸ hi
    obtain ⟨v, h1, _⟩ := r.get (List.getElem?_eq_getElem (show i < ds.length by omega))
    obtain ⟨u, h2, _⟩ := r'.get (List.getElem?_eq_getElem (show i < es.length by omega))
    exact ⟨vs, us, v, u, sqg h m H e, sqg h' m H e, h1, h2⟩
  · have h1 := r.length
    have h2 := r'.length
    show vs.length ≤ (zipD ds es).length ∨ us.length ≤ (zipD ds es).length
    omega
  · have hi' : i < min ds.length es.length := hl ▸ hi
    obtain ⟨T, x, y, rfl, hT, rfl, hx, hy⟩ := hy
    obtain ⟨v, h1, h2⟩ := r.get (List.getElem?_eq_getElem (show i < ds.length by omega))
    obtain ⟨u, h3, h4⟩ := r'.get (List.getElem?_eq_getElem (show i < es.length by omega))
    have h5 := hx vs (sqg h m H e)
    have h6 := hy us (sqg h' m H e)
    rw [h1] at h5; cases h5
    rw [h3] at h6; cases h6
    obtain ⟨e', rs', rp⟩ := rs.newTup hT (.cons (h2.mono e _) (.cons (h4.mono e _) .nil))
    exact ⟨_, zipD_get (List.getElem?_eq_getElem _) (List.getElem?_eq_getElem _), e', rs', rp⟩
end
/-! ### the walks of the text -/
def srcOf (d : D) (S : Sto) : Option Src := match d with
  | .tup ds => some ⟨ds, none⟩
  | .lst ds => some ⟨ds, none⟩
  | .frz ds => some ⟨ds, none⟩
  | .str z => some ⟨signs z, none⟩
  | .ref c => (match S[c]? with
    | some (.lst ds) => some ⟨ds, some (c, ds)⟩
    | _ => none)
  | _ => none
def ofSrc (o : Option Src) (S : Sto) : R Src := match o with
  | some s => .ok s S
  | none => .stuck
def iOf (t : DE) : DI := fun δ S => (t δ S).bind fun d S1 => ofSrc (srcOf d S1) S1
def rngI (a b : Int) : Option Src := if -(2 ^ 62) ≤ a ∧ a < 2 ^ 62 ∧ -(2 ^ 62) ≤ b ∧ b < 2 ^ 62 then some ⟨(List.range (b - a).toNat).map fun (i : Nat) => D.int (a + i), none⟩ else none
instance {i j c : Int} {n : Nat} : Decidable (RgC i j c n) := by unfold RgC; infer_instance
def rngOf : List D → Option Src
  | [.int b] => rngI 0 b
  | [.int a, .int b] => rngI a b
  | [.int a, .int b, .int c] => if RgC a b c (Builtin.Range.rangeSize a b c).toNat then some ⟨(List.range (Builtin.Range.rangeSize a b c).toNat).map fun (i : Nat) => D.int (a + i * c), none⟩ else none
  | _ => none
def iRange (ts : DA) : DI := fun δ S => (ts δ S).bind fun xs S1 => ofSrc (rngOf xs) S1
def enumOf (d : D) (S : Sto) : Option Src := match d with
  | .tup ds => some ⟨enumD ds, none⟩
  | .lst ds => some ⟨enumD ds, none⟩
  | .frz ds => some ⟨enumD ds, none⟩
  | .ref c => (match S[c]? with
    | some (.lst ds) => some ⟨enumD ds, some (c, ds)⟩
    | _ => none)
  | _ => none
def iEnumD (t : DE) : DI := fun δ S => (t δ S).bind fun d S1 => ofSrc (enumOf d S1) S1
def revOf (d : D) : Option Src := match d with
  | .tup ds => some ⟨ds.reverse, none⟩
  | .lst ds => some ⟨ds.reverse, none⟩
  | _ => none
def iRevD (t : DE) : DI := fun δ S => (t δ S).bind fun d S1 => ofSrc (revOf d) S1
def zipOf (d e : D) : Option Src := match d, e with
  | .tup ds, .tup es => some ⟨zipD ds es, none⟩
  | .lst ds, .lst es => some ⟨zipD ds es, none⟩
  | _, _ => none
def iZipD (ts : DA) : DI := fun δ S => (ts δ S).bind fun xs S1 => match xs with
  | [d, e] => ofSrc (zipOf d e) S1
  | _ => .stuck
section
variable {X : Cx} {tg e e2 : Expr} {t : DE} {ts : DA} {p pos tpos : Pos} {elts : List Expr} {kk : Nat}
theorem ok_src {K : PySem.W.Frag} {mg : Str → Option Value} {m : Mm} {S : Sto} {H : Hp} {R : It → Hp → Prop} {E : XK} {o : Option Src} {J : It} (rs : RelS K m S H) (q : OkR K mg (SrcOk K) m H (ofSrc o S) R E) (h : ∀ s, o = some s → SrcOk K m H s J) : R J H := by
  cases e : o with
  | none => rw [e] at q; exact q.elim
  | some s => rw [e] at q; exact q J m H .refl rs (h s e)
theorem piv_any (he : PEv X e t) : PIv X tg e (iOf t) := fun W tk =>
  PI.imp (pi_any (he W tk)) fun σ H R ⟨m, S, δ, rs, re, q⟩ => by
    refine le_bind rs re q fun d S1 v m1 H1 e1 rs1 re1 rv q1 => ?_
    cases d with
    | tup ds =>
      cases rv with
      | @tup a vs _ h r =>
        refine .inr (.inl ⟨a, rfl, ⟨vs, ?_⟩, ok_src rs1 q1 fun s hs => by cases hs; exact src_tup h r⟩)
        rcases h with h | ⟨o, its, n, a1, a2, a3, a4, a5, _⟩
        · exact .inl (.inl h.1)
        · exact .inr ⟨o, its, n, a1, a2, a3, a4, a5⟩
    | lst ds =>
      cases rv with
      | @lst a vs _ h r => exact .inl ⟨a, rfl, ⟨vs, SqL.of h.1⟩, ok_src rs1 q1 fun s hs => by cases hs; exact src_lst (.inl ⟨.inl h.1, h.2⟩) r⟩
    | frz ds =>
      cases rv with
      | @frz a vs _ h r => exact .inl ⟨a, rfl, ⟨vs, h.imp (fun h => h.1) id⟩, ok_src rs1 q1 fun s hs => by cases hs; exact src_lst h r⟩
    | str z => exact .inr (.inr ⟨z, rv.strOf, ok_src rs1 q1 fun s hs => by cases hs; exact src_str⟩)
    | ref c =>
      unfold srcOf at q1
      simp only at q1
      split at q1
      · rename_i ds e0
        obtain ⟨a, vs, rfl, hm, h1, h2⟩ := rs1.lstCell rv e0
        exact .inl ⟨a, rfl, ⟨vs, SqL.of h1⟩, ok_src rs1 q1 fun s hs => by cases hs; exact src_cell hm⟩
      · exact q1.elim
    | _ => exact q1.elim
theorem la_bindE {α β : Type} {K : PySem.W.Frag} {mg : Str → Option Value} {W : WX} {m : Mm} {S : Sto} {H : Hp} {δ : Sl} {σ : L2.St} {Rel : Mm → Hp → α → β → Prop} {t : DA} {k : List D → Sto → R α} {Q : β → Hp → Prop} {Q' : List V → Hp → Prop} (rs : RelS K m S H) (re : RelE K m H δ σ)
    (h : OkR K mg Rel m H ((t δ S).bind k) Q (fun c d H' => W c d σ H'))
    (hk : ∀ d S1 v m1 H1, t δ S = .ok d S1 → Ext m H m1 H1 → RelS K m1 S1 H1 → Rvs K m1 H1 d v → OkR K mg Rel m1 H1 (k d S1) Q (fun c d H' => W c d σ H') → Q' v H1) :
    LA K mg W t σ H Q' := by
  refine ⟨m, S, δ, rs, re, ?_⟩
  cases e : t δ S with
  | ok d S1 =>
    rw [e] at h
    exact fun v m1 H1 x r1 rv => hk d S1 v m1 H1 e x r1 rv (OkR.ext h x)
  | ex c fs S1 =>
    rw [e] at h
    exact h
  | stuck =>
    rw [e] at h
    exact h
theorem piv_range1 (hg : Gl X "range") (hm : X.mg "range" = none) (ha : PAv X [e] ts) (hl : ∀ δ S xs S', ts δ S = .ok xs S' → xs.length = 1) (hs : starEach [e] X.env = [(false, eval e X.env)] := by rfl) : PIv X tg (.Call (.Name "range" p) [e] [] pos) (iRange ts) := fun W tk =>
  PI.imp (pi_range1 hg hm (ha W tk) hs) fun σ H R ⟨m, S, δ, rs, re, q⟩ => by
    refine la_bindE rs re q fun xs S1 vs m1 H1 e1 x1 rs1 rv q => ?_
    have hl1 := hl _ _ _ _ e1
    match xs, rv, q, hl1 with
    | [.int b], rv, q, _ =>
      obtain ⟨v, rfl, r⟩ := rv.one
      cases r.intOf
      simp only [rngOf, rngI] at q
      split at q
      · rename_i hb
        refine ⟨b, rfl, hb.2.2.1, hb.2.2.2, ok_src rs1 q fun s hs => by
          cases hs
          have e0 : b.toNat = (b - 0).toNat := by rw [Int.sub_zero]
          rw [e0]
          exact src_range⟩
      · exact q.elim
    | [.non], _, q, _ => exact q.elim
    | [.bl _], _, q, _ => exact q.elim
    | [.str _], _, q, _ => exact q.elim
    | [.ty _], _, q, _ => exact q.elim
    | [.tup _], _, q, _ => exact q.elim
    | [.lst _], _, q, _ => exact q.elim
    | [.frz _], _, q, _ => exact q.elim
    | [.dic _ _], _, q, _ => exact q.elim
    | [.ref _], _, q, _ => exact q.elim
theorem piv_range2 (hg : Gl X "range") (hm : X.mg "range" = none) (ha : PAv X [e, e2] ts) (hl : ∀ δ S xs S', ts δ S = .ok xs S' → xs.length = 2) (hs : starEach [e, e2] X.env = [(false, eval e X.env), (false, eval e2 X.env)] := by rfl) (hs2 : starEach [e2] X.env = [(false, eval e2 X.env)] := by rfl) : PIv X tg (.Call (.Name "range" p) [e, e2] [] pos) (iRange ts) := fun W tk =>
  PI.imp (pi_range2 hg hm (ha W tk) hs hs2) fun σ H R ⟨m, S, δ, rs, re, q⟩ => by
    refine la_bindE rs re q fun xs S1 vs m1 H1 e1 x1 rs1 rv q => ?_
    have hl1 := hl _ _ _ _ e1
    generalize eo : rngOf xs = o at q
    unfold rngOf at eo
    split at eo
    · cases hl1
    · obtain ⟨v, u, rfl, r, r'⟩ := rv.two
      cases r.intOf; cases r'.intOf
      unfold rngI at eo
      split at eo
      · rename_i hb
        subst eo
        exact ⟨_, _, rfl, hb, ok_src rs1 q fun s hs => by cases hs; exact src_range⟩
      · subst eo; exact q.elim
    · cases hl1
    · subst eo; exact q.elim
theorem piv_range3 {e3 : Expr} (hg : Gl X "range") (hm : X.mg "range" = none) (ha : PAv X [e, e2, e3] ts) (hl : ∀ δ S xs S', ts δ S = .ok xs S' → xs.length = 3) (hs : starEach [e, e2, e3] X.env = (false, eval e X.env) :: starEach [e2, e3] X.env := by rfl) (hpl : (backTo pos (starEach [e2, e3] X.env)).any (·.1) = false := by rfl) : PIv X tg (.Call (.Name "range" p) [e, e2, e3] [] pos) (iRange ts) := fun W tk =>
  PI.imp (pi_range3 hg hm (ha W tk) hs hpl) fun σ H R ⟨m, S, δ, rs, re, q⟩ => by
    refine la_bindE rs re q fun xs S1 vs m1 H1 e1 x1 rs1 rv q => ?_
    have hl1 := hl _ _ _ _ e1
    generalize eo : rngOf xs = o at q
    unfold rngOf at eo
    split at eo
    · cases hl1
    · cases hl1
    · split at eo
      · rename_i hb
        subst eo
        cases rv with
        | cons r rv =>
          obtain ⟨v, u, rfl, r', r''⟩ := rv.two
          cases r.intOf; cases r'.intOf; cases r''.intOf
          exact ⟨_, _, _, _, rfl, hb, ok_src rs1 q fun s hs => by cases hs; exact src_rangeC⟩
      · subst eo; exact q.elim
    · subst eo; exact q.elim
theorem piv_enum (hg : Gl X "enumerate") (hm : X.mg "enumerate" = none) (he : PEv X e t) (hs : starEach [e] X.env = (false, eval e X.env) :: starEach [] X.env := by rfl) : PIv X (.Tuple elts kk tpos) (.Call (.Name "enumerate" p) [e] [] pos) (iEnumD t) := fun W tk =>
  PI.imp (pi_enumA hg hm (pa_cons (he W tk) pa_nil hs) hs) fun σ H R ⟨m, S, δ, rs, re, q⟩ => by
    refine le_bind rs re q fun d S1 v m1 H1 e1 rs1 re1 rv q1 => ?_
    cases d with
    | tup ds =>
      cases rv with
      | @tup a vs _ h r =>
        refine ⟨a, vs, rfl, .inr ⟨?_, ok_src rs1 q1 fun s hs => by cases hs; exact src_enumT h r⟩⟩
        rcases h with h | ⟨o, its, n, a1, a2, a3, a4, a5, _⟩
        · exact .inl (.inl h.1)
        · exact .inr ⟨o, its, n, a1, a2, a3, a4, a5⟩
    | lst ds =>
      cases rv with
      | @lst a vs _ h r => exact ⟨a, vs, rfl, .inl ⟨SqL.of h.1, ok_src rs1 q1 fun s hs => by cases hs; exact src_enumL (.inl ⟨.inl h.1, h.2⟩) r⟩⟩
    | frz ds =>
      cases rv with
      | @frz a vs _ h r => exact ⟨a, vs, rfl, .inl ⟨h.imp (fun h => h.1) id, ok_src rs1 q1 fun s hs => by cases hs; exact src_enumL h r⟩⟩
    | ref c =>
      unfold enumOf at q1
      simp only at q1
      split at q1
      · rename_i ds e0
        obtain ⟨a, vs, rfl, hm, h1, h2⟩ := rs1.lstCell rv e0
        exact ⟨a, vs, rfl, .inl ⟨SqL.of h1, ok_src rs1 q1 fun s hs => by cases hs; exact src_enumC hm⟩⟩
      · exact q1.elim
    | _ => exact q1.elim
theorem piv_rev (hg : Gl X "reversed") (hm : X.mg "reversed" = none) (he : PEv X e t) (hs : starEach [e] X.env = (false, eval e X.env) :: starEach [] X.env := by rfl) : PIv X tg (.Call (.Name "reversed" p) [e] [] pos) (iRevD t) := fun W tk =>
  PI.imp (RT.pi_revA hg hm (he W tk) hs) fun σ H R ⟨m, S, δ, rs, re, q⟩ => by
    refine le_bind rs re q fun d S1 v m1 H1 e1 rs1 re1 rv q1 => ?_
    cases d with
    | tup ds =>
      cases rv with
      | @tup a vs _ h r =>
        refine ⟨a, vs, rfl, .inr ⟨?_, ok_src rs1 q1 fun s hs => by cases hs; exact src_revT h r⟩⟩
        rcases h with h | ⟨o, its, n, a1, a2, a3, a4, a5, _⟩
        · exact .inl (.inl h.1)
        · exact .inr ⟨o, its, n, a1, a2, a3, a4, a5⟩
    | lst ds =>
      cases rv with
      | @lst a vs _ h r => exact ⟨a, vs, rfl, .inl ⟨SqL.of h.1, ok_src rs1 q1 fun s hs => by cases hs; exact src_revL h r⟩⟩
    | _ => exact q1.elim
theorem piv_zip (hg : Gl X "zip") (hm : X.mg "zip" = none) (ha : PAv X [e, e2] ts) (hs : starEach [e, e2] X.env = (false, eval e X.env) :: starEach [e2] X.env := by rfl) (hpl : (backTo pos (starEach [e2] X.env)).any (·.1) = false := by rfl) : PIv X (.Tuple elts kk tpos) (.Call (.Name "zip" p) [e, e2] [] pos) (iZipD ts) := fun W tk =>
  PI.imp (RZ.pi_zipA hg hm (ha W tk) hs hpl) fun σ H R ⟨m, S, δ, rs, re, q⟩ => by
    refine la_bind rs re q fun xs S1 vs m1 H1 e1 rs1 re1 rv q1 => ?_
    split at q1
    · rename_i d e
      obtain ⟨v, u, rfl, r, r'⟩ := rv.two
      unfold zipOf at q1
      split at q1
      · cases r with
        | @tup a vs _ h r =>
          cases r' with
          | @tup b us _ h' r' =>
            have sq : ∀ {a : Addr} {vs : List V}, ((H1 a = some (.tup vs) ∧ a ∉ m1) ∨ KT X.K a vs) → SqT X.K H1 a vs := fun h => by
              rcases h with h | ⟨o, its, n, a1, a2, a3, a4, a5, _⟩
              · exact .inl (.inl h.1)
              · exact .inr ⟨o, its, n, a1, a2, a3, a4, a5⟩
            exact ⟨a, b, vs, us, rfl, .inr ⟨sq h, sq h', ok_src rs1 q1 fun s hs => by cases hs; exact src_zipT h r h' r'⟩⟩
      · cases r with
        | @lst a vs _ h r =>
          cases r' with
          | @lst b us _ h' r' => exact ⟨a, b, vs, us, rfl, .inl ⟨SqL.of h.1, SqL.of h'.1, ok_src rs1 q1 fun s hs => by cases hs; exact src_zipL h r h' r'⟩⟩
      · exact q1.elim
    · exact q1.elim
end
end QB
set_option maxHeartbeats 4000000
namespace QB
open PySem PySem.Spec PyProof.Rows L2
/-! ### for -/
def sForL (s : Src) (g : DG) (body : DS) : List D → Sl → Sto → Out
  | [], δ, S => if s.ok S = true then .nx δ S else .stuck
  | d :: r, δ, S => if s.ok S = true then (match g d δ S with
    | some δ1 => (match body δ1 S with
      | .nx δ2 S2 => sForL s g body r δ2 S2
      | .ct δ2 S2 => sForL s g body r δ2 S2
      | .bk δ2 S2 => .nx δ2 S2
      | .rt d S2 => .rt d S2
      | .ex c fs δ2 S2 => .ex c fs δ2 S2
      | .stuck => .stuck)
    | none => .stuck) else .stuck
def sFor (t : DI) (g : DG) (body : DS) : DS := fun δ S => ofR δ (t δ S) fun s S1 => sForL s g body s.ds δ S1
section
variable {K : PySem.W.Frag} {mg : Str → Option Value} {m : Mm} {H : Hp} {S : Sto} {δ : Sl} {σ : L2.St} {W : WX} {Dn : Ends}
theorem li_ofR {t : DI} {f : Src → Sto → Out} {Q' : It → Hp → Prop} (rs : RelS K m S H) (re : RelE K m H δ σ) (h : OkS K mg W m H (ofR δ (t δ S) f) Dn)
    (hk : ∀ s S1 J m1 H1, Ext m H m1 H1 → RelS K m1 S1 H1 → RelE K m1 H1 δ σ → SrcOk K m1 H1 s J → OkS K mg W m1 H1 (f s S1) Dn → Q' J H1) : LI K mg W t σ H Q' := by
  refine ⟨m, S, δ, rs, re, ?_⟩
  cases e : t δ S with
  | ok d S1 =>
    rw [e] at h
    exact fun v m1 H1 x r1 rv => hk d S1 v m1 H1 x r1 (re.mono x) rv (OkS.ext h x)
  | ex c fs S1 =>
    rw [e] at h
    exact fun C dd fv m1 H1 g x r1 hd hf => h C dd fv σ m1 H1 g x r1 (re.mono x) hd hf
  | stuck =>
    rw [e] at h
    exact h
theorem drop_cons {α : Type} {xs : List α} {i : Nat} (h : i < xs.length) : xs.drop i = xs[i] :: xs.drop (i + 1) := List.drop_eq_getElem_cons h
end
section
variable {X : Cx} {tg iter : Expr} {body : List Stmt} {t : DI} {g : DG} {tb : DS} {pos : Pos}
theorem psv_for (hp : PassesOwn (model X.prog X.w) X.A X.env X.xe) (hc : X.calm = true) (hi : PIv X tg iter t) (hg : PGv X tg g) (hb : PSsv X body tb) (hs : ∀ x, foldedSetIterable iter X.env x = pure x := by intro _; rfl) :
    PSv X (.For tg iter body [] pos) (sFor t g tb) := fun W tk =>
  PS.imp (ps_for hp hc (hi W tk) hg (hb W tk) hs) fun Dn σ H ⟨m, S, δ, rs, re, q⟩ => by
    refine li_ofR rs re q fun s S1 J m1 H1 x1 rs1 re1 hJ q1 => ?_
    refine ⟨fun i k σ H => ∃ m S δ, Ext m1 H1 m H ∧ RelS X.K m S H ∧ RelE X.K m H δ σ ∧ i + k = s.ds.length ∧ OkS X.K X.mg W m H (sForL s g tb (s.ds.drop i) δ S) Dn,
      ⟨s.ds.length, m1, S1, δ, .refl, rs1, re1, by omega, by rw [List.drop_zero]; exact q1⟩, fun i k σ H ⟨m, S, δ, x, rs, re, ik, q⟩ => ?_⟩
    by_cases h : i < s.ds.length
    · rw [drop_cons h] at q
      unfold sForL at q
      split at q
      · rename_i ok
        refine .inr ⟨hJ.go i m S H h x rs ok, fun σ' H' => ∃ m S δ, Ext m1 H1 m H' ∧ RelS X.K m S H' ∧ RelE X.K m H' δ σ' ∧ OkS X.K X.mg W m H' (sForL s g tb (s.ds.drop (i + 1)) δ S) Dn,
          fun σ' H' ⟨m', S', δ', x', rs', re', q'⟩ => ⟨k - 1, by omega, m', S', δ', x', rs', re', by omega, q'⟩, fun v H' hy => ?_⟩
        obtain ⟨d, hd, x2, rs2, rv⟩ := hJ.yld i m S H v H' h x rs ok hy
        rw [List.getElem?_eq_getElem h] at hd
        cases hd
        split at q
        · rename_i δ1 eg
          refine ⟨m, S, δ, _, δ1, rs2, re.mono x2, rv, eg, fun σ2 m2 H2 x3 rs3 re3 => ?_⟩
          refine ⟨m2, S, δ1, rs3, re3, ?_⟩
          have q := OkS.ext q (x2.trans x3)
          cases eb : tb δ1 S with
          | nx δ2 S2 =>
            rw [eb] at q
            exact fun σ4 m4 H4 x4 rs4 re4 => ⟨m4, S2, δ2, ((x.trans x2).trans x3).trans x4, rs4, re4, OkS.ext q x4⟩
          | ct δ2 S2 =>
            rw [eb] at q
            exact fun σ4 m4 H4 x4 rs4 re4 => ⟨m4, S2, δ2, ((x.trans x2).trans x3).trans x4, rs4, re4, OkS.ext q x4⟩
          | bk δ2 S2 => rw [eb] at q; exact q
          | rt d S2 => rw [eb] at q; exact q
          | ex c fs δ2 S2 => rw [eb] at q; exact q
          | stuck => rw [eb] at q; exact q
        · exact q.elim
      · exact q.elim
    · have hi' : i = s.ds.length := by omega
      subst hi'
      rw [List.drop_length] at q
      unfold sForL at q
      split at q
      · rename_i ok
        exact .inl ⟨hJ.stop m S H x rs ok, q σ m H .refl rs re⟩
      · exact q.elim
/-! ### while, so many turns at most -/
def sWhileL (c : DT) (body : DS) : Nat → Sl → Sto → Out
  | 0, _, _ => .stuck
  | n + 1, δ, S => ofR δ (c δ S) fun b S1 => if b = true then (match body δ S1 with
    | .nx δ2 S2 => sWhileL c body n δ2 S2
    | .ct δ2 S2 => sWhileL c body n δ2 S2
    | .bk δ2 S2 => .nx δ2 S2
    | .rt d S2 => .rt d S2
    | .ex c fs δ2 S2 => .ex c fs δ2 S2
    | .stuck => .stuck) else .nx δ S1
theorem psv_while (n : Nat) {c : Expr} {tc : DT} (hp : PassesOwn (model X.prog X.w) X.A X.env X.xe) (hc : PTv X c tc) (hb : PSsv X body tb) : PSv X (.While c body [] pos) (sWhileL tc tb n) := fun W tk =>
  PS.imp (ps_while hp (hc W tk) (hb W tk)) fun Dn σ H ⟨m, S, δ, rs, re, q⟩ => by
    refine ⟨fun k σ H => ∃ m S δ, RelS X.K m S H ∧ RelE X.K m H δ σ ∧ OkS X.K X.mg W m H (sWhileL tc tb k δ S) Dn, ⟨n, m, S, δ, rs, re, q⟩, fun k σ H ⟨m, S, δ, rs, re, q⟩ => ?_⟩
    cases k with
    | zero => exact q.elim
    | succ k =>
      unfold sWhileL at q
      refine lt_ofR rs re q fun b S1 m1 H1 x1 rs1 re1 q1 => ?_
      cases b
      · exact q1 σ m1 H1 .refl rs1 re1
      · refine ⟨fun σ' H' => ∃ m S δ, RelS X.K m S H' ∧ RelE X.K m H' δ σ' ∧ OkS X.K X.mg W m H' (sWhileL tc tb k δ S) Dn, fun σ' H' h => ⟨k, Nat.lt_succ_self k, h⟩, m1, S1, δ, rs1, re1, ?_⟩
        have q1 : OkS X.K X.mg W m1 H1 (match tb δ S1 with
          | .nx δ2 S2 => sWhileL tc tb k δ2 S2
          | .ct δ2 S2 => sWhileL tc tb k δ2 S2
          | .bk δ2 S2 => .nx δ2 S2
          | .rt d S2 => .rt d S2
          | .ex c fs δ2 S2 => .ex c fs δ2 S2
          | .stuck => .stuck) Dn := q1
        cases eb : tb δ S1 with
        | nx δ2 S2 =>
          rw [eb] at q1
          exact fun σ4 m4 H4 x4 rs4 re4 => ⟨m4, S2, δ2, rs4, re4, OkS.ext q1 x4⟩
        | ct δ2 S2 =>
          rw [eb] at q1
          exact fun σ4 m4 H4 x4 rs4 re4 => ⟨m4, S2, δ2, rs4, re4, OkS.ext q1 x4⟩
        | bk δ2 S2 => rw [eb] at q1; exact q1
        | rt d S2 => rw [eb] at q1; exact q1
        | ex c fs δ2 S2 => rw [eb] at q1; exact q1
        | stuck => rw [eb] at q1; exact q1
end
/-! ### comprehensions -/
def wipeD (δ : Sl) : List Nat → Sl
  | [] => δ
  | v :: vs => (wipeD δ vs).set v none
def R.nox {α : Type} (r : R α) : R α := match r with
  | .ok a S => .ok a S
  | _ => .stuck
def lcL (s : Src) (g : DG) (tt : DT) (te : DE) (δ : Sl) : List D → Sto → R (List D)
  | [], S => if s.ok S = true then .ok [] S else .stuck
  | d :: r, S => if s.ok S = true then (match g d δ S with
    | some δ1 => (tt δ1 S).nox.bind fun b S1 => if b = true then (te δ1 S1).nox.bind fun y S2 => (lcL s g tt te δ r S2).bind fun ys S3 => .ok (y :: ys) S3 else lcL s g tt te δ r S1
    | none => .stuck) else .stuck
def dLc (t : DI) (g : DG) (tt : DT) (te : DE) (vs : List Nat) : DE := fun δ S => (t δ S).bind fun s S1 => if s.ds.length < sizeLine then (lcL s g tt te (wipeD δ vs) s.ds S1).bind fun xs S2 => .ok (.lst xs) S2 else .stuck
theorem wipeD_length (δ : Sl) : ∀ vs : List Nat, (wipeD δ vs).length = δ.length
  | [] => rfl
  | v :: vs => by rw [wipeD, List.length_set, wipeD_length δ vs]
theorem wipeD_some {δ : Sl} {i : Nat} {d : D} : ∀ {vs : List Nat}, (wipeD δ vs)[i]? = some (some d) → δ[i]? = some (some d) ∧ i ∉ vs
  | [], h => ⟨h, by simp⟩
  | v :: vs, h => by
    rw [wipeD] at h
    by_cases e : v = i
    · subst e
      by_cases hi : v < (wipeD δ vs).length
      · rw [List.getElem?_set_self hi] at h; cases h
      · rw [List.getElem?_eq_none (by simpa using hi)] at h; cases h
    · rw [List.getElem?_set_ne e] at h
      obtain ⟨h1, h2⟩ := wipeD_some h
      exact ⟨h1, by simp [Ne.symm e, h2]⟩
section
variable {K : PySem.W.Frag} {mg : Str → Option Value} {m : Mm} {H : Hp} {S : Sto} {δ : Sl} {σ : L2.St} {W : WX} {Dn : Ends}
theorem RelE.wipe (r : RelE K m H δ σ) (vs : List Nat) : RelE K m H (wipeD δ vs) (L2.wipe σ vs) := by
  refine ⟨by rw [wipeD_length, wipe_length, r.len], fun i d h => ?_⟩
  obtain ⟨h1, h2⟩ := wipeD_some h
  obtain ⟨v, h3, h4⟩ := r.val i d h1
  exact ⟨v, by rw [wipe_out h2]; exact h3, h4⟩
/-- a new list is banned while it grows -/
theorem RelS.banNew (r : RelS K m S H) {p : Addr} (hp : H p = none) (o : HO) (ho : lkO o) :
    Ext m H (m.ban p) (L2.upd H p o) ∧ RelS K (m.ban p) S (L2.upd H p o) := by
  have np := r.notin hp
  have e : Ext m H (m.ban p) (L2.upd H p o) := ⟨⟨[], by simp [Mm.ban]⟩, fun a h => List.mem_cons_of_mem _ h, fun a h => by
    rcases List.mem_cons.mp h with z | z
    · rw [z]; exact .inr (.none hp)
    · exact .inl z, fun _ h => .inl h, fun a u _ h _ => by rw [upd_ne (ne_of_none h hp)]; exact h, fun a h => nt_upd h (.inl hp)⟩
  refine ⟨e, r.len, r.nd, fun i a u h1 h2 => ?_, fun a h => ?_, tabs_upd r.tabs (.inl hp)⟩
  · have c := r.cell i a u h1 h2
    cases u with
    | lst ds =>
      obtain ⟨vs, h, q⟩ := c
      exact ⟨vs, by rw [upd_ne (ne_of_none h hp)]; exact h, q.mono e⟩
    | dic kvs =>
      obtain ⟨vs, h, q⟩ := c
      exact ⟨vs, by rw [upd_ne (ne_of_none h hp)]; exact h, q.mono e⟩
  · rcases List.mem_cons.mp h with z | z
    · rw [z]; exact ⟨fun z => np (.inl z), o, upd_same, ho⟩
    · obtain ⟨u, q, n⟩ := (r.ban a z).2
      exact ⟨(r.ban a z).1, u, by rw [upd_ne (ne_of_none q hp)]; exact q, n⟩
theorem Ext.updFresh {m' : Mm} {H' : Hp} {p : Addr} {o : HO} (e : Ext m H m' H') (hp : H p = none) (no : noTb o) : Ext m H m' (L2.upd H' p o) := by
  refine ⟨e.pre, e.sub, e.nno, e.new, fun a u h q n => ?_, fun a h => e.there a (nt_upd h (.inr no))⟩
  rw [upd_ne (ne_of_none q hp)]
  exact e.keep a u h q n
theorem li_bind {α β : Type} {Rel : Mm → Hp → α → β → Prop} {t : DI} {k : Src → Sto → R α} {Q : β → Hp → Prop} {Q' : It → Hp → Prop} (rs : RelS K m S H) (re : RelE K m H δ σ)
    (h : OkR K mg Rel m H ((t δ S).bind k) Q (fun c d H' => W c d σ H'))
    (hk : ∀ b S1 J m1 H1, Ext m H m1 H1 → RelS K m1 S1 H1 → RelE K m1 H1 δ σ → SrcOk K m1 H1 b J → OkR K mg Rel m1 H1 (k b S1) Q (fun c d H' => W c d σ H') → Q' J H1) :
    LI K mg W t σ H Q' := by
  refine ⟨m, S, δ, rs, re, ?_⟩
  cases e : t δ S with
  | ok d S1 =>
    rw [e] at h
    exact fun v m1 H1 x r1 rv => hk d S1 v m1 H1 x r1 (re.mono x) rv (OkR.ext h x)
  | ex c fs S1 =>
    rw [e] at h
    exact h
  | stuck =>
    rw [e] at h
    exact h
end
/-! ### targets that say which slots they store -/
def Oth (is : List Nat) (σ σ' : L2.St) : Prop := σ'.length = σ.length ∧ ∀ j : Nat, j ∉ is → σ'[j]? = σ[j]?
theorem wipe_wipe (σ : L2.St) (vs : List Nat) : L2.wipe (L2.wipe σ vs) vs = L2.wipe σ vs := by
  refine List.ext_getElem? fun i => ?_
  by_cases hi : i ∈ vs
  · by_cases hl : i < σ.length
    · have at_ : ∀ (σ : L2.St) (vs : List Nat) (i : Nat), i ∈ vs → i < σ.length → (L2.wipe σ vs)[i]? = some none := by
        intro σ vs i
        induction vs with
        | nil => intro h; cases h
        | cons v vs ih =>
          intro hi hl
          show ((L2.wipe σ vs).set v none)[i]? = some none
          by_cases e : v = i
          · subst e
            rw [List.getElem?_set_self (by rw [wipe_length]; exact hl)]
          · rw [List.getElem?_set_ne e]
            rcases List.mem_cons.mp hi with z | z
            · exact absurd z.symm e
            · exact ih z hl
      rw [at_ σ vs i hi hl, at_ _ vs i hi (by rw [wipe_length]; exact hl)]
    · rw [List.getElem?_eq_none (by rw [wipe_length, wipe_length]; omega), List.getElem?_eq_none (by rw [wipe_length]; omega)]
  · rw [wipe_out hi, wipe_out hi]
theorem Oth.wipe {is vs : List Nat} {σ σ' : L2.St} (h : Oth is σ σ') (hs : ∀ i ∈ is, i ∈ vs) : L2.wipe σ' vs = L2.wipe σ vs := by
  have at_ : ∀ (σ : L2.St) (vs : List Nat) (i : Nat), i ∈ vs → i < σ.length → (L2.wipe σ vs)[i]? = some none := by
    intro σ vs i
    induction vs with
    | nil => intro h; cases h
    | cons v vs ih =>
      intro hi hl
      show ((L2.wipe σ vs).set v none)[i]? = some none
      by_cases e : v = i
      · subst e
        rw [List.getElem?_set_self (by rw [wipe_length]; exact hl)]
      · rw [List.getElem?_set_ne e]
        rcases List.mem_cons.mp hi with z | z
        · exact absurd z.symm e
        · exact ih z hl
  refine List.ext_getElem? fun i => ?_
  by_cases hi : i ∈ vs
  · by_cases hl : i < σ.length
    · rw [at_ σ vs i hi hl, at_ σ' vs i hi (by rw [h.1]; exact hl)]
    · rw [List.getElem?_eq_none (by rw [wipe_length, h.1]; omega), List.getElem?_eq_none (by rw [wipe_length]; omega)]
  · rw [wipe_out hi, wipe_out hi]
    exact h.2 i fun z => hi (hs i z)
def LGc (K : PySem.W.Frag) (is : List Nat) (g : DG) : TG := fun v σ H Q => ∃ m S δ d δ', RelS K m S H ∧ RelE K m H δ σ ∧ Rv K m H d v ∧ g d δ S = some δ' ∧ ∀ σ' m' H', Ext m H m' H' → RelS K m' S H' → RelE K m' H' δ' σ' → Oth is σ σ' → Q σ' H'
def LGsc (K : PySem.W.Frag) (is : List Nat) (g : List D → Sl → Sto → Option Sl) : TGs := fun vs σ H Q => ∃ m S δ ds δ', RelS K m S H ∧ RelE K m H δ σ ∧ Rvs K m H ds vs ∧ g ds δ S = some δ' ∧ ∀ σ' m' H', Ext m H m' H' → RelS K m' S H' → RelE K m' H' δ' σ' → Oth is σ σ' → Q σ' H'
def PGc (X : Cx) (is : List Nat) (tg : Expr) (g : DG) : Prop := PG X tg (LGc X.K is g)
def PGsc (X : Cx) (is : List Nat) (tgs : List Expr) (g : List D → Sl → Sto → Option Sl) : Prop := PGs X tgs (LGsc X.K is g)
section
variable {X : Cx} {e : Expr} {es : List Expr} {g : DG} {gs : List D → Sl → Sto → Option Sl} {t : DE} {pos : Pos} {is js : List Nat}
theorem pgc_name {i : Nat} {x : Str} (hN : X.N.Nodup) (hi : X.N[i]? = some x := by rfl) (hx : Loc X.env.scope x := by first | exact Or.inl rfl | exact Or.inr rfl) (hf : X.fn x = true ∨ X.env.scope.names.lookup x = some .local := by first | exact .inl rfl | exact .inr rfl) : PGc X [i] (.Name x pos) (gNm i) :=
  PG.imp (pg_name hN hi hx hf) fun v σ H Q ⟨m, S, δ, d, δ', rs, re, rv, e, q⟩ => by
    cases e
    exact q _ m H .refl rs (re.set rv i) ⟨List.length_set, fun j hj => List.getElem?_set_ne (fun z => hj (by rw [z]; exact List.mem_singleton.mpr rfl))⟩
theorem pgsc_nil : PGsc X [] [] gsNil := PGs.imp pgs_nil fun vs σ H Q ⟨m, S, δ, d, δ', rs, re, rv, e, q⟩ => by
  cases rv with
  | nil => cases e; exact ⟨rfl, q _ m H .refl rs re ⟨rfl, fun _ _ => rfl⟩⟩
  | cons => cases e
theorem pgsc_cons (h1 : PGc X is e g) (h2 : PGsc X js es gs) (hs : (assignEach (e :: es) X.env).map (·.2) = assign e X.env :: (assignEach es X.env).map (·.2) := by rfl) : PGsc X (is ++ js) (e :: es) (gsCons g gs) :=
  PGs.imp (pgs_cons h1 h2 hs) fun vs σ H Q ⟨m, S, δ, d, δ', rs, re, rv, e, q⟩ => by
    cases rv with
    | nil => cases e
    | @cons d v ds vs h r =>
      simp only [gsCons] at e
      split at e
      · rename_i δ1 e1
        refine ⟨v, vs, rfl, m, S, δ, d, δ1, rs, re, h, e1, fun σ1 m1 H1 x1 rs1 re1 o1 => ?_⟩
        refine ⟨m1, S, δ1, ds, δ', rs1, re1, r.mono x1, e, fun σ2 m2 H2 x2 rs2 re2 o2 => q _ m2 H2 (x1.trans x2) rs2 re2 ⟨o2.1.trans o1.1, fun j hj => ?_⟩⟩
        rw [List.mem_append] at hj
        rw [o2.2 j fun z => hj (.inr z), o1.2 j fun z => hj (.inl z)]
      · cases e
theorem pgc_tup {k n : Nat} (hc : X.calm = true) (h : PGsc X is es gs) (hn : (assignEach es X.env).length = n := by rfl) (hst : (assignEach es X.env).findIdx? (·.1) = none := by rfl) : PGc X is (.Tuple es k pos) (gTp n gs) :=
  PG.imp (pg_tup hc h hn hst) fun v σ H Q ⟨m, S, δ, d, δ', rs, re, rv, e, q⟩ => by
    cases d with
    | tup ds =>
      simp only [gTp] at e
      split at e
      · rename_i hl
        obtain ⟨a, vs, rfl, h1, h2⟩ := rv.tupAt
        exact ⟨a, vs, rfl, h1, by rw [← h2.length]; exact hl, m, S, δ, ds, δ', rs, re, h2, e, q⟩
      · cases e
    | _ => cases e
end
/-! ### the list comprehension -/
theorem R.bind_ok {α β : Type} {r : R α} {f : α → Sto → R β} {b : β} {S : Sto} (h : r.bind f = .ok b S) : ∃ a S1, r = .ok a S1 ∧ f a S1 = .ok b S := by
  cases r with
  | ok a S1 => exact ⟨a, S1, rfl, h⟩
  | ex c fs S1 => cases h
  | stuck => cases h
theorem R.nox_ok {α : Type} {r : R α} {a : α} {S : Sto} (h : r.nox = .ok a S) : r = .ok a S := by
  cases r with
  | ok a S1 => exact h
  | ex c fs S1 => cases h
  | stuck => cases h
def NoEx {α : Type} (r : R α) : Prop := ∀ c fs S, r ≠ .ex c fs S
theorem NoEx.bind {α β : Type} {r : R α} {f : α → Sto → R β} (h : NoEx r) (hf : ∀ a S, NoEx (f a S)) : NoEx (r.bind f) := by
  cases r with
  | ok a S1 => exact hf a S1
  | ex c fs S1 => exact absurd rfl (h c fs S1)
  | stuck => intro c fs S z; cases z
theorem NoEx.nox {α : Type} (r : R α) : NoEx r.nox := by
  cases r <;> (intro c fs S z; cases z)
theorem NoEx.ok {α : Type} (a : α) (S : Sto) : NoEx (.ok a S) := by intro c fs S z; cases z
theorem NoEx.stuck {α : Type} : NoEx (.stuck : R α) := by intro c fs S z; cases z
theorem lcL_noex (s : Src) (g : DG) (tt : DT) (te : DE) (δ : Sl) : ∀ (l : List D) (S : Sto), NoEx (lcL s g tt te δ l S)
  | [], S => by
    unfold lcL
    split
    · exact .ok _ _
    · exact .stuck
  | d :: r, S => by
    unfold lcL
    split
    · split
      · refine (NoEx.nox _).bind fun b S1 => ?_
        split
        · exact (NoEx.nox _).bind fun y S2 => (lcL_noex s g tt te δ r S2).bind fun ys S3 => .ok _ _
        · exact lcL_noex s g tt te δ r S1
      · exact .stuck
    · exact .stuck
def PTsv (X : Cx) (ifs : List Expr) (t : DT) : Prop := ∀ W, Takes X W → PTs X ifs (LT X.K X.mg W t)
def tYesD : DT := fun _ S => .ok true S
section
variable {X : Cx} {elt tg iter : Expr} {ifs : List Expr} {scope : Scope} {own : List (Str × Nat)} {pos : Pos} {t : DI} {g : DG} {tt : DT} {te : DE} {is : List Nat}
theorem ptsv_nil : PTsv X [] tYesD := fun W tk => ⟨fun pins s σ H Q I ⟨m, S, δ, rs, re, q⟩ => pts_nil.run pins s σ H Q I (q true m H .refl rs rfl)⟩
theorem ptsv_one {c : Expr} (h : PTv X c tt) : PTsv X [c] tt := fun W tk => pts_one (h W tk)
theorem tLc_of {K : PySem.W.Frag} {mg : Str → Option Value} {W : WX} {vs : List Nat} (his : ∀ i ∈ is, i ∈ vs) {σ : L2.St} {H : Hp} {Q : VK} (h : LE K mg W (dLc t g tt te vs) σ H Q) :
    tLc (LI K mg W t) (LGc K is g) (LT K mg (fun _ _ _ _ => False) tt) (LE K mg (fun _ _ _ _ => False) te) vs σ H Q := by
  obtain ⟨m, S, δ, rs, re, q⟩ := h
  refine li_bind rs re q fun s S1 J m1 H1 x1 rs1 re1 hJ q1 => fun Dd hD => ?_
  split at q1
  · rename_i hn
    -- the comprehension ends well
    cases e0 : lcL s g tt te (wipeD δ vs) s.ds S1 with
    | stuck => rw [e0] at q1; exact q1.elim
    | ex c fs S2 => exact absurd e0 (lcL_noex s g tt te _ _ _ c fs S2)
    | ok xs Se =>
    rw [e0] at q1
    have fin : ∀ v m' H', Ext m1 H1 m' H' → RelS K m' Se H' → Rv K m' H' (.lst xs) v → Q v H' := q1
    obtain ⟨xb, rsb⟩ := rs1.banNew hD (.lst []) (.inl ⟨_, rfl⟩)
    refine ⟨fun i k H => ∃ (mb : Mm) (S : Sto) (acc ys : List D) (av : List V), Ext m1 H1 mb H ∧ RelS K mb S H ∧ RelE K mb H (wipeD δ vs) (L2.wipe σ vs) ∧ Dd ∈ mb.no ∧ H Dd = some (.lst av) ∧ Rvs K mb H acc av ∧ i + k = s.ds.length ∧ acc.length ≤ i ∧
        lcL s g tt te (wipeD δ vs) (s.ds.drop i) S = .ok ys Se ∧ xs = acc ++ ys,
      ⟨s.ds.length, m1.ban Dd, S1, [], xs, [], xb, rsb, (re1.mono xb).wipe vs, List.mem_cons_self, upd_same, .nil, by omega, Nat.le_refl _, by rw [List.drop_zero]; exact e0, rfl⟩,
      fun i k H ⟨mb, S, acc, ys, av, x, rs, re, hb, hH, hav, ik, hacc, el, exs⟩ => ?_⟩
    by_cases h : i < s.ds.length
    · rw [drop_cons h] at el
      unfold lcL at el
      split at el
      · rename_i ok
        split at el
        · rename_i δ1 eg
          obtain ⟨b, S2, eb, el⟩ := R.bind_ok el
          have eb := R.nox_ok eb
          refine .inr ⟨hJ.go i mb S H h x rs ok, fun H' => ∃ (mb : Mm) (S : Sto) (acc ys : List D) (av : List V), Ext m1 H1 mb H' ∧ RelS K mb S H' ∧ RelE K mb H' (wipeD δ vs) (L2.wipe σ vs) ∧ Dd ∈ mb.no ∧ H' Dd = some (.lst av) ∧ Rvs K mb H' acc av ∧ acc.length ≤ i + 1 ∧
            lcL s g tt te (wipeD δ vs) (s.ds.drop (i + 1)) S = .ok ys Se ∧ xs = acc ++ ys,
            fun H' ⟨mb', S', acc', ys', av', x', rs', re', hb', hH', hav', hacc', el', exs'⟩ => ⟨k - 1, by omega, mb', S', acc', ys', av', x', rs', re', hb', hH', hav', by omega, hacc', el', exs'⟩, fun v H' hy => ?_⟩
          obtain ⟨d, hd, x2, rs2, rv⟩ := hJ.yld i mb S H v H' h x rs ok hy
          rw [List.getElem?_eq_getElem h] at hd
          cases hd
          have dcs : Dd ∉ mb.cs := (rs.ban Dd hb).1
          refine ⟨mb, S, wipeD δ vs, _, δ1, rs2, re.mono x2, rv, eg, fun σ2 m2 H2 x3 rs3 re3 o3 => ⟨(o3.wipe his).trans (wipe_wipe σ vs), m2, S, δ1, rs3, re3, ?_⟩⟩
          rw [eb]
          intro b' m3 H3 x4 rs4 hb'
          subst hb'
          have x24 := (x2.trans x3).trans x4
          have d3 : Dd ∈ m3.no := x24.sub _ hb
          have h3 : H3 Dd = some (.lst av) := x24.keep _ _ dcs hH (fun _ => HO.noConfusion)
          cases b'
          · exact ⟨m3, S2, acc, ys, av, x.trans x24, rs4, re.mono x24, d3, h3, hav.mono x24, by omega, el, exs⟩
          · obtain ⟨y, S3, ey, el⟩ := R.bind_ok el
            have ey := R.nox_ok ey
            obtain ⟨ys', S4, el1, el2⟩ := R.bind_ok el
            cases el2
            refine ⟨m3, S2, δ1, rs4, re3.mono x4, ?_⟩
            rw [ey]
            intro w m4 H4 x5 rs5 rw5
            have x25 := x24.trans x5
            have d4 : Dd ∈ m4.no := x25.sub _ hb
            have h4 : H4 Dd = some (.lst av) := x25.keep _ _ dcs hH (fun _ => HO.noConfusion)
            have c4 := (rs5.ban Dd d4).1
            refine ⟨av, h4, by rw [← hav.length]; omega, m4, S3, acc ++ [y], ys', av ++ [w], (x.trans x25).updFresh hD (fun _ => HO.noConfusion), rs5.offban d4 (.inl ⟨_, rfl⟩), (re.mono x25).offban (.inr d4) c4, d4, upd_same,
              ((hav.mono x25).append (.cons rw5 .nil)).offban (.inr d4) c4, ?_, el1, by rw [exs]; simp⟩
            rw [List.length_append]; simp; omega
        · cases el
      · cases el
    · have hi' : i = s.ds.length := by omega
      subst hi'
      rw [List.drop_length] at el
      unfold lcL at el
      split at el
      · rename_i ok
        cases el
        refine .inl ⟨hJ.stop mb _ H x rs ok, ?_⟩
        have dn : Dd ∉ m1.no := fun z => by
          obtain ⟨u, hu, _⟩ := (rs1.ban Dd z).2
          rw [hD] at hu; cases hu
        have hsub : ∀ a o, a ∉ mb → H a = some o → a ∉ (⟨mb.cs, m1.no⟩ : Mm) := fun a o hn _ z => by
          rcases z with z | z
          · exact hn (.inl z)
          · exact hn (.inr (x.sub a z))
        refine fin _ ⟨mb.cs, m1.no⟩ H ⟨x.pre, fun _ z => z, fun _ z => .inl z, x.new, x.keep, x.there⟩ (RelS.reban (m := mb) (n := ⟨mb.cs, m1.no⟩) rs rfl hsub fun a z => rs.ban a (x.sub a z)) ?_
        rw [exs, List.append_nil]
        exact .lst ⟨hH, fun z => by
          rcases z with z | z
          · exact (rs.ban Dd hb).1 z
          · exact dn z⟩ (Rvs.reban (m := mb) (n := ⟨mb.cs, m1.no⟩) rfl hsub _ hav)
      · cases el
  · exact q1.elim
theorem pev_lc (hc : X.calm = true) (hN : X.N.Nodup) (hi : PIv X tg iter t) (ok : BlkOk X.N X.env.scope scope own) (his : ∀ i ∈ is, i ∈ own.map (·.2))
    (hg : ∀ (s : Shared) (H : Hp) (C : Addr) (cl : List (Str × Addr)) (fp : List Addr), PGc (X.blk s H scope (compEnvC scope cl C X.env) fp) is tg g)
    (ht : ∀ (s : Shared) (H : Hp) (C : Addr) (cl : List (Str × Addr)) (fp : List Addr), PTsv (X.blk s H scope (compEnvC scope cl C X.env) fp) ifs tt)
    (he : ∀ (s : Shared) (H : Hp) (C : Addr) (cl : List (Str × Addr)) (fp : List Addr), PEv (X.blk s H scope (compEnvC scope cl C X.env) fp) elt te) (hs : ∀ x, foldedSetIterable iter X.env x = pure x := by intro _; rfl) :
    PEv X (.ListComp elt [⟨tg, iter, ifs, 0⟩] scope pos) (dLc t g tt te (own.map (·.2))) := fun W tk =>
  PE.imp (pe_lc (g := LGc X.K is g) hc hN (hi W tk) ok (fun s H C cl fp => hg s H C cl fp) (fun s H C cl fp => ht s H C cl fp (fun _ _ _ _ => False) takes0) (fun s H C cl fp => he s H C cl fp (fun _ _ _ _ => False) takes0) hs) fun σ H Q h => tLc_of his h
/-- name = [..] on one line -/
theorem psv_setLc {j : Nat} {y : Str} {py spos : Pos} (hc : X.calm = true) (hN : X.N.Nodup) (hi : PIv X tg iter t) (ok : BlkOk X.N X.env.scope scope own) (his : ∀ i ∈ is, i ∈ own.map (·.2))
    (hg : ∀ (s : Shared) (H : Hp) (C : Addr) (cl : List (Str × Addr)) (fp : List Addr), PGc (X.blk s H scope (compEnvC scope cl C X.env) fp) is tg g)
    (ht : ∀ (s : Shared) (H : Hp) (C : Addr) (cl : List (Str × Addr)) (fp : List Addr), PTsv (X.blk s H scope (compEnvC scope cl C X.env) fp) ifs tt)
    (he : ∀ (s : Shared) (H : Hp) (C : Addr) (cl : List (Str × Addr)) (fp : List Addr), PEv (X.blk s H scope (compEnvC scope cl C X.env) fp) elt te)
    (hy : X.N[j]? = some y := by rfl) (hyl : X.env.scope.names.lookup y = some .local := by rfl) (hsw : swapsWith (.ListComp elt [⟨tg, iter, ifs, 0⟩] scope pos) (some (.Name y py)) spos.line X.env = pure true := by exact sw_true rfl rfl rfl (by decide +kernel))
    (hs : ∀ x, foldedSetIterable iter X.env x = pure x := by intro _; rfl) :
    PSv X (.Assign [.Name y py] (.ListComp elt [⟨tg, iter, ifs, 0⟩] scope pos) spos) (sAsg (dLc t g tt te (own.map (·.2))) (gNm j)) := fun W tk =>
  PS.imp (ps_setLc (g := LGc X.K is g) hc hN hy hyl hsw (hi W tk) ok (fun s H C cl fp => hg s H C cl fp) (fun s H C cl fp => ht s H C cl fp (fun _ _ _ _ => False) takes0) (fun s H C cl fp => he s H C cl fp (fun _ _ _ _ => False) takes0) hs) fun Dn σ H ⟨m, S, δ, rs, re, q⟩ => by
    have q' : LE X.K X.mg W (dLc t g tt te (own.map (·.2))) σ H (fun x H1 => gName j x σ H1 Dn.nx) :=
      le_ofR rs re q fun d S1 v m1 H1 x r1 re1 rv q1 => q1 _ m1 H1 .refl r1 (re1.set rv j)
    exact tLc_of his q'
end
end QB
set_option maxHeartbeats 4000000
namespace QB
open PySem PySem.Spec PyProof.Rows L2
/-! ### a def's end: its own cells are let go -/
mutual
def fzD (g : Nat → Option D) : D → Option D
  | .ref i => g i
  | .tup xs => (fzL g xs).map .tup
  | .lst xs => (fzL g xs).map .lst
  | .frz xs => (fzL g xs).map .frz
  | .dic ks xs => (fzL g xs).map (.dic ks)
  | .non => some .non
  | .bl b => some (.bl b)
  | .int i => some (.int i)
  | .str x => some (.str x)
  | .ty n => some (.ty n)
  | .exc _ _ _ _ _ => none
def fzL (g : Nat → Option D) : List D → Option (List D)
  | [] => some []
  | d :: ds => match fzD g d with
    | some e => (fzL g ds).map (e :: ·)
    | none => none
end
def fzO (g : Nat → Option D) : Ob → Option Ob
  | .lst ds => (fzL g ds).map .lst
  | .dic kvs => (fzL g (kvs.map (·.2))).map fun es => .dic ((kvs.map (·.1)).zip es)
def fzS (g : Nat → Option D) : Sto → Option Sto
  | [] => some []
  | u :: S => match fzO g u with
    | some u' => (fzS g S).map (u' :: ·)
    | none => none
def thaw (ρ : Nat → Option Nat) (S : Sto) : Nat → Nat → Option D
  | 0, i => (ρ i).map .ref
  | k + 1, i => match ρ i with
    | some j => some (.ref j)
    | none => (match S[i]? with
      | some (.lst ds) => (fzL (thaw ρ S k) ds).map .lst
      | some (.dic kvs) => (fzL (thaw ρ S k) (kvs.map (·.2))).map (.dic (kvs.map (·.1)))
      | none => none)
def rho (n i : Nat) : Option Nat := if i < n then some i else none
def rhoC (n r i : Nat) : Option Nat := if i < n then some i else if i = r then some n else none
def fzF (g : Nat → Option D) : List (Str × D) → Option (List (Str × D))
  | [] => some []
  | (f, d) :: fs => match fzD g d with
    | some e => (fzF g fs).map ((f, e) :: ·)
    | none => none
def fin (n : Nat) (o : Out) : R D := match o with
  | .nx _ S => match fzS (thaw (rho n) S 4) (S.take n) with
    | some S' => .ok .non S'
    | none => .stuck
  | .rt d S => match fzS (thaw (rho n) S 4) (S.take n), fzD (thaw (rho n) S 4) d with
    | some S', some d' => .ok d' S'
    | _, _ => .stuck
  | .ex c fs _ S => match fzS (thaw (rho n) S 4) (S.take n), fzF (thaw (rho n) S 4) fs with
    | some S', some fs' => .ex c fs' S'
    | _, _ => .stuck
  | _ => .stuck
/-- the list that is given back stays a cell -/
def finC (n : Nat) (o : Out) : R D := match o with
  | .rt (.ref i) S => if n ≤ i then (match fzS (thaw (rhoC n i) S 4) (S.take n), S[i]? with
    | some S', some u => (match fzO (thaw (rhoC n i) S 4) u with
      | some u' => .ok (.ref n) (S' ++ [u'])
      | none => .stuck)
    | _, _ => .stuck) else .stuck
  | _ => .stuck
section
variable {K : PySem.W.Frag} {m m' : Mm} {H H' : Hp} {S : Sto}
/-- m: the caller's, m1: the def's -/
structure Let (m m1 : Mm) (ρ : Nat → Option Nat) : Prop where
  mem : ∀ a, a ∈ m → a ∈ m1
  got : ∀ i j a, m1.cs[i]? = some a → ρ i = some j → m.cs[j]? = some a
  off : ∀ i a, m1.cs[i]? = some a → ρ i = none → a ∉ m
theorem Let.not {m1 : Mm} {ρ : Nat → Option Nat} (L : Let m m1 ρ) {a : Addr} (h : a ∉ m1) : a ∉ m := fun z => h (L.mem a z)
def Thaws (K : PySem.W.Frag) (m m1 : Mm) (H : Hp) (g : Nat → Option D) : Prop := ∀ i a d, m1.cs[i]? = some a → g i = some d → Rv K m H d (.ref a)
mutual
theorem fzD_ok {m1 : Mm} {g : Nat → Option D} {ρ : Nat → Option Nat} (L : Let m m1 ρ) (hg : Thaws K m m1 H g) : ∀ (d : D) {v : V} {e : D}, Rv K m1 H d v → fzD g d = some e → Rv K m H e v
  | .non, _, _, .non, h => by cases h; exact .non
  | .bl _, _, _, .bl _, h => by cases h; exact .bl _
  | .int _, _, _, .int _, h => by cases h; exact .int _
  | .str _, _, _, .str _, h => by cases h; exact .str _
  | .ty _, _, _, .ty _, h => by cases h; exact .ty _
  | .tup ds, _, _, .tup h1 r, h => by
    unfold fzD at h
    cases e : fzL g ds with
    | none => rw [e] at h; cases h
    | some es => rw [e] at h; cases h; exact .tup (h1.imp (fun h => ⟨h.1, L.not h.2⟩) id) (fzL_ok L hg ds r e)
  | .lst ds, _, _, .lst h1 r, h => by
    unfold fzD at h
    cases e : fzL g ds with
    | none => rw [e] at h; cases h
    | some es => rw [e] at h; cases h; exact .lst ⟨h1.1, L.not h1.2⟩ (fzL_ok L hg ds r e)
  | .frz ds, _, _, .frz h1 r, h => by
    unfold fzD at h
    cases e : fzL g ds with
    | none => rw [e] at h; cases h
    | some es => rw [e] at h; cases h; exact .frz (h1.imp (fun h => ⟨h.1, L.not h.2⟩) id) (fzL_ok L hg ds r e)
  | .dic ks ds, _, _, .dic h1 l r, h => by
    unfold fzD at h
    cases e : fzL g ds with
    | none => rw [e] at h; cases h
    | some es => rw [e] at h; cases h; exact .dic ⟨h1.1, L.not h1.2⟩ l (fzL_ok L hg ds r e)
  | .ref i, _, _, .ref h1, h => by unfold fzD at h; exact hg i _ _ h1 h
  | .exc _ _ _ _ _, _, _, _, h => by unfold fzD at h; cases h
theorem fzL_ok {m1 : Mm} {g : Nat → Option D} {ρ : Nat → Option Nat} (L : Let m m1 ρ) (hg : Thaws K m m1 H g) : ∀ (ds : List D) {vs : List V} {es : List D}, Rvs K m1 H ds vs → fzL g ds = some es → Rvs K m H es vs
  | [], _, _, .nil, h => by unfold fzL at h; cases h; exact .nil
  | d :: ds, _, _, .cons h1 r, h => by
    unfold fzL at h
    cases e : fzD g d with
    | none => rw [e] at h; cases h
    | some d' =>
      rw [e] at h
      cases e2 : fzL g ds with
      | none => rw [e2] at h; cases h
      | some es =>
        rw [e2] at h
        cases h
        exact .cons (fzD_ok L hg d h1 e) (fzL_ok L hg ds r e2)
end
theorem fzL_length {g : Nat → Option D} : ∀ {ds es : List D}, fzL g ds = some es → es.length = ds.length
  | [], _, h => by unfold fzL at h; cases h; rfl
  | d :: ds, _, h => by
    unfold fzL at h
    cases e : fzD g d with
    | none => rw [e] at h; cases h
    | some d' =>
      rw [e] at h
      cases e2 : fzL g ds with
      | none => rw [e2] at h; cases h
      | some es => rw [e2] at h; cases h; simp [fzL_length e2]
theorem thaw_ok {m1 : Mm} {ρ : Nat → Option Nat} (L : Let m m1 ρ) (rs : RelS K m1 S H) : ∀ k : Nat, Thaws K m m1 H (thaw ρ S k)
  | 0, i, a, d, h1, h2 => by
    unfold thaw at h2
    cases e : ρ i with
    | none => rw [e] at h2; cases h2
    | some j => rw [e] at h2; cases h2; exact .ref (L.got i j a h1 e)
  | k + 1, i, a, d, h1, h2 => by
    unfold thaw at h2
    cases e : ρ i with
    | some j => rw [e] at h2; cases h2; exact .ref (L.got i j a h1 e)
    | none =>
      rw [e] at h2
      have na := L.off i a h1 e
      cases hs : S[i]? with
      | none => rw [hs] at h2; cases h2
      | some u =>
        rw [hs] at h2
        have c := rs.cell i a u h1 hs
        cases u with
        | lst ds =>
          obtain ⟨vs, c1, c2⟩ := c
          cases e : fzL (thaw ρ S k) ds with
          | none => simp only [e] at h2; cases h2
          | some es => simp only [e] at h2; cases h2; exact .lst ⟨c1, na⟩ (fzL_ok L (thaw_ok L rs k) ds c2 e)
        | dic kvs =>
          obtain ⟨vs, c1, c2⟩ := c
          cases e : fzL (thaw ρ S k) (kvs.map (·.2)) with
          | none => simp only [e] at h2; cases h2
          | some es =>
            simp only [e] at h2; cases h2
            exact .dic ⟨c1, na⟩ (by rw [← c2.length]; simp) (fzL_ok L (thaw_ok L rs k) _ c2 e)
theorem fzO_ok {m1 : Mm} {g : Nat → Option D} {ρ : Nat → Option Nat} (L : Let m m1 ρ) (hg : Thaws K m m1 H g) {a : Addr} {u u' : Ob} (c : Cell K m1 H a u) (h : fzO g u = some u') : Cell K m H a u' := by
  cases u with
  | lst ds =>
    obtain ⟨vs, c1, c2⟩ := c
    simp only [fzO] at h
    cases e : fzL g ds with
    | none => rw [e] at h; cases h
    | some es => rw [e] at h; cases h; exact ⟨vs, c1, fzL_ok L hg ds c2 e⟩
  | dic kvs =>
    obtain ⟨vs, c1, c2⟩ := c
    simp only [fzO] at h
    cases e : fzL g (kvs.map (·.2)) with
    | none => rw [e] at h; cases h
    | some es =>
      rw [e] at h; cases h
      have l := fzL_length e
      have e1 : (((kvs.map (·.1)).zip es).map (·.1)) = kvs.map (·.1) := by rw [List.map_fst_zip]; simp at l; simp [l]
      have e2 : (((kvs.map (·.1)).zip es).map (·.2)) = es := by rw [List.map_snd_zip]; simp at l; simp [l]
      exact ⟨vs, by rw [e1]; exact c1, by rw [e2]; exact fzL_ok L hg _ c2 e⟩
theorem fzS_get {g : Nat → Option D} : ∀ {S S' : Sto}, fzS g S = some S' → S'.length = S.length ∧ ∀ (i : Nat) (u' : Ob), S'[i]? = some u' → ∃ u, S[i]? = some u ∧ fzO g u = some u'
  | [], _, h => by unfold fzS at h; cases h; exact ⟨rfl, fun i u h => by simp at h⟩
  | u :: S, _, h => by
    unfold fzS at h
    cases e : fzO g u with
    | none => rw [e] at h; cases h
    | some w =>
      rw [e] at h
      cases e2 : fzS g S with
      | none => rw [e2] at h; cases h
      | some S' =>
        rw [e2] at h
        cases h
        obtain ⟨l, q⟩ := fzS_get e2
        refine ⟨by simp [l], fun i u' hu => ?_⟩
        cases i with
        | zero => simp at hu; subst hu; exact ⟨u, rfl, e⟩
        | succ i => simpa using q i u' (by simpa using hu)
theorem fzS_cell {m1 : Mm} {g : Nat → Option D} {S' : Sto} {n : Nat} {ρ : Nat → Option Nat} (L : Let m m1 ρ) (rs : RelS K m1 S H) (hg : Thaws K m m1 H g) (h : fzS g (S.take n) = some S') (i : Nat) (a : Addr) (u' : Ob) (h1 : m1.cs[i]? = some a) (h2 : S'[i]? = some u') : Cell K m H a u' := by
  obtain ⟨l, q⟩ := fzS_get h
  obtain ⟨u, h3, h4⟩ := q i u' h2
  have hi : i < (S.take n).length := (List.getElem?_eq_some_iff.mp h3).1
  rw [List.getElem?_take_of_lt (by rw [List.length_take] at hi; omega)] at h3
  exact fzO_ok L hg (rs.cell i a u h1 h3) h4
theorem fzS_ok {m1 : Mm} {g : Nat → Option D} {S' : Sto} {ρ : Nat → Option Nat} (L : Let m m1 ρ) (hp : ∃ l, m1.cs = m.cs ++ l) (hb : ∀ a, a ∈ m.no → a ∈ m1.no) (rs : RelS K m1 S H) (hg : Thaws K m m1 H g) (h : fzS g (S.take m.cs.length) = some S') : RelS K m S' H := by
  obtain ⟨l1, e⟩ := hp
  have hl : m.cs.length ≤ S.length := by rw [← rs.len, e]; simp
  refine ⟨by rw [(fzS_get h).1, List.length_take]; omega, by have := rs.nd; rw [e] at this; exact (List.nodup_append.mp this).1, fun i a u' h1 h2 => ?_, fun a ha => ⟨fun z => (rs.ban a (hb a ha)).1 (by rw [e]; exact List.mem_append_left _ z), (rs.ban a (hb a ha)).2⟩, rs.tabs⟩
  have hi : i < m.cs.length := (List.getElem?_eq_some_iff.mp h1).1
  exact fzS_cell L rs hg h i a u' (by rw [e, List.getElem?_append_left hi]; exact h1) h2
theorem fzF_ok {m1 : Mm} {g : Nat → Option D} {ρ : Nat → Option Nat} (L : Let m m1 ρ) (hg : Thaws K m m1 H g) {fv : List (Str × V)} : ∀ {fs es : List (Str × D)}, (Flds K m1 H fs fv) → fzF g fs = some es → Flds K m H es fv
  | [], _, hf, h => by unfold fzF at h; cases h; intro f d q; cases q
  | (f0, d0) :: fs, _, hf, h => by
    unfold fzF at h
    cases e : fzD g d0 with
    | none => rw [e] at h; cases h
    | some d1 =>
      rw [e] at h
      cases e2 : fzF g fs with
      | none => rw [e2] at h; cases h
      | some es =>
        rw [e2] at h
        cases h
        -- the fields behind the first, only those not hidden by it
        have key : ∀ (fs es : List (Str × D)), fzF g fs = some es → ∀ f d, es.lookup f = some d → ∃ d', fs.lookup f = some d' ∧ fzD g d' = some d := by
          intro fs
          induction fs with
          | nil => intro es h f d q; unfold fzF at h; cases h; cases q
          | cons p fs ih =>
            intro es h f d q
            obtain ⟨f1, d1⟩ := p
            unfold fzF at h
            cases e : fzD g d1 with
            | none => rw [e] at h; cases h
            | some d2 =>
              rw [e] at h
              cases e2 : fzF g fs with
              | none => rw [e2] at h; cases h
              | some es2 =>
                rw [e2] at h
                cases h
                rw [List.lookup_cons] at q
                rw [List.lookup_cons]
                cases hb : (f == f1) with
                | true => simp only [hb] at q ⊢; cases q; exact ⟨d1, rfl, e⟩
                | false => simp only [hb] at q ⊢; exact ih es2 e2 f d q
        intro f d q
        obtain ⟨d', q1, q2⟩ := key ((f0, d0) :: fs) ((f0, d1) :: es) (by unfold fzF; rw [e, e2]; rfl) f d q
        obtain ⟨v, v1, v2⟩ := hf f d' q1
        exact ⟨v, v1, fzD_ok L hg d' v2 q2⟩
theorem Ext.mem {m1 : Mm} {H1 : Hp} (x : Ext m H m1 H1) (a : Addr) (h : a ∈ m) : a ∈ m1 := by
  obtain ⟨l, e⟩ := x.pre
  rcases h with h | h
  · exact .inl (by rw [e]; exact List.mem_append_left _ h)
  · exact .inr (x.sub a h)
theorem above {m1 : Mm} {H1 : Hp} (x : Ext m H m1 H1) (rs : RelS K m1 S H1) {i : Nat} {a : Addr} (h : m1.cs[i]? = some a) (hi : m.cs.length ≤ i) : a ∉ m := fun z => by
  obtain ⟨l, e⟩ := x.pre
  rcases z with z | z
  · obtain ⟨j, hj⟩ := List.getElem?_of_mem z
    have hj' := (List.getElem?_eq_some_iff.mp hj).1
    have h2 : m1.cs[j]? = some a := by rw [e, List.getElem?_append_left hj']; exact hj
    obtain ⟨l1, e1⟩ := List.getElem?_eq_some_iff.mp h
    obtain ⟨l2, e2⟩ := List.getElem?_eq_some_iff.mp h2
    have := (List.getElem_inj rs.nd).mp (e1.trans e2.symm)
    omega
  · exact (rs.ban a (x.sub a z)).1 (List.mem_of_getElem? h)
theorem Ext.let {m1 : Mm} {H1 : Hp} (x : Ext m H m1 H1) (rs : RelS K m1 S H1) : Let m m1 (rho m.cs.length) := by
  refine ⟨x.mem, fun i j a h1 h2 => ?_, fun i a h1 h2 => ?_⟩
  · unfold rho at h2
    split at h2
    · rename_i hi
      cases h2
      obtain ⟨l, e⟩ := x.pre
      rw [e, List.getElem?_append_left hi] at h1; exact h1
    · cases h2
  · unfold rho at h2
    split at h2
    · cases h2
    · exact above x rs h1 (by omega)
theorem Ext.letC {m1 : Mm} {H1 : Hp} (x : Ext m H m1 H1) (rs : RelS K m1 S H1) {r : Nat} {b : Addr} (hr : m.cs.length ≤ r) (hb : m1.cs[r]? = some b) : Let (m.add b) m1 (rhoC m.cs.length r) := by
  refine ⟨fun a h => ?_, fun i j a h1 h2 => ?_, fun i a h1 h2 => ?_⟩
  · rcases h with h | h
    · rcases List.mem_append.mp h with h | h
      · exact x.mem a (.inl h)
      · rw [List.mem_singleton.mp h]; exact .inl (List.mem_of_getElem? hb)
    · exact x.mem a (.inr h)
  · unfold rhoC at h2
    split at h2
    · rename_i hi
      cases h2
      obtain ⟨l, e⟩ := x.pre
      rw [e, List.getElem?_append_left hi] at h1
      show (m.cs ++ [b])[i]? = some a
      rw [List.getElem?_append_left hi]; exact h1
    · split at h2
      · rename_i e
        subst e
        cases h2
        rw [hb] at h1; cases h1
        show (m.cs ++ [b])[m.cs.length]? = some b
        exact List.getElem?_concat_length
      · cases h2
  · unfold rhoC at h2
    split at h2
    · cases h2
    · split at h2
      · cases h2
      · rename_i hi hne
        have na := above x rs h1 (by omega)
        intro z
        rcases z with z | z
        · rcases List.mem_append.mp z with z | z
          · exact na (.inl z)
          · rw [List.mem_singleton.mp z] at h1
            obtain ⟨l1, e1⟩ := List.getElem?_eq_some_iff.mp h1
            obtain ⟨l2, e2⟩ := List.getElem?_eq_some_iff.mp hb
            exact hne ((List.getElem_inj rs.nd).mp (e1.trans e2.symm))
        · exact na (.inr z)
theorem Ext.back {m1 : Mm} {H1 : Hp} (x : Ext m H m1 H1) : Ext m H m H1 := ⟨⟨[], by simp⟩, fun _ h => h, fun _ h => .inl h, fun _ h => .inl h, x.keep, x.there⟩
variable {mg : Str → Option Value}
theorem fin_ok {n : Nat} {o : Out} {Q : VK} {E : XK} (hn : n = m.cs.length) (h : OkR K mg (Rv K) m H (fin n o) Q E) : OkS K mg (fun c d _ H' => E c d H') m H o { nx := fun _ H' => Q .non H', rt := Q } := by
  subst hn
  cases o with
  | nx δ S =>
    unfold fin at h
    intro σ m1 H1 x rs re
    simp only at h
    split at h
    · rename_i S' e
      exact h _ m H1 x.back (fzS_ok (x.let rs) x.pre x.sub rs (thaw_ok (x.let rs) rs 4) e) .non
    · exact h.elim
  | rt d S =>
    unfold fin at h
    intro v m1 H1 x rs rv
    simp only at h
    split at h
    · rename_i S' d' e e'
      exact h _ m H1 x.back (fzS_ok (x.let rs) x.pre x.sub rs (thaw_ok (x.let rs) rs 4) e) (fzD_ok (x.let rs) (thaw_ok (x.let rs) rs 4) d rv e')
    · exact h.elim
  | ex c fs δ S =>
    unfold fin at h
    intro C dd fv σ m1 H1 g x rs re hd hf
    simp only at h
    split at h
    · rename_i S' fs' e e'
      exact h C dd fv m H1 g x.back (fzS_ok (x.let rs) x.pre x.sub rs (thaw_ok (x.let rs) rs 4) e) hd (fzF_ok (x.let rs) (thaw_ok (x.let rs) rs 4) hf e')
    · exact h.elim
  | bk δ S => exact h.elim
  | ct δ S => exact h.elim
  | stuck => exact h.elim
theorem finC_ok {n : Nat} {o : Out} {Q : VK} {E : XK} (hn : n = m.cs.length) (h : OkR K mg (Rv K) m H (finC n o) Q E) : OkS K mg (fun c d _ H' => E c d H') m H o { nx := fun _ H' => Q .non H', rt := Q } := by
  subst hn
  unfold finC at h
  split at h
  · rename_i r S
    split at h
    · rename_i hi
      intro v m1 H1 x rs rv
      split at h
      · rename_i S' u e e'
        split at h
        · rename_i u' e2
          cases rv with
          | @ref _ a ha =>
            have L := x.letC rs hi ha
            have T := thaw_ok L rs 4
            have c := fzO_ok L T (rs.cell r a u ha e') e2
            have na := above x rs ha hi
            have hl : S'.length = m.cs.length := by
              have e3 : m.cs.length ≤ S.length := by
                obtain ⟨l, e4⟩ := x.pre
                rw [← rs.len, e4]; simp
              rw [(fzS_get e).1, List.length_take]; omega
            have nd : m.cs.Nodup := by
              obtain ⟨l, e4⟩ := x.pre
              have := rs.nd; rw [e4] at this; exact (List.nodup_append.mp this).1
            have x2 : Ext m H (m.add a) H1 := ⟨⟨[a], rfl⟩, fun _ h => h, fun _ h => .inl h, fun b hb => by
              rcases List.mem_append.mp hb with hb | hb
              · exact .inl hb
              · rw [List.mem_singleton.mp hb]; exact x.new a (List.mem_of_getElem? ha), x.keep, x.there⟩
            refine h _ (m.add a) H1 x2 ⟨by simp [Mm.add, hl], ?_, fun i b w h1 h2 => ?_, fun b hb => ⟨fun z => ?_, (rs.ban b (x.sub b hb)).2⟩, rs.tabs⟩ (.ref (by unfold Mm.add; exact List.getElem?_concat_length))
            · show (m.cs ++ [a]).Nodup
              rw [List.nodup_append]
              exact ⟨nd, by simp, fun b h b' h' => by rw [List.mem_singleton] at h'; subst h'; rintro rfl; exact na (.inl h)⟩
            · by_cases hi2 : i < m.cs.length
              · have h1' : (m.cs ++ [a])[i]? = some b := h1
                rw [List.getElem?_append_left hi2] at h1'
                rw [List.getElem?_append_left (by omega)] at h2
                obtain ⟨l, e4⟩ := x.pre
                exact fzS_cell L rs T e i b w (by rw [e4, List.getElem?_append_left hi2]; exact h1') h2
              · have hi3 : i = m.cs.length := by
                  have := (List.getElem?_eq_some_iff.mp h1).1
                  simp [Mm.add] at this; omega
                subst hi3
                have h1' : (m.cs ++ [a])[m.cs.length]? = some b := h1
                rw [List.getElem?_concat_length] at h1'
                rw [← hl, List.getElem?_concat_length] at h2
                cases h1'; cases h2
                exact c
            · rcases List.mem_append.mp z with z | z
              · exact (rs.ban b (x.sub b hb)).1 (by obtain ⟨l, e4⟩ := x.pre; rw [e4]; exact List.mem_append_left _ z)
              · rw [List.mem_singleton.mp z] at hb
                exact (rs.ban a (x.sub a hb)).1 (List.mem_of_getElem? ha)
        · exact h.elim
      · exact h.elim
    · exact h.elim
  · exact h.elim
end
/-! ### the def -/
abbrev XC (P : Program) (w : World) (K : PySem.W.Frag) (mg : Str → Option Value) (base : Heap) (N : List Str) (qual : Str) (scope : Scope) (f : Addr) (cd : Value) (A : Around) (outer : List Env) (s : Shared) (H : Hp) (E : XK) : Cx :=
  cxOf (L2.CX P w) P w K mg base N qual scope f cd A outer s H E
def slots (N : List Str) (ds : List D) : Sl := ds.map some ++ List.replicate (N.length - ds.length) none
def dDef (fi : Nat → Out → R D) (N : List Str) (n : Nat) (t : DS) : DFn := fun ds S => if ds.length = n then fi S.length (t (slots N ds) S) else .stuck
def FinOk (fi : Nat → Out → R D) : Prop := ∀ {K : PySem.W.Frag} {m : Mm} {H : Hp} {mg : Str → Option Value} {n : Nat} {o : Out} {Q : VK} {E : XK}, n = m.cs.length → OkR K mg (Rv K) m H (fi n o) Q E → OkS K mg (fun c d _ H' => E c d H') m H o { nx := fun _ H' => Q .non H', rt := Q }
theorem finOk : FinOk fin := fun h1 h2 => fin_ok h1 h2
theorem finOkC : FinOk finC := fun h1 h2 => finC_ok h1 h2
theorem relE_start {K : PySem.W.Frag} {m : Mm} {H : Hp} {N : List Str} {ds : List D} {vs : List V} (r : Rvs K m H ds vs) : RelE K m H (slots N ds) (L2.start N vs) := by
  refine ⟨by simp [slots, L2.start, r.length], fun i d h => ?_⟩
  unfold slots at h
  by_cases hi : i < ds.length
  · rw [List.getElem?_append_left (by simpa using hi), List.getElem?_map] at h
    cases e : ds[i]? with
    | none => rw [e] at h; cases h
    | some d' =>
      rw [e] at h; cases h
      obtain ⟨v, h1, h2⟩ := r.get e
      refine ⟨v, ?_, h2⟩
      unfold L2.start
      rw [List.getElem?_append_left (by rw [List.length_map, ← r.length]; exact hi), List.getElem?_map, h1]
      rfl
  · rw [List.getElem?_append_right (by simpa using hi), List.getElem?_replicate] at h
    split at h <;> cases h
theorem fnv_def {P : Program} {w : World} {K : PySem.W.Frag} {mg : Str → Option Value} {base : Heap} {st : Stmt} {x : Str} {dvs : List V} {N ps : List Str} {k : Nat} {f : Addr} {fd : FuncData} {t : DS} {fi : Nat → Out → R D} (F : FunD K x x (defArgs st) (defBody st) (defScope st) dvs [] f fd) (hm : mg x = some (.ref f))
    (Sc : FnScope N ps (defScope st)) (hfi : FinOk fi)
    (hb : ∀ (cd : Value) (A : Around) (outer : List Env) (s : Shared) (H : Hp) (E : XK), Room k (A.deeper (envOfC x (defScope st) s.heap.objs.size f cd)) → PSsv (XC P w K mg base N x (defScope st) f cd A outer s H E) (defBody st) t) :
    FnV P w K mg base st x dvs ps (k + 1) (dDef fi N ps.length t) := by
  refine ⟨f, fd, F.ok Sc (fun vs H Q E h => h.1) (fun cd A outer s H vs Q E hr h => ?_), hm, F⟩
  refine ⟨_, hb cd A outer s H E hr (fun c d _ H' => E c d H') (takes_of rfl rfl rfl rfl), ?_⟩
  obtain ⟨hl, m, S, ds, rs, r, q⟩ := h
  refine ⟨m, S, slots N ds, rs, relE_start r, ?_⟩
  unfold dDef at q
  split at q
  · rw [← rs.len] at q
    exact hfi rfl q
  · exact q.elim
theorem fnv_stuck {P : Program} {w : World} {K : PySem.W.Frag} {mg : Str → Option Value} {base : Heap} {st : Stmt} {x : Str} {dvs : List V} {ps : List Str} {k : Nat} {f : Addr} {fd : FuncData} (F : FunD K x x (defArgs st) (defBody st) (defScope st) dvs [] f fd) (hm : mg x = some (.ref f)) :
    FnV P w K mg base st x dvs ps k (fun _ _ => .stuck) :=
  ⟨f, fd, ⟨fun vs H Q E h => h.1, fun A outer s H args us vs Q E hr e0 hb r h => by obtain ⟨_, m, S, ds, _, _, q⟩ := h; exact q.elim⟩, hm, F⟩
theorem FnV.mono {P : Program} {w : World} {K : PySem.W.Frag} {mg : Str → Option Value} {base : Heap} {st : Stmt} {x : Str} {dvs : List V} {ps : List Str} {j k : Nat} {F : DFn} (G : FnV P w K mg base st x dvs ps j F) (h : j ≤ k) : FnV P w K mg base st x dvs ps k F := by
  obtain ⟨f, fd, a, b, c⟩ := G.ex
  exact ⟨f, fd, a.mono h, b, c⟩
end QB
set_option maxHeartbeats 4000000
namespace QB
open PySem PySem.Spec PyProof.Rows L2
/-! ### own exception classes over ValueError, two fields -/
def oexB (K : PySem.W.Frag) (C : Addr) : Bool := (match K.lookup C with
  | some ⟨.type "type", _, .cls cd, sl⟩ => (match cd.mro, sl.toList with
    | .ref C' :: bm, [_, _, _, _, some (.builtin n), _] => C' == C && n == "ValueError.__new__" && !cd.hasDel && cd.hasDict && PySem.HandSPX.refsVE bm
    | _, _ => false)
  | _ => false) && (decide (PySem.W.findIn K (.ref C) "__setattr__" = some (some (.builtin "object.__setattr__"))) && (decide (PySem.W.subIn K (.ref C) (.type "BaseException") = some true) &&
    (decide (PySem.W.typeIn K (.ref C) = some (.type "type")) && PySem.W.keepIn K (.ref C))))
theorem and_t {a b : Bool} (h : (a && b) = true) : a = true ∧ b = true := by simpa using h
theorem oexB_ok {K : PySem.W.Frag} {C : Addr} (h : oexB K C = true) : OexC K C := by
  unfold oexB at h
  obtain ⟨q, h⟩ := and_t h
  obtain ⟨h1, h⟩ := and_t h
  obtain ⟨h2, h⟩ := and_t h
  obtain ⟨h3, h4⟩ := and_t h
  refine ⟨?_, of_decide_eq_true h1, of_decide_eq_true h2, of_decide_eq_true h3, h4⟩
  split at q
  · rename_i dd cd sl ho
    split at q
    · rename_i C' bm k0 k1 k2 k3 n k5 hm hs
      simp only [Bool.and_eq_true, beq_iff_eq, Bool.not_eq_true'] at q
      obtain ⟨⟨⟨⟨rfl, rfl⟩, hdel⟩, hdct⟩, ht⟩ := q
      obtain ⟨nm, bs, mro, ns, qn, hd, sn, sub, ab, col, del⟩ := cd
      dsimp only at hm hdel hdct
      subst hm hdel hdct
      have hsl : sl = #[k0, k1, k2, k3, some (.builtin "ValueError.__new__"), k5] := by
        obtain ⟨l⟩ := sl
        simp only at hs
        rw [hs]
      subst hsl
      exact ⟨nm, qn, ns, bs, bm, sn, sub, ab, col, dd, k0, k1, k2, k3, k5, ho, ht⟩
    · cases q
  · cases q
def mAddr (K : PySem.W.Frag) (C : Addr) : Addr := match PySem.W.findIn K (.ref C) "__init__" with
  | some (some (.ref a)) => a
  | _ => 0
/-- the class c, its fields: what the head tells -/
def ecB (K : PySem.W.Frag) (c : Str) (fs : List Str) : Bool := oexB K (He.ga K c) && (xfB K (He.ga K c) && (decide (PySem.W.findIn K (.ref (He.ga K c)) "__init__" = some (some (.ref (He.ma K (He.ga K c) "__init__")))) &&
  (decide (PySem.W.typeIn K (.ref (He.ma K (He.ga K c) "__init__")) = some (.type "function")) && fs.all fun f => decide (PySem.W.findIn K (.ref (He.ga K c)) f = some none))))
/-- a class as the walk needs it -/
structure EcV (P : Program) (w : World) (K : PySem.W.Frag) (mg : Str → Option Value) (base : Heap) (c : Str) (C : Addr) (f1 f2 : Str) (k : Nat) : Prop where
  at_ : mg c = some (.ref C)
  oex : OexC K C
  xf : XfC K C
  n1 : PySem.W.findIn K (.ref C) f1 = some none
  n2 : PySem.W.findIn K (.ref C) f2 = some none
  ex : ∃ fI fd, PySem.W.findIn K (.ref C) "__init__" = some (some (.ref fI)) ∧ PySem.W.typeIn K (.ref fI) = some (.type "function") ∧
    FnOk P w K mg base (L2.CX P w) k fI fd ["self", f1, f2] (fun vs H Q _ => ∃ a y1 y2, vs = [.ref a, y1, y2] ∧ H a = some (exo a C none) ∧ ∀ dx, H dx = none → dx ≠ a → Q .non (upd (upd (upd H dx (exd dx [(f1, y1)])) a (exo a C (some dx))) dx (exd dx [(f2, y2), (f1, y1)]))) ∧
    Binds K fd ["self", f1, f2] []
def initSt (st : Stmt) : Stmt := match st with
  | .ClassDef (body := b) .. => b.getD 0 (.Pass ⟨0, 0, 0, 0⟩)
  | _ => .Pass ⟨0, 0, 0, 0⟩
/-- __init__(self, f1, f2): self.f1 = f1; self.f2 = f2 -/
def initBd (f1 f2 : Str) (p1 p2 p3 p4 p5 p6 p7 p8 : Pos) : List Stmt := [.Assign [.Attribute (.Name "self" p1) f1 p2] (.Name f1 p3) p4, .Assign [.Attribute (.Name "self" p5) f2 p6] (.Name f2 p7) p8]
theorem ecV_of {P : Program} {w : World} {K : PySem.W.Frag} {mg : Str → Option Value} {base : Heap} {st : Stmt} {c q : Str} {C fI : Addr} {f1 f2 : Str} {fd : FuncData} {p1 p2 p3 p4 p5 p6 p7 p8 : Pos} (hm : mg c = some (.ref C)) (T : OexC K C) (xf : XfC K C)
    (n1 : PySem.W.findIn K (.ref C) f1 = some none) (n2 : PySem.W.findIn K (.ref C) f2 = some none) (hi : PySem.W.findIn K (.ref C) "__init__" = some (some (.ref fI))) (ht : PySem.W.typeIn K (.ref fI) = some (.type "function"))
    (F : FunD K "__init__" q (defArgs (initSt st)) (defBody (initSt st)) (defScope (initSt st)) [] [] fI fd) (S : FnScope ["self", f1, f2] ["self", f1, f2] (defScope (initSt st))) (hbd : defBody (initSt st) = initBd f1 f2 p1 p2 p3 p4 p5 p6 p7 p8)
    (hsc : defScope (initSt st) = ⟨.function, [("self", .local), (f1, .local), (f2, .local)], false, false, []⟩) (hf1 : (f1 == ("__debug__" : Str)) = false) (hf2 : (f2 == ("__debug__" : Str)) = false) (hc1 : (f1 == ("__classdict__" : Str)) = false) (hc2 : (f2 == ("__classdict__" : Str)) = false)
    (hv1 : (defScope (initSt st)).names.lookup f1 = some .local) (hv2 : (defScope (initSt st)).names.lookup f2 = some .local)
    (hB : Binds K fd ["self", f1, f2] []) : EcV P w K mg base c C f1 f2 2 := by
  refine ⟨hm, T, xf, n1, n2, fI, fd, hi, ht, ?_, hB⟩
  refine F.ok S (fun vs H Q E h => ?_) (fun cdv A outer s H vs Q E hr h => ?_)
  · obtain ⟨a, y1, y2, rfl, _⟩ := h
    rfl
  · rw [hbd]
    refine ⟨_, pss_cons (ps_ost (pe_var (i := 0) rfl (.inl (by rw [hsc] at *; rfl))) (pe_var (i := 1) rfl (.inl hv1) hf1 hc1)) (pss_one (ps_ost (pe_var (i := 0) rfl (.inl (by rw [hsc] at *; rfl))) (pe_var (i := 2) rfl (.inl hv2) hf2 hc2))), ?_⟩
    obtain ⟨a, y1, y2, rfl, ha, hQ⟩ := h
    refine ⟨y1, rfl, .ref a, rfl, a, C, rfl, T, n1, .inl ⟨ha, fun dx hdx hne => ?_⟩⟩
    refine ⟨y2, rfl, .ref a, rfl, a, C, rfl, T, n2, .inr ⟨dx, [(f1, y1)], upd_same, by rw [upd_ne hne]; exact upd_same, by simp, hQ dx hdx hne⟩⟩
/-! ### raise -/
def sRaise (c f1 f2 : Str) (ts : DA) : DS := fun δ S => match ts δ S with
  | .ok [d1, d2] S1 => .ex c [(f1, d1), (f2, d2)] δ S1
  | .ex c' fs S1 => .ex c' fs δ S1
  | _ => .stuck
section
variable {X : Cx} {c f1 f2 : Str} {C : Addr} {k : Nat} {e : Expr} {es : List Expr} {ts : DA} {p pos pos' : Pos}
theorem psv_raise (G : EcV X.prog X.w X.K X.mg X.base c C f1 f2 k) (hc : X.calm = true) (hr : Room (k + 1) X.A) (hg : Gl X c) (hne : f1 ≠ f2) (ha : PAv X (e :: es) ts) (hdb : (c == ("__debug__" : Str)) = false := by decide)
    (he : starEach (e :: es) X.env = (false, eval e X.env) :: starEach es X.env := by rfl) (hpl : (backTo pos (starEach es X.env)).any (·.1) = false := by rfl) :
    PSv X (.Raise (some (.Call (.Name c p) (e :: es) [] pos)) none pos') (sRaise c f1 f2 ts) := fun W tk => by
  obtain ⟨fI, fd, hi, ht, hF, hB⟩ := G.ex
  refine PS.imp (ps_raise hc tk (pmk_oex (dvs := []) G.oex hi ht hF hr hB .nil (passes_call tk fun _ _ _ _ z => z.elim) hg G.at_ (ha W tk) hdb he hpl)) fun Dn σ H ⟨m, S, δ, rs, re, q⟩ => ?_
  unfold sRaise at q
  refine ⟨m, S, δ, rs, re, ?_⟩
  cases et : ts δ S with
  | stuck => rw [et] at q; exact q.elim
  | ex c' fs S1 =>
    rw [et] at q
    exact fun C' dd fv m' H' g x r1 hd hf => q C' dd fv σ m' H' g x r1 (re.mono x) hd hf
  | ok ds S1 =>
    rw [et] at q
    intro vs m1 H1 x rs1 rv
    rcases ds with _ | ⟨d1, _ | ⟨d2, _ | ⟨d3, ds⟩⟩⟩
    · exact q.elim
    · exact q.elim
    · cases rv with
      | @cons _ y1 _ _ r1 rv =>
        cases rv with
        | @cons _ y2 _ _ r2 rv =>
          cases rv
          refine ⟨by simp, fun a haN => ⟨a, y1, y2, rfl, upd_same, fun dx hdx hne' => ⟨rfl, ?_⟩⟩⟩
          rw [upd_ne hne'] at hdx
          refine ⟨dx, [(f2, y2), (f1, y1)], by rw [upd_ne (Ne.symm hne')]; exact upd_same, upd_same, hdx, ?_⟩
          have eH : upd (del (upd (upd (upd (upd H1 a (exo a C none)) dx (exd dx [(f1, y1)])) a (exo a C (some dx))) dx (exd dx [(f2, y2), (f1, y1)])) a) dx (.xd [(f2, y2), (f1, y1)]) = upd H1 dx (.xd [(f2, y2), (f1, y1)]) := by
            funext b
            by_cases e1 : b = dx
            · subst e1; rw [upd_same, upd_same]
            · rw [upd_ne e1, upd_ne e1]
              by_cases e2 : b = a
              · subst e2; rw [del_same]; exact haN.symm
              · rw [del_ne e2, upd_ne e1, upd_ne e2, upd_ne e1, upd_ne e2]
          rw [eH]
          obtain ⟨x2, rs2⟩ := rs1.upd hdx (.xd [(f2, y2), (f1, y1)])
          refine q C dx [(f2, y2), (f1, y1)] σ m1 _ G.at_ (x.trans x2) rs2 (re.mono (x.trans x2)) upd_same fun f d h => ?_
          by_cases h1 : f = f1
          · subst h1
            rw [List.lookup_cons_self] at h
            cases h
            have hb : (f == f2) = false := by
              cases hq : (f == f2) with
              | false => rfl
              | true => exact absurd (eq_of_beq hq) hne
            exact ⟨y1, by rw [List.lookup_cons, hb]; simp only; rw [List.lookup_cons_self], Rv.mono x2 _ r1⟩
          · have hb : (f == f1) = false := by
              cases hq : (f == f1) with
              | false => rfl
              | true => exact absurd (eq_of_beq hq) h1
            rw [List.lookup_cons, hb] at h
            simp only at h
            by_cases h2 : f = f2
            · subst h2
              rw [List.lookup_cons_self] at h
              cases h
              exact ⟨y2, by rw [List.lookup_cons_self], Rv.mono x2 _ r2⟩
            · have hb2 : (f == f2) = false := by
                cases hq : (f == f2) with
                | false => rfl
                | true => exact absurd (eq_of_beq hq) h2
              rw [List.lookup_cons, hb2] at h
              cases h
    · exact q.elim
end
end QB
set_option maxHeartbeats 4000000
namespace QB
open PySem PySem.Spec PyProof.Rows L2
/-! ### try .. except C as n: -/
def Out.clr (i : Nat) (o : Out) : Out := match o with
  | .nx δ S => .nx (δ.set i none) S
  | .bk δ S => .bk (δ.set i none) S
  | .ct δ S => .ct (δ.set i none) S
  | .rt d S => .rt d S
  | _ => .stuck
def Out.nox (o : Out) : Out := match o with
  | .ex _ _ _ _ => .stuck
  | o => o
def mtL (mt : List (Str × Bool)) (c : Str) : Option Bool := mt.lookup c
def sTryAs (mt : List (Str × Bool)) (i : Nat) (ts : Nat → Nat → Str → DS) (tb : DS) : DS := fun δ S => match tb δ S with
  | .ex c fs δ1 S1 => (match mtL mt c with
    | some true => if (fs.map (·.1)).Nodup then (ts 0 0 c (δ1.set i (some (.exc 0 0 c (fs.map (·.1)) (fs.map (·.2))))) S1).clr i else .stuck
    | some false => .ex c fs δ1 S1
    | none => .stuck)
  | o => o
def sTry0 (mt : List (Str × Bool)) (ts : DS) (tb : DS) : DS := fun δ S => match tb δ S with
  | .ex c fs δ1 S1 => (match mtL mt c with
    | some true => (ts δ1 S1).nox
    | some false => .ex c fs δ1 S1
    | none => .stuck)
  | o => o
/-- the suite does not look at where the exception lies -/
def IndX (i : Nat) (ts : Nat → Nat → Str → DS) : Prop := ∀ (a dd : Nat) (c : Str) (ks : List Str) (ds : List D) (δ : Sl) (S : Sto), (ts a dd c (δ.set i (some (.exc a dd c ks ds))) S).clr i = (ts 0 0 c (δ.set i (some (.exc 0 0 c ks ds))) S).clr i
def Mts (K : PySem.W.Frag) (mg : Str → Option Value) (Cc : Value) (mt : List (Str × Bool)) : Prop := ∀ p ∈ mt, ∀ C, mg p.1 = some (.ref C) → PySem.W.exmOne K (.ref C) Cc = some p.2
theorem mtL_mem {c : Str} {b : Bool} : ∀ {mt : List (Str × Bool)}, mtL mt c = some b → (c, b) ∈ mt
  | [], h => by cases h
  | (x, y) :: mt, h => by
    unfold mtL at h
    rw [List.lookup_cons] at h
    cases hb : (c == x) with
    | true =>
      rw [hb] at h
      cases h
      rw [eq_of_beq hb]
      exact List.mem_cons_self
    | false =>
      rw [hb] at h
      exact List.mem_cons_of_mem _ (mtL_mem h)
section
variable {K : PySem.W.Frag} {mg : Str → Option Value} {m m' : Mm} {H H' : Hp} {S : Sto} {δ : Sl} {σ : L2.St} {W : WX} {Dn : Ends}
theorem RelE.clr (r : RelE K m H δ σ) (i : Nat) : RelE K m H (δ.set i none) (σ.set i none) := by
  refine ⟨by simp [r.len], fun j d h => ?_⟩
  by_cases e : i = j
  · subst e
    by_cases hi : i < δ.length
    · rw [List.getElem?_set_self hi] at h; cases h
    · rw [List.getElem?_eq_none (by simpa using hi)] at h; cases h
  · rw [List.getElem?_set_ne e] at h
    obtain ⟨v, h1, h2⟩ := r.val j d h
    exact ⟨v, by rw [List.getElem?_set_ne e]; exact h1, h2⟩
theorem okS_clr {o : Out} {i : Nat} (h : OkS K mg W m H (o.clr i) Dn) : OkS K mg (fun _ _ _ _ => False) m H o { nx := fun σ' H' => Dn.nx (σ'.set i none) H', rt := Dn.rt, bk := fun σ' H' => Dn.bk (σ'.set i none) H', ct := fun σ' H' => Dn.ct (σ'.set i none) H' } := by
  cases o with
  | nx δ S => exact fun σ m' H' x rs re => h _ m' H' x rs (re.clr i)
  | bk δ S => exact fun σ m' H' x rs re => h _ m' H' x rs (re.clr i)
  | ct δ S => exact fun σ m' H' x rs re => h _ m' H' x rs (re.clr i)
  | rt d S => exact h
  | ex c fs δ S => exact h.elim
  | stuck => exact h.elim
theorem okS_nox {o : Out} (h : OkS K mg W m H o.nox Dn) : OkS K mg (fun _ _ _ _ => False) m H o Dn := by
  cases o with
  | ex c fs δ S => exact h.elim
  | nx δ S => exact h
  | bk δ S => exact h
  | ct δ S => exact h
  | rt d S => exact h
  | stuck => exact h
theorem flds_vals {fv : List (Str × V)} : ∀ {fs : List (Str × D)}, (fs.map (·.1)).Nodup → Flds K m H fs fv → ∃ vs, Rvs K m H (fs.map (·.2)) vs ∧ (fs.map (·.1)).length = vs.length ∧ ∀ p, p ∈ (fs.map (·.1)).zip vs → fv.lookup p.1 = some p.2
  | [], _, _ => ⟨[], .nil, rfl, fun p h => by cases h⟩
  | (f, d) :: fs, hn, hf => by
    have hn' := List.nodup_cons.mp (show (f :: fs.map (·.1)).Nodup from hn)
    obtain ⟨v, h1, h2⟩ := hf f d (by rw [List.lookup_cons_self])
    obtain ⟨vs, r, l, q⟩ := flds_vals hn'.2 (fv := fv) (fs := fs) fun g e h => hf g e (by
      have hg : (g == f) = false := by
        cases hq : (g == f) with
        | false => rfl
        | true =>
          have e := eq_of_beq hq
          subst e
          exfalso
          apply hn'.1
          have : ∀ (l : List (Str × D)), l.lookup g = some e → g ∈ l.map (·.1) := by
            intro l
            induction l with
            | nil => intro h; cases h
            | cons p l ih =>
              intro h
              rw [List.lookup_cons] at h
              cases hb : (g == p.1) with
              | true => rw [eq_of_beq hb]; exact List.mem_cons_self
              | false => rw [hb] at h; exact List.mem_cons_of_mem _ (ih h)
          exact this fs h
      rw [List.lookup_cons, hg]
      exact h)
    refine ⟨v :: vs, .cons h2 r, by simpa using l, fun p hp => ?_⟩
    rcases List.mem_cons.mp (show p ∈ (f, v) :: (fs.map (·.1)).zip vs from hp) with e | hp
    · rw [e]; exact h1
    · exact q p hp
theorem RelS.no_xd (rs : RelS K m S H) {dd : Addr} {fv : List (Str × V)} (h : H dd = some (.xd fv)) : dd ∉ m := fun z => by
  rcases z with z | z
  · obtain ⟨i, hi⟩ := List.getElem?_of_mem z
    have hi' : i < S.length := by
      rw [← rs.len]; exact (List.getElem?_eq_some_iff.mp hi).1
    have c := rs.cell i dd _ hi (List.getElem?_eq_getElem hi')
    cases q : S[i] with
    | lst ds => rw [q] at c; obtain ⟨vs, h2, _⟩ := c; rw [h] at h2; cases h2
    | dic kvs => rw [q] at c; obtain ⟨vs, h2, _⟩ := c; rw [h] at h2; cases h2
  · obtain ⟨o, q, n⟩ := (rs.ban dd z).2
    rw [h] at q
    cases q
    exact n.xd fv rfl
end
section
variable {X : Cx} {x n : Str} {Cc : Value} {i : Nat} {body suite : List Stmt} {b₀ : Stmt} {np pos pos' : Pos} {tb : DS} {mt : List (Str × Bool)}
theorem psv_tryAs {ts : Nat → Nat → Str → DS} (hs : X.stack = X.env :: X.outer) (hf : X.env.frame = some X.env.locals) (hN : X.N.Nodup) (hi : X.N[i]? = some n) (hln : X.env.kindOf n = some .local) (hc : Names X x Cc) (hmt : Mts X.K X.mg Cc mt) (hind : IndX i ts)
    (hb : ∀ (pn : List (Addr × Obj)) (xe : Value → Shared → Prop), PassesOwn (model X.prog X.w) X.A X.env xe → PSsv (X.tr pn xe) body tb)
    (hsu : ∀ (a : Addr) (oe : Obj) (C dd : Addr) (c : Str) (pn : List (Addr × Obj)), Zc (.ref C) (some dd) oe → (∃ vs, oe.data = .fields vs) → X.mg c = some (.ref C) → (c, true) ∈ mt → PSsv (X.suite a ((a, oe) :: pn)) (b₀ :: suite) (ts a dd c)) :
    PSv X (.Try body [.ExceptHandler (some (.Name x np)) (some n) (b₀ :: suite) pos'] [] [] pos) (sTryAs mt i ts tb) := fun W tk => by
  refine PS.imp (ps_try_as (tb := fun W' => LS X.K X.mg W' tb) (ts := fun a cls d Dn σ H => ∃ c C dd, X.mg c = some (.ref C) ∧ cls = .ref C ∧ d = some dd ∧ (c, true) ∈ mt ∧ LS X.K X.mg (fun _ _ _ _ => False) (ts a dd c) Dn σ H) (Wout := W) hs hf hN hi hln hc tk
    (fun W' pn xe tk' hp => hb pn xe hp W' tk') (fun a oe cls d pn hz hfv => ⟨fun pins s σ H Dn I q => ?_⟩)) fun Dn σ H ⟨m, S, δ, rs, re, q⟩ => ?_
  · obtain ⟨c, C, dd, h1, rfl, rfl, h4, q⟩ := q
    exact (hsu a oe C dd c pn hz hfv h1 h4 (fun _ _ _ _ => False) takes0).run pins s σ H Dn I q
  · refine ⟨m, S, δ, rs, re, ?_⟩
    unfold sTryAs at q
    cases e : tb δ S with
    | nx δ1 S1 => rw [e] at q; exact q
    | bk δ1 S1 => rw [e] at q; exact q
    | ct δ1 S1 => rw [e] at q; exact q
    | rt d S1 => rw [e] at q; exact q
    | stuck => rw [e] at q; exact q.elim
    | ex c fs δ1 S1 =>
      rw [e] at q
      simp only at q
      intro C dd fv σ1 m1 H1 g x1 rs1 re1 hd hfl
      cases em : mtL mt c with
      | none => rw [em] at q; exact q.elim
      | some b =>
        rw [em] at q
        have mm := mtL_mem em
        cases b with
        | false => exact ⟨false, hmt _ mm C g, fun z => (Bool.noConfusion z), fun _ => q C dd fv σ1 m1 H1 g x1 rs1 re1 hd hfl⟩
        | true =>
          simp only at q
          split at q
          · rename_i hnd
            refine ⟨true, hmt _ mm C g, fun _ a ha => ?_, fun z => (Bool.noConfusion z)⟩
            obtain ⟨vs, r, l, hv⟩ := flds_vals hnd hfl
            refine ⟨c, C, dd, g, rfl, rfl, mm, m1, S1, _, rs1, re1.set (.exc (a := a) (c := c) ⟨hd, rs1.no_xd hd⟩ l hv r) i, ?_⟩
            have q := OkS.ext q x1
            rw [← hind a dd c (fs.map (·.1)) (fs.map (·.2)) δ1 S1] at q
            exact okS_clr q
          · exact q.elim
theorem psv_try0 {ts : DS} (hs : X.stack = X.env :: X.outer) (hf : X.env.frame = some X.env.locals) (hc : Names X x Cc) (hmt : Mts X.K X.mg Cc mt)
    (hb : ∀ (pn : List (Addr × Obj)) (xe : Value → Shared → Prop), PassesOwn (model X.prog X.w) X.A X.env xe → PSsv (X.tr pn xe) body tb)
    (hsu : ∀ (a : Addr) (oe : Obj) (pn : List (Addr × Obj)), PSsv (X.suite a ((a, oe) :: pn)) (b₀ :: suite) ts) :
    PSv X (.Try body [.ExceptHandler (some (.Name x np)) none (b₀ :: suite) pos'] [] [] pos) (sTry0 mt ts tb) := fun W tk => by
  refine PS.imp (ps_try_only (tb := fun W' => LS X.K X.mg W' tb) (ts := fun a cls d => LS X.K X.mg (fun _ _ _ _ => False) ts) (Wout := W) hs hf hc tk
    (fun W' pn xe tk' hp => hb pn xe hp W' tk') (fun a oe cls d pn hz hfv => hsu a oe pn (fun _ _ _ _ => False) takes0)) fun Dn σ H ⟨m, S, δ, rs, re, q⟩ => ?_
  refine ⟨m, S, δ, rs, re, ?_⟩
  unfold sTry0 at q
  cases e : tb δ S with
  | nx δ1 S1 => rw [e] at q; exact q
  | bk δ1 S1 => rw [e] at q; exact q
  | ct δ1 S1 => rw [e] at q; exact q
  | rt d S1 => rw [e] at q; exact q
  | stuck => rw [e] at q; exact q.elim
  | ex c fs δ1 S1 =>
    rw [e] at q
    simp only at q
    intro C dd fv σ1 m1 H1 g x1 rs1 re1 hd hfl
    cases em : mtL mt c with
    | none => rw [em] at q; exact q.elim
    | some b =>
      rw [em] at q
      have mm := mtL_mem em
      cases b with
      | false => exact ⟨false, hmt _ mm C g, fun z => (Bool.noConfusion z), fun _ => q C dd fv σ1 m1 H1 g x1 rs1 re1 hd hfl⟩
      | true => exact ⟨true, hmt _ mm C g, fun _ a ha => ⟨m1, S1, δ1, rs1, re1, okS_nox (OkS.ext q x1)⟩, fun z => (Bool.noConfusion z)⟩
end
/-! ### n.f in such a suite -/
def dXf (a dd : Nat) (f : Str) (i : Nat) : DE := fun δ S => match δ[i]? with
  | some (some (.exc a' dd' _ ks ds)) => if a' = a ∧ dd' = dd then (match (ks.zip ds).lookup f with
    | some d => .ok d S
    | none => .stuck) else .stuck
  | _ => .stuck
theorem dXf_self (a dd : Nat) (c f : Str) (i : Nat) (ks : List Str) (ds : List D) (δ : Sl) (S : Sto) : dXf a dd f i (δ.set i (some (.exc a dd c ks ds))) S = if i < δ.length then (match (ks.zip ds).lookup f with
    | some d => .ok d S
    | none => .stuck) else .stuck := by
  unfold dXf
  by_cases h : i < δ.length
  · rw [List.getElem?_set_self h, if_pos h]
    simp
  · rw [List.getElem?_eq_none (by simpa using h), if_neg h]
theorem dVar_set_ne {i j : Nat} (h : i ≠ j) (o : Option D) (δ : Sl) (S : Sto) : dVar j (δ.set i o) S = dVar j δ S := by
  unfold dVar
  rw [List.getElem?_set_ne h]
theorem lookup_zip {K : PySem.W.Frag} {m : Mm} {H : Hp} {f : Str} {d : D} {fv : List (Str × V)} : ∀ {ks : List Str} {ds : List D} {vs : List V}, Rvs K m H ds vs → (ks.zip ds).lookup f = some d → (∀ p, p ∈ ks.zip vs → fv.lookup p.1 = some p.2) → ∃ v, fv.lookup f = some v ∧ Rv K m H d v
  | [], _, _, _, h, _ => by simp at h
  | _ :: _, _, _, .nil, h, _ => by simp at h
  | k :: ks, _, _, .cons (v := v) (vs := vs) h1 r, h, hv => by
    rw [List.zip_cons_cons, List.lookup_cons] at h
    cases hb : (f == k) with
    | true =>
      rw [hb] at h
      cases h
      rw [eq_of_beq hb]
      exact ⟨v, hv (k, v) (List.mem_cons_self), h1⟩
    | false =>
      rw [hb] at h
      exact lookup_zip r h fun p hp => hv p (List.mem_cons_of_mem _ hp)
section
variable {X : Cx} {a C dd : Addr} {oe : Obj} {c f n : Str} {pn : List (Addr × Obj)} {i : Nat} {p pos : Pos}
theorem pev_xf (i : Nat) (T : XfC X.K C) (hno : PySem.W.findIn X.K (.ref C) f = some none) (hz : Zc (.ref C) (some dd) oe) (hf : ∃ vs, oe.data = .fields vs) (hN : X.N[i]? = some n := by rfl) (hv : Vis X.env.scope n := by first | exact Or.inl rfl | exact Or.inr (Or.inl rfl) | exact Or.inr (Or.inr rfl))
    (hd : (n == ("__debug__" : Str)) = false := by decide) (hcd : (n == ("__classdict__" : Str)) = false := by decide) (hb : attributeBase (.Name n p) f X.env (eval (.Name n p) X.env) = eval (.Name n p) X.env := by rfl) :
    PEv (X.suite a ((a, oe) :: pn)) (.Attribute (.Name n p) f pos) (dXf a dd f i) := fun W tk =>
  PE.imp (pe_xf (te := tVar i) T hno hz hf (pe_var (X := X.suite a ((a, oe) :: pn)) hN hv hd hcd) hb) fun σ H Q ⟨m, S, δ, rs, re, q⟩ => by
    unfold dXf at q
    split at q
    · rename_i a' dd' c' ks ds e
      split at q
      · rename_i h
        obtain ⟨rfl, rfl⟩ := h
        split at q
        · rename_i d el
          obtain ⟨v, h1, h2⟩ := re.val i _ e
          cases h2 with
          | exc h l hv r =>
            obtain ⟨u, h3, h4⟩ := lookup_zip r el hv
            exact ⟨_, h1, rfl, rfl, _, _, u, rfl, h.1, h3, q u m H .refl rs h4⟩
        · exact q.elim
      · exact q.elim
    · exact q.elim
end
end QB
set_option maxHeartbeats 4000000
namespace QB
open PySem PySem.Spec PyProof.Rows L2
/-! ### sorted(e, key=lambda g: g[0]) -/
theorem key0_call {P : Program} {w : World} {A : Around} {s : Shared} {E : Value → Shared → Prop} {f a c' : Addr} {q g : Str} {params : Arguments} {scope : Scope} {pm ctv : Value} {p1 p2 pos : Pos} {k : Nat} {its : Array Value} {x : Str} {t : Tok}
    (hf : s.heap.get? f = some (PySem.W.kla_obj "<lambda>" q params (.Subscript (.Name g p1) (.Constant (.int 0) k p2) pos) scope [] pm c' ctv)) (hc : s.heap.CodeRec (.ref c') q) (hlim : s.heap.NoLimit) (hroom : A.depth < recursionLimit)
    (hbind : ∀ v : Value, bindArgs (PySem.W.kla_fn "<lambda>" q params (.Subscript (.Name g p1) (.Constant (.int 0) k p2) pos) scope [] pm (.ref c') ctv) ⟨[v], []⟩ = pure [(g, v)])
    (hk : scope.kind = .function) (hl : scope.names.lookup g = some .local) (hcell : ∀ x ∈ scope.names, x.2 ≠ .cell) (hco : scope.isCoroutine = false) (hgen : scope.isGenerator = false) (hd : (g == ("__debug__" : Str)) = false)
    (ho : IsTup s.heap a its) (hx : its[0]? = some (.str x t)) :
    wpAny (model P w) A (call (.ref f) [.ref a]) (PySem.W.KeyPure (.str x) s) E s := by
  refine wpAny_call (PySem.W.kla_callFunE hroom hf rfl hco hgen rfl hc ?_)
  rw [hbind]
  refine wpAny_pure ?_
  refine wpAny_newFunctionEnv hcell (fun y hy => by rw [List.mem_singleton.mp hy]; exact hl) (fun h' hn hs => ?_) hk
  have kp : ∀ b o, s.heap.get? b = some o → h'.get? b = some o := fun b o e => by
    rw [hs.2 b (Nat.ne_of_lt (Heap.lt_size e))]
    exact Heap.get?_push_of_some _ e
  refine ⟨hlim.keeps kp, PySem.W.kla_codeExpr ?_⟩
  refine Subscript_ (wpAny_Name (wpAny_loadName_local hk hl hn (by rw [List.reverse_singleton]; exact List.lookup_cons_self) ?_) hd)
  refine wpAny_Constant_int ?_
  exact subscriptTail_builtinR (x := .str x t) (IsTup.keeps ho kp).typeIs slot_tuple_getitem.lookup
    (getItem_tuple (j := 0) (IsTup.keeps ho kp) (by decide) (by decide) (by
      have h0 : 0 < its.size := by
        rcases Nat.lt_or_ge 0 its.size with z | z
        · exact z
        · rw [Array.getElem?_eq_none z] at hx; cases hx
      exact seqIndex_of (by decide) (by omega)) hx ⟨rfl, h', _, rfl, kp, .str x t⟩)
def key0 : D → Option Str
  | .tup (.str x :: _) => some x
  | _ => none
def key0s : List D → Bool
  | [] => true
  | d :: r => (key0 d).isSome && key0s r
def key0D (d : D) : Str := (key0 d).getD ⟨#[]⟩
def le0 (a b : D) : Bool := decide ((key0D a).cps.toList ≤ (key0D b).cps.toList)
def sort0 (ds : List D) : List D := ds.mergeSort le0
/-- sorted(e, key=lambda g: g[0]), the keys texts -/
def dSort0 (t : DE) : DE := fun δ S => (t δ S).bind fun d S1 => match getL d S1 with
  | some ds => if key0s ds = true ∧ ds.length ≤ sizeLine then .ok (.lst (sort0 ds)) S1 else .stuck
  | none => .stuck
theorem each_of {K : PySem.W.Frag} {m : Mm} {H : Hp} : ∀ {ds : List D} {vs : List V} {us : List Value}, Rvs K m H ds vs → Vals vs us → PySem.W.EachIs (fun (u : Value) (d : D) => ∃ v, RelV v u ∧ Rv K m H d v) us ds
  | [], _, _, .nil, .nil => .nil
  | _ :: _, _, _, .cons h r, .cons h2 r2 => .cons ⟨_, h2, h⟩ (each_of r r2)
theorem of_each {K : PySem.W.Frag} {m : Mm} {H : Hp} : ∀ {ds : List D} {us : List Value}, PySem.W.EachIs (fun (u : Value) (d : D) => ∃ v, RelV v u ∧ Rv K m H d v) us ds → ∃ vs, Rvs K m H ds vs ∧ Vals vs us
  | [], _, .nil => ⟨[], .nil, .nil⟩
  | _ :: _, _, .cons ⟨v, h1, h2⟩ r => by
    obtain ⟨vs, a, b⟩ := of_each r
    exact ⟨v :: vs, .cons h2 a, .cons h1 b⟩
theorem key0s_mem : ∀ {ds : List D}, key0s ds = true → ∀ d ∈ ds, ∃ x r, d = .tup (.str x :: r)
  | [], _, d, h => by cases h
  | e :: ds, h, d, hd => by
    unfold key0s at h
    obtain ⟨h1, h2⟩ := and_t h
    rcases List.mem_cons.mp hd with z | z
    · subst z
      unfold key0 at h1
      split at h1
      · exact ⟨_, _, rfl⟩
      · cases h1
    · exact key0s_mem h2 d z
section
variable {X : Cx} {e : Expr} {t : DE} {p p1 p2 pos1 lpos kpos pos : Pos} {k : Nat} {g : Str} {params : Arguments} {scope : Scope} {c P : Addr}
theorem pev_sort0 {j : Nat} (hr : Room (j + 1) X.A) (hg : Gl X "sorted") (hm : X.mg "sorted" = none) (he : PEv X e t) (TB : LamX.TabB X.base X.mg c P) (hcode : X.env.code = .ref c) (hmT : (P, X.env.qual ++ "<lambda>") ∈ TBL X.K) (hu : ∀ p ∈ TBL X.K, p.1 = P → p.2 = X.env.qual ++ "<lambda>")
    (hdef : defaultsOf params X.env = ([], []) := by rfl) (hcells : cloFrom X.env.cells scope.names [] = [] := by rfl)
    (hbind : ∀ (q : Str) (pm cv ctv v : Value), bindArgs (PySem.W.kla_fn "<lambda>" q params (.Subscript (.Name g p1) (.Constant (.int 0) k p2) pos1) scope [] pm cv ctv) ⟨[v], []⟩ = pure [(g, v)] := by intro _ _ _ _ _; rfl)
    (hk : scope.kind = .function := by rfl) (hl : scope.names.lookup g = some .local := by rfl) (hcell : ∀ x ∈ scope.names, x.2 ≠ .cell ∧ x.2 ≠ .free := by decide) (hco : scope.isCoroutine = false := by rfl) (hgen : scope.isGenerator = false := by rfl) (hd : (g == ("__debug__" : Str)) = false := by decide)
    (hse : starEach [e] X.env = (false, eval e X.env) :: starEach [] X.env := by rfl) (hes : backTo pos (starEach [e] X.env) = (false, eval e X.env) :: backTo pos (starEach [] X.env) := by rfl) (hpl : (backTo pos (starEach [e] X.env)).any (·.1) = false := by rfl)
    (hke : backToKw pos (keywordEach [⟨some "key", .Lambda params (.Subscript (.Name g p1) (.Constant (.int 0) k p2) pos1) scope lpos, kpos⟩] X.env) = backToKw pos [(some "key", eval (.Lambda params (.Subscript (.Name g p1) (.Constant (.int 0) k p2) pos1) scope lpos) X.env)] := by rfl) :
    PEv X (.Call (.Name "sorted" p) [e] [⟨some "key", .Lambda params (.Subscript (.Name g p1) (.Constant (.int 0) k p2) pos1) scope lpos, kpos⟩] pos) (dSort0 t) := fun W tk => by
  refine ⟨fun pins s σ H Q I ⟨m, S, δ, rs, re, q⟩ => ?_⟩
  refine wpAny_Call_Name_kw (ld_blt I hg hm (by rfl) ?_ (by decide) (by decide))
  have ha : PA X [e] (LA X.K X.mg W (aCons t aNil)) := pav_cons he pav_nil hse W tk
  refine PyProof.Rows.callWith_kw (thn (ha.run pos pins s σ H (fun vs H1 => ∃ m1 S1 d v, vs = [v] ∧ Ext m H m1 H1 ∧ RelS X.K m1 S1 H1 ∧ Rv X.K m1 H1 d v ∧ OkR X.K X.mg (Rv X.K) m1 H1 (match getL d S1 with
      | some ds => if key0s ds = true ∧ ds.length ≤ sizeLine then R.ok (D.lst (sort0 ds)) S1 else .stuck
      | none => .stuck) Q (fun c d H' => W c d σ H')) I ?_) fun us s1 ⟨vs, H1, I1, r1, m1, S1, d, v, ev, x1, rs1, rv, q1⟩ => ?_) hes hpl (by rw [hke]; rfl) (by rw [hke]; rfl)
  · refine ⟨m, S, δ, rs, re, ?_⟩
    unfold aCons aNil
    unfold dSort0 at q
    cases et : t δ S with
    | stuck => rw [et] at q; exact q.elim
    | ex c fs S1 => rw [et] at q; exact q
    | ok d S1 =>
      rw [et] at q
      intro vs m1 H1 x1 rs1 rv
      obtain ⟨v, rfl, rv1⟩ := rv.one
      exact ⟨m1, S1, d, v, rfl, x1, rs1, rv1, OkR.ext (show OkR X.K X.mg (Rv X.K) m H (match getL d S1 with
      | some ds => if key0s ds = true ∧ ds.length ≤ sizeLine then R.ok (D.lst (sort0 ds)) S1 else .stuck
      | none => .stuck) Q (fun c d H' => W c d σ H') from q) x1⟩
  · subst ev
    obtain ⟨u, rfl, ru⟩ := vals1 r1
    rw [hke]
    show wpAny _ _ (evalAll ((do let v ← eval (.Lambda params (.Subscript (.Name g p1) (.Constant (.int 0) k p2) pos1) scope lpos) X.env; standAt pos; pure v) :: [])) _ _ s1
    refine wpAny_evalAll_cons (wpAny_bind ?_)
    refine LamX.lam_make2 I1 TB hcode hmT hu rs1.tabs hdef (fun y hy hf => absurd hf (hcell y hy).2) fun f c' pm ctv H2 s2 I2 xN tabs2 hf hfn hfr hcd => ?_
    refine wpAny_bind (wpAny_standAt (wpAny_pure (wpAny_evalAll_nil ?_)))
    split at q1
    · rename_i ds eL
      split at q1
      · rename_i hks
        obtain ⟨a, vs, rfl, hS, hR⟩ := getL_rv rs1 rv eL
        cases ru
        have x2 : Ext m1 H1 m1 H2 := ⟨⟨[], by simp⟩, fun _ h => h, fun _ h => .inl h, fun _ h => .inl h, fun b o _ q n => xN b o q n, fun b h o q => by
          by_cases n : noTb o
          · exact h o (xN b o q n)
          · exact Classical.byContradiction fun z => n fun ps e => z ⟨ps, e⟩⟩
        have rs2 : RelS X.K m1 S1 H2 := ⟨rs1.len, rs1.nd, fun i b u h1 h2 => by
          have c := rs1.cell i b u h1 h2
          cases u with
          | lst ds =>
            obtain ⟨vs, h, q⟩ := c
            exact ⟨vs, xN _ _ h (fun _ => HO.noConfusion), q.mono x2⟩
          | dic kvs =>
            obtain ⟨vs, h, q⟩ := c
            exact ⟨vs, xN _ _ h (fun _ => HO.noConfusion), q.mono x2⟩, fun b h => by
          obtain ⟨h1, o, h2, h3⟩ := rs1.ban b h
          exact ⟨h1, o, xN _ _ h2 h3.tb, h3⟩, tabs2⟩
        have hS2 : SqL X.K H2 a vs := SqL.of (xN _ _ hS (fun _ => HO.noConfusion))
        have hR2 := Rvs.mono x2 _ hR
        obtain ⟨its, rI, hLL, hz⟩ := I2.list hS2
        rw [hcells] at hf
        have hrec : s2.heap.CodeRec (.ref c') (X.env.qual ++ "<lambda>") := by
          obtain ⟨⟨oc, vs, t, e1, e2, e3⟩, _⟩ := I2.hok c' _ hcd
          exact ⟨c', oc, vs, t, rfl, e1, e2, e3⟩
        have nolim : s2.heap.NoLimit := I2.mod.nolimit.keeps I2.bk
        refine PySem.W.sorted_key_data (b := false) (R := fun (u : Value) (d : D) => ∃ v, RelV v u ∧ Rv X.K m1 H2 d v) (fun d => PyData.str (key0D d)) hLL.isList (each_of hR2 rI) (PySem.W.AllAlike.of fun _ _ => rfl) (PySem.W.Sortable.others fun _ => ⟨by simp, by simp⟩) hks.2 (fun d _ => ?_) (ksk_s1 _ _) (fun _ => ksk_l1 _ _) (fun _ => ksk_t1 _ _) (fun u d ⟨v, h1, h2⟩ hdm h tk kp => ?_) fun out c h' tk kp hne hD hlen ho => ?_
        · have := hr.un
          show X.A.units + 2 + 0 < cLine
          omega
        · obtain ⟨x, r, rfl⟩ := key0s_mem hks.1 d hdm
          obtain ⟨a2, vs2, rfl, hS3, hR3⟩ := h2.tupAt
          cases h1
          obtain ⟨its3, rI3, ht3, _⟩ := I2.tuple hS3
          cases hR3 with
          | cons h4 r4 =>
            cases h4
            cases rI3 with
            | cons h5 r5 =>
              obtain ⟨tk5, rfl⟩ := h5
              refine key0_call (s := { s2 with heap := h, toks := tk }) (x := x) (t := tk5) (kp _ _ hf) ?_ (nolim.keeps kp) ?_ (fun v => hbind _ _ _ _ v) hk hl (fun y hy => (hcell y hy).1) hco hgen hd (IsTup.keeps ht3 kp) (by simp)
              · obtain ⟨c2, oc, vs, t, e1, e2, e3⟩ := hrec
                exact ⟨c2, oc, vs, t, e1, kp _ _ e2, e3⟩
              · have := hr.dp
                show X.A.depth < recursionLimit
                omega
        · rw [PySem.W.dataLe_str key0D] at ho
          obtain ⟨vs', hR', hV'⟩ := of_each ho
          have hp : H2 (s2.heap.objs.size + 1) = none := I2.hok.fresh (Nat.le_succ _)
          obtain ⟨x3, rs3, rv3⟩ := rs2.newLst hp hR'
          refine ⟨.ref (s2.heap.objs.size + 1), upd H2 (s2.heap.objs.size + 1) (.lst vs'), I2.laid (t' := tk) kp (Nat.le_succ _) ⟨?_, out, c, hV', hD⟩, rfl, q1 _ m1 _ (x2.trans x3) rs3 rv3⟩
          rw [hV'.length, hlen]
          exact hks.2
      · exact q1.elim
    · exact q1.elim
end
end QB
set_option maxHeartbeats 4000000
namespace QB
open PySem PySem.Spec PySem.Calls PyProof.Rows L2 RT
/-! ### list(reversed(list)) -/
section
variable {prog : Program} {w : World} {B : Around} {E : Value → Shared → Prop} {z : Shared}
theorem rev_extend {Rr : Result → Shared → Prop} {it l S : Addr} {c0 : Nat} {its : Array Value} (hh : B.handled = none) (hit : z.heap.IsRevIter it l ((its.size : Int) - 1)) (hl : z.heap.IsList l its) (hne : l ≠ it) (n1 : S ≠ it) (n2 : S ≠ l) (hn : its.size ≤ sizeLine)
    (hS : z.heap.get? S = some { cls := .type "list", data := .seq #[] c0 })
    (hR : ∀ h' tk acc' c', (∀ b o, b ≠ S → b ≠ it → z.heap.get? b = some o → h'.get? b = some o) → h'.get? S = some { cls := .type "list", dict := none, data := .seq acc' c', slots := #[] } →
      ItemsOf (fun i v => its[its.size - 1 - i]? = some v) acc' its.size → Rr (.ok (.ret .none)) { z with heap := h', toks := tk }) :
    wpAny (model prog w) B.in1 (Builtin.List.listExtendWith (.ref S) (.ref it) .none)
      (fun fin y => match fin with | .done f => Rr (.ok f) y | .again c' => c'.quiet = true ∧ codeAny (model prog w) B c' Rr y) (fun e y => Rr (.error e) y) z := by
  have Wk := (Walks.listRev (prog := prog) (w := w) (A := B.in1) hh it l hne its).toS
  have nf : S ∉ [it, l] := by
    intro hm
    rcases List.mem_cons.mp hm with e | hm
    · exact n1 e
    · exact n2 (List.mem_singleton.mp hm)
  have ty : z.TypeIs (.ref it) "list_reverseiterator" := Heap.IsRevIter.typeIs (s := z) hit
  have g1 : Builtin.List.listSameRef (.ref S) (.ref it) = false := by simp [Builtin.List.listSameRef, n1]
  unfold Builtin.List.listExtendWith
  refine wpAny_bind (wpAny_typeOf ty ?_)
  rw [if_neg (by rw [g1]; decide)]
  refine wpAny_bind (wpAny_pyIter_revIter hit ?_)
  refine wpAny_bind (wpAny_holding ?_)
  unfold Builtin.List.listLengthHint
  refine wpAny_bind (wpAny_specialOf ty nolen_lri ?_)
  show wpAny _ _ (specialOf (Value.ref it) (Str.ofString "__length_hint__") >>= _) _ _ _
  refine wpAny_bind (wpAny_specialOf ty hint_lri ?_)
  generalize hq : ("list_reverseiterator.__length_hint__" : String) = nm
  wp_delta
  rw [show splitId nm = some ("list_reverseiterator", "__length_hint__") from by subst hq; decide +kernel]
  subst hq
  refine wpAny_bind (wpAny_isInstance (b := true) ty (by rw [isSubtype_type]; kernel_rfl) ?_)
  refine wpAny_pure ?_
  rw [if_neg (by decide)]
  have e0 : ((its.size : Nat) : Int) - 1 - ((0 : Nat) : Int) = (its.size : Int) - 1 := by omega
  refine wpAny_pure ⟨plainId_quiet F.plain_extend_loop _, ?_⟩
  refine codeAny_extend_loopS Wk hn S nf .none its.size 0 z #[] c0 rfl (Nat.zero_le _) ⟨Nat.zero_le _, by rw [e0]; exact hit, hl⟩ hS (ItemsOf.nil _) fun y acc' c' hm hS' hacc => ?_
  rw [Moved.eq_with hm]
  refine hR y.heap y.toks acc' c' (fun b o b1 b2 e => hm.heap b o (fun q => ?_) e) hS' hacc
  rcases List.mem_cons.mp q with q | q
  · exact b1 q
  · exact b2 (List.mem_singleton.mp q)
theorem rev_init {Rr : Result → Shared → Prop} {it l S : Addr} {its : Array Value} (hh : B.handled = none) (hit : z.heap.IsRevIter it l ((its.size : Int) - 1)) (hl : z.heap.IsList l its) (hne : l ≠ it) (n1 : S ≠ it) (n2 : S ≠ l) (hn : its.size ≤ sizeLine)
    (hS : z.heap.get? S = some { cls := .type "list", data := .seq #[] })
    (hR : ∀ h' tk acc' c', (∀ b o, b ≠ S → b ≠ it → z.heap.get? b = some o → h'.get? b = some o) → h'.get? S = some { cls := .type "list", dict := none, data := .seq acc' c', slots := #[] } →
      ItemsOf (fun i v => its[its.size - 1 - i]? = some v) acc' its.size → Rr (.ok (.ret .none)) { z with heap := h', toks := tk }) :
    wpAny (model prog w) B.in1 (Builtin.«list.__init__» ⟨[.ref S, .ref it], []⟩)
      (fun fin y => match fin with | .done f => Rr (.ok f) y | .again c' => c'.quiet = true ∧ codeAny (model prog w) B c' Rr y) (fun e y => Rr (.error e) y) z := by
  show wpAny _ _ (do
    let old ← Builtin.List.listItems (.ref S)
    Builtin.List.listUpdate (.ref S) (fun _ => #[])
    letGo old.toList.reverse
    Builtin.List.listExtendWith (.ref S) (.ref it) .none) _ _ z
  refine wpAny_bind ?_
  unfold Builtin.List.listItems
  refine wpAny_bind (wpAny_seqItems hS rfl (wpAny_pure ?_))
  show wpAny _ _ (updateSeq S (fun _ => #[]) >>= fun _ => letGo (#[] : Array Value).toList.reverse >>= fun _ =>
    Builtin.List.listExtendWith (.ref S) (.ref it) .none) _ _ z
  refine wpAny_bind (wpAny_updateSeq hS rfl ?_)
  have kp : ∀ b o, b ≠ S → z.heap.get? b = some o → (z.heap.update S (Obj.mapSeq (fun _ => (#[] : Array Value)))).get? b = some o := fun b o hb e =>
    (Heap.get?_update_other _ _ (Ne.symm hb)).trans e
  refine wpAny_bind (wpAny_letGo ?_)
  refine rev_extend (c0 := _) hh (hit.at fun o e => kp it o (Ne.symm n1) e) ?_ hne n1 n2 hn (Heap.get?_update_self (Obj.mapSeq (fun _ => (#[] : Array Value))) hS rfl) fun h' tk acc' c' hk h1 h2 => hR h' tk acc' c' (fun b o b1 b2 e => hk b o b1 b2 (kp b o b1 e)) h1 h2
  obtain ⟨ol, hol, r⟩ := hl
  exact ⟨ol, kp l ol (Ne.symm n2) hol, r⟩
theorem call_list_rev {Q : Value → Shared → Prop} {it l : Addr} {its : Array Value} (hh : B.handled = none) (hit : z.heap.IsRevIter it l ((its.size : Int) - 1)) (hl : z.heap.IsList l its) (hne : l ≠ it) (hn : its.size ≤ sizeLine)
    (hQ : ∀ h' tk acc' c', (∀ b o, b ≠ it → z.heap.get? b = some o → h'.get? b = some o) → h'.get? z.heap.objs.size = some { cls := .type "list", dict := none, data := .seq acc' c', slots := #[] } →
      ItemsOf (fun i v => its[its.size - 1 - i]? = some v) acc' its.size → Q (.ref z.heap.objs.size) { z with heap := h', toks := tk }) :
    wpAny (model prog w) B (call (.type "list") [.ref it]) Q E z := by
  obtain ⟨oi, hoi, _⟩ := id hit
  obtain ⟨ol, hol, _⟩ := id hl
  refine callType_codes (Q₁ := fun obj y => obj = .ref z.heap.objs.size ∧ y = { z with heap := z.heap.push { cls := .type "list", data := .seq #[] } })
    F.called_list (F.typeCall_list_1 _) F.entry_list_init (code_list_new _ ⟨rfl, rfl⟩) fun obj y hy => ?_
  obtain ⟨rfl, rfl⟩ := hy
  have hS : (z.heap.push { cls := .type "list", data := .seq #[] }).get? z.heap.objs.size = some { cls := .type "list", data := .seq #[] } :=
    Heap.get?_push_size _ rfl
  refine ⟨⟨_, hS, rfl⟩, F.args_list_init_2 _ _, ?_⟩
  refine rev_init (B := B.in1) hh (hit.at fun o e => Heap.get?_push_of_some _ e) (hl.push _) hne (Nat.ne_of_gt (Heap.lt_size hoi)) (Nat.ne_of_gt (Heap.lt_size hol)) hn hS fun h' tk acc' c' hk h1 h2 => ⟨rfl, ?_⟩
  exact hQ h' tk acc' c' (fun b o hb e => hk b o (Nat.ne_of_lt (Heap.lt_size e)) hb (Heap.get?_push_of_some _ e)) h1 h2
end
def tListRev (K : PySem.W.Frag) (te : TE) : TE := fun σ H Q => te σ H fun v H1 => ∃ (a : Addr) (xs : List V), v = .ref a ∧ SqL K H1 a xs ∧ ∀ q, H1 q = none → Q (.ref q) (upd H1 q (.lst xs.reverse))
section
variable {X : Cx}
theorem pe_listRev {e : Expr} {te : TE} {p p2 pos pos2 : Pos} (hc : X.calm = true) (hg : Gl X "list") (hm : X.mg "list" = none) (hg2 : Gl X "reversed") (hm2 : X.mg "reversed" = none) (he : PE X e te)
    (hs : starEach [e] X.env = (false, eval e X.env) :: starEach [] X.env := by rfl)
    (hs2 : starEach [.Call (.Name "reversed" p2) [e] [] pos2] X.env = (false, eval (.Call (.Name "reversed" p2) [e] [] pos2) X.env) :: starEach [] X.env := by rfl) :
    PE X (.Call (.Name "list" p) [.Call (.Name "reversed" p2) [e] [] pos2] [] pos) (tListRev X.K te) := by
  refine ⟨fun pins s σ H Q I h => ?_⟩
  refine Call_ (ld_blt I hg hm (by rfl) (PyProof.Rows.callWith_type1 (args_cons (Call_ (ld_blt I hg2 hm2 PyProof.Rows.boot_reversed
    (PyProof.Rows.callWith_type1 (args_cons (thn (he.run pins s σ H _ I h) fun u s1 ⟨v, H1, I1, r1, q1⟩ => args_nil ?_) hs) hs rfl))) hs2) hs2 rfl))
  obtain ⟨a, xs, ev, hq, q⟩ := q1
  subst ev
  obtain rfl : u = Value.ref a := r1
  obtain ⟨its, rv, pl, hz⟩ := I1.list hq
  refine call_reversed_list pl.isList (args_nil ?_)
  have I2 : Inv X pins σ H1 { s1 with heap := s1.heap.push (revObj a ((its.toArray.size : Int) - 1)) } := I1.kept (t' := s1.toks) fun b o e => Heap.get?_push_of_some _ e
  have fp := I1.fpOk (H' := H1) (b := s1.heap.objs.size) (Nat.le_refl _) (I1.hok.fresh (Nat.le_refl _))
  obtain ⟨ol, hol, _⟩ := id pl.isList
  have hn : its.toArray.size ≤ sizeLine := by rw [List.size_toArray, ← rv.length]; exact hz
  refine call_list_rev (z := { s1 with heap := s1.heap.push (revObj a ((its.toArray.size : Int) - 1)) }) (I1.ok.hd hc) ⟨_, Heap.get?_push_size _ rfl, rfl, rfl⟩ (pl.isList.push _) (Nat.ne_of_lt (Heap.lt_size hol)) hn fun h' tk acc c hk hD hi => ?_
  refine ⟨.ref _, upd H1 (s1.heap.push (revObj a ((its.toArray.size : Int) - 1))).objs.size (.lst xs.reverse), I2.turnedNew (t' := tk) (ch := [s1.heap.objs.size]) (fun b o hb e => hk b o (by simpa using hb) e) (fun b hb => by rw [List.mem_singleton.mp hb]; exact fp) (Nat.le_refl _) ⟨by rw [List.length_reverse]; exact hz, acc.toList, c, vals_rev rv hi, ?_⟩, rfl, q _ (I2.hok.fresh (Nat.le_refl _))⟩
  rw [Array.toArray_toList]
  exact hD
/-- list(reversed(x)) of a list: a list that stays; a cell -/
def dListRev (t : DE) : DE := fun δ S => (t δ S).bind fun d S1 => match getL d S1 with
  | some ds => .ok (.lst ds.reverse) S1
  | none => .stuck
def dListRevC (t : DE) : DE := fun δ S => (t δ S).bind fun d S1 => match getL d S1 with
  | some ds => .ok (.ref S1.length) (S1 ++ [.lst ds.reverse])
  | none => .stuck
theorem pev_listRev {e : Expr} {t : DE} {p p2 pos pos2 : Pos} (hc : X.calm = true) (hg : Gl X "list") (hm : X.mg "list" = none) (hg2 : Gl X "reversed") (hm2 : X.mg "reversed" = none) (he : PEv X e t)
    (hs : starEach [e] X.env = (false, eval e X.env) :: starEach [] X.env := by rfl)
    (hs2 : starEach [.Call (.Name "reversed" p2) [e] [] pos2] X.env = (false, eval (.Call (.Name "reversed" p2) [e] [] pos2) X.env) :: starEach [] X.env := by rfl) :
    PEv X (.Call (.Name "list" p) [.Call (.Name "reversed" p2) [e] [] pos2] [] pos) (dListRev t) := fun W tk =>
  PE.imp (pe_listRev hc hg hm hg2 hm2 (he W tk) hs hs2) fun σ H Q ⟨m, S, δ, rs, re, q⟩ => by
    refine le_bind rs re q fun d S1 v m1 H1 x1 rs1 re1 rv q1 => ?_
    split at q1
    · rename_i ds e
      obtain ⟨a, vs, rfl, h1, h2⟩ := getL_rv rs1 rv e
      refine ⟨a, vs, rfl, SqL.of h1, fun l hl => ?_⟩
      obtain ⟨x2, rs2, rv2⟩ := rs1.newLst hl h2.reverse
      exact q1 _ m1 _ x2 rs2 rv2
    · exact q1.elim
theorem pev_listRevC {e : Expr} {t : DE} {p p2 pos pos2 : Pos} (hc : X.calm = true) (hg : Gl X "list") (hm : X.mg "list" = none) (hg2 : Gl X "reversed") (hm2 : X.mg "reversed" = none) (he : PEv X e t)
    (hs : starEach [e] X.env = (false, eval e X.env) :: starEach [] X.env := by rfl)
    (hs2 : starEach [.Call (.Name "reversed" p2) [e] [] pos2] X.env = (false, eval (.Call (.Name "reversed" p2) [e] [] pos2) X.env) :: starEach [] X.env := by rfl) :
    PEv X (.Call (.Name "list" p) [.Call (.Name "reversed" p2) [e] [] pos2] [] pos) (dListRevC t) := fun W tk =>
  PE.imp (pe_listRev hc hg hm hg2 hm2 (he W tk) hs hs2) fun σ H Q ⟨m, S, δ, rs, re, q⟩ => by
    refine le_bind rs re q fun d S1 v m1 H1 x1 rs1 re1 rv q1 => ?_
    split at q1
    · rename_i ds e
      obtain ⟨a, vs, rfl, h1, h2⟩ := getL_rv rs1 rv e
      refine ⟨a, vs, rfl, SqL.of h1, fun l hl => ?_⟩
      obtain ⟨x2, rs2, rv2⟩ := rs1.newCell hl (o := .lst vs.reverse) (u := .lst ds.reverse) fun m' H' e h => ⟨_, h, h2.reverse.mono e⟩
      exact q1 _ _ _ x2 rs2 rv2
    · exact q1.elim
end
end QB
set_option maxHeartbeats 4000000
namespace QB
open PySem PySem.Spec PySem.Calls PyProof.Rows L2
/-! ### list(x) of a list, a tuple, a text, a dict -/
def keyV : Key → D
  | .inl i => .int i
  | .inr x => .str x
def rListS : List V → Hp → VK → Prop := fun xs H Q => ∃ z, xs = [V.str z] ∧ z.cps.size ≤ sizeLine ∧ ∀ l, H l = none → Q (.ref l) (upd H l (.lst (z.cps.toList.map fun c => V.str ⟨#[c]⟩)))
def rListB (K : PySem.W.Frag) : List V → Hp → VK → Prop := fun xs H Q => rListA K xs H Q ∨ rListS xs H Q ∨ rListD xs H Q
def fListB : DF := fun xs S => match xs with
  | [.str z] => if z.cps.size ≤ sizeLine then some (.lst (signs z)) else none
  | [d] => (match getQ d S with
    | some ds => some (.lst ds)
    | none => (getK d S).map fun kvs => .lst (kvs.map fun kv => keyV kv.1))
  | _ => none
section
variable {X : Cx} {K : PySem.W.Frag}
theorem call_listS (hc : X.calm = true) : CallR X (.type "list") rListS := by
  intro pins s σ H xs us Q I r h
  obtain ⟨z, rfl, hz, q⟩ := h
  obtain ⟨u, rfl, ru⟩ := vals1 r
  obtain ⟨t, rfl⟩ := ru
  refine PySem.call_list_str (hn := hz) (I.ok.hd hc) z t fun h' tk acc c hk hD ha => ?_
  refine ⟨.ref s.heap.objs.size, _, I.laid (t' := tk) (o := .lst (z.cps.toList.map fun c => V.str ⟨#[c]⟩)) hk (Nat.le_refl _) ⟨?_, acc.toList, c, ?_, ?_⟩, rfl, q _ (I.hok.fresh (Nat.le_refl _))⟩
  · simpa using hz
  · refine vals_of_at (by simp [ha.1]) fun j x w h1 h2 => ?_
    rw [List.getElem?_map] at h1
    cases e : z.cps.toList[j]? with
    | none => rw [e] at h1; cases h1
    | some c =>
      rw [e] at h1
      cases h1
      obtain ⟨c', t', e1, e2⟩ := ha.2 j w (by rw [← Array.getElem?_toList]; exact h2)
      rw [← Array.getElem?_toList, e] at e1
      cases e1
      exact ⟨t', e2⟩
  · rw [Array.toArray_toList]
    exact hD
theorem call_listB (hc : X.calm = true) : CallR X (.type "list") (rListB X.K) := by
  intro pins s σ H xs us Q I r h
  rcases h with h | h | h
  · exact call_list_of pins s σ H xs us Q I r h
  · exact call_listS hc pins s σ H xs us Q I r h
  · exact call_list_dK hc pins s σ H xs us Q I r h
theorem rvs_signs {m : Mm} {H : Hp} : ∀ l : List Nat, Rvs K m H (l.map fun c => .str ⟨#[c]⟩) (l.map fun c => V.str ⟨#[c]⟩)
  | [] => .nil
  | _ :: l => .cons (.str _) (rvs_signs l)
theorem rvs_keys {m : Mm} {H : Hp} : ∀ l : List Key, Rvs K m H (l.map keyV) (l.map kV)
  | [] => .nil
  | .inl i :: l => .cons (.int i) (rvs_keys l)
  | .inr i :: l => .cons (.str i) (rvs_keys l)
theorem sim_listB : SimC K (rListB K) fListB := by
  intro m S H xs vs d Q rs rv e q
  unfold fListB at e
  split at e
  · rename_i z
    split at e
    · rename_i hz
      cases e
      obtain ⟨v, rfl, r⟩ := rv.one
      rw [r.strOf]
      refine .inr (.inl ⟨z, rfl, hz, fun p hp => ?_⟩)
      obtain ⟨e', rs', rp⟩ := rs.newLst hp (rvs_signs z.cps.toList)
      exact q _ m _ e' rs' rp
    · cases e
  · rename_i x _
    obtain ⟨v, rfl, r⟩ := rv.one
    split at e
    · rename_i ds e2
      cases e
      obtain ⟨a, vs, rfl, h1, h2⟩ := getQ_rv rs r e2
      refine .inl ⟨a, vs, rfl, h1, fun p hp => ?_⟩
      obtain ⟨e', rs', rp⟩ := rs.newLst hp h2
      exact q _ m _ e' rs' rp
    · simp only [Option.map_eq_some_iff] at e
      obtain ⟨kvs, e2, rfl⟩ := e
      obtain ⟨a, vs, rfl, h1, h2⟩ := getK_rv rs r e2
      refine .inr (.inr ⟨a, _, rfl, h1, fun p hp => ?_⟩)
      have hl := h2.length
      have e3 : ((kvs.map (·.1)).zip vs).map (fun kv => kV kv.1) = (kvs.map (·.1)).map kV := by
        have : ((kvs.map (·.1)).zip vs).map (·.1) = kvs.map (·.1) := by rw [List.map_fst_zip]; simp at hl; simp [hl]
        rw [← this, List.map_map]
        rw [this]
        rfl
      obtain ⟨e', rs', rp⟩ := rs.newLst hp (rvs_keys (K := K) (m := m) (H := H) (kvs.map (·.1)))
      rw [← e3] at e' rs' rp
      rw [List.map_map] at rp
      exact q _ m _ e' rs' rp
  · cases e
end
/-! ### sorted(x), whole numbers or texts -/
def rSrt (K : PySem.W.Frag) : List V → Hp → VK → Prop := fun vs H Q => (∃ (a : Addr) (ns : List Int), vs = [V.ref a] ∧ SqL K H a (ns.map V.int) ∧ ∀ p, H p = none → Q (.ref p) (upd H p (.lst ((ns.mergeSort fun a b => decide (a ≤ b)).map V.int)))) ∨
  ∃ (a : Addr) (ns : List Str), vs = [V.ref a] ∧ SqL K H a (ns.map V.str) ∧ ∀ p, H p = none → Q (.ref p) (upd H p (.lst ((ns.mergeSort fun a b => decide (a.cps.toList ≤ b.cps.toList)).map V.str)))
def fSrt : DF := fun xs S => match xs with
  | [d] => (match getL d S with
    | some ds => (match intsOf ds with
      | some ns => some (.lst ((ns.mergeSort fun a b => decide (a ≤ b)).map .int))
      | none => (strsOf ds).map fun ns => .lst ((ns.mergeSort fun a b => decide (a.cps.toList ≤ b.cps.toList)).map .str))
    | none => none)
  | _ => none
section
variable {X : Cx} {K : PySem.W.Frag}
theorem each_ints : ∀ {ns : List Int} {us : List Value}, Vals (ns.map V.int) us → PySem.W.EachIs (fun (u : Value) (n : Int) => RelV (.int n) u) us ns
  | [], _, .nil => .nil
  | _ :: _, _, .cons h r => .cons h (each_ints r)
theorem each_strs : ∀ {ns : List Str} {us : List Value}, Vals (ns.map V.str) us → PySem.W.EachIs (fun (u : Value) (n : Str) => RelV (.str n) u) us ns
  | [], _, .nil => .nil
  | _ :: _, _, .cons h r => .cons h (each_strs r)
theorem ints_each : ∀ {ns : List Int} {us : List Value}, PySem.W.EachIs (fun (u : Value) (n : Int) => RelV (.int n) u) us ns → Vals (ns.map V.int) us
  | [], _, .nil => .nil
  | _ :: _, _, .cons h r => .cons h (ints_each r)
theorem strs_each : ∀ {ns : List Str} {us : List Value}, PySem.W.EachIs (fun (u : Value) (n : Str) => RelV (.str n) u) us ns → Vals (ns.map V.str) us
  | [], _, .nil => .nil
  | _ :: _, _, .cons h r => .cons h (strs_each r)
theorem call_srt {k : Nat} (hr : Room k X.A) : CallR X (.builtin "sorted") (rSrt X.K) := by
  intro pins s σ H vs us Q I r h
  have hu := hr.un
  rcases h with ⟨a, ns, rfl, hs, q⟩ | ⟨a, ns, rfl, hs, q⟩
  · obtain ⟨its, rv, pl, hz⟩ := I.list hs
    rw [Vals.ref1 r]
    have hz' : ns.length ≤ sizeLine := by simpa using hz
    refine PySem.W.sorted_data (enc := fun n => PyData.int n) pl.isList (each_ints rv) (PySem.W.EachIs.mono (fun u n h => ?_) (each_ints rv)) (PySem.W.AllAlike.of fun _ _ => rfl) (PySem.W.Sortable.others fun _ => ⟨by simp, by simp⟩) hz' (fun d _ => ?_) fun out hlen ho => ?_
    · obtain ⟨t, rfl⟩ := h
      exact ⟨[], .int _ _⟩
    · show X.A.units + 2 + 0 < cLine
      omega
    · rw [PySem.W.dataLe_int] at ho
      obtain ⟨ep, he'⟩ := PyProof.Rows.sortedAll_at s.heap its out.toArray
      refine ⟨.ref _, upd H (s.heap.objs.size + 1) (.lst ((ns.mergeSort fun a b => decide (a ≤ b)).map V.int)), I.laid (t' := s.toks) (fun _ _ => PyProof.Rows.sortedAll_old) (Nat.le_succ _) ⟨?_, out, ep, ints_each ho, he'⟩, rfl, q _ (I.hok.fresh (Nat.le_succ _))⟩
      simpa using hz'
  · obtain ⟨its, rv, pl, hz⟩ := I.list hs
    rw [Vals.ref1 r]
    have hz' : ns.length ≤ sizeLine := by simpa using hz
    refine PySem.W.sorted_data (enc := fun n => PyData.str n) pl.isList (each_strs rv) (PySem.W.EachIs.mono (fun u n h => ?_) (each_strs rv)) (PySem.W.AllAlike.of fun _ _ => rfl) (PySem.W.Sortable.others fun _ => ⟨by simp, by simp⟩) hz' (fun d _ => ?_) fun out hlen ho => ?_
    · obtain ⟨t, rfl⟩ := h
      exact ⟨[], .str _ _⟩
    · show X.A.units + 2 + 0 < cLine
      omega
    · rw [PySem.W.dataLe_str] at ho
      obtain ⟨ep, he'⟩ := PyProof.Rows.sortedAll_at s.heap its out.toArray
      refine ⟨.ref _, upd H (s.heap.objs.size + 1) (.lst ((ns.mergeSort fun a b => decide (a.cps.toList ≤ b.cps.toList)).map V.str)), I.laid (t' := s.toks) (fun _ _ => PyProof.Rows.sortedAll_old) (Nat.le_succ _) ⟨?_, out, ep, strs_each ho, he'⟩, rfl, q _ (I.hok.fresh (Nat.le_succ _))⟩
      simpa using hz'
theorem rvs_ints {m : Mm} {H : Hp} : ∀ l : List Int, Rvs K m H (l.map .int) (l.map V.int)
  | [] => .nil
  | _ :: l => .cons (.int _) (rvs_ints l)
theorem rvs_strs {m : Mm} {H : Hp} : ∀ l : List Str, Rvs K m H (l.map .str) (l.map V.str)
  | [] => .nil
  | _ :: l => .cons (.str _) (rvs_strs l)
theorem sim_srt : SimC K (rSrt K) fSrt := by
  intro m S H xs vs d Q rs rv e q
  unfold fSrt at e
  split at e
  · rename_i x
    obtain ⟨v, rfl, r⟩ := rv.one
    split at e
    · rename_i ds e2
      obtain ⟨a, vs, rfl, h1, h2⟩ := getL_rv rs r e2
      split at e
      · rename_i ns en
        cases e
        cases ints_rv h2 en
        refine .inl ⟨a, ns, rfl, SqL.of h1, fun p hp => ?_⟩
        obtain ⟨e', rs', rp⟩ := rs.newLst hp (rvs_ints (ns.mergeSort fun a b => decide (a ≤ b)))
        exact q _ m _ e' rs' rp
      · simp only [Option.map_eq_some_iff] at e
        obtain ⟨ns, en, rfl⟩ := e
        cases strs_rv h2 en
        refine .inr ⟨a, ns, rfl, SqL.of h1, fun p hp => ?_⟩
        obtain ⟨e', rs', rp⟩ := rs.newLst hp (rvs_strs (ns.mergeSort fun a b => decide (a.cps.toList ≤ b.cps.toList)))
        exact q _ m _ e' rs' rp
    · cases e
  · cases e
end
/-! ### {k: v for ..} -/
def dcL (s : Src) (g : DG) (tt : DT) (tk tv : DE) (δ : Sl) : List D → List (Key × D) → Sto → R (List (Key × D))
  | [], acc, S => if s.ok S = true then .ok acc S else .stuck
  | d :: r, acc, S => if s.ok S = true then (match g d δ S with
    | some δ1 => (tt δ1 S).nox.bind fun b S1 => if b = true then (tk δ1 S1).nox.bind fun y S2 => (tv δ1 S2).nox.bind fun z S3 => (match keyD y with
      | some k => dcL s g tt tk tv δ r (putD acc k z) S3
      | none => .stuck) else dcL s g tt tk tv δ r acc S1
    | none => .stuck) else .stuck
def dDc (t : DI) (g : DG) (tt : DT) (tk tv : DE) (vs : List Nat) : DE := fun δ S => (t δ S).bind fun s S1 => if s.ds.length < sizeLine then (dcL s g tt tk tv (wipeD δ vs) s.ds [] S1).nox.bind fun kvs S2 => .ok (.dic (kvs.map (·.1)) (kvs.map (·.2))) S2 else .stuck
theorem putD_length {kvs : List (Key × D)} {k : Key} {v : D} : (putD kvs k v).length ≤ kvs.length + 1 := by
  unfold putD
  split
  · simp
  · simp
section
variable {is : List Nat} {t : DI} {g : DG} {tt : DT} {te tv : DE}
theorem tDc_of {K : PySem.W.Frag} {mg : Str → Option Value} {W : WX} {vs : List Nat} (his : ∀ i ∈ is, i ∈ vs) {σ : L2.St} {H : Hp} {Q : VK} (h : LE K mg W (dDc t g tt te tv vs) σ H Q) :
    tDc (LI K mg W t) (LGc K is g) (LT K mg (fun _ _ _ _ => False) tt) (LE K mg (fun _ _ _ _ => False) te) (LE K mg (fun _ _ _ _ => False) tv) vs σ H Q := by
  obtain ⟨m, S, δ, rs, re, q⟩ := h
  refine li_bind rs re q fun s S1 J m1 H1 x1 rs1 re1 hJ q1 => fun Dd hD => ?_
  split at q1
  · rename_i hn
    cases e0 : (dcL s g tt te tv (wipeD δ vs) s.ds [] S1).nox with
    | stuck => rw [e0] at q1; exact q1.elim
    | ex c fs S2 => exact absurd e0 (NoEx.nox _ c fs S2)
    | ok xs Se =>
    rw [e0] at q1
    have e0 := R.nox_ok e0
    have fin : ∀ v m' H', Ext m1 H1 m' H' → RelS K m' Se H' → Rv K m' H' (.dic (xs.map (·.1)) (xs.map (·.2))) v → Q v H' := q1
    obtain ⟨xb, rsb⟩ := rs1.banNew hD (.dK []) (.inr ⟨_, rfl⟩)
    refine ⟨fun i k H => ∃ (mb : Mm) (S : Sto) (acc : List (Key × D)) (av : List V), Ext m1 H1 mb H ∧ RelS K mb S H ∧ RelE K mb H (wipeD δ vs) (L2.wipe σ vs) ∧ Dd ∈ mb.no ∧ H Dd = some (.dK ((acc.map (·.1)).zip av)) ∧ Rvs K mb H (acc.map (·.2)) av ∧ i + k = s.ds.length ∧ acc.length ≤ i ∧
        dcL s g tt te tv (wipeD δ vs) (s.ds.drop i) acc S = .ok xs Se,
      ⟨s.ds.length, m1.ban Dd, S1, [], [], xb, rsb, (re1.mono xb).wipe vs, List.mem_cons_self, upd_same, .nil, by omega, Nat.le_refl _, by rw [List.drop_zero]; exact e0⟩,
      fun i k H ⟨mb, S, acc, av, x, rs, re, hb, hH, hav, ik, hacc, el⟩ => ?_⟩
    by_cases h : i < s.ds.length
    · rw [drop_cons h] at el
      unfold dcL at el
      split at el
      · rename_i ok
        split at el
        · rename_i δ1 eg
          obtain ⟨b, S2, eb, el⟩ := R.bind_ok el
          have eb := R.nox_ok eb
          refine .inr ⟨hJ.go i mb S H h x rs ok, fun H' => ∃ (mb : Mm) (S : Sto) (acc : List (Key × D)) (av : List V), Ext m1 H1 mb H' ∧ RelS K mb S H' ∧ RelE K mb H' (wipeD δ vs) (L2.wipe σ vs) ∧ Dd ∈ mb.no ∧ H' Dd = some (.dK ((acc.map (·.1)).zip av)) ∧ Rvs K mb H' (acc.map (·.2)) av ∧ acc.length ≤ i + 1 ∧
            dcL s g tt te tv (wipeD δ vs) (s.ds.drop (i + 1)) acc S = .ok xs Se,
            fun H' ⟨mb', S', acc', av', x', rs', re', hb', hH', hav', hacc', el'⟩ => ⟨k - 1, by omega, mb', S', acc', av', x', rs', re', hb', hH', hav', by omega, hacc', el'⟩, fun v H' hy => ?_⟩
          obtain ⟨d, hd, x2, rs2, rv⟩ := hJ.yld i mb S H v H' h x rs ok hy
          rw [List.getElem?_eq_getElem h] at hd
          cases hd
          have dcs : Dd ∉ mb.cs := (rs.ban Dd hb).1
          refine ⟨mb, S, wipeD δ vs, _, δ1, rs2, re.mono x2, rv, eg, fun σ2 m2 H2 x3 rs3 re3 o3 => ⟨(o3.wipe his).trans (wipe_wipe σ vs), m2, S, δ1, rs3, re3, ?_⟩⟩
          rw [eb]
          intro b' m3 H3 x4 rs4 hb'
          subst hb'
          have x24 := (x2.trans x3).trans x4
          have d3 : Dd ∈ m3.no := x24.sub _ hb
          have h3 := x24.keep _ _ dcs hH (fun _ => HO.noConfusion)
          cases b'
          · exact ⟨m3, S2, acc, av, x.trans x24, rs4, re.mono x24, d3, h3, hav.mono x24, by omega, el⟩
          · obtain ⟨y, S3, ey, el⟩ := R.bind_ok el
            have ey := R.nox_ok ey
            obtain ⟨z, S4, ez, el⟩ := R.bind_ok el
            have ez := R.nox_ok ez
            split at el
            · rename_i kk hk
              refine ⟨m3, S2, δ1, rs4, re3.mono x4, ?_⟩
              rw [ey]
              intro w m4 H4 x5 rs5 rw5
              refine ⟨m4, S3, δ1, rs5, re3.mono (x4.trans x5), ?_⟩
              rw [ez]
              intro w6 m6 H6 x6 rs6 rw6
              have x26 := (x24.trans x5).trans x6
              have d6 : Dd ∈ m6.no := x26.sub _ hb
              have h6 := x26.keep _ _ dcs hH (fun _ => HO.noConfusion)
              have c6 := (rs6.ban Dd d6).1
              have hl := hav.length
              rw [List.length_map] at hl
              obtain ⟨ws, w1, w2⟩ := putD_rv (k := kk) rw6 (hav.mono x26)
              refine ⟨_, kk, keyD_rv rw5 hk, h6, ?_, m6, S4, putD acc kk z, ws, (x.trans x26).updFresh hD (fun _ => HO.noConfusion), rs6.offban d6 (.inr ⟨_, rfl⟩), (re.mono x26).offban (.inr d6) c6, d6, by rw [upd_same, w1],
                w2.offban (.inr d6) c6, Nat.le_trans putD_length (by omega), el⟩
              rw [List.length_zip, List.length_map, ← hl, Nat.min_self]
              omega
            · cases el
        · cases el
      · cases el
    · have hi' : i = s.ds.length := by omega
      subst hi'
      rw [List.drop_length] at el
      unfold dcL at el
      split at el
      · rename_i ok
        cases el
        refine .inl ⟨hJ.stop mb _ H x rs ok, ?_⟩
        have dn : Dd ∉ m1.no := fun z => by
          obtain ⟨u, hu, _⟩ := (rs1.ban Dd z).2
          rw [hD] at hu; cases hu
        have hsub : ∀ a o, a ∉ mb → H a = some o → a ∉ (⟨mb.cs, m1.no⟩ : Mm) := fun a o hn _ z => by
          rcases z with z | z
          · exact hn (.inl z)
          · exact hn (.inr (x.sub a z))
        refine fin _ ⟨mb.cs, m1.no⟩ H ⟨x.pre, fun _ z => z, fun _ z => .inl z, x.new, x.keep, x.there⟩ (RelS.reban (m := mb) (n := ⟨mb.cs, m1.no⟩) rs rfl hsub fun a z => rs.ban a (x.sub a z)) ?_
        have hl := hav.length
        exact .dic ⟨hH, fun z => by
          rcases z with z | z
          · exact (rs.ban Dd hb).1 z
          · exact dn z⟩ (by rw [← hl]; simp) (Rvs.reban (m := mb) (n := ⟨mb.cs, m1.no⟩) rfl hsub _ hav)
      · cases el
  · exact q1.elim
end
section
variable {X : Cx} {kx vx tg iter : Expr} {ifs : List Expr} {scope : Scope} {own : List (Str × Nat)} {pos : Pos} {t : DI} {g : DG} {tt : DT} {te tv : DE} {is : List Nat}
theorem pev_dc (hc : X.calm = true) (hN : X.N.Nodup) (hi : PIv X tg iter t) (ok : BlkOk X.N X.env.scope scope own) (his : ∀ i ∈ is, i ∈ own.map (·.2))
    (hg : ∀ (s : Shared) (H : Hp) (C : Addr) (cl : List (Str × Addr)) (fp : List Addr), PGc (X.blk s H scope (compEnvC scope cl C X.env) fp) is tg g)
    (ht : ∀ (s : Shared) (H : Hp) (C : Addr) (cl : List (Str × Addr)) (fp : List Addr), PTsv (X.blk s H scope (compEnvC scope cl C X.env) fp) ifs tt)
    (hk : ∀ (s : Shared) (H : Hp) (C : Addr) (cl : List (Str × Addr)) (fp : List Addr), PEv (X.blk s H scope (compEnvC scope cl C X.env) fp) kx te)
    (hv : ∀ (s : Shared) (H : Hp) (C : Addr) (cl : List (Str × Addr)) (fp : List Addr), PEv (X.blk s H scope (compEnvC scope cl C X.env) fp) vx tv) (hs : ∀ x, foldedSetIterable iter X.env x = pure x := by intro _; rfl) :
    PEv X (.DictComp kx vx [⟨tg, iter, ifs, 0⟩] scope pos) (dDc t g tt te tv (own.map (·.2))) := fun W tk =>
  PE.imp (pe_dc (g := LGc X.K is g) hc hN (hi W tk) ok (fun s H C cl fp => hg s H C cl fp) (fun s H C cl fp => ht s H C cl fp (fun _ _ _ _ => False) takes0) (fun s H C cl fp => hk s H C cl fp (fun _ _ _ _ => False) takes0) (fun s H C cl fp => hv s H C cl fp (fun _ _ _ _ => False) takes0) hs) fun σ H Q h => tDc_of his h
end
end QB
set_option maxHeartbeats 4000000
namespace QB
open PySem PySem.Spec PySem.Calls PyProof.Rows L2
/-! ### def f( *v) -/
def spS (K : PySem.W.Frag) (mg : Str → Option Value) (F : DFn) : Sp := fun vs H Q E => vs.length ≤ sizeLine ∧ ∃ m S ds, RelS K m S H ∧ Rvs K m H ds vs ∧ OkR K mg (Rv K) m H (F ds S) Q E
structure FnS (P : Program) (w : World) (K : PySem.W.Frag) (mg : Str → Option Value) (base : Heap) (x : Str) (k : Nat) (F : DFn) : Prop where
  ex : ∃ f, FnR P w K mg base (L2.CX P w) k f (spS K mg F) ∧ mg x = some (.ref f) ∧ PySem.W.keepIn K (.ref f) = true
def dStar (fi : Nat → Out → R D) (N : List Str) (t : DS) : DFn := fun ds S => fi S.length (t (slots N [.tup ds]) S)
theorem fns_def {P : Program} {w : World} {K : PySem.W.Frag} {mg : Str → Option Value} {base : Heap} {st : Stmt} {x pv : Str} {N : List Str} {k : Nat} {f : Addr} {fd : FuncData} {t : DS} {fi : Nat → Out → R D} (F : FunD K x x (defArgs st) (defBody st) (defScope st) [] [] f fd) (hm : mg x = some (.ref f))
    (Sc : FnScope N [pv] (defScope st)) (hfi : FinOk fi)
    (hbs : ∀ (kV doc pm : Value) (an : Option Addr) (cdv ct : Value) (rest : List Value), bindArgs (PySem.W.fnOf x x (defArgs st) (defBody st) (defScope st) .none kV doc pm an cdv ct) ⟨rest, []⟩ = (newTuple rest >>= fun t => pure [(pv, t)]))
    (hb : ∀ (cd : Value) (A : Around) (outer : List Env) (s : Shared) (H : Hp) (E : XK), Room k (A.deeper (envOfC x (defScope st) s.heap.objs.size f cd)) → PSsv (XC P w K mg base N x (defScope st) f cd A outer s H E) (defBody st) t) :
    FnS P w K mg base x (k + 1) (dStar fi N t) := by
  obtain ⟨oc, od, dV, kV, doc, pm, an, cdv, ct, osl, rfl, lk, hcd, hDf, hK⟩ := F.ex
  have hd : dV = .none := by
    rcases hDf with ⟨_, h⟩ | ⟨h, _⟩
    · exact h
    · exact absurd rfl h
  subst hd
  refine ⟨f, FnR.imp (StX.fn_star (ps := []) (sp := fun vs H Q E => ∃ p, vs = [V.ref p] ∧ ∃ m S d, RelS K m S H ∧ Rv K m H d (.ref p) ∧ OkR K mg (Rv K) m H (fi S.length (t (slots N [d]) S)) Q E) lk hcd Sc StX.cxUp (fun us rest hl => ?_) fun A outer s H vs Q E hr h => ?_) fun vs H Q E h => ?_, hm, F.kp⟩
  · cases us with
    | nil => exact hbs _ _ _ _ _ _ rest
    | cons u us => cases hl
  · obtain ⟨p, rfl, m, S, d, rs, r, q⟩ := h
    refine ⟨_, hb cdv A outer s H E hr (fun c d _ H' => E c d H') (takes_of rfl rfl rfl rfl), ?_⟩
    refine ⟨m, S, slots N [d], rs, relE_start (.cons r .nil), ?_⟩
    rw [← rs.len] at q
    exact hfi rfl q
  · obtain ⟨hl, m, S, ds, rs, r, q⟩ := h
    refine ⟨[], vs, rfl, rfl, hl, fun p hp => ⟨p, rfl, m, S, .tup ds, ?_⟩⟩
    obtain ⟨x2, rs2, rv2⟩ := rs.newTup hp r
    exact ⟨rs2, rv2, OkR.ext q x2⟩
section
variable {X : Cx} {x : Str} {k : Nat} {F : DFn} {p pos : Pos} {e : Expr} {es : List Expr} {ts : DA}
theorem run_fnRS {sp : Sp} {f : Addr} {pins : List (Addr × Obj)} {s : Shared} {σ : L2.St} {H : Hp} {E : XK} {Q : VK} {us : List Value} {vs : List V} (G : FnR X.prog X.w X.K X.mg X.base (L2.CX X.prog X.w) k f sp) (hr : Room k X.A) (hx : PassesAt (L2.CX X.prog X.w) X σ E)
    (I : Inv X pins σ H s) (r : Vals vs us) (h : sp vs H Q E) : wpAny (model X.prog X.w) X.A (call (.ref f) us) (EP X pins σ Q) X.xe s := by
  refine wpAny_call (codeAny_mono (G X.A X.stack s H us vs Q E hr I.env0 r h) fun r s' hq => ?_)
  cases r with
  | error e => exact hx pins H s e s' I hq
  | ok fl =>
    cases fl with
    | ret u => exact I.after hq
    | next => exact hq.elim
    | brk => exact hq.elim
    | cont => exact hq.elim
def dCallS (F : DFn) (ts : DA) : DE := fun δ S => (ts δ S).bind fun xs S1 => if xs.length ≤ sizeLine then F xs S1 else .stuck
theorem pev_callS (G : FnS X.prog X.w X.K X.mg X.base x k F) (hr : Room k X.A) (hg : Gl X x) (ha : PAv X (e :: es) ts)
    (hdb : (x == ("__debug__" : Str)) = false := by decide) (he : starEach (e :: es) X.env = (false, eval e X.env) :: starEach es X.env := by rfl) (hpl : (backTo pos (starEach es X.env)).any (·.1) = false := by rfl) :
    PEv X (.Call (.Name x p) (e :: es) [] pos) (dCallS F ts) := fun W tk => by
  obtain ⟨f, hF, hm, hk⟩ := G.ex
  refine ⟨fun pins s σ H Q I ⟨m, S, δ, rs, re, q⟩ => ?_⟩
  refine wpAny_Call_Name_kw (ld_glob I hg hm ?_ hdb)
  refine PySem.W.callWith_K (h₀ := X.base) I.ok.mod.kin hk (thn ((ha W tk).run pos pins s σ H (fun vs H1 => spS X.K X.mg F vs H1 Q (WE W σ)) I ?_) fun us s1 ⟨vs, H1, I1, r, q1⟩ => ⟨I1.kIn, run_fnRS hF hr (passAt tk σ) I1 r q1⟩) he hpl
  refine ⟨m, S, δ, rs, re, ?_⟩
  unfold dCallS at q
  cases e1 : ts δ S with
  | stuck => rw [e1] at q; exact q.elim
  | ex c fs S1 => rw [e1] at q; exact q
  | ok xs S1 =>
    rw [e1] at q
    intro vs m1 H1 x1 rs1 rv
    have q2 : OkR X.K X.mg (Rv X.K) m H (if xs.length ≤ sizeLine then F xs S1 else .stuck) Q (fun c d H' => W c d σ H') := q
    split at q2
    · rename_i hl
      exact ⟨by rw [← rv.length]; exact hl, m1, S1, xs, rs1, rv, OkR.ext q2 x1⟩
    · exact q2.elim
def dCallS0 (F : DFn) : DE := fun δ S => F [] S
theorem pev_callS0 (G : FnS X.prog X.w X.K X.mg X.base x k F) (hr : Room k X.A) (hg : Gl X x) (hdb : (x == ("__debug__" : Str)) = false := by decide) : PEv X (.Call (.Name x p) [] [] pos) (dCallS0 F) := fun W tk => by
  obtain ⟨f, hF, hm, hk⟩ := G.ex
  refine ⟨fun pins s σ H Q I ⟨m, S, δ, rs, re, q⟩ => ?_⟩
  refine wpAny_Call_Name_kw (ld_glob I hg hm ?_ hdb)
  refine PySem.W.callWith_K0 I.kIn hk ?_
  exact run_fnRS (us := []) (vs := []) hF hr (passAt tk σ) I .nil ⟨Nat.zero_le _, m, S, [], rs, .nil, q⟩
end
end QB
set_option maxHeartbeats 4000000
namespace QB
open PySem PySem.Spec PySem.Calls PyProof.Rows L2
/-! ### a tuple by a small number -/
theorem tmul0 (l : Addr) (its : Array Value) (n : Nat) (dd : Option Addr) (sl : Array (Option Value)) (x : Int) (u : Tok) (b0 : (decide (x < -(2 ^ 63)) || decide (x ≥ 2 ^ 63)) = false) (b1 : (its.isEmpty || x == 1) = false) (b2 : (decide (x ≤ 0) || its.isEmpty) = true) :
    Meets (Builtin.«tuple.__mul__» ⟨[.ref l, .int x u], []⟩) (fun _ R s => s.heap.get? l = some { cls := .type "tuple", dict := dd, data := .seq its n, slots := sl } ∧
      R (.ok (.ret (Value.ref s.heap.objs.size))) { s with heap := s.heap.push { cls := Value.type "tuple", data := Data.seq #[] }, toks := s.toks }) :=
  .of_wp fun prog w A R s h => by
    obtain ⟨hp, g, d, tk, os⟩ := s
    obtain ⟨hl, h⟩ := h
    have f1 := AutoSeq1.idx_int
    wp_walk using wpAny_loadPart' hl
    repeat (first
      | (refine wpAny_ite_false (decide_eq_false (by rw [b0]; exact Bool.false_ne_true)) ?_; wp_walk using wpAny_loadPart' hl)
      | (refine wpAny_ite_false (decide_eq_false (by rw [b1]; exact Bool.false_ne_true)) ?_; wp_walk using wpAny_loadPart' hl)
      | (refine wpAny_ite_true (decide_eq_true b2) ?_; wp_walk using wpAny_loadPart' hl))
    exact ⟨_, rfl, h⟩
theorem tmul1 (l : Addr) (its : Array Value) (n : Nat) (dd : Option Addr) (sl : Array (Option Value)) (x : Int) (u : Tok) (b0 : (decide (x < -(2 ^ 63)) || decide (x ≥ 2 ^ 63)) = false) (b1 : (its.isEmpty || x == 1) = true) :
    Meets (Builtin.«tuple.__mul__» ⟨[.ref l, .int x u], []⟩) (fun _ R s => s.heap.get? l = some { cls := .type "tuple", dict := dd, data := .seq its n, slots := sl } ∧ R (.ok (.ret (Value.ref l))) s) :=
  .of_wp fun prog w A R s h => by
    obtain ⟨hp, g, d, tk, os⟩ := s
    obtain ⟨hl, h⟩ := h
    have f1 := AutoSeq1.idx_int
    wp_walk using wpAny_loadPart' hl
    repeat (first
      | (refine wpAny_ite_false (decide_eq_false (by rw [b0]; exact Bool.false_ne_true)) ?_; wp_walk using wpAny_loadPart' hl)
      | (refine wpAny_ite_true (decide_eq_true b1) ?_; wp_walk using wpAny_loadPart' hl))
    exact ⟨_, rfl, h⟩
def rMul0 (K : PySem.W.Frag) : R2 := fun x y H Q => ∃ l k xs, x = V.ref l ∧ y = .int k ∧ SqT K H l xs ∧ -1000 ≤ k ∧ k ≤ 1 ∧ if xs = [] ∨ k = 1 then Q (.ref l) H else ∀ p, H p = none → Q (.ref p) (upd H p (.tup []))
def rMulS : R2 := fun x y H Q => ∃ z k, x = V.str z ∧ y = .int k ∧ -1000 ≤ k ∧ k ≤ 1000 ∧ z.length ≤ 1000 ∧ Str.length ⟨(List.replicate k.toNat z.cps).foldl (· ++ ·) #[]⟩ ≤ sizeLine ∧ Q (.str (if k < 1 then Str.empty else if (k == 1 || z.length == 0) = true then z else ⟨(List.replicate k.toNat z.cps).foldl (· ++ ·) #[]⟩)) H
section
variable {X : Cx} {K : PySem.W.Frag}
theorem op_mul0 : OpR X (binaryOp .Mult) (rMul0 X.K) := by
  intro pins s σ H x y v u Q I rx ry h
  obtain ⟨l, k, xs, rfl, rfl, hT, h1, h2, q⟩ := h
  cases rx
  obtain ⟨t, rfl⟩ := ry
  obtain ⟨its, r, ⟨⟨cls, dd, data, sl⟩, ho, hc, n, hd⟩, hs⟩ := I.tuple hT
  simp only at hc hd
  subst hc hd
  have b0 : (decide (k < -(2 ^ 63)) || decide (k ≥ 2 ^ 63)) = false := by
    rw [decide_eq_false (by omega), decide_eq_false (by omega)] <;> rfl
  have he : its = [] ↔ xs = [] := r.nil_iff
  have hemp : its.toArray.isEmpty = decide (xs = []) := by
    cases its with
    | nil => rw [he.mp rfl]; rfl
    | cons a b => rw [decide_eq_false (fun z => by have := he.mpr z; cases this)]; rfl
  by_cases hx : xs = [] ∨ k = 1
  · rw [if_pos hx] at q
    have b1 : (its.toArray.isEmpty || k == 1) = true := by
      rw [hemp]
      rcases hx with hx | hx
      · rw [decide_eq_true hx]; rfl
      · subst hx; simp
    exact wpAny_binaryOp_repeat_ref (T := "tuple") (U := "int") (by decide) ⟨_, ho, rfl⟩ (fun s' => typeIs_int s' k t) noFill_tuple_mul F.fills_int_mul F.slot_int_rmul repeat_tuple F.slot_int_index.lookup
      (call_meets F.slot_int_rmul (typeIs_int s k t) F.entry_int_rmul (F.args_int_rmul_2 _ _) (int_rmul_tuple k t l its.toArray n dd sl)
        ⟨ho, rfl, ⟨_, ho, rfl⟩, call_meets F.slot_tuple_mul ⟨_, ho, rfl⟩ F.entry_tuple_mul (F.args_tuple_mul_2 _ _) (tmul1 l its.toArray n dd sl k t b0 b1) ⟨ho, .ref l, H, I, rfl, q⟩⟩)
  · rw [if_neg hx] at q
    have n1 : xs ≠ [] := fun z => hx (.inl z)
    have n2 : k ≠ 1 := fun z => hx (.inr z)
    have b1 : (its.toArray.isEmpty || k == 1) = false := by
      rw [hemp, decide_eq_false n1, Bool.false_or]
      exact beq_eq_false_iff_ne.mpr n2
    have b2 : (decide (k ≤ 0) || its.toArray.isEmpty) = true := by
      rw [decide_eq_true (by omega)]; rfl
    refine wpAny_binaryOp_repeat_ref (T := "tuple") (U := "int") (by decide) ⟨_, ho, rfl⟩ (fun s' => typeIs_int s' k t) noFill_tuple_mul F.fills_int_mul F.slot_int_rmul repeat_tuple F.slot_int_index.lookup
      (call_meets F.slot_int_rmul (typeIs_int s k t) F.entry_int_rmul (F.args_int_rmul_2 _ _) (int_rmul_tuple k t l its.toArray n dd sl)
        ⟨ho, rfl, ⟨_, ho, rfl⟩, call_meets F.slot_tuple_mul ⟨_, ho, rfl⟩ F.entry_tuple_mul (F.args_tuple_mul_2 _ _) (tmul0 l its.toArray n dd sl k t b0 b1 b2) ⟨ho, ?_⟩⟩)
    refine ⟨.ref s.heap.objs.size, _, I.laid (t' := s.toks) (o := .tup []) (fun b ob q => Heap.get?_push_of_some _ q) (Nat.le_refl _) ?_, rfl, q _ (I.hok.fresh (Nat.le_refl _))⟩
    exact ⟨Nat.zero_le _, [], .nil, IsTup.new _ _⟩
theorem op_mulS : OpR X (binaryOp .Mult) rMulS := by
  intro pins s σ H x y v u Q I rx ry h
  obtain ⟨z, k, rfl, rfl, h1, h2, hz, hlen, q⟩ := h
  obtain ⟨t, rfl⟩ := rx
  obtain ⟨t2, rfl⟩ := ry
  have b0 : (decide (k < -(2 ^ 63)) || decide (k ≥ 2 ^ 63)) = false := by
    rw [decide_eq_false (by omega), decide_eq_false (by omega)] <;> rfl
  refine P.mul_str b0 (fun g1 g2 => ?_) (fun g1 g2 => ?_) ?_
  · have hk : 0 < k := by omega
    have h3 : ((z.length : Nat) : Int) * k ≤ 1000 * 1000 := Int.mul_le_mul (by omega) h2 (by omega) (by omega)
    have := Int.le_ediv_of_mul_le (b := (2 ^ 63 - 1 : Int)) hk (Int.le_trans h3 (by decide))
    omega
  · have h3 : z.length * k.toNat ≤ 1000 * 1000 := Nat.mul_le_mul hz (by omega)
    unfold Builtin.Str.tooLong
    rw [sizeLine_eq]
    exact decide_eq_false (by omega)
  · split
    · rename_i g
      rw [if_pos g] at q
      exact ⟨by decide, .str Str.empty, H, I.tok _, ⟨_, rfl⟩, q⟩
    · rename_i g
      rw [if_neg g] at q
      split
      · rename_i g2
        rw [if_pos g2] at q
        exact ⟨.str z, H, I, ⟨t, rfl⟩, q⟩
      · rename_i g2
        rw [if_neg g2] at q
        exact ⟨hlen, .str ⟨(List.replicate k.toNat z.cps).foldl (· ++ ·) #[]⟩, H, I.tok _, ⟨_, rfl⟩, q⟩
def bMul0 : DB := fun x y _ => match x, y with
  | .tup xs, .int k => if -1000 ≤ k ∧ k ≤ 1 then (if xs.isEmpty = true ∨ k = 1 then some (.tup xs) else some (.tup [])) else none
  | _, _ => none
def bMulS : DB := fun x y _ => match x, y with
  | .str z, .int k => if -1000 ≤ k ∧ k ≤ 1000 ∧ z.length ≤ 1000 ∧ Str.length ⟨(List.replicate k.toNat z.cps).foldl (· ++ ·) #[]⟩ ≤ sizeLine then some (.str (if k < 1 then Str.empty else if (k == 1 || z.length == 0) = true then z else ⟨(List.replicate k.toNat z.cps).foldl (· ++ ·) #[]⟩)) else none
  | _, _ => none
def bMulX : DB := orB bMul (orB bMul0 bMulS)
theorem sim_mul0 : Sim2 K (rMul0 K) bMul0 := by
  intro m S H x y v u d Q rs rv ru e q
  unfold bMul0 at e
  split at e
  · rename_i xs k
    obtain ⟨a, vs, rfl, h1, h2⟩ := rv.tupAt
    cases ru
    split at e
    · rename_i h
      refine ⟨a, k, vs, rfl, rfl, h1, h.1, h.2, ?_⟩
      have he : vs = [] ↔ xs.isEmpty = true := by
        cases xs with
        | nil => cases h2; simp
        | cons _ _ => cases h2; simp
      split at e
      · rename_i g
        cases e
        rw [if_pos (g.imp he.mpr id)]
        exact q _ m H .refl rs rv
      · rename_i g
        cases e
        rw [if_neg (fun z => g (z.imp he.mp id))]
        intro p hp
        obtain ⟨e', rs', rp⟩ := rs.newTup hp (.nil : Rvs K m H [] [])
        exact q _ m _ e' rs' rp
    · cases e
  · cases e
theorem sim_mulS : Sim2 K rMulS bMulS := by
  intro m S H x y v u d Q rs rv ru e q
  unfold bMulS at e
  split at e
  · rename_i z k
    cases rv
    cases ru
    split at e
    · rename_i h
      cases e
      exact ⟨z, k, rfl, rfl, h.1, h.2.1, h.2.2.1, h.2.2.2, q _ m H .refl rs (.str _)⟩
    · cases e
  · cases e
theorem pev_mulX {a b : Expr} {ta tb : DE} {pos : Pos} (ha : PEv X a ta) (hb : PEv X b tb) : PEv X (.BinOp a .Mult b pos) (d2 bMulX ta tb) :=
  pev_op ((op_mul.or op_repT).or (op_mul0.or op_mulS)) ((sim_mulI.or sim_mulT).orB (sim_mul0.orB sim_mulS)) ha hb
end
end QB
set_option maxHeartbeats 4000000
namespace QB
open PySem PySem.Spec PySem.Calls PyProof.Rows L2
/-! ### the module's constants -/
section
variable {X : Cx} {x z : Str} {i : Int} {pos : Pos}
theorem pev_gS (h : ∃ t, X.mg x = some (.str z t)) (hg : Gl X x) (hd : (x == ("__debug__" : Str)) = false := by decide) : PEv X (.Name x pos) (dC (.str z)) := by
  obtain ⟨t, h⟩ := h
  exact pev_glob (v := .str z) hg h ⟨t, rfl⟩ (fun m H => .str _) hd
theorem pev_gI (h : ∃ t, X.mg x = some (.int i t)) (hg : Gl X x) (hd : (x == ("__debug__" : Str)) = false := by decide) : PEv X (.Name x pos) (dC (.int i)) := by
  obtain ⟨t, h⟩ := h
  exact pev_glob (v := .int i) hg h ⟨t, rfl⟩ (fun m H => .int _) hd
/-- a tuple constant -/
def GT (K : PySem.W.Frag) (mg : Str → Option Value) (x : Str) (ds : List D) : Prop := ∃ a vs, mg x = some (.ref a) ∧ KT K a vs ∧ ∀ m H, Rvs K m H ds vs
theorem pev_gT {ds : List D} (h : GT X.K X.mg x ds) (hg : Gl X x) (hd : (x == ("__debug__" : Str)) = false := by decide) : PEv X (.Name x pos) (dC (.tup ds)) := by
  obtain ⟨a, vs, h1, h2, h3⟩ := h
  exact pev_glob (v := .ref a) hg h1 rfl (fun m H => .tup (.inr h2) (h3 m H)) hd
def ktB (K : PySem.W.Frag) (x : Str) (vs : List V) : Bool := match K.lookup (He.ga K x) with
  | some ⟨.type c, none, .seq its _, _⟩ => decide (c = "tuple") && (decide (its.size ≤ sizeLine) && He.relAll vs its.toList)
  | _ => false
theorem ktB_ok {K : PySem.W.Frag} {vs : List V} (h : ktB K x vs = true) : KT K (He.ga K x) vs := by
  unfold ktB at h
  split at h
  · rename_i c its n sl e
    obtain ⟨h1, h2⟩ := and_t h
    obtain ⟨h2, h3⟩ := and_t h2
    have h1 := of_decide_eq_true h1
    subst h1
    exact ⟨_, its, n, e, rfl, rfl, of_decide_eq_true h2, He.relAll_ok h3, rfl⟩
  · cases h
end
/-! ### a suite's end -/
theorem clr_ofR {α : Type} (i : Nat) (δ : Sl) (r : R α) (f : α → Sto → Out) : (ofR δ r f).clr i = (match r with
  | .ok a S => (f a S).clr i
  | _ => .stuck) := by cases r <;> rfl
/-! ### lengths of argument lists -/
def AL (ts : DA) (n : Nat) : Prop := ∀ δ S xs S', ts δ S = .ok xs S' → xs.length = n
theorem al_nil : AL aNil 0 := fun δ S xs S' h => by cases h; rfl
theorem al_cons {t : DE} {ts : DA} {n : Nat} (h : AL ts n) : AL (aCons t ts) (n + 1) := fun δ S xs S' e => by
  unfold aCons at e
  obtain ⟨a, S1, e1, e2⟩ := R.bind_ok e
  obtain ⟨b, S2, e3, e4⟩ := R.bind_ok e2
  cases e4
  rw [List.length_cons, h _ _ _ _ e3]
/-! ### a def that makes lambdas: its code object is known -/
theorem fnv_defL {P : Program} {w : World} {K : PySem.W.Frag} {mg : Str → Option Value} {base : Heap} {st : Stmt} {x : Str} {dvs : List V} {N ps : List Str} {k : Nat} {fd : FuncData} {t : DS} {fi : Nat → Out → R D} (F : FunD K x x (defArgs st) (defBody st) (defScope st) dvs [] (He.fAd K (x, none)) fd) (hm : mg x = some (.ref (He.fAd K (x, none))))
    (Sc : FnScope N ps (defScope st)) (hfi : FinOk fi)
    (hb : ∀ (A : Around) (outer : List Env) (s : Shared) (H : Hp) (E : XK), Room k (A.deeper (envOfC x (defScope st) s.heap.objs.size (He.fAd K (x, none)) (.ref (He.cT K (x, none)).1))) →
      PSsv (XC P w K mg base N x (defScope st) (He.fAd K (x, none)) (.ref (He.cT K (x, none)).1) A outer s H E) (defBody st) t) :
    FnV P w K mg base st x dvs ps (k + 1) (dDef fi N ps.length t) := by
  have F' := F
  obtain ⟨oc, od, dV, kV, doc, pm, an, cdv, ct, osl, rfl, lk, hcd, hDf, hK⟩ := F.ex
  obtain ⟨c, rfl⟩ := He.codeIn_ref hcd
  have ec : He.codeOf K (x, none) = c := He.codeOf_eq lk rfl
  refine ⟨_, _, fn_of lk hcd Sc (fun vs H Q E h => h.1) (fun A outer s H vs Q E hr h => ?_), hm, F'⟩
  have e : (He.cT K (x, none)).1 = c := ec
  rw [e] at hb
  refine ⟨_, hb A outer s H E hr (fun c d _ H' => E c d H') (takes_of rfl rfl rfl rfl), ?_⟩
  obtain ⟨hl, m, S, ds, rs, r, q⟩ := h
  refine ⟨m, S, slots N ds, rs, relE_start r, ?_⟩
  unfold dDef at q
  split at q
  · rw [← rs.len] at q
    exact hfi rfl q
  · exact q.elim
theorem tbl_mem {K : PySem.W.Frag} {p : Str × Option Str} {q : Str} (h : (p, q) ∈ lamTab) : ((He.cT K p).2, q) ∈ TBL K := List.mem_map.mpr ⟨_, h, rfl⟩
def tblB (K : PySem.W.Frag) : Bool := (TBL K).all fun p => (TBL K).all fun q => !decide (p.1 = q.1) || decide (p.2 = q.2)
theorem tblB_ok {K : PySem.W.Frag} (h : tblB K = true) {p q : Addr × Str} (hp : p ∈ TBL K) (hq : q ∈ TBL K) (e : p.1 = q.1) : p.2 = q.2 := by
  unfold tblB at h
  have h1 := List.all_eq_true.mp h p hp
  have h2 := List.all_eq_true.mp h1 q hq
  rw [decide_eq_true e] at h2
  exact of_decide_eq_true (by simpa using h2)
end QB
set_option maxHeartbeats 4000000
namespace QB
open PySem PySem.Spec PySem.Calls PyProof.Rows L2
theorem cx_false {P : Program} {w : World} {H : Hp} {s : Shared} {e : Value} {s' : Shared} (h : L2.CX P w [] H s (fun _ _ _ => False) e s') : False := by
  obtain ⟨_, _, _, _, _, _, _, _, _, _, _, _, h⟩ := h
  exact h
theorem FunD.uniq {K : PySem.W.Frag} {x q : Str} {pa : Arguments} {b : List Stmt} {sc : Scope} {d d' : List V} {kw kw' : List (Str × V)} {f : Addr} {fd fd' : FuncData} (F : FunD K x q pa b sc d kw f fd) (F' : FunD K x q pa b sc d' kw' f fd') : fd = fd' := by
  obtain ⟨oc, od, dV, kV, doc, pm, an, cdv, ct, osl, _, lk, _⟩ := F.ex
  obtain ⟨oc', od', dV', kV', doc', pm', an', cdv', ct', osl', _, lk', _⟩ := F'.ex
  rw [lk] at lk'
  cases lk'
  rfl
theorem rvs_intsV {K : PySem.W.Frag} {m : Mm} {H : Hp} : ∀ l : List Int, Rvs K m H (l.map D.int) (l.map V.int)
  | [] => .nil
  | _ :: l => .cons (.int _) (rvs_intsV l)
theorem law_at {l : PySem.W.OpenLaw} {w : World} {K : PySem.W.Frag} {k : Nat} {x : Str} {mg : Str → Option Value} {fa : Addr} {h : Heap} {cs : List (Addr × Addr)} {st : Stmt} {F : DFn} (h1 : ∀ p ∈ cs, h.get? p.2 = some { cls := .none, data := .fields #[] }) (h2 : ∀ p ∈ cs, K.lookup p.2 = none)
    (h3 : ∀ p ∈ cs, PySem.W.CodeHd h p.1 p.2) (hcs : (TBL K).map (·.1) = cs.map (·.2)) (hmg : mg "law" = some (.ref fa)) (hga : mg "law" = some (.ref (He.fAd K ("law", none)))) (hd : ∃ fd, FunD K "law" "law" (defArgs st) (defBody st) (defScope st) [] [] (He.fAd K ("law", none)) fd)
    (bp : BindP st "law" [x]) (hv : ∀ base : Heap, (∀ p ∈ cs, LamX.TabB base mg p.1 p.2) → FnV l.prog w K mg base st "law" [] [x] k F)
    (hlaw : ∀ ns : List Int, ns.length ≤ 63 → (∀ z ∈ ns, Builtin.Int.intBits z ≤ 1048576) → ∃ S, F [.frz (ns.map D.int)] [] = .ok (.bl true) S) :
    LamX.LawAtS l w K (L2.CX l.prog w) k 63 x mg fa h := by
  obtain ⟨fd, Fd⟩ := hd
  rw [hmg] at hga
  cases hga
  refine ⟨fd, cs, spD K mg 1 F, h1, h2, h3, fun s u => ?_, fun H a ns hl hb hT hS => ⟨rfl, ⟨[], []⟩, [], [.frz (ns.map D.int)], ⟨rfl, List.nodup_nil, fun i a u q _ => (by simp at q), fun a q => (by cases q), fun p hp => ?_⟩, .cons (.frz ?_ (rvs_intsV ns)) .nil, ?_⟩, fun base _ _ hT => ?_⟩
  · exact FunD.bindsA (ps := [x]) Fd bp s [u] rfl
  · have hm : p.1 ∈ cs.map (·.2) := by rw [← hcs]; exact List.mem_map.mpr ⟨p, hp, rfl⟩
    obtain ⟨q, hq, e⟩ := List.mem_map.mp hm
    exact LamX.TabS.nil (by rw [← e]; exact hT q hq)
  · rcases hS with h | h
    · exact .inl ⟨h, fun z => by rcases z with z | z <;> cases z⟩
    · exact .inr h
  · obtain ⟨S, e⟩ := hlaw ns hl hb
    rw [e]
    intro v m' H' _ _ r
    cases r
    rfl
  · obtain ⟨f', fd', ok, hm, F'⟩ := (hv base hT).ex
    rw [hmg] at hm
    cases hm
    cases FunD.uniq Fd F'
    exact ok
end QB
set_option maxHeartbeats 4000000
namespace QB
open PySem PySem.Spec PySem.Calls PyProof.Rows L2
abbrev N11 : List Str := ["thing"]
abbrev N12 : List Str := ["thing", "many", "one"]
abbrev N13 : List Str := ["thing", "one"]
abbrev N14 : List Str := ["thing", "one"]
abbrev N15 : List Str := ["thing", "one"]
abbrev N16 : List Str := ["thing", "above"]
abbrev N17 : List Str := ["thing", "above", "at", "gate", "word"]
abbrev N18 : List Str := ["rows", "many"]
abbrev N19 : List Str := ["lot", "gate", "rows"]
abbrev N20 : List Str := ["lot", "gate", "rows"]
abbrev N21 : List Str := ["sizes", "thing", "depth", "one"]
abbrev N22 : List Str := ["sizes", "thing"]
abbrev N23 : List Str := ["sizes", "thing", "one"]
abbrev N24 : List Str := ["sizes", "thing"]
abbrev N25 : List Str := ["sizes", "thing", "seen", "one"]
abbrev N26 : List Str := ["lot", "gate"]
abbrev N27 : List Str := ["bits", "many"]
abbrev N29 : List Str := ["thing", "fault", "word", "at"]
abbrev N31 : List Str := ["thing"]
abbrev N32 : List Str := ["thing"]
abbrev N33 : List Str := ["thing"]
abbrev N34 : List Str := ["thing"]
abbrev N35 : List Str := ["lot", "thing"]
abbrev N36 : List Str := ["lot", "thing"]
abbrev N37 : List Str := ["lot", "thing"]
abbrev N38 : List Str := ["lot", "thing"]
abbrev N39 : List Str := ["lot", "thing"]
abbrev N41 : List Str := ["gates", "tables", "at", "gate", "name"]
abbrev N42 : List Str := ["lot", "name", "_"]
abbrev N43 : List Str := ["lot", "gate"]
abbrev N44 : List Str := ["lot", "gate"]
abbrev N45 : List Str := ["lot", "gate", "bits", "rows", "number", "bit"]
abbrev N47 : List Str := ["_law_script", "_law_row", "_law_state", "_law_cell", "_law_size", "_law_turn"]
abbrev N48 : List Str := ["_law_row", "_law_many"]
abbrev N49 : List Str := ["_law_row", "_law_many", "_law_bits_here", "_law_turn", "_law_number_here", "_law_place"]
abbrev N50 : List Str := ["_law_row", "_law_size", "_law_letters", "_law_first", "_law_step", "_law_k"]
abbrev N51 : List Str := ["_law_row", "_law_many", "_law_gates_here", "_law_turn", "_law_word", "_law_inputs_here", "_law_rows", "_law_gate"]
abbrev N52 : List Str := ["_law_gate"]
abbrev N53 : List Str := ["_law_row", "_law_figures"]
abbrev N54 : List Str := ["_law_row", "_law_lot", "_law_deep_here", "_law_gate", "_law_k"]
abbrev N55 : List Str := ["_law_thing"]
abbrev N56 : List Str := ["_law_thing", "_law_sign"]
abbrev N57 : List Str := ["_law_thing", "_law_sign"]
abbrev N58 : List Str := ["_law_thing", "_law_bit"]
abbrev N59 : List Str := ["_law_gate", "_law_before"]
abbrev N60 : List Str := ["_law_thing", "_law_before", "_law_k", "_law_gate", "_law_fault"]
abbrev N61 : List Str := ["_law_lot", "_law_thing", "_law_gate", "_law_part"]
abbrev N62 : List Str := ["_law_lot", "_law_thing"]
abbrev N63 : List Str := ["_law_lot", "_law_thing", "_law_fact"]
abbrev N64 : List Str := ["_law_lot", "_law_thing"]
abbrev N65 : List Str := ["_law_lot", "_law_thing", "_law_names", "_law_pair"]
abbrev N66 : List Str := ["_law_row", "_law_thing", "_law_pick", "_law_odd_here"]
abbrev N67 : List Str := ["_law_row", "_law_thing", "_law_way", "_law_at", "_law_turn", "_law_new", "_law_place"]
abbrev N68 : List Str := ["_law_got", "_law_due"]
abbrev N69 : List Str := ["_law_thing", "_law_pairs", "_law_pair"]
abbrev N70 : List Str := ["_law_row", "_law_things", "_law_word", "_law_name_here", "_law_thing", "_law_start", "_law_k"]
abbrev N71 : List Str := ["_law_lot", "_law_thing", "_law_pairs", "_law_pair"]
abbrev N72 : List Str := ["_law_row", "_law_lot", "_law_terms_here", "_law_k", "_law_facts", "_law_names", "_law_puts", "_law_things", "_law_thing", "_law_term_here", "_law_many", "_law_wide", "_law_name_here", "_law_gate"]
abbrev N73 : List Str := ["_law_lot", "_law_gate", "_law_rest", "_law_start", "_law_other", "_law_first", "_law_last", "_law_turn"]
abbrev N74 : List Str := ["_law_thing", "_law_many", "e"]
abbrev N75 : List Str := ["_law_got", "_law_due", "_law_one", "_law_other"]
abbrev N76 : List Str := ["_law_row", "_law_good", "_law_bent_here", "_law_things", "_law_word", "_law_thing", "_law_due"]
abbrev N77 : List Str := ["_law_gates_here", "e"]
abbrev N78 : List Str := ["_law_gates_here", "_law_names", "_law_k", "_law_gate"]
abbrev N79 : List Str := ["_law_gates_here", "_law_got", "_law_due"]
abbrev N80 : List Str := ["_law_lot", "_law_which", "_law_gate", "_law_bits_here", "e"]
abbrev N81 : List Str := ["_law_bits_here", "_law_number_here", "_law_bit"]
abbrev N82 : List Str := ["_law_row", "_law_lot", "_law_gate", "_law_inputs_here", "_law_bits_here", "_law_rows", "_law_odd_here", "_law_thing", "_law_due", "_law_bit"]
abbrev N83 : List Str := ["_law_row", "_law_gates_here", "_law_lot", "_law_wrong", "_law_twice", "_law_told_here", "_law_names", "_law_gate", "_law_known", "_law_which"]
abbrev N84 : List Str := ["_law_script", "_law_row"]
/-! bit_form -/
abbrev t11 : DS := (sRet (dAnd (dF fIsi (aCons (dVar 0) (aCons (dC (.ty "int")) aNil))) (dAnd (dNot (dF fIsi (aCons (dVar 0) (aCons (dC (.ty "bool")) aNil)))) (dChain bLe bLe (dC (.int 0)) (dVar 0) (dC (.int 1))))))
def F11 : DFn := dDef fin N11 1 t11
/-! bits_form -/
abbrev t12 : DS := (sRet (dAnd (dF fIsi (aCons (dVar 0) (aCons (dC (.ty "tuple")) aNil))) (dAnd (d2 bEq (dF fLen (aCons (dVar 0) aNil)) (dVar 1)) (dF fAll (aCons (dLc (iOf (dVar 0)) (gNm 2) tYesD (dCall F11 (aCons (dVar 2) aNil)) [2]) aNil)))))
def F12 : DFn := dDef fin N12 2 t12
/-! name_form -/
abbrev t13 : DS := (sSeq (sIf (tOrD (tNotD (tTru (dF fIsi (aCons (dVar 0) (aCons (dC (.ty "str")) aNil))))) (tNotD (tBool (dChain bLe bLe (dC (.int 1)) (dF fLen (aCons (dVar 0) aNil)) (dC (.int 4)))))) (sRet (dC (.bl false))) sSkip) (sRet (dAnd (d2 (bIn id) (d2 bIx (dVar 0) (dC (.int 0))) (dC (.str "abcdefghijklmnopqrstuvwxyz"))) (dF fAll (aCons (dLc (iOf (dSl (dVar 0) (oSome (dC (.int 1))) oNone)) (gNm 1) tYesD (d2 (bIn id) (dVar 1) (dC (.str "0123456789"))) [1]) aNil)))))
def F13 : DFn := dDef fin N13 1 t13
/-! gate_name_form -/
abbrev t14 : DS := (sRet (dAnd (dF fIsi (aCons (dVar 0) (aCons (dC (.ty "str")) aNil))) (dAnd (dChain bLe bLe (dC (.int 2)) (dF fLen (aCons (dVar 0) aNil)) (dC (.int 12))) (dF fAll (aCons (dLc (iOf (dVar 0)) (gNm 1) tYesD (d2 (bIn id) (dVar 1) (dC (.str "abcdefghijklmnopqrstuvwxyz"))) [1]) aNil)))))
def F14 : DFn := dDef fin N14 1 t14
/-! rows_form -/
abbrev t15 : DS := (sRet (dAnd (dF fIsi (aCons (dVar 0) (aCons (dC (.ty "tuple")) aNil))) (dAnd (d2 (bIn id) (dF fLen (aCons (dVar 0) aNil)) (dC (.tup [.int 1, .int 2, .int 4, .int 8, .int 16, .int 32]))) (dF fAll (aCons (dLc (iOf (dVar 0)) (gNm 1) tYesD (dCall F11 (aCons (dVar 1) aNil)) [1]) aNil)))))
def F15 : DFn := dDef fin N15 1 t15
/-! gate_fault -/
abbrev t16 : DS := (sSeq (sIf (tOrD (tNotD (tTru (dF fIsi (aCons (dVar 0) (aCons (dC (.ty "tuple")) aNil))))) (tBool (d2 bNe (dF fLen (aCons (dVar 0) aNil)) (dC (.int 2))))) (sRet (dC (.str "shape"))) sSkip) (sSeq (sIf (tNotD (tTru (dCall F14 (aCons (d2 bIx (dVar 0) (dC (.int 0))) aNil)))) (sRet (dC (.str "name"))) sSkip) (sSeq (sIf (tBool (d2 bLe (d2 bIx (dVar 0) (dC (.int 0))) (dVar 1))) (sRet (dC (.str "sequence"))) sSkip) (sSeq (sIf (tNotD (tTru (dCall F15 (aCons (d2 bIx (dVar 0) (dC (.int 1))) aNil)))) (sRet (dC (.str "rows"))) sSkip) (sRet (dC .non))))))
def F16 : DFn := dDef fin N16 2 t16
/-! lot_fault -/
abbrev L17_0 : DS := (sSeq (sAsg (dCall F16 (aCons (dVar 3) (aCons (dVar 1) aNil))) (gNm 4)) (sSeq (sIf (tBool (d2 (bIs not) (dVar 4) (dC .non))) (sRet (dTup (aCons (dVar 4) (aCons (dVar 2) aNil)))) sSkip) (sAsg (d2 bIx (dVar 3) (dC (.int 0))) (gNm 1))))
abbrev t17 : DS := (sSeq (sIf (tNotD (tTru (dF fIsi (aCons (dVar 0) (aCons (dC (.ty "tuple")) aNil))))) (sRet (dTup (aCons (dC (.str "shape")) (aCons (d1 uNeg (dC (.int 1))) aNil)))) sSkip) (sSeq (sAsg (dC (.str "")) (gNm 1)) (sSeq (sFor (iEnumD (dVar 0)) (gTp 2 (gsCons (gNm 2) (gsCons (gNm 3) gsNil))) L17_0) (sRet (dC .non)))))
def F17 : DFn := dDef fin N17 1 t17
/-! inputs_for -/
abbrev t18 : DS := (sSeq (sAsg (dC (.int 0)) (gNm 1)) (sSeq (sWhileL (tBool (d2 bLt (d2 bShl (dC (.int 1)) (dVar 1)) (dF fLen (aCons (dVar 0) aNil)))) (sAugI 1 bAddI (dC (.int 1))) 64) (sRet (dVar 1))))
def F18 : DFn := dDef fin N18 1 t18
/-! gate_sizes -/
abbrev t19 : DS := (sRet (dDc (iOf (dVar 0)) (gTp 2 (gsCons (gNm 1) (gsCons (gNm 2) gsNil))) tYesD (dVar 1) (dCall F18 (aCons (dVar 2) aNil)) [1, 2]))
def F19 : DFn := dDef fin N19 1 t19
/-! gate_tables -/
abbrev t20 : DS := (sRet (dDc (iOf (dVar 0)) (gTp 2 (gsCons (gNm 1) (gsCons (gNm 2) gsNil))) tYesD (dVar 1) (dVar 2) [1, 2]))
def F20 : DFn := dDef fin N20 1 t20
/-! term_form -/
abbrev L21_0 (Fr : DFn) : DS := (sIf (tNotD (tTru (dCallD Fr [] (aCons (dVar 0) (aCons (dVar 3) (aCons (d2 bAdd (dVar 2) (dC (.int 1))) aNil)))))) (sRet (dC (.bl false))) sSkip)
abbrev t21 (Fr : DFn) : DS := (sSeq (sIf (tTru (dF fIsi (aCons (dVar 1) (aCons (dC (.ty "str")) aNil)))) (sRet (dCall F13 (aCons (dVar 1) aNil))) sSkip) (sSeq (sIf (tOrD (tNotD (tTru (dF fIsi (aCons (dVar 1) (aCons (dC (.ty "tuple")) aNil))))) (tOrD (tNotD (tTru (dVar 1))) (tNotD (tTru (dF fIsi (aCons (d2 bIx (dVar 1) (dC (.int 0))) (aCons (dC (.ty "str")) aNil))))))) (sRet (dC (.bl false))) sSkip) (sSeq (sIf (tOrD (tBool (d2 (bIn not) (d2 bIx (dVar 1) (dC (.int 0))) (dVar 0))) (tBool (d2 bNe (dF fLen (aCons (dVar 1) aNil)) (d2 bAdd (d2 bIx (dVar 0) (d2 bIx (dVar 1) (dC (.int 0)))) (dC (.int 1)))))) (sRet (dC (.bl false))) sSkip) (sSeq (sIf (tBool (d2 bEq (dF fLen (aCons (dVar 1) aNil)) (dC (.int 1)))) (sRet (dC (.bl true))) sSkip) (sSeq (sIf (tBool (d2 bEq (dVar 2) (dC (.int 100)))) (sRet (dC (.bl false))) sSkip) (sSeq (sFor (iOf (dSl (dVar 1) (oSome (dC (.int 1))) oNone)) (gNm 3) (L21_0 Fr)) (sRet (dC (.bl true)))))))))
def F21 : Nat → DFn
  | 0 => fun _ _ => .stuck
  | n + 1 => dDef fin N21 3 (t21 (F21 n))
/-! equation_form -/
abbrev t22 : DS := (sSeq (sIf (tOrD (tNotD (tTru (dF fIsi (aCons (dVar 1) (aCons (dC (.ty "tuple")) aNil))))) (tBool (d2 bNe (dF fLen (aCons (dVar 1) aNil)) (dC (.int 2))))) (sRet (dC (.bl false))) sSkip) (sRet (dAnd (dCallD (F21 103) [.int 0] (aCons (dVar 0) (aCons (d2 bIx (dVar 1) (dC (.int 0))) aNil))) (dCallD (F21 103) [.int 0] (aCons (dVar 0) (aCons (d2 bIx (dVar 1) (dC (.int 1))) aNil))))))
def F22 : DFn := dDef fin N22 2 t22
/-! facts_form -/
abbrev t23 : DS := (sRet (dAnd (dF fIsi (aCons (dVar 1) (aCons (dC (.ty "tuple")) aNil))) (dF fAll (aCons (dLc (iOf (dVar 1)) (gNm 2) tYesD (dCall F22 (aCons (dVar 0) (aCons (dVar 2) aNil))) [2]) aNil))))
def F23 : DFn := dDef fin N23 2 t23
/-! claim_form -/
abbrev t24 : DS := (sSeq (sIf (tOrD (tNotD (tTru (dF fIsi (aCons (dVar 1) (aCons (dC (.ty "tuple")) aNil))))) (tBool (d2 bNe (dF fLen (aCons (dVar 1) aNil)) (dC (.int 2))))) (sRet (dC (.bl false))) sSkip) (sRet (dAnd (dCall F23 (aCons (dVar 0) (aCons (d2 bIx (dVar 1) (dC (.int 0))) aNil))) (dCall F22 (aCons (dVar 0) (aCons (d2 bIx (dVar 1) (dC (.int 1))) aNil))))))
def F24 : DFn := dDef fin N24 2 t24
/-! puts_form -/
abbrev L25_0 : DS := (sSeq (sIf (tOrD (tNotD (tTru (dF fIsi (aCons (dVar 3) (aCons (dC (.ty "tuple")) aNil))))) (tOrD (tBool (d2 bNe (dF fLen (aCons (dVar 3) aNil)) (dC (.int 2)))) (tNotD (tTru (dCall F13 (aCons (d2 bIx (dVar 3) (dC (.int 0))) aNil)))))) (sRet (dC (.bl false))) sSkip) (sSeq (sIf (tOrD (tBool (d2 (bIn id) (d2 bIx (dVar 3) (dC (.int 0))) (dVar 2))) (tNotD (tTru (dCallD (F21 103) [.int 0] (aCons (dVar 0) (aCons (d2 bIx (dVar 3) (dC (.int 1))) aNil)))))) (sRet (dC (.bl false))) sSkip) (sPut (dVar 2) (d2 bIx (dVar 3) (dC (.int 0))) (dC (.bl true)))))
abbrev t25 : DS := (sSeq (sIf (tNotD (tTru (dF fIsi (aCons (dVar 1) (aCons (dC (.ty "tuple")) aNil))))) (sRet (dC (.bl false))) sSkip) (sSeq (sAsg dDicC (gNm 2)) (sSeq (sFor (iOf (dVar 1)) (gNm 3) L25_0) (sRet (dC (.bl true))))))
def F25 : DFn := dDef fin N25 2 t25
/-! need_gate -/
abbrev t26 : DS := (sIf (tOrD (tNotD (tTru (dF fIsi (aCons (dVar 1) (aCons (dC (.ty "str")) aNil))))) (tBool (d2 (bIn not) (dVar 1) (dCall F20 (aCons (dVar 0) aNil))))) (sRaise "NotUsable" "word" "at" (aCons (dC (.str "gate")) (aCons (d1 uNeg (dC (.int 1))) aNil))) sSkip)
def F26 : DFn := dDef fin N26 2 t26
/-! need_bits -/
abbrev t27 : DS := (sIf (tNotD (tTru (dCall F12 (aCons (dVar 0) (aCons (dVar 1) aNil))))) (sRaise "NotUsable" "word" "at" (aCons (dC (.str "bits")) (aCons (d1 uNeg (dC (.int 1))) aNil))) sSkip)
def F27 : DFn := dDef fin N27 2 t27
/-! lets_lot -/
abbrev t29 : DS := (sSeq (sAsg (dCall F17 (aCons (dVar 0) aNil)) (gNm 1)) (sSeq (sIf (tBool (d2 (bIs not) (dVar 1) (dC .non))) (sSeq (sAsg (dVar 1) (gTp 2 (gsCons (gNm 2) (gsCons (gNm 3) gsNil)))) (sRaise "InvalidPaper" "word" "at" (aCons (dVar 2) (aCons (dVar 3) aNil)))) sSkip) (sRet (dF fLen (aCons (dVar 0) aNil)))))
def F29 : DFn := dDef fin N29 1 t29
/-! is_bit -/
abbrev t31 : DS := (sRet (dCall F11 (aCons (dVar 0) aNil)))
def F31 : DFn := dDef fin N31 1 t31
/-! is_name -/
abbrev t32 : DS := (sRet (dCall F13 (aCons (dVar 0) aNil)))
def F32 : DFn := dDef fin N32 1 t32
/-! is_gate_name -/
abbrev t33 : DS := (sRet (dCall F14 (aCons (dVar 0) aNil)))
def F33 : DFn := dDef fin N33 1 t33
/-! is_lot -/
abbrev t34 : DS := (sRet (d2 (bIs id) (dCall F17 (aCons (dVar 0) aNil)) (dC .non)))
def F34 : DFn := dDef fin N34 1 t34
/-! is_term -/
abbrev t35 : DS := (sRet (dCallD (F21 103) [.int 0] (aCons (dCall F19 (aCons (dVar 0) aNil)) (aCons (dVar 1) aNil))))
def F35 : DFn := dDef fin N35 2 t35
/-! is_equation -/
abbrev t36 : DS := (sRet (dCall F22 (aCons (dCall F19 (aCons (dVar 0) aNil)) (aCons (dVar 1) aNil))))
def F36 : DFn := dDef fin N36 2 t36
/-! is_facts -/
abbrev t37 : DS := (sRet (dCall F23 (aCons (dCall F19 (aCons (dVar 0) aNil)) (aCons (dVar 1) aNil))))
def F37 : DFn := dDef fin N37 2 t37
/-! is_claim -/
abbrev t38 : DS := (sRet (dCall F24 (aCons (dCall F19 (aCons (dVar 0) aNil)) (aCons (dVar 1) aNil))))
def F38 : DFn := dDef fin N38 2 t38
/-! is_puts -/
abbrev t39 : DS := (sRet (dCall F25 (aCons (dCall F19 (aCons (dVar 0) aNil)) (aCons (dVar 1) aNil))))
def F39 : DFn := dDef fin N39 2 t39
/-! lot_of -/
abbrev L41_0 : DS := (sSeq (sIf (tOrD (tBool (d2 (bIs not) (dCall F16 (aCons (dVar 3) (aCons (dC (.str "")) aNil))) (dC .non))) (tBool (d2 (bIn id) (d2 bIx (dVar 3) (dC (.int 0))) (dVar 1)))) (sRaise "NotUsable" "word" "at" (aCons (dC (.str "gates")) (aCons (dVar 2) aNil))) sSkip) (sPut (dVar 1) (d2 bIx (dVar 3) (dC (.int 0))) (d2 bIx (dVar 3) (dC (.int 1)))))
abbrev t41 : DS := (sSeq (sAsg dDicC (gNm 1)) (sSeq (sFor (iEnumD (dVar 0)) (gTp 2 (gsCons (gNm 2) (gsCons (gNm 3) gsNil))) L41_0) (sRet (dF fTuple (aCons (dLc (iOf (dF fSrt (aCons (dF fListB (aCons (dVar 1) aNil)) aNil))) (gNm 4) tYesD (dTup (aCons (dVar 4) (aCons (d2 bIx (dVar 1) (dVar 4)) aNil))) [4]) aNil)))))
def F41 : DFn := dStar fin N41 t41
/-! gates_of -/
abbrev t42 : DS := (sRet (dF fTuple (aCons (dLc (iOf (dVar 0)) (gTp 2 (gsCons (gNm 1) (gsCons (gNm 2) gsNil))) tYesD (dVar 1) [1, 2]) aNil)))
def F42 : DFn := dDef fin N42 1 t42
/-! inputs_of -/
abbrev t43 : DS := (sSeq (sExpr (dCall F26 (aCons (dVar 0) (aCons (dVar 1) aNil)))) (sRet (dCall F18 (aCons (d2 bIx (dCall F20 (aCons (dVar 0) aNil)) (dVar 1)) aNil))))
def F43 : DFn := dDef fin N43 2 t43
/-! rows_of -/
abbrev t44 : DS := (sSeq (sExpr (dCall F26 (aCons (dVar 0) (aCons (dVar 1) aNil)))) (sRet (d2 bIx (dCall F20 (aCons (dVar 0) aNil)) (dVar 1))))
def F44 : DFn := dDef fin N44 2 t44
/-! answer_of -/
abbrev L45_0 : DS := (sAsg (d2 bAdd (d2 bMulX (dC (.int 2)) (dVar 4)) (dVar 5)) (gNm 4))
abbrev t45 : DS := (sSeq (sExpr (dCall F26 (aCons (dVar 0) (aCons (dVar 1) aNil)))) (sSeq (sAsg (d2 bIx (dCall F20 (aCons (dVar 0) aNil)) (dVar 1)) (gNm 3)) (sSeq (sExpr (dCall F27 (aCons (dVar 2) (aCons (dCall F18 (aCons (dVar 3) aNil)) aNil)))) (sSeq (sAsg (dC (.int 0)) (gNm 4)) (sSeq (sFor (iOf (dVar 2)) (gNm 5) L45_0) (sRet (d2 bIx (dVar 3) (dVar 4))))))))
def F45 : DFn := dDef fin N45 3 t45
/-! _law_draws -/
abbrev L47_0 : DS := (sSeq (sIf (tBool (d2 bEq (dVar 4) (dC (.int 0)))) sBreak sSkip) (sSeq (sExpr (dAppend (dVar 1) (d2 bMod (dF fInt (aCons (dVar 4) aNil)) (dC (.int 991))))) (sAsg (d2 bFdiv (dVar 4) (dC (.int 991))) (gNm 4))))
abbrev L47_1 : DS := (sSeq (sAsg (dF fAbs (aCons (dF fInt (aCons (dVar 3) aNil)) aNil)) (gNm 4)) (sSeq (sAsg (d2 bMod (dF fInt (aCons (d2 bAdd (d2 bAdd (d2 bAdd (d2 bMulX (dVar 2) (dC (.int 40692))) (d2 bMulX (dVar 4) (dC (.int 3)))) (dF fInt (aCons (d2 bLt (dVar 3) (dC (.int 0))) aNil))) (dC (.int 17))) aNil)) (dC (.int 2147483399))) (gNm 2)) (sIf (tBool (d2 bGe (dVar 4) (d2 bPow (dC (.int 10)) (dC (.int 18))))) (sFor (iRange (aCons (dC (.int 50)) aNil)) (gNm 5) L47_0) sSkip)))
abbrev L47_2 : DS := (sSeq (sAsg (d2 bMod (dF fInt (aCons (d2 bAdd (d2 bMulX (dVar 2) (dC (.int 40692))) (dC (.int 12345))) aNil)) (dC (.int 2147483399))) (gNm 2)) (sExpr (dAppend (dVar 1) (d2 bFdiv (dVar 2) (dC (.int 601))))))
abbrev t47 : DS := (sSeq (sAsg (dLstC aNil) (gNm 1)) (sSeq (sAsg (dC (.int 90533)) (gNm 2)) (sSeq (sFor (iOf (dVar 0)) (gNm 3) L47_1) (sSeq (sFor (iRange (aCons (dC (.int 260)) aNil)) (gNm 5) L47_2) (sRet (dListRevC (dVar 1)))))))
def F47 : DFn := dDef finC N47 1 t47
/-! _law_take -/
abbrev t48 : DS := (sSeq (sIf (tBool (d2 bEq (dF fLen (aCons (dVar 0) aNil)) (dC (.int 0)))) (sRet (dC (.int 0))) sSkip) (sRet (d2 bMod (dF fInt (aCons (dPop (dVar 0)) aNil)) (dVar 1))))
def F48 : DFn := dDef fin N48 2 t48
/-! _law_bits -/
abbrev L49_0 : DS := (sExpr (dAppend (dVar 2) (d2 bSub (d2 bFdiv (dVar 4) (dVar 5)) (d2 bMulX (dC (.int 2)) (d2 bFdiv (dVar 4) (d2 bMulX (dC (.int 2)) (dVar 5)))))))
abbrev L49_1 : DS := (sSeq (sAsg (dCall F48 (aCons (dVar 0) (aCons (dC (.int 256)) aNil))) (gNm 4)) (sFor (iOf (dTup (aCons (dC (.int 1)) (aCons (dC (.int 2)) (aCons (dC (.int 4)) (aCons (dC (.int 8)) (aCons (dC (.int 16)) (aCons (dC (.int 32)) (aCons (dC (.int 64)) (aCons (dC (.int 128)) aNil)))))))))) (gNm 5) L49_0))
abbrev t49 : DS := (sSeq (sAsg (dLstC aNil) (gNm 2)) (sSeq (sFor (iRange (aCons (d2 bFdiv (dF fInt (aCons (d2 bAdd (dVar 1) (dC (.int 7))) aNil)) (dC (.int 8))) aNil)) (gNm 3) L49_1) (sRet (dF fTuple (aCons (dSl (dVar 2) oNone (oSome (dVar 1))) aNil)))))
def F49 : DFn := dDef fin N49 2 t49
/-! _law_gate_word -/
abbrev t50 : DS := (sSeq (sAsg (d2 bAdd (dC (.int 2)) (dCall F48 (aCons (dVar 0) (aCons (dC (.int 3)) aNil)))) (gNm 1)) (sSeq (sIf (tBool (d2 bEq (dCall F48 (aCons (dVar 0) (aCons (dC (.int 8)) aNil))) (dC (.int 0)))) (sAsg (dC (.int 12)) (gNm 1)) sSkip) (sSeq (sAsg (dC (.str "abcdefghijklmnopqrstuvwxyz")) (gNm 2)) (sSeq (sAsg (dCall F48 (aCons (dVar 0) (aCons (dC (.int 26)) aNil))) (gNm 3)) (sSeq (sAsg (dCall F48 (aCons (dVar 0) (aCons (dC (.int 25)) aNil))) (gNm 4)) (sRet (dJoin (dC (.str "")) (dLc (iRange (aCons (dVar 1) aNil)) (gNm 5) tYesD (d2 bIx (dVar 2) (d2 bMod (dF fInt (aCons (d2 bAdd (dVar 3) (d2 bMulX (dVar 4) (dVar 5))) aNil)) (dC (.int 26)))) [5]))))))))
def F50 : DFn := dDef fin N50 1 t50
/-! _law_gates -/
abbrev L51_0 : DS := (sSeq (sAsg (dCall F50 (aCons (dVar 0) aNil)) (gNm 4)) (sSeq (sAsg (dCall F48 (aCons (dVar 0) (aCons (dC (.int 4)) aNil))) (gNm 5)) (sSeq (sIf (tBool (d2 bEq (dCall F48 (aCons (dVar 0) (aCons (dC (.int 6)) aNil))) (dC (.int 0)))) (sAsg (d2 bAdd (dC (.int 4)) (dCall F48 (aCons (dVar 0) (aCons (dC (.int 2)) aNil)))) (gNm 5)) sSkip) (sSeq (sAsg (dCall F49 (aCons (dVar 0) (aCons (d2 bIx (dTup (aCons (dC (.int 1)) (aCons (dC (.int 2)) (aCons (dC (.int 4)) (aCons (dC (.int 8)) (aCons (dC (.int 16)) (aCons (dC (.int 32)) aNil))))))) (dVar 5)) aNil))) (gNm 6)) (sIf (tBool (d2 (bIn not) (dVar 4) (dLc (iOf (dVar 2)) (gNm 7) tYesD (d2 bIx (dVar 7) (dC (.int 0))) [7]))) (sExpr (dAppend (dVar 2) (dTup (aCons (dVar 4) (aCons (dVar 6) aNil))))) sSkip)))))
abbrev t51 : DS := (sSeq (sAsg (dLstC aNil) (gNm 2)) (sSeq (sFor (iRange (aCons (dVar 1) aNil)) (gNm 3) L51_0) (sRet (dVar 2))))
def F51 : DFn := dDef fin N51 2 t51
/-! _law_inputs -/
abbrev t52 : DS := (sRet (d2 bSub (dBits (dF fLen (aCons (d2 bIx (dVar 0) (dC (.int 1))) aNil))) (dC (.int 1))))
def F52 : DFn := dDef fin N52 1 t52
/-! _law_name -/
abbrev t53 : DS := (sSeq (sAsg (d2 bIx (dTup (aCons (dC (.str "")) (aCons (dC (.str "0")) (aCons (dC (.str "7")) (aCons (dC (.str "10")) (aCons (dC (.str "42")) (aCons (dC (.str "007")) (aCons (dC (.str "999")) aNil)))))))) (dCall F48 (aCons (dVar 0) (aCons (dC (.int 7)) aNil)))) (gNm 1)) (sRet (d2 bAdd (d2 bIx (dC (.str "abcdefghijklmnopqrstuvwxyz")) (dCall F48 (aCons (dVar 0) (aCons (dC (.int 26)) aNil)))) (dVar 1))))
def F53 : DFn := dDef fin N53 1 t53
/-! _law_term -/
abbrev t54 (Fr : DFn) : DS := (sSeq (sIf (tOrD (tBool (d2 bEq (dVar 2) (dC (.int 0)))) (tOrD (tBool (d2 bEq (dF fLen (aCons (dVar 1) aNil)) (dC (.int 0)))) (tBool (d2 bEq (dCall F48 (aCons (dVar 0) (aCons (dC (.int 4)) aNil))) (dC (.int 0)))))) (sRet (dCall F53 (aCons (dVar 0) aNil))) sSkip) (sSeq (sAsg (d2 bIx (dVar 1) (dCall F48 (aCons (dVar 0) (aCons (dF fLen (aCons (dVar 1) aNil)) aNil)))) (gNm 3)) (sRet (d2 bAdd (dTup (aCons (d2 bIx (dVar 3) (dC (.int 0))) aNil)) (dF fTuple (aCons (dLc (iRange (aCons (dCall F52 (aCons (dVar 3) aNil)) aNil)) (gNm 4) tYesD (dCall Fr (aCons (dVar 0) (aCons (dVar 1) (aCons (d2 bSub (dVar 2) (dC (.int 1))) aNil)))) [4]) aNil))))))
def F54 : Nat → DFn
  | 0 => fun _ _ => .stuck
  | n + 1 => dDef fin N54 3 (t54 (F54 n))
/-! _law_is_bit -/
abbrev t55 : DS := (sRet (dAnd (dF fIsi (aCons (dVar 0) (aCons (dC (.ty "int")) aNil))) (dAnd (dNot (dF fIsi (aCons (dVar 0) (aCons (dC (.ty "bool")) aNil)))) (dChain bLe bLe (dC (.int 0)) (dVar 0) (dC (.int 1))))))
def F55 : DFn := dDef fin N55 1 t55
/-! _law_is_name -/
abbrev t56 : DS := (sSeq (sIf (tOrD (tNotD (tTru (dF fIsi (aCons (dVar 0) (aCons (dC (.ty "str")) aNil))))) (tNotD (tBool (dChain bLe bLe (dC (.int 1)) (dF fLen (aCons (dVar 0) aNil)) (dC (.int 4)))))) (sRet (dC (.bl false))) sSkip) (sSeq (sIf (tBool (d2 (bIn not) (d2 bIx (dVar 0) (dC (.int 0))) (dC (.str "abcdefghijklmnopqrstuvwxyz")))) (sRet (dC (.bl false))) sSkip) (sRet (dF fAll (aCons (dLc (iOf (dSl (dVar 0) (oSome (dC (.int 1))) oNone)) (gNm 1) tYesD (d2 (bIn id) (dVar 1) (dC (.str "0123456789"))) [1]) aNil)))))
def F56 : DFn := dDef fin N56 1 t56
/-! _law_is_word -/
abbrev t57 : DS := (sSeq (sIf (tOrD (tNotD (tTru (dF fIsi (aCons (dVar 0) (aCons (dC (.ty "str")) aNil))))) (tNotD (tBool (dChain bLe bLe (dC (.int 2)) (dF fLen (aCons (dVar 0) aNil)) (dC (.int 12)))))) (sRet (dC (.bl false))) sSkip) (sRet (dF fAll (aCons (dLc (iOf (dVar 0)) (gNm 1) tYesD (d2 (bIn id) (dVar 1) (dC (.str "abcdefghijklmnopqrstuvwxyz"))) [1]) aNil))))
def F57 : DFn := dDef fin N57 1 t57
/-! _law_is_rows -/
abbrev t58 : DS := (sSeq (sIf (tOrD (tNotD (tTru (dF fIsi (aCons (dVar 0) (aCons (dC (.ty "tuple")) aNil))))) (tBool (d2 (bIn not) (dF fLen (aCons (dVar 0) aNil)) (dTup (aCons (dC (.int 1)) (aCons (dC (.int 2)) (aCons (dC (.int 4)) (aCons (dC (.int 8)) (aCons (dC (.int 16)) (aCons (dC (.int 32)) aNil)))))))))) (sRet (dC (.bl false))) sSkip) (sRet (dF fAll (aCons (dLc (iOf (dVar 0)) (gNm 1) tYesD (dCall F55 (aCons (dVar 1) aNil)) [1]) aNil))))
def F58 : DFn := dDef fin N58 1 t58
/-! _law_gate_fault -/
abbrev t59 : DS := (sSeq (sIf (tOrD (tNotD (tTru (dF fIsi (aCons (dVar 0) (aCons (dC (.ty "tuple")) aNil))))) (tBool (d2 bNe (dF fLen (aCons (dVar 0) aNil)) (dC (.int 2))))) (sRet (dC (.str "shape"))) sSkip) (sSeq (sIf (tNotD (tTru (dCall F57 (aCons (d2 bIx (dVar 0) (dC (.int 0))) aNil)))) (sRet (dC (.str "name"))) sSkip) (sSeq (sIf (tNotD (tBool (d2 bGt (d2 bIx (dVar 0) (dC (.int 0))) (dVar 1)))) (sRet (dC (.str "sequence"))) sSkip) (sSeq (sIf (tNotD (tTru (dCall F58 (aCons (d2 bIx (dVar 0) (dC (.int 1))) aNil)))) (sRet (dC (.str "rows"))) sSkip) (sRet (dC (.str "")))))))
def F59 : DFn := dDef fin N59 2 t59
/-! _law_lot_due -/
abbrev L60_0 : DS := (sSeq (sAsg (dCall F59 (aCons (dVar 3) (aCons (dVar 1) aNil))) (gNm 4)) (sSeq (sIf (tBool (d2 bNe (dVar 4) (dC (.str "")))) (sRet (dTup (aCons (dC (.bl false)) (aCons (dVar 4) (aCons (dVar 2) aNil))))) sSkip) (sAsg (d2 bIx (dVar 3) (dC (.int 0))) (gNm 1))))
abbrev t60 : DS := (sSeq (sIf (tNotD (tTru (dF fIsi (aCons (dVar 0) (aCons (dC (.ty "tuple")) aNil))))) (sRet (dTup (aCons (dC (.bl false)) (aCons (dC (.str "shape")) (aCons (d1 uNeg (dC (.int 1))) aNil))))) sSkip) (sSeq (sAsg (dC (.str "")) (gNm 1)) (sSeq (sFor (iEnumD (dVar 0)) (gTp 2 (gsCons (gNm 2) (gsCons (gNm 3) gsNil))) L60_0) (sRet (dTup (aCons (dC (.bl true)) (aCons (dF fLen (aCons (dVar 0) aNil)) aNil)))))))
def F60 : DFn := dDef fin N60 1 t60
/-! _law_is_term -/
abbrev L61_0 (Fr : DFn) : DS := (sIf (tBool (d2 bEq (d2 bIx (dVar 2) (dC (.int 0))) (d2 bIx (dVar 1) (dC (.int 0))))) (sRet (dAnd (d2 bEq (d2 bSub (dF fLen (aCons (dVar 1) aNil)) (dC (.int 1))) (dCall F52 (aCons (dVar 2) aNil))) (dF fAll (aCons (dLc (iOf (dSl (dVar 1) (oSome (dC (.int 1))) oNone)) (gNm 3) tYesD (dCall Fr (aCons (dVar 0) (aCons (dVar 3) aNil))) [3]) aNil)))) sSkip)
abbrev t61 (Fr : DFn) : DS := (sSeq (sIf (tTru (dF fIsi (aCons (dVar 1) (aCons (dC (.ty "str")) aNil)))) (sRet (dCall F56 (aCons (dVar 1) aNil))) sSkip) (sSeq (sIf (tOrD (tNotD (tTru (dF fIsi (aCons (dVar 1) (aCons (dC (.ty "tuple")) aNil))))) (tOrD (tBool (d2 bEq (dF fLen (aCons (dVar 1) aNil)) (dC (.int 0)))) (tNotD (tTru (dF fIsi (aCons (d2 bIx (dVar 1) (dC (.int 0))) (aCons (dC (.ty "str")) aNil))))))) (sRet (dC (.bl false))) sSkip) (sSeq (sFor (iOf (dVar 0)) (gNm 2) (L61_0 Fr)) (sRet (dC (.bl false))))))
def F61 : Nat → DFn
  | 0 => fun _ _ => .stuck
  | n + 1 => dDef fin N61 2 (t61 (F61 n))
/-! _law_is_equation -/
abbrev t62 : DS := (sSeq (sIf (tOrD (tNotD (tTru (dF fIsi (aCons (dVar 1) (aCons (dC (.ty "tuple")) aNil))))) (tBool (d2 bNe (dF fLen (aCons (dVar 1) aNil)) (dC (.int 2))))) (sRet (dC (.bl false))) sSkip) (sRet (dAnd (dCall (F61 16) (aCons (dVar 0) (aCons (d2 bIx (dVar 1) (dC (.int 0))) aNil))) (dCall (F61 16) (aCons (dVar 0) (aCons (d2 bIx (dVar 1) (dC (.int 1))) aNil))))))
def F62 : DFn := dDef fin N62 2 t62
/-! _law_is_facts -/
abbrev t63 : DS := (sRet (dAnd (dF fIsi (aCons (dVar 1) (aCons (dC (.ty "tuple")) aNil))) (dF fAll (aCons (dLc (iOf (dVar 1)) (gNm 2) tYesD (dCall F62 (aCons (dVar 0) (aCons (dVar 2) aNil))) [2]) aNil))))
def F63 : DFn := dDef fin N63 2 t63
/-! _law_is_claim -/
abbrev t64 : DS := (sSeq (sIf (tOrD (tNotD (tTru (dF fIsi (aCons (dVar 1) (aCons (dC (.ty "tuple")) aNil))))) (tBool (d2 bNe (dF fLen (aCons (dVar 1) aNil)) (dC (.int 2))))) (sRet (dC (.bl false))) sSkip) (sRet (dAnd (dCall F63 (aCons (dVar 0) (aCons (d2 bIx (dVar 1) (dC (.int 0))) aNil))) (dCall F62 (aCons (dVar 0) (aCons (d2 bIx (dVar 1) (dC (.int 1))) aNil))))))
def F64 : DFn := dDef fin N64 2 t64
/-! _law_is_puts -/
abbrev L65_0 : DS := (sSeq (sIf (tOrD (tNotD (tTru (dF fIsi (aCons (dVar 3) (aCons (dC (.ty "tuple")) aNil))))) (tOrD (tBool (d2 bNe (dF fLen (aCons (dVar 3) aNil)) (dC (.int 2)))) (tNotD (tTru (dCall F56 (aCons (d2 bIx (dVar 3) (dC (.int 0))) aNil)))))) (sRet (dC (.bl false))) sSkip) (sSeq (sIf (tOrD (tBool (d2 (bIn id) (d2 bIx (dVar 3) (dC (.int 0))) (dVar 2))) (tNotD (tTru (dCall (F61 16) (aCons (dVar 0) (aCons (d2 bIx (dVar 3) (dC (.int 1))) aNil)))))) (sRet (dC (.bl false))) sSkip) (sExpr (dAppend (dVar 2) (d2 bIx (dVar 3) (dC (.int 0)))))))
abbrev t65 : DS := (sSeq (sIf (tNotD (tTru (dF fIsi (aCons (dVar 1) (aCons (dC (.ty "tuple")) aNil))))) (sRet (dC (.bl false))) sSkip) (sSeq (sAsg (dLstC aNil) (gNm 2)) (sSeq (sFor (iOf (dVar 1)) (gNm 3) L65_0) (sRet (dC (.bl true))))))
def F65 : DFn := dDef fin N65 2 t65
/-! _law_odd -/
abbrev t66 : DS := (sSeq (sAsg (dCall F48 (aCons (dVar 0) (aCons (dC (.int 12)) aNil))) (gNm 2)) (sSeq (sIf (tAndD (tBool (d2 bEq (dVar 2) (dC (.int 0)))) (tTru (dF fIsi (aCons (dVar 1) (aCons (dC (.ty "tuple")) aNil))))) (sRet (dF fListB (aCons (dVar 1) aNil))) sSkip) (sSeq (sIf (tBool (d2 bEq (dVar 2) (dC (.int 1)))) (sRet (dTup (aCons (dVar 1) aNil))) sSkip) (sSeq (sIf (tAndD (tBool (dChain bLe bLe (dC (.int 2)) (dVar 2) (dC (.int 4)))) (tAndD (tTru (dF fIsi (aCons (dVar 1) (aCons (dTup (aCons (dC (.ty "str")) (aCons (dC (.ty "tuple")) aNil))) aNil)))) (tBool (d2 bGt (dF fLen (aCons (dVar 1) aNil)) (dC (.int 0)))))) (sRet (d2 bIx (dTup (aCons (d2 bAdd (dVar 1) (dSl (dVar 1) (oSome (d1 uNeg (dC (.int 1)))) oNone)) (aCons (dSl (dVar 1) oNone (oSome (d1 uNeg (dC (.int 1))))) (aCons (d2 bAdd (dSl (dVar 1) (oSome (dC (.int 1))) oNone) (dSl (dVar 1) oNone (oSome (dC (.int 1))))) aNil)))) (d2 bSub (dVar 2) (dC (.int 2))))) sSkip) (sSeq (sIf (tAndD (tBool (dChain bLe bLe (dC (.int 5)) (dVar 2) (dC (.int 6)))) (tTru (dCall F55 (aCons (dVar 1) aNil)))) (sRet (d2 bIx (dTup (aCons (d2 bEq (dVar 1) (dC (.int 1))) (aCons (dF fStr (aCons (dVar 1) aNil)) aNil))) (d2 bSub (dVar 2) (dC (.int 5))))) sSkip) (sSeq (sIf (tAndD (tBool (d2 bEq (dVar 2) (dC (.int 5)))) (tTru (dF fIsi (aCons (dVar 1) (aCons (dC (.ty "str")) aNil))))) (sRet (d2 bAdd (dVar 1) (dC (.str "0000")))) sSkip) (sSeq (sIf (tAndD (tBool (d2 bEq (dVar 2) (dC (.int 6)))) (tTru (dF fIsi (aCons (dVar 1) (aCons (dC (.ty "str")) aNil))))) (sRet (dUpper (dVar 1))) sSkip) (sSeq (sAsg (dTup (aCons (dC .non) (aCons (dC (.bl true)) (aCons (dC (.int 2)) (aCons (dC (.str "")) (aCons (dC (.str "x")) (aCons (dC (.str "x1000")) (aCons (dC (.str "nosuchgate")) (aCons (dC (.str "twelveletter")) (aCons (dC (.str "thirteenplace")) (aCons (dC (.str "B")) (aCons (dTup aNil) (aCons (dLst aNil) (aCons (d1 uNeg (dC (.int 1))) (aCons (dC (.int 0)) (aCons (dC (.int 1)) (aCons (dC (.str "a ")) aNil))))))))))))))))) (gNm 3)) (sRet (d2 bIx (dVar 3) (dCall F48 (aCons (dVar 0) (aCons (dC (.int 16)) aNil)))))))))))))
def F66 : DFn := dDef fin N66 2 t66
/-! _law_bent -/
abbrev L67_0 : DS := (sSeq (sIf (tOrD (tNotD (tTru (dF fIsi (aCons (dVar 3) (aCons (dC (.ty "tuple")) aNil))))) (tOrD (tBool (d2 bEq (dF fLen (aCons (dVar 3) aNil)) (dC (.int 0)))) (tBool (d2 bEq (dCall F48 (aCons (dVar 0) (aCons (dC (.int 5)) aNil))) (dC (.int 0)))))) sBreak sSkip) (sSeq (sExpr (dAppend (dVar 2) (dCall F48 (aCons (dVar 0) (aCons (dF fLen (aCons (dVar 3) aNil)) aNil))))) (sAsg (d2 bIx (dVar 3) (d2 bIx (dVar 2) (d1 uNeg (dC (.int 1))))) (gNm 3))))
abbrev L67_1 : DS := (sAsg (d2 bIx (dVar 3) (dVar 6)) (gNm 3))
abbrev L67_2 : DS := (sSeq (sAsg (dVar 1) (gNm 3)) (sSeq (sFor (iOf (dSl (dVar 2) oNone (oSome (d2 bSub (d2 bSub (dF fLen (aCons (dVar 2) aNil)) (dC (.int 1))) (dVar 4))))) (gNm 6) L67_1) (sSeq (sAsg (d2 bIx (dVar 2) (d2 bSub (d2 bSub (dF fLen (aCons (dVar 2) aNil)) (dC (.int 1))) (dVar 4))) (gNm 6)) (sAsg (d2 bAdd (d2 bAdd (dSl (dVar 3) oNone (oSome (dVar 6))) (dTup (aCons (dVar 5) aNil))) (dSl (dVar 3) (oSome (d2 bAdd (dVar 6) (dC (.int 1)))) oNone)) (gNm 5)))))
abbrev t67 : DS := (sSeq (sAsg (dLstC aNil) (gNm 2)) (sSeq (sAsg (dVar 1) (gNm 3)) (sSeq (sFor (iRange (aCons (dC (.int 6)) aNil)) (gNm 4) L67_0) (sSeq (sAsg (dCall F66 (aCons (dVar 0) (aCons (dVar 3) aNil))) (gNm 5)) (sSeq (sFor (iRange (aCons (dF fLen (aCons (dVar 2) aNil)) aNil)) (gNm 4) L67_2) (sRet (dVar 5)))))))
def F67 : DFn := dDef fin N67 2 t67
/-! _law_told -/
abbrev t68 : DS := (sRet (dOr (dAnd (dVar 1) (d2 (bIs id) (dVar 0) (dC (.bl true)))) (dAnd (dNot (dVar 1)) (d2 (bIs id) (dVar 0) (dC (.bl false))))))
def F68 : DFn := dDef fin N68 2 t68
/-! _law_single_kinds -/
abbrev t69 : DS := (sSeq (sAsg (dLstC (aCons (dTup (aCons (dCall F31 (aCons (dVar 0) aNil)) (aCons (dCall F55 (aCons (dVar 0) aNil)) aNil))) (aCons (dTup (aCons (dCallK F32 [0] 0 1 aNil (aCons (dVar 0) aNil)) (aCons (dCall F56 (aCons (dVar 0) aNil)) aNil))) aNil))) (gNm 1)) (sSeq (sExpr (dAppend (dVar 1) (dTup (aCons (dCall F33 (aCons (dVar 0) aNil)) (aCons (dCall F57 (aCons (dVar 0) aNil)) aNil))))) (sRet (dF fAll (aCons (dLc (iOf (dVar 1)) (gNm 2) tYesD (dCall F68 (aCons (d2 bIx (dVar 2) (dC (.int 0))) (aCons (d2 bIx (dVar 2) (dC (.int 1))) aNil))) [2]) aNil)))))
def F69 : DFn := dDef fin N69 1 t69
/-! _law_singles -/
abbrev L70_0 : DS := (sAsg (d2 bAdd (dVar 1) (dLst (aCons (dVar 4) (aCons (dCall F66 (aCons (dVar 0) (aCons (dVar 4) aNil))) aNil)))) (gNm 1))
abbrev L70_1 : DS := (sSeq (sAsg (d2 bIx (dVar 1) (d2 bSub (d2 bSub (dF fLen (aCons (dVar 1) aNil)) (dC (.int 1))) (dVar 6))) (gNm 4)) (sSeq (sIf (tBool (d2 bGe (dVar 6) (dC (.int 12)))) (sAsg (d2 bIx (dVar 1) (d2 bMod (dF fInt (aCons (d2 bAdd (dVar 5) (dVar 6)) aNil)) (dC (.int 29)))) (gNm 4)) sSkip) (sIf (tNotD (tTru (dCall F69 (aCons (dVar 4) aNil)))) (sRet (dC (.bl false))) sSkip)))
abbrev t70 : DS := (sSeq (sAsg (dLst (aCons (dC (.str "x007")) (aCons (dC (.str "x1000")) (aCons (dC (.str "a")) (aCons (dC (.str "a1")) (aCons (dC (.str "ab")) (aCons (dC (.str "a12b")) (aCons (dC (.str "A")) (aCons (dC (.str "")) (aCons (dC (.str "x 1")) (aCons (dC (.str "x-1")) (aCons (dC (.str "twelveletter")) (aCons (dC (.str "thirteenplace")) (aCons (dC (.str "aB")) aNil)))))))))))))) (gNm 1)) (sSeq (sAsg (d2 bAdd (dVar 1) (dLst (aCons (dC (.int 0)) (aCons (dC (.int 1)) (aCons (dC (.int 2)) (aCons (d1 uNeg (dC (.int 1))) (aCons (dC (.bl true)) (aCons (dC (.bl false)) (aCons (dC .non) (aCons (d2 bPow (dC (.int 10)) (dC (.int 59))) (aCons (dTup (aCons (dC (.int 0)) aNil)) (aCons (dLst (aCons (dC (.int 1)) aNil)) (aCons (dTup (aCons (dC (.str "x")) aNil)) (aCons (dTup (aCons (dC (.str "ab")) aNil)) (aCons (dC (.str "0")) (aCons (dC (.str "1")) (aCons (dC (.str "0x")) (aCons (dC (.str "abc1")) aNil)))))))))))))))))) (gNm 1)) (sSeq (sAsg (dCall F50 (aCons (dVar 0) aNil)) (gNm 2)) (sSeq (sAsg (dCall F53 (aCons (dVar 0) aNil)) (gNm 3)) (sSeq (sFor (iOf (dTup (aCons (dVar 2) (aCons (dVar 3) (aCons (dC (.int 0)) (aCons (dC (.int 1)) (aCons (dVar 2) (aCons (dVar 3) aNil)))))))) (gNm 4) L70_0) (sSeq (sAsg (dCall F48 (aCons (dVar 0) (aCons (dC (.int 29)) aNil))) (gNm 5)) (sSeq (sFor (iRange (aCons (dC (.int 22)) aNil)) (gNm 6) L70_1) (sRet (dC (.bl true))))))))))
def F70 : DFn := dDef fin N70 1 t70
/-! _law_term_kinds -/
abbrev t71 : DS := (sSeq (sAsg (dLstC (aCons (dTup (aCons (dCall F35 (aCons (dVar 0) (aCons (dVar 1) aNil))) (aCons (dCall (F61 16) (aCons (dVar 0) (aCons (dVar 1) aNil))) aNil))) aNil)) (gNm 2)) (sSeq (sExpr (dAppend (dVar 2) (dTup (aCons (dCallK F36 [1, 0] 0 2 aNil (aCons (dVar 1) (aCons (dVar 0) aNil))) (aCons (dCall F62 (aCons (dVar 0) (aCons (dVar 1) aNil))) aNil))))) (sSeq (sExpr (dAppend (dVar 2) (dTup (aCons (dCall F37 (aCons (dVar 0) (aCons (dVar 1) aNil))) (aCons (dCall F63 (aCons (dVar 0) (aCons (dVar 1) aNil))) aNil))))) (sSeq (sExpr (dAppend (dVar 2) (dTup (aCons (dCallK F38 [0, 1] 1 1 (aCons (dVar 0) aNil) (aCons (dVar 1) aNil)) (aCons (dCall F64 (aCons (dVar 0) (aCons (dVar 1) aNil))) aNil))))) (sSeq (sExpr (dAppend (dVar 2) (dTup (aCons (dCall F39 (aCons (dVar 0) (aCons (dVar 1) aNil))) (aCons (dCall F65 (aCons (dVar 0) (aCons (dVar 1) aNil))) aNil))))) (sRet (dF fAll (aCons (dLc (iOf (dVar 2)) (gNm 3) tYesD (dCall F68 (aCons (d2 bIx (dVar 3) (dC (.int 0))) (aCons (d2 bIx (dVar 3) (dC (.int 1))) aNil))) [3]) aNil))))))))
def F71 : DFn := dDef fin N71 2 t71
/-! _law_terms -/
abbrev L72_0 : DS := (sAsg (d2 bAdd (dVar 7) (dLst (aCons (dF fListB (aCons (dVar 9) aNil)) (aCons (dTup (aCons (dC (.str "x")) (aCons (dF fListB (aCons (dVar 9) aNil)) aNil))) aNil)))) (gNm 7))
abbrev L72_1 : DS := (sAsg (d2 bAdd (dVar 7) (dLst (aCons (d2 bIx (dVar 13) (dC (.int 0))) (aCons (dTup (aCons (d2 bIx (dVar 13) (dC (.int 0))) aNil)) aNil)))) (gNm 7))
abbrev t72 : DS := (sSeq (sAsg (dLc (iRange (aCons (dC (.int 6)) aNil)) (gNm 3) tYesD (dCall (F54 8) (aCons (dVar 0) (aCons (dVar 1) (aCons (dC (.int 2)) aNil)))) [3]) (gNm 2)) (sSeq (sAsg (dSl (dTup (aCons (dTup (aCons (d2 bIx (dVar 2) (dC (.int 0))) (aCons (d2 bIx (dVar 2) (dC (.int 1))) aNil))) (aCons (dTup (aCons (d2 bIx (dVar 2) (dC (.int 2))) (aCons (dC (.str "x")) aNil))) (aCons (dTup (aCons (d2 bIx (dVar 2) (dC (.int 1))) (aCons (d2 bIx (dVar 2) (dC (.int 1))) aNil))) aNil)))) oNone (oSome (dCall F48 (aCons (dVar 0) (aCons (dC (.int 4)) aNil))))) (gNm 4)) (sSeq (sAsg (dTup (aCons (dCall F53 (aCons (dVar 0) aNil)) (aCons (dC (.str "x")) (aCons (dC (.str "y")) aNil)))) (gNm 5)) (sSeq (sAsg (dSl (dTup (aCons (dTup (aCons (d2 bIx (dVar 5) (dC (.int 0))) (aCons (d2 bIx (dVar 2) (dC (.int 3))) aNil))) (aCons (dTup (aCons (d2 bIx (dVar 5) (dC (.int 1))) (aCons (d2 bIx (dVar 2) (dC (.int 4))) aNil))) (aCons (dTup (aCons (d2 bIx (dVar 5) (d2 bSub (dC (.int 2)) (dCall F48 (aCons (dVar 0) (aCons (dC (.int 2)) aNil))))) (aCons (d2 bIx (dVar 2) (dC (.int 0))) aNil))) aNil)))) oNone (oSome (dCall F48 (aCons (dVar 0) (aCons (dC (.int 4)) aNil))))) (gNm 6)) (sSeq (sAsg (dLst (aCons (d2 bIx (dVar 2) (dC (.int 5))) (aCons (dTup (aCons (d2 bIx (dVar 2) (dC (.int 3))) (aCons (d2 bIx (dVar 2) (dC (.int 4))) aNil))) (aCons (dVar 4) (aCons (dTup (aCons (dVar 4) (aCons (dTup (aCons (d2 bIx (dVar 2) (dC (.int 5))) (aCons (d2 bIx (dVar 2) (dC (.int 2))) aNil))) aNil))) (aCons (dVar 6) (aCons (dTup aNil) aNil))))))) (gNm 7)) (sSeq (sAsg (d2 bAdd (dVar 7) (dLc (iOf (dVar 7)) (gNm 8) tYesD (dCall F67 (aCons (dVar 0) (aCons (dVar 8) aNil))) [8])) (gNm 7)) (sSeq (sAsg (d2 bAdd (dVar 7) (dLst (aCons (dTup (aCons (d2 bIx (dVar 2) (dC (.int 3))) (aCons (d2 bIx (dVar 2) (dC (.int 4))) (aCons (d2 bIx (dVar 2) (dC (.int 5))) aNil)))) (aCons (dTup (aCons (dTup (aCons (d2 bIx (dVar 2) (dC (.int 5))) (aCons (d2 bIx (dVar 2) (dC (.int 2))) aNil))) (aCons (dVar 4) aNil))) (aCons (dF fListB (aCons (dVar 4) aNil)) aNil))))) (gNm 7)) (sSeq (sFor (iOf (dSl (dVar 2) oNone (oSome (dC (.int 3))))) (gNm 9) L72_0) (sSeq (sAsg (dLst (aCons (dC (.str "x")) (aCons (dC (.str "x1")) (aCons (dC (.str "y")) (aCons (dC (.str "a")) (aCons (dC (.str "b")) (aCons (dC (.str "c22")) (aCons (dC (.str "d")) aNil)))))))) (gNm 10)) (sSeq (sAsg (dF fTuple (aCons (dLc (iEnumD (dVar 10)) (gTp 2 (gsCons (gNm 3) (gsCons (gNm 12) gsNil))) tYesD (dTup (aCons (dVar 12) (aCons (d2 bIx (dVar 2) (d2 bSub (dVar 3) (dC (.int 2)))) aNil))) [3, 12]) aNil)) (gNm 11)) (sSeq (sAsg (d2 bAdd (dVar 7) (dLst (aCons (dVar 11) (aCons (dTup (aCons (dVar 11) (aCons (dTup (aCons (dC (.str "z")) (aCons (dC (.str "z1")) aNil))) aNil))) (aCons (d2 bAdd (dVar 11) (dSl (dVar 11) oNone (oSome (dC (.int 1))))) aNil))))) (gNm 7)) (sSeq (sFor (iOf (dVar 1)) (gNm 13) L72_1) (sRet (dF fAll (aCons (dLc (iOf (d2 bAdd (dVar 7) (dSl (dVar 7) oNone (oSome (dC (.int 1)))))) (gNm 8) tYesD (dCall F71 (aCons (dVar 1) (aCons (dVar 8) aNil))) [8]) aNil)))))))))))))))
def F72 : DFn := dDef fin N72 2 t72
/-! _law_deep -/
abbrev L73_0 : DS := (sSeq (sIf (tAndD (tBool (d2 bEq (dVar 7) (dC (.int 100)))) (tOrD (tBool (d2 (bIs not) (dCall F35 (aCons (dVar 0) (aCons (dVar 5) aNil))) (dC (.bl true)))) (tBool (d2 (bIs not) (dCall F35 (aCons (dVar 0) (aCons (dVar 6) aNil))) (dC (.bl true)))))) (sRet (dC (.bl false))) sSkip) (sSeq (sAsg (d2 bAdd (dTup (aCons (d2 bIx (dVar 1) (dC (.int 0))) (aCons (dVar 5) aNil))) (dVar 2)) (gNm 5)) (sAsg (d2 bAdd (d2 bAdd (dTup (aCons (d2 bIx (dVar 1) (dC (.int 0))) aNil)) (dVar 2)) (dTup (aCons (dVar 6) aNil))) (gNm 6))))
abbrev L73_1 : DS := (sSeq (sAsg (dVar 3) (gNm 5)) (sSeq (sAsg (dVar 3) (gNm 6)) (sSeq (sFor (iRange (aCons (dC (.int 101)) aNil)) (gNm 7) L73_0) (sIf (tOrD (tBool (d2 (bIs not) (dCall F35 (aCons (dVar 0) (aCons (dVar 5) aNil))) (dC (.bl false)))) (tBool (d2 (bIs not) (dCall F35 (aCons (dVar 0) (aCons (dVar 6) aNil))) (dC (.bl false))))) (sRet (dC (.bl false))) sSkip))))
abbrev t73 : DS := (sSeq (sAsg (d2 bMulX (dTup (aCons (dC (.str "y2")) aNil)) (d2 bSub (dCall F52 (aCons (dVar 1) aNil)) (dC (.int 1)))) (gNm 2)) (sSeq (sFor (iOf (d2 bAdd (dLst (aCons (dC (.str "x")) aNil)) (dSl (dLc (iOf (dVar 0)) (gNm 4) (tBool (d2 bEq (dCall F52 (aCons (dVar 4) aNil)) (dC (.int 0)))) (dTup (aCons (d2 bIx (dVar 4) (dC (.int 0))) aNil)) [4]) oNone (oSome (dC (.int 1)))))) (gNm 3) L73_1) (sRet (dC (.bl true)))))
def F73 : DFn := dDef fin N73 2 t73
/-! _law_lets -/
abbrev t74 : DS := (sSeq (sTryAs [("InvalidPaper", true), ("NotUsable", false)] 2 (fun a dd c => (sRet (dTup (aCons (dC (.bl false)) (aCons (dXf a dd "word" 2) (aCons (dXf a dd "at" 2) aNil)))))) (sAsg (dCall F29 (aCons (dVar 0) aNil)) (gNm 1))) (sRet (dTup (aCons (dC (.bl true)) (aCons (dVar 1) aNil)))))
def F74 : DFn := dDef fin N74 1 t74
/-! _law_same -/
abbrev L75_0 : DS := (sIf (tOrD (tTru (dF fIsi (aCons (dVar 2) (aCons (dC (.ty "bool")) aNil)))) (tOrD (tNotD (tTru (dF fIsi (aCons (dVar 2) (aCons (dTup (aCons (dC (.ty "int")) (aCons (dC (.ty "str")) aNil))) aNil))))) (tBool (d2 bNe (dVar 2) (dVar 3))))) (sRet (dC (.bl false))) sSkip)
abbrev t75 : DS := (sSeq (sIf (tOrD (tNotD (tTru (dF fIsi (aCons (dVar 0) (aCons (dC (.ty "tuple")) aNil))))) (tOrD (tBool (d2 bNe (dF fLen (aCons (dVar 0) aNil)) (dF fLen (aCons (dVar 1) aNil)))) (tBool (d2 bNe (d2 bIx (dVar 0) (dC (.int 0))) (d2 bIx (dVar 1) (dC (.int 0))))))) (sRet (dC (.bl false))) sSkip) (sSeq (sFor (iZipD (aCons (dSl (dVar 0) (oSome (dC (.int 1))) oNone) (aCons (dSl (dVar 1) (oSome (dC (.int 1))) oNone) aNil))) (gTp 2 (gsCons (gNm 2) (gsCons (gNm 3) gsNil))) L75_0) (sRet (dC (.bl true)))))
def F75 : DFn := dDef fin N75 2 t75
/-! _law_checked -/
abbrev L76_0 : DS := (sAsg (d2 bAdd (dVar 3) (dLst (aCons (d2 bAdd (dTup (aCons (dTup (aCons (dVar 4) (aCons (dF fListB (aCons (d2 bIx (d2 bIx (dVar 1) (dC (.int 0))) (dC (.int 1))) aNil)) aNil))) aNil)) (dSl (dVar 1) (oSome (dC (.int 1))) oNone)) (aCons (d2 bAdd (dTup (aCons (dTup (aCons (dVar 4) (aCons (d2 bIx (d2 bIx (dVar 1) (dC (.int 0))) (dC (.int 1))) (aCons (dC (.int 0)) aNil)))) aNil)) (dSl (dVar 1) (oSome (dC (.int 1))) oNone)) aNil)))) (gNm 3))
abbrev L76_1 : DS := (sSeq (sAsg (dCall F60 (aCons (dVar 5) aNil)) (gNm 6)) (sIf (tOrD (tNotD (tTru (dCall F75 (aCons (dCall F74 (aCons (dVar 5) aNil)) (aCons (dVar 6) aNil))))) (tNotD (tTru (dCall F68 (aCons (dCall F34 (aCons (dVar 5) aNil)) (aCons (d2 bIx (dVar 6) (dC (.int 0))) aNil)))))) (sRet (dC (.bl false))) sSkip))
abbrev t76 : DS := (sSeq (sAsg (dF fTuple (aCons (dSort0 (dCall F51 (aCons (dVar 0) (aCons (dCall F48 (aCons (dVar 0) (aCons (dC (.int 7)) aNil))) aNil)))) aNil)) (gNm 1)) (sSeq (sAsg (dCall F67 (aCons (dVar 0) (aCons (dVar 1) aNil))) (gNm 2)) (sSeq (sAsg (dLst (aCons (dVar 1) (aCons (dVar 2) (aCons (dCall F67 (aCons (dVar 0) (aCons (dVar 2) aNil))) (aCons (d2 bAdd (dVar 1) (dSl (dVar 1) oNone (oSome (dC (.int 1))))) (aCons (d2 bAdd (dVar 1) (dSl (dVar 1) (oSome (d1 uNeg (dC (.int 1)))) oNone)) (aCons (dF fListB (aCons (dVar 1) aNil)) aNil))))))) (gNm 3)) (sSeq (sIf (tBool (d2 bGt (dF fLen (aCons (dVar 1) aNil)) (dC (.int 0)))) (sSeq (sAsg (d2 bAdd (dVar 3) (dLst (aCons (d2 bAdd (dVar 1) (dTup (aCons (dTup (aCons (d2 bAdd (d2 bIx (d2 bIx (dVar 1) (d1 uNeg (dC (.int 1)))) (dC (.int 0))) (dC (.str "b"))) (aCons (d2 bMulX (dTup (aCons (dC (.int 0)) aNil)) (dC (.int 64))) aNil))) aNil))) (aCons (d2 bAdd (dVar 1) (dTup (aCons (dTup (aCons (d2 bIx (d2 bIx (dVar 1) (d1 uNeg (dC (.int 1)))) (dC (.int 0))) (aCons (dC .non) aNil))) aNil))) aNil)))) (gNm 3)) (sFor (iOf (dTup (aCons (d2 bIx (d2 bIx (dVar 1) (dC (.int 0))) (dC (.int 0))) (aCons (dC (.str "a1")) aNil)))) (gNm 4) L76_0)) sSkip) (sSeq (sFor (iOf (d2 bAdd (dVar 3) (dLst (aCons (dVar 1) aNil)))) (gNm 5) L76_1) (sRet (dAnd (d2 (bIs id) (dCallK F34 [0] 0 1 aNil (aCons (dVar 1) aNil)) (dC (.bl true))) (d2 bEq (dCallK F29 [0] 0 1 aNil (aCons (dVar 1) aNil)) (dF fLen (aCons (dVar 1) aNil))))))))))
def F76 : DFn := dDef fin N76 1 t76
/-! _law_made -/
abbrev t77 : DS := (sTryAs [("InvalidPaper", false), ("NotUsable", true)] 1 (fun a dd c => (sRet (dTup (aCons (dC (.bl false)) (aCons (dXf a dd "word" 1) (aCons (dXf a dd "at" 1) aNil)))))) (sSeq (sIf (tBool (d2 bLt (dF fLen (aCons (dVar 0) aNil)) (dC (.int 2)))) (sRet (dTup (aCons (dC (.bl true)) (aCons (dIf (tBool (d2 bEq (dF fLen (aCons (dVar 0) aNil)) (dC (.int 1)))) (dCallS F41 (aCons (d2 bIx (dVar 0) (dC (.int 0))) aNil)) (dCallS0 F41)) aNil)))) sSkip) (sSeq (sIf (tBool (d2 bEq (dF fLen (aCons (dVar 0) aNil)) (dC (.int 2)))) (sRet (dTup (aCons (dC (.bl true)) (aCons (dCallS F41 (aCons (d2 bIx (dVar 0) (dC (.int 0))) (aCons (d2 bIx (dVar 0) (dC (.int 1))) aNil))) aNil)))) sSkip) (sSeq (sIf (tBool (d2 bEq (dF fLen (aCons (dVar 0) aNil)) (dC (.int 3)))) (sRet (dTup (aCons (dC (.bl true)) (aCons (dCallS F41 (aCons (d2 bIx (dVar 0) (dC (.int 0))) (aCons (d2 bIx (dVar 0) (dC (.int 1))) (aCons (d2 bIx (dVar 0) (dC (.int 2))) aNil)))) aNil)))) sSkip) (sRet (dTup (aCons (dC (.bl true)) (aCons (dCallS F41 (aCons (d2 bIx (dVar 0) (dC (.int 0))) (aCons (d2 bIx (dVar 0) (dC (.int 1))) (aCons (d2 bIx (dVar 0) (dC (.int 2))) (aCons (d2 bIx (dVar 0) (dC (.int 3))) aNil))))) aNil))))))))
def F77 : DFn := dDef fin N77 1 t77
/-! _law_made_due -/
abbrev L78_0 : DS := (sSeq (sIf (tOrD (tBool (d2 bNe (dCall F59 (aCons (dVar 3) (aCons (dC (.str "")) aNil))) (dC (.str "")))) (tBool (d2 (bIn id) (d2 bIx (dVar 3) (dC (.int 0))) (dVar 1)))) (sRet (dTup (aCons (dC (.bl false)) (aCons (dC (.str "gates")) (aCons (dVar 2) aNil))))) sSkip) (sExpr (dAppend (dVar 1) (d2 bIx (dVar 3) (dC (.int 0))))))
abbrev t78 : DS := (sSeq (sAsg (dLstC aNil) (gNm 1)) (sSeq (sFor (iEnumD (dVar 0)) (gTp 2 (gsCons (gNm 2) (gsCons (gNm 3) gsNil))) L78_0) (sRet (dTup (aCons (dC (.bl true)) (aCons (dF fTuple (aCons (dSort0 (dVar 0)) aNil)) aNil))))))
def F78 : DFn := dDef fin N78 1 t78
/-! _law_made_so -/
abbrev t79 : DS := (sSeq (sAsg (dCall F77 (aCons (dVar 0) aNil)) (gNm 1)) (sSeq (sAsg (dCall F78 (aCons (dVar 0) aNil)) (gNm 2)) (sSeq (sIf (tNotD (tTru (d2 bIx (dVar 2) (dC (.int 0))))) (sRet (dCall F75 (aCons (dVar 1) (aCons (dVar 2) aNil)))) sSkip) (sRet (dAnd (d2 (bIs id) (d2 bIx (dVar 1) (dC (.int 0))) (dC (.bl true))) (dAnd (d2 bIx (dCall F60 (aCons (d2 bIx (dVar 1) (dC (.int 1))) aNil)) (dC (.int 0))) (d2 bEq (d2 bIx (dVar 1) (dC (.int 1))) (d2 bIx (dVar 2) (dC (.int 1))))))))))
def F79 : DFn := dDef fin N79 1 t79
/-! _law_asked -/
abbrev t80 : DS := (sTryAs [("InvalidPaper", false), ("NotUsable", true)] 4 (fun a dd c => (sRet (dTup (aCons (dC (.bl false)) (aCons (dXf a dd "word" 4) (aCons (dXf a dd "at" 4) aNil)))))) (sSeq (sIf (tBool (d2 bEq (dVar 1) (dC (.int 0)))) (sRet (dTup (aCons (dC (.bl true)) (aCons (dCall F43 (aCons (dVar 0) (aCons (dVar 2) aNil))) aNil)))) sSkip) (sSeq (sIf (tBool (d2 bEq (dVar 1) (dC (.int 1)))) (sRet (dTup (aCons (dC (.bl true)) (aCons (dCallK F44 [1, 0] 0 2 aNil (aCons (dVar 2) (aCons (dVar 0) aNil))) aNil)))) sSkip) (sSeq (sIf (tBool (d2 bEq (dVar 1) (dC (.int 2)))) (sRet (dTup (aCons (dC (.bl true)) (aCons (dCall F45 (aCons (dVar 0) (aCons (dVar 2) (aCons (dVar 3) aNil)))) aNil)))) sSkip) (sRet (dTup (aCons (dC (.bl true)) (aCons (dCallK F45 [2, 1, 0] 0 3 aNil (aCons (dVar 3) (aCons (dVar 2) (aCons (dVar 0) aNil)))) aNil))))))))
def F80 : DFn := dDef fin N80 4 t80
/-! _law_number -/
abbrev L81_0 : DS := (sAsg (d2 bAdd (d2 bMulX (dC (.int 2)) (dVar 1)) (dVar 2)) (gNm 1))
abbrev t81 : DS := (sSeq (sAsg (dC (.int 0)) (gNm 1)) (sSeq (sFor (iOf (dVar 0)) (gNm 2) L81_0) (sRet (dVar 1))))
def F81 : DFn := dDef fin N81 1 t81
/-! _law_gate_asked -/
abbrev L82_0 : DS := (sSeq (sAsg (dTup (aCons (dC (.bl false)) (aCons (dC (.str "bits")) (aCons (d1 uNeg (dC (.int 1))) aNil)))) (gNm 8)) (sSeq (sIf (tAndD (tTru (dF fIsi (aCons (dVar 7) (aCons (dC (.ty "tuple")) aNil)))) (tAndD (tBool (d2 bEq (dF fLen (aCons (dVar 7) aNil)) (dVar 3))) (tTru (dF fAll (aCons (dLc (iOf (dVar 7)) (gNm 9) tYesD (dCall F55 (aCons (dVar 9) aNil)) [9]) aNil))))) (sAsg (dTup (aCons (dC (.bl true)) (aCons (d2 bIx (d2 bIx (dVar 2) (dC (.int 1))) (dCall F81 (aCons (dVar 7) aNil))) aNil))) (gNm 8)) sSkip) (sIf (tNotD (tTru (dCall F75 (aCons (dCall F80 (aCons (dVar 1) (aCons (dC (.int 2)) (aCons (d2 bIx (dVar 2) (dC (.int 0))) (aCons (dVar 7) aNil))))) (aCons (dVar 8) aNil))))) (sRet (dC (.bl false))) sSkip)))
abbrev t82 : DS := (sSeq (sAsg (dCall F52 (aCons (dVar 2) aNil)) (gNm 3)) (sSeq (sAsg (dCall F49 (aCons (dVar 0) (aCons (dVar 3) aNil))) (gNm 4)) (sSeq (sIf (tNotD (tTru (dCall F75 (aCons (dCall F80 (aCons (dVar 1) (aCons (dC (.int 0)) (aCons (d2 bIx (dVar 2) (dC (.int 0))) (aCons (dVar 4) aNil))))) (aCons (dTup (aCons (dC (.bl true)) (aCons (dVar 3) aNil))) aNil))))) (sRet (dC (.bl false))) sSkip) (sSeq (sAsg (dCall F80 (aCons (dVar 1) (aCons (dC (.int 1)) (aCons (d2 bIx (dVar 2) (dC (.int 0))) (aCons (dVar 4) aNil))))) (gNm 5)) (sSeq (sIf (tOrD (tBool (d2 (bIs not) (d2 bIx (dVar 5) (dC (.int 0))) (dC (.bl true)))) (tOrD (tNotD (tTru (dCall F58 (aCons (d2 bIx (dVar 5) (dC (.int 1))) aNil)))) (tBool (d2 bNe (d2 bIx (dVar 5) (dC (.int 1))) (d2 bIx (dVar 2) (dC (.int 1))))))) (sRet (dC (.bl false))) sSkip) (sSeq (sIf (tNotD (tTru (dCall F75 (aCons (dCall F80 (aCons (dVar 1) (aCons (dC (.int 3)) (aCons (d2 bIx (dVar 2) (dC (.int 0))) (aCons (dVar 4) aNil))))) (aCons (dTup (aCons (dC (.bl true)) (aCons (d2 bIx (d2 bIx (dVar 2) (dC (.int 1))) (dCall F81 (aCons (dVar 4) aNil))) aNil))) aNil))))) (sRet (dC (.bl false))) sSkip) (sSeq (sAsg (dLst (aCons (d2 bAdd (dVar 4) (dTup (aCons (dC (.int 0)) aNil))) (aCons (dF fListB (aCons (dVar 4) aNil)) (aCons (dC .non) (aCons (d2 bAdd (dSl (dVar 4) oNone (oSome (d1 uNeg (dC (.int 1))))) (dTup (aCons (dC (.bl true)) aNil))) (aCons (d2 bAdd (dSl (dVar 4) oNone (oSome (d1 uNeg (dC (.int 1))))) (dTup (aCons (dC (.int 2)) aNil))) (aCons (dVar 3) (aCons (d2 bMulX (dC (.str "0")) (dVar 3)) (aCons (dSl (dVar 4) oNone (oSome (d1 uNeg (dC (.int 1))))) aNil))))))))) (gNm 6)) (sSeq (sFor (iOf (d2 bAdd (dVar 6) (dLst (aCons (dVar 4) aNil)))) (gNm 7) L82_0) (sRet (dC (.bl true)))))))))))
def F82 : DFn := dDef fin N82 3 t82
/-! _law_lots -/
abbrev L83_0 : DS := (sIf (tNotD (tTru (dCall F79 (aCons (dVar 5) aNil)))) (sRet (dC (.bl false))) sSkip)
abbrev L83_1 : DS := (sIf (tNotD (tTru (dCall F82 (aCons (dVar 0) (aCons (dVar 2) (aCons (dVar 7) aNil)))))) (sRet (dC (.bl false))) sSkip)
abbrev L83_2 : DS := (sIf (tNotD (tTru (dCall F73 (aCons (dVar 2) (aCons (dVar 7) aNil))))) (sRet (dC (.bl false))) sSkip)
abbrev L83_3 : DS := (sIf (tAndD (tBool (d2 (bIn not) (dVar 7) (dVar 8))) (tNotD (tTru (dCall F75 (aCons (dCall F80 (aCons (dVar 2) (aCons (dVar 9) (aCons (dVar 7) (aCons (dLst (aCons (dC (.int 0)) aNil)) aNil))))) (aCons (dTup (aCons (dC (.bl false)) (aCons (dC (.str "gate")) (aCons (d1 uNeg (dC (.int 1))) aNil)))) aNil)))))) (sRet (dC (.bl false))) sSkip)
abbrev L83_4 : DS := (sFor (iOf (dTup (aCons (dC (.str "zzzzzzzzzzzz")) (aCons (dC (.str "x")) (aCons (dC .non) (aCons (dC (.bl true)) (aCons (dTup (aCons (dC (.str "non")) aNil)) (aCons (dLst (aCons (dC (.str "non")) aNil)) (aCons (dC (.int 0)) (aCons (dC (.str "")) (aCons (dC (.str "ab")) aNil))))))))))) (gNm 7) L83_3)
abbrev t83 : DS := (sSeq (sAsg (dCall F51 (aCons (dVar 0) (aCons (dCall F48 (aCons (dVar 0) (aCons (dC (.int 5)) aNil))) aNil))) (gNm 1)) (sSeq (sAsg (dF fTuple (aCons (dSort0 (dVar 1)) aNil)) (gNm 2)) (sSeq (sAsg (dListC (aCons (dVar 1) aNil)) (gNm 3)) (sSeq (sIf (tBool (d2 bGt (dF fLen (aCons (dVar 1) aNil)) (dC (.int 0)))) (sPut (dVar 3) (dCall F48 (aCons (dVar 0) (aCons (dF fLen (aCons (dVar 1) aNil)) aNil))) (dCall F67 (aCons (dVar 0) (aCons (d2 bIx (dVar 1) (dCall F48 (aCons (dVar 0) (aCons (dF fLen (aCons (dVar 1) aNil)) aNil)))) aNil)))) sSkip) (sSeq (sAsg (dF fListB (aCons (d2 bAdd (dSl (dVar 1) oNone (oSome (dC (.int 3)))) (dSl (dSl (dVar 1) (oSome (dCall F48 (aCons (dVar 0) (aCons (dC (.int 2)) aNil)))) oNone) oNone (oSome (dC (.int 1))))) aNil)) (gNm 4)) (sSeq (sFor (iOf (dTup (aCons (dVar 1) (aCons (dListRev (dVar 1)) (aCons (dVar 3) (aCons (dVar 4) (aCons (d2 bAdd (dSl (dVar 1) (oSome (dC (.int 1))) oNone) (dSl (dVar 1) oNone (oSome (dC (.int 1))))) (aCons (dVar 1) aNil)))))))) (gNm 5) L83_0) (sSeq (sAsg (dCallK F42 [0] 0 1 aNil (aCons (dVar 2) aNil)) (gNm 6)) (sSeq (sIf (tOrD (tNotD (tTru (dF fIsi (aCons (dVar 6) (aCons (dC (.ty "tuple")) aNil))))) (tBool (d2 bNe (dF fListB (aCons (dVar 6) aNil)) (dLc (iOf (dVar 2)) (gNm 7) tYesD (d2 bIx (dVar 7) (dC (.int 0))) [7])))) (sRet (dC (.bl false))) sSkip) (sSeq (sFor (iOf (dVar 2)) (gNm 7) L83_1) (sSeq (sFor (iOf (dSl (dLc (iOf (dVar 2)) (gNm 5) (tBool (d2 bGt (dCall F52 (aCons (dVar 5) aNil)) (dC (.int 0)))) (dVar 5) [5]) oNone (oSome (dC (.int 1))))) (gNm 7) L83_2) (sSeq (sAsg (dLc (iOf (dVar 2)) (gNm 7) tYesD (d2 bIx (dVar 7) (dC (.int 0))) [7]) (gNm 8)) (sSeq (sFor (iRange (aCons (dC (.int 4)) aNil)) (gNm 9) L83_4) (sRet (dCall F72 (aCons (dVar 0) (aCons (dVar 2) aNil))))))))))))))))
def F83 : DFn := dDef fin N83 1 t83
/-! law -/
abbrev t84 : DS := (sSeq (sAsg (dCall F47 (aCons (dVar 0) aNil)) (gNm 1)) (sRet (dAnd (dCall F83 (aCons (dVar 1) aNil)) (dAnd (dCall F76 (aCons (dVar 1) aNil)) (dCall F70 (aCons (dVar 1) aNil))))))
def F84 : DFn := dDef fin N84 1 t84
end QB
set_option maxHeartbeats 4000000
namespace QB
open PySem PySem.Spec PySem.Calls PyProof.Rows L2
def top (i : Nat) : Stmt := PySem.Challenge.pw_quietbit_k00_kinds_and_the_lot_checker.main.body.getD i (.Pass ⟨0, 0, 0, 0⟩)
/-! bit_form -/
abbrev s11 : Stmt := top 11
theorem sc11 : FnScope N11 ["thing"] (defScope s11) := C8.fnScope_by (by kernel_rfl)
theorem bp11 : BindP s11 "bit_form" ["thing"] := fun _ _ _ _ _ _ us hl => match us, hl with | [_], _ => rfl
/-! bits_form -/
abbrev s12 : Stmt := top 12
theorem sc12 : FnScope N12 ["thing", "many"] (defScope s12) := C8.fnScope_by (by kernel_rfl)
theorem bp12 : BindP s12 "bits_form" ["thing", "many"] := fun _ _ _ _ _ _ us hl => match us, hl with | [_, _], _ => rfl
/-! name_form -/
abbrev s13 : Stmt := top 13
theorem sc13 : FnScope N13 ["thing"] (defScope s13) := C8.fnScope_by (by kernel_rfl)
theorem bp13 : BindP s13 "name_form" ["thing"] := fun _ _ _ _ _ _ us hl => match us, hl with | [_], _ => rfl
/-! gate_name_form -/
abbrev s14 : Stmt := top 14
theorem sc14 : FnScope N14 ["thing"] (defScope s14) := C8.fnScope_by (by kernel_rfl)
theorem bp14 : BindP s14 "gate_name_form" ["thing"] := fun _ _ _ _ _ _ us hl => match us, hl with | [_], _ => rfl
/-! rows_form -/
abbrev s15 : Stmt := top 15
theorem sc15 : FnScope N15 ["thing"] (defScope s15) := C8.fnScope_by (by kernel_rfl)
theorem bp15 : BindP s15 "rows_form" ["thing"] := fun _ _ _ _ _ _ us hl => match us, hl with | [_], _ => rfl
/-! gate_fault -/
abbrev s16 : Stmt := top 16
theorem sc16 : FnScope N16 ["thing", "above"] (defScope s16) := C8.fnScope_by (by kernel_rfl)
theorem bp16 : BindP s16 "gate_fault" ["thing", "above"] := fun _ _ _ _ _ _ us hl => match us, hl with | [_, _], _ => rfl
/-! lot_fault -/
abbrev s17 : Stmt := top 17
theorem sc17 : FnScope N17 ["thing"] (defScope s17) := C8.fnScope_by (by kernel_rfl)
theorem bp17 : BindP s17 "lot_fault" ["thing"] := fun _ _ _ _ _ _ us hl => match us, hl with | [_], _ => rfl
/-! inputs_for -/
abbrev s18 : Stmt := top 18
theorem sc18 : FnScope N18 ["rows"] (defScope s18) := C8.fnScope_by (by kernel_rfl)
theorem bp18 : BindP s18 "inputs_for" ["rows"] := fun _ _ _ _ _ _ us hl => match us, hl with | [_], _ => rfl
/-! gate_sizes -/
abbrev s19 : Stmt := top 19
theorem sc19 : FnScope N19 ["lot"] (defScope s19) := C8.fnScope_by (by kernel_rfl)
theorem bp19 : BindP s19 "gate_sizes" ["lot"] := fun _ _ _ _ _ _ us hl => match us, hl with | [_], _ => rfl
/-! gate_tables -/
abbrev s20 : Stmt := top 20
theorem sc20 : FnScope N20 ["lot"] (defScope s20) := C8.fnScope_by (by kernel_rfl)
theorem bp20 : BindP s20 "gate_tables" ["lot"] := fun _ _ _ _ _ _ us hl => match us, hl with | [_], _ => rfl
/-! term_form -/
abbrev s21 : Stmt := top 21
theorem sc21 : FnScope N21 ["sizes", "thing", "depth"] (defScope s21) := C8.fnScope_by (by kernel_rfl)
/-! equation_form -/
abbrev s22 : Stmt := top 22
theorem sc22 : FnScope N22 ["sizes", "thing"] (defScope s22) := C8.fnScope_by (by kernel_rfl)
theorem bp22 : BindP s22 "equation_form" ["sizes", "thing"] := fun _ _ _ _ _ _ us hl => match us, hl with | [_, _], _ => rfl
/-! facts_form -/
abbrev s23 : Stmt := top 23
theorem sc23 : FnScope N23 ["sizes", "thing"] (defScope s23) := C8.fnScope_by (by kernel_rfl)
theorem bp23 : BindP s23 "facts_form" ["sizes", "thing"] := fun _ _ _ _ _ _ us hl => match us, hl with | [_, _], _ => rfl
/-! claim_form -/
abbrev s24 : Stmt := top 24
theorem sc24 : FnScope N24 ["sizes", "thing"] (defScope s24) := C8.fnScope_by (by kernel_rfl)
theorem bp24 : BindP s24 "claim_form" ["sizes", "thing"] := fun _ _ _ _ _ _ us hl => match us, hl with | [_, _], _ => rfl
/-! puts_form -/
abbrev s25 : Stmt := top 25
theorem sc25 : FnScope N25 ["sizes", "thing"] (defScope s25) := C8.fnScope_by (by kernel_rfl)
theorem bp25 : BindP s25 "puts_form" ["sizes", "thing"] := fun _ _ _ _ _ _ us hl => match us, hl with | [_, _], _ => rfl
/-! need_gate -/
abbrev s26 : Stmt := top 26
theorem sc26 : FnScope N26 ["lot", "gate"] (defScope s26) := C8.fnScope_by (by kernel_rfl)
theorem bp26 : BindP s26 "need_gate" ["lot", "gate"] := fun _ _ _ _ _ _ us hl => match us, hl with | [_, _], _ => rfl
/-! need_bits -/
abbrev s27 : Stmt := top 27
theorem sc27 : FnScope N27 ["bits", "many"] (defScope s27) := C8.fnScope_by (by kernel_rfl)
theorem bp27 : BindP s27 "need_bits" ["bits", "many"] := fun _ _ _ _ _ _ us hl => match us, hl with | [_, _], _ => rfl
/-! lets_lot -/
abbrev s29 : Stmt := top 29
theorem sc29 : FnScope N29 ["thing"] (defScope s29) := C8.fnScope_by (by kernel_rfl)
theorem bp29 : BindP s29 "lets_lot" ["thing"] := fun _ _ _ _ _ _ us hl => match us, hl with | [_], _ => rfl
/-! is_bit -/
abbrev s31 : Stmt := top 31
theorem sc31 : FnScope N31 ["thing"] (defScope s31) := C8.fnScope_by (by kernel_rfl)
theorem bp31 : BindP s31 "is_bit" ["thing"] := fun _ _ _ _ _ _ us hl => match us, hl with | [_], _ => rfl
/-! is_name -/
abbrev s32 : Stmt := top 32
theorem sc32 : FnScope N32 ["thing"] (defScope s32) := C8.fnScope_by (by kernel_rfl)
theorem bp32 : BindP s32 "is_name" ["thing"] := fun _ _ _ _ _ _ us hl => match us, hl with | [_], _ => rfl
/-! is_gate_name -/
abbrev s33 : Stmt := top 33
theorem sc33 : FnScope N33 ["thing"] (defScope s33) := C8.fnScope_by (by kernel_rfl)
theorem bp33 : BindP s33 "is_gate_name" ["thing"] := fun _ _ _ _ _ _ us hl => match us, hl with | [_], _ => rfl
/-! is_lot -/
abbrev s34 : Stmt := top 34
theorem sc34 : FnScope N34 ["thing"] (defScope s34) := C8.fnScope_by (by kernel_rfl)
theorem bp34 : BindP s34 "is_lot" ["thing"] := fun _ _ _ _ _ _ us hl => match us, hl with | [_], _ => rfl
/-! is_term -/
abbrev s35 : Stmt := top 35
theorem sc35 : FnScope N35 ["lot", "thing"] (defScope s35) := C8.fnScope_by (by kernel_rfl)
theorem bp35 : BindP s35 "is_term" ["lot", "thing"] := fun _ _ _ _ _ _ us hl => match us, hl with | [_, _], _ => rfl
/-! is_equation -/
abbrev s36 : Stmt := top 36
theorem sc36 : FnScope N36 ["lot", "thing"] (defScope s36) := C8.fnScope_by (by kernel_rfl)
theorem bp36 : BindP s36 "is_equation" ["lot", "thing"] := fun _ _ _ _ _ _ us hl => match us, hl with | [_, _], _ => rfl
/-! is_facts -/
abbrev s37 : Stmt := top 37
theorem sc37 : FnScope N37 ["lot", "thing"] (defScope s37) := C8.fnScope_by (by kernel_rfl)
theorem bp37 : BindP s37 "is_facts" ["lot", "thing"] := fun _ _ _ _ _ _ us hl => match us, hl with | [_, _], _ => rfl
/-! is_claim -/
abbrev s38 : Stmt := top 38
theorem sc38 : FnScope N38 ["lot", "thing"] (defScope s38) := C8.fnScope_by (by kernel_rfl)
theorem bp38 : BindP s38 "is_claim" ["lot", "thing"] := fun _ _ _ _ _ _ us hl => match us, hl with | [_, _], _ => rfl
/-! is_puts -/
abbrev s39 : Stmt := top 39
theorem sc39 : FnScope N39 ["lot", "thing"] (defScope s39) := C8.fnScope_by (by kernel_rfl)
theorem bp39 : BindP s39 "is_puts" ["lot", "thing"] := fun _ _ _ _ _ _ us hl => match us, hl with | [_, _], _ => rfl
/-! lot_of -/
abbrev s41 : Stmt := top 41
theorem sc41 : FnScope N41 ["gates"] (defScope s41) := C8.fnScope_by (by kernel_rfl)
theorem bs41 (kV doc pm : Value) (an : Option Addr) (cdv ct : Value) (rest : List Value) : bindArgs (PySem.W.fnOf "lot_of" "lot_of" (defArgs s41) (defBody s41) (defScope s41) .none kV doc pm an cdv ct) ⟨rest, []⟩ = (newTuple rest >>= fun t => pure [(("gates" : Str), t)]) := by cases rest <;> rfl
/-! gates_of -/
abbrev s42 : Stmt := top 42
theorem sc42 : FnScope N42 ["lot"] (defScope s42) := C8.fnScope_by (by kernel_rfl)
theorem bp42 : BindP s42 "gates_of" ["lot"] := fun _ _ _ _ _ _ us hl => match us, hl with | [_], _ => rfl
/-! inputs_of -/
abbrev s43 : Stmt := top 43
theorem sc43 : FnScope N43 ["lot", "gate"] (defScope s43) := C8.fnScope_by (by kernel_rfl)
theorem bp43 : BindP s43 "inputs_of" ["lot", "gate"] := fun _ _ _ _ _ _ us hl => match us, hl with | [_, _], _ => rfl
/-! rows_of -/
abbrev s44 : Stmt := top 44
theorem sc44 : FnScope N44 ["lot", "gate"] (defScope s44) := C8.fnScope_by (by kernel_rfl)
theorem bp44 : BindP s44 "rows_of" ["lot", "gate"] := fun _ _ _ _ _ _ us hl => match us, hl with | [_, _], _ => rfl
/-! answer_of -/
abbrev s45 : Stmt := top 45
theorem sc45 : FnScope N45 ["lot", "gate", "bits"] (defScope s45) := C8.fnScope_by (by kernel_rfl)
theorem bp45 : BindP s45 "answer_of" ["lot", "gate", "bits"] := fun _ _ _ _ _ _ us hl => match us, hl with | [_, _, _], _ => rfl
/-! _law_draws -/
abbrev s47 : Stmt := top 47
theorem sc47 : FnScope N47 ["_law_script"] (defScope s47) := C8.fnScope_by (by kernel_rfl)
theorem bp47 : BindP s47 "_law_draws" ["_law_script"] := fun _ _ _ _ _ _ us hl => match us, hl with | [_], _ => rfl
/-! _law_take -/
abbrev s48 : Stmt := top 48
theorem sc48 : FnScope N48 ["_law_row", "_law_many"] (defScope s48) := C8.fnScope_by (by kernel_rfl)
theorem bp48 : BindP s48 "_law_take" ["_law_row", "_law_many"] := fun _ _ _ _ _ _ us hl => match us, hl with | [_, _], _ => rfl
/-! _law_bits -/
abbrev s49 : Stmt := top 49
theorem sc49 : FnScope N49 ["_law_row", "_law_many"] (defScope s49) := C8.fnScope_by (by kernel_rfl)
theorem bp49 : BindP s49 "_law_bits" ["_law_row", "_law_many"] := fun _ _ _ _ _ _ us hl => match us, hl with | [_, _], _ => rfl
/-! _law_gate_word -/
abbrev s50 : Stmt := top 50
theorem sc50 : FnScope N50 ["_law_row"] (defScope s50) := C8.fnScope_by (by kernel_rfl)
theorem bp50 : BindP s50 "_law_gate_word" ["_law_row"] := fun _ _ _ _ _ _ us hl => match us, hl with | [_], _ => rfl
/-! _law_gates -/
abbrev s51 : Stmt := top 51
theorem sc51 : FnScope N51 ["_law_row", "_law_many"] (defScope s51) := C8.fnScope_by (by kernel_rfl)
theorem bp51 : BindP s51 "_law_gates" ["_law_row", "_law_many"] := fun _ _ _ _ _ _ us hl => match us, hl with | [_, _], _ => rfl
/-! _law_inputs -/
abbrev s52 : Stmt := top 52
theorem sc52 : FnScope N52 ["_law_gate"] (defScope s52) := C8.fnScope_by (by kernel_rfl)
theorem bp52 : BindP s52 "_law_inputs" ["_law_gate"] := fun _ _ _ _ _ _ us hl => match us, hl with | [_], _ => rfl
/-! _law_name -/
abbrev s53 : Stmt := top 53
theorem sc53 : FnScope N53 ["_law_row"] (defScope s53) := C8.fnScope_by (by kernel_rfl)
theorem bp53 : BindP s53 "_law_name" ["_law_row"] := fun _ _ _ _ _ _ us hl => match us, hl with | [_], _ => rfl
/-! _law_term -/
abbrev s54 : Stmt := top 54
theorem sc54 : FnScope N54 ["_law_row", "_law_lot", "_law_deep_here"] (defScope s54) := C8.fnScope_by (by kernel_rfl)
theorem bp54 : BindP s54 "_law_term" ["_law_row", "_law_lot", "_law_deep_here"] := fun _ _ _ _ _ _ us hl => match us, hl with | [_, _, _], _ => rfl
/-! _law_is_bit -/
abbrev s55 : Stmt := top 55
theorem sc55 : FnScope N55 ["_law_thing"] (defScope s55) := C8.fnScope_by (by kernel_rfl)
theorem bp55 : BindP s55 "_law_is_bit" ["_law_thing"] := fun _ _ _ _ _ _ us hl => match us, hl with | [_], _ => rfl
/-! _law_is_name -/
abbrev s56 : Stmt := top 56
theorem sc56 : FnScope N56 ["_law_thing"] (defScope s56) := C8.fnScope_by (by kernel_rfl)
theorem bp56 : BindP s56 "_law_is_name" ["_law_thing"] := fun _ _ _ _ _ _ us hl => match us, hl with | [_], _ => rfl
/-! _law_is_word -/
abbrev s57 : Stmt := top 57
theorem sc57 : FnScope N57 ["_law_thing"] (defScope s57) := C8.fnScope_by (by kernel_rfl)
theorem bp57 : BindP s57 "_law_is_word" ["_law_thing"] := fun _ _ _ _ _ _ us hl => match us, hl with | [_], _ => rfl
/-! _law_is_rows -/
abbrev s58 : Stmt := top 58
theorem sc58 : FnScope N58 ["_law_thing"] (defScope s58) := C8.fnScope_by (by kernel_rfl)
theorem bp58 : BindP s58 "_law_is_rows" ["_law_thing"] := fun _ _ _ _ _ _ us hl => match us, hl with | [_], _ => rfl
/-! _law_gate_fault -/
abbrev s59 : Stmt := top 59
theorem sc59 : FnScope N59 ["_law_gate", "_law_before"] (defScope s59) := C8.fnScope_by (by kernel_rfl)
theorem bp59 : BindP s59 "_law_gate_fault" ["_law_gate", "_law_before"] := fun _ _ _ _ _ _ us hl => match us, hl with | [_, _], _ => rfl
/-! _law_lot_due -/
abbrev s60 : Stmt := top 60
theorem sc60 : FnScope N60 ["_law_thing"] (defScope s60) := C8.fnScope_by (by kernel_rfl)
theorem bp60 : BindP s60 "_law_lot_due" ["_law_thing"] := fun _ _ _ _ _ _ us hl => match us, hl with | [_], _ => rfl
/-! _law_is_term -/
abbrev s61 : Stmt := top 61
theorem sc61 : FnScope N61 ["_law_lot", "_law_thing"] (defScope s61) := C8.fnScope_by (by kernel_rfl)
theorem bp61 : BindP s61 "_law_is_term" ["_law_lot", "_law_thing"] := fun _ _ _ _ _ _ us hl => match us, hl with | [_, _], _ => rfl
/-! _law_is_equation -/
abbrev s62 : Stmt := top 62
theorem sc62 : FnScope N62 ["_law_lot", "_law_thing"] (defScope s62) := C8.fnScope_by (by kernel_rfl)
theorem bp62 : BindP s62 "_law_is_equation" ["_law_lot", "_law_thing"] := fun _ _ _ _ _ _ us hl => match us, hl with | [_, _], _ => rfl
/-! _law_is_facts -/
abbrev s63 : Stmt := top 63
theorem sc63 : FnScope N63 ["_law_lot", "_law_thing"] (defScope s63) := C8.fnScope_by (by kernel_rfl)
theorem bp63 : BindP s63 "_law_is_facts" ["_law_lot", "_law_thing"] := fun _ _ _ _ _ _ us hl => match us, hl with | [_, _], _ => rfl
/-! _law_is_claim -/
abbrev s64 : Stmt := top 64
theorem sc64 : FnScope N64 ["_law_lot", "_law_thing"] (defScope s64) := C8.fnScope_by (by kernel_rfl)
theorem bp64 : BindP s64 "_law_is_claim" ["_law_lot", "_law_thing"] := fun _ _ _ _ _ _ us hl => match us, hl with | [_, _], _ => rfl
/-! _law_is_puts -/
abbrev s65 : Stmt := top 65
theorem sc65 : FnScope N65 ["_law_lot", "_law_thing"] (defScope s65) := C8.fnScope_by (by kernel_rfl)
theorem bp65 : BindP s65 "_law_is_puts" ["_law_lot", "_law_thing"] := fun _ _ _ _ _ _ us hl => match us, hl with | [_, _], _ => rfl
/-! _law_odd -/
abbrev s66 : Stmt := top 66
theorem sc66 : FnScope N66 ["_law_row", "_law_thing"] (defScope s66) := C8.fnScope_by (by kernel_rfl)
theorem bp66 : BindP s66 "_law_odd" ["_law_row", "_law_thing"] := fun _ _ _ _ _ _ us hl => match us, hl with | [_, _], _ => rfl
/-! _law_bent -/
abbrev s67 : Stmt := top 67
theorem sc67 : FnScope N67 ["_law_row", "_law_thing"] (defScope s67) := C8.fnScope_by (by kernel_rfl)
theorem bp67 : BindP s67 "_law_bent" ["_law_row", "_law_thing"] := fun _ _ _ _ _ _ us hl => match us, hl with | [_, _], _ => rfl
/-! _law_told -/
abbrev s68 : Stmt := top 68
theorem sc68 : FnScope N68 ["_law_got", "_law_due"] (defScope s68) := C8.fnScope_by (by kernel_rfl)
theorem bp68 : BindP s68 "_law_told" ["_law_got", "_law_due"] := fun _ _ _ _ _ _ us hl => match us, hl with | [_, _], _ => rfl
/-! _law_single_kinds -/
abbrev s69 : Stmt := top 69
theorem sc69 : FnScope N69 ["_law_thing"] (defScope s69) := C8.fnScope_by (by kernel_rfl)
theorem bp69 : BindP s69 "_law_single_kinds" ["_law_thing"] := fun _ _ _ _ _ _ us hl => match us, hl with | [_], _ => rfl
/-! _law_singles -/
abbrev s70 : Stmt := top 70
theorem sc70 : FnScope N70 ["_law_row"] (defScope s70) := C8.fnScope_by (by kernel_rfl)
theorem bp70 : BindP s70 "_law_singles" ["_law_row"] := fun _ _ _ _ _ _ us hl => match us, hl with | [_], _ => rfl
/-! _law_term_kinds -/
abbrev s71 : Stmt := top 71
theorem sc71 : FnScope N71 ["_law_lot", "_law_thing"] (defScope s71) := C8.fnScope_by (by kernel_rfl)
theorem bp71 : BindP s71 "_law_term_kinds" ["_law_lot", "_law_thing"] := fun _ _ _ _ _ _ us hl => match us, hl with | [_, _], _ => rfl
/-! _law_terms -/
abbrev s72 : Stmt := top 72
theorem sc72 : FnScope N72 ["_law_row", "_law_lot"] (defScope s72) := C8.fnScope_by (by kernel_rfl)
theorem bp72 : BindP s72 "_law_terms" ["_law_row", "_law_lot"] := fun _ _ _ _ _ _ us hl => match us, hl with | [_, _], _ => rfl
/-! _law_deep -/
abbrev s73 : Stmt := top 73
theorem sc73 : FnScope N73 ["_law_lot", "_law_gate"] (defScope s73) := C8.fnScope_by (by kernel_rfl)
theorem bp73 : BindP s73 "_law_deep" ["_law_lot", "_law_gate"] := fun _ _ _ _ _ _ us hl => match us, hl with | [_, _], _ => rfl
/-! _law_lets -/
abbrev s74 : Stmt := top 74
theorem sc74 : FnScope N74 ["_law_thing"] (defScope s74) := C8.fnScope_by (by kernel_rfl)
theorem bp74 : BindP s74 "_law_lets" ["_law_thing"] := fun _ _ _ _ _ _ us hl => match us, hl with | [_], _ => rfl
/-! _law_same -/
abbrev s75 : Stmt := top 75
theorem sc75 : FnScope N75 ["_law_got", "_law_due"] (defScope s75) := C8.fnScope_by (by kernel_rfl)
theorem bp75 : BindP s75 "_law_same" ["_law_got", "_law_due"] := fun _ _ _ _ _ _ us hl => match us, hl with | [_, _], _ => rfl
/-! _law_checked -/
abbrev s76 : Stmt := top 76
theorem sc76 : FnScope N76 ["_law_row"] (defScope s76) := C8.fnScope_by (by kernel_rfl)
theorem bp76 : BindP s76 "_law_checked" ["_law_row"] := fun _ _ _ _ _ _ us hl => match us, hl with | [_], _ => rfl
/-! _law_made -/
abbrev s77 : Stmt := top 77
theorem sc77 : FnScope N77 ["_law_gates_here"] (defScope s77) := C8.fnScope_by (by kernel_rfl)
theorem bp77 : BindP s77 "_law_made" ["_law_gates_here"] := fun _ _ _ _ _ _ us hl => match us, hl with | [_], _ => rfl
/-! _law_made_due -/
abbrev s78 : Stmt := top 78
theorem sc78 : FnScope N78 ["_law_gates_here"] (defScope s78) := C8.fnScope_by (by kernel_rfl)
theorem bp78 : BindP s78 "_law_made_due" ["_law_gates_here"] := fun _ _ _ _ _ _ us hl => match us, hl with | [_], _ => rfl
/-! _law_made_so -/
abbrev s79 : Stmt := top 79
theorem sc79 : FnScope N79 ["_law_gates_here"] (defScope s79) := C8.fnScope_by (by kernel_rfl)
theorem bp79 : BindP s79 "_law_made_so" ["_law_gates_here"] := fun _ _ _ _ _ _ us hl => match us, hl with | [_], _ => rfl
/-! _law_asked -/
abbrev s80 : Stmt := top 80
theorem sc80 : FnScope N80 ["_law_lot", "_law_which", "_law_gate", "_law_bits_here"] (defScope s80) := C8.fnScope_by (by kernel_rfl)
theorem bp80 : BindP s80 "_law_asked" ["_law_lot", "_law_which", "_law_gate", "_law_bits_here"] := fun _ _ _ _ _ _ us hl => match us, hl with | [_, _, _, _], _ => rfl
/-! _law_number -/
abbrev s81 : Stmt := top 81
theorem sc81 : FnScope N81 ["_law_bits_here"] (defScope s81) := C8.fnScope_by (by kernel_rfl)
theorem bp81 : BindP s81 "_law_number" ["_law_bits_here"] := fun _ _ _ _ _ _ us hl => match us, hl with | [_], _ => rfl
/-! _law_gate_asked -/
abbrev s82 : Stmt := top 82
theorem sc82 : FnScope N82 ["_law_row", "_law_lot", "_law_gate"] (defScope s82) := C8.fnScope_by (by kernel_rfl)
theorem bp82 : BindP s82 "_law_gate_asked" ["_law_row", "_law_lot", "_law_gate"] := fun _ _ _ _ _ _ us hl => match us, hl with | [_, _, _], _ => rfl
/-! _law_lots -/
abbrev s83 : Stmt := top 83
theorem sc83 : FnScope N83 ["_law_row"] (defScope s83) := C8.fnScope_by (by kernel_rfl)
theorem bp83 : BindP s83 "_law_lots" ["_law_row"] := fun _ _ _ _ _ _ us hl => match us, hl with | [_], _ => rfl
/-! law -/
abbrev s84 : Stmt := top 84
theorem sc84 : FnScope N84 ["_law_script"] (defScope s84) := C8.fnScope_by (by kernel_rfl)
theorem bp84 : BindP s84 "law" ["_law_script"] := fun _ _ _ _ _ _ us hl => match us, hl with | [_], _ => rfl
theorem bd21_3 : BindD s21 "term_form" ["sizes", "thing", "depth"] 3 1 1 := fun _ _ _ _ _ _ _ us its h1 h2 => match us, its, h1, h2 with | [_, _, _], [_], _, _ => ⟨_, rfl, rfl⟩
theorem bd21_2 : BindD s21 "term_form" ["sizes", "thing", "depth"] 2 0 1 := fun _ _ _ _ _ _ _ us its h1 h2 => match us, its, h1, h2 with | [_, _], [_], _, _ => ⟨_, rfl, rfl⟩
theorem bk32_0_0 : BindK s32 "is_name" ["thing"] 0 ["thing"] [0] := fun _ _ _ _ _ _ us ws h1 h2 => match us, ws, h1, h2 with | [], [_], _, _ => rfl
theorem bk36_0_1_0 : BindK s36 "is_equation" ["lot", "thing"] 0 ["thing", "lot"] [1, 0] := fun _ _ _ _ _ _ us ws h1 h2 => match us, ws, h1, h2 with | [], [_, _], _, _ => rfl
theorem bk38_1_1 : BindK s38 "is_claim" ["lot", "thing"] 1 ["thing"] [0, 1] := fun _ _ _ _ _ _ us ws h1 h2 => match us, ws, h1, h2 with | [_], [_], _, _ => rfl
theorem bk34_0_0 : BindK s34 "is_lot" ["thing"] 0 ["thing"] [0] := fun _ _ _ _ _ _ us ws h1 h2 => match us, ws, h1, h2 with | [], [_], _, _ => rfl
theorem bk29_0_0 : BindK s29 "lets_lot" ["thing"] 0 ["thing"] [0] := fun _ _ _ _ _ _ us ws h1 h2 => match us, ws, h1, h2 with | [], [_], _, _ => rfl
theorem bk44_0_1_0 : BindK s44 "rows_of" ["lot", "gate"] 0 ["gate", "lot"] [1, 0] := fun _ _ _ _ _ _ us ws h1 h2 => match us, ws, h1, h2 with | [], [_, _], _, _ => rfl
theorem bk45_0_2_1_0 : BindK s45 "answer_of" ["lot", "gate", "bits"] 0 ["bits", "gate", "lot"] [2, 1, 0] := fun _ _ _ _ _ _ us ws h1 h2 => match us, ws, h1, h2 with | [], [_, _, _], _, _ => rfl
theorem bk42_0_0 : BindK s42 "gates_of" ["lot"] 0 ["lot"] [0] := fun _ _ _ _ _ _ us ws h1 h2 => match us, ws, h1, h2 with | [], [_], _, _ => rfl
/-- what the head tells -/
structure G0 (P : Program) (w : World) (K : PySem.W.Frag) (mg : Str → Option Value) (base : Heap) : Prop where
  fr_abs : mg "abs" = none
  fr_all : mg "all" = none
  fr_bool : mg "bool" = none
  fr_enumerate : mg "enumerate" = none
  fr_int : mg "int" = none
  fr_isinstance : mg "isinstance" = none
  fr_len : mg "len" = none
  fr_list : mg "list" = none
  fr_range : mg "range" = none
  fr_reversed : mg "reversed" = none
  fr_sorted : mg "sorted" = none
  fr_str : mg "str" = none
  fr_tuple : mg "tuple" = none
  fr_zip : mg "zip" = none
  c_DEEPEST : ∃ t, mg "DEEPEST" = some (.int 100 t)
  c_FIGURES : ∃ t, mg "FIGURES" = some (.str "0123456789" t)
  c_LETTERS : ∃ t, mg "LETTERS" = some (.str "abcdefghijklmnopqrstuvwxyz" t)
  c_ROW_COUNTS : GT K mg "ROW_COUNTS" [.int 1, .int 2, .int 4, .int 8, .int 16, .int 32]
  e_InvalidPaper : EcV P w K mg base "InvalidPaper" (He.ga K "InvalidPaper") "word" "at" 2
  e_NotUsable : EcV P w K mg base "NotUsable" (He.ga K "NotUsable") "word" "at" 2
  m_InvalidPaper : mg "InvalidPaper" = some (.ref (He.ga K "InvalidPaper"))
  mt_InvalidPaper : Mts K mg (.ref (He.ga K "InvalidPaper")) [("InvalidPaper", true), ("NotUsable", false)]
  gx_InvalidPaper : ∀ (c : Str) (C : Addr), mg c = some (.ref C) → (c, true) ∈ ([("InvalidPaper", true), ("NotUsable", false)] : List (Str × Bool)) → XfC K C ∧ ∀ f : Str, f ∈ (["word", "at"] : List Str) → PySem.W.findIn K (.ref C) f = some none
  m_NotUsable : mg "NotUsable" = some (.ref (He.ga K "NotUsable"))
  mt_NotUsable : Mts K mg (.ref (He.ga K "NotUsable")) [("InvalidPaper", false), ("NotUsable", true)]
  gx_NotUsable : ∀ (c : Str) (C : Addr), mg c = some (.ref C) → (c, true) ∈ ([("InvalidPaper", false), ("NotUsable", true)] : List (Str × Bool)) → XfC K C ∧ ∀ f : Str, f ∈ (["word", "at"] : List Str) → PySem.W.findIn K (.ref C) f = some none
  tbl : tblB K = true
  d11 : ∃ f fd, FunD K "bit_form" "bit_form" (defArgs s11) (defBody s11) (defScope s11) [] [] f fd ∧ mg "bit_form" = some (.ref f)
  d12 : ∃ f fd, FunD K "bits_form" "bits_form" (defArgs s12) (defBody s12) (defScope s12) [] [] f fd ∧ mg "bits_form" = some (.ref f)
  d13 : ∃ f fd, FunD K "name_form" "name_form" (defArgs s13) (defBody s13) (defScope s13) [] [] f fd ∧ mg "name_form" = some (.ref f)
  d14 : ∃ f fd, FunD K "gate_name_form" "gate_name_form" (defArgs s14) (defBody s14) (defScope s14) [] [] f fd ∧ mg "gate_name_form" = some (.ref f)
  d15 : ∃ f fd, FunD K "rows_form" "rows_form" (defArgs s15) (defBody s15) (defScope s15) [] [] f fd ∧ mg "rows_form" = some (.ref f)
  d16 : ∃ f fd, FunD K "gate_fault" "gate_fault" (defArgs s16) (defBody s16) (defScope s16) [] [] f fd ∧ mg "gate_fault" = some (.ref f)
  d17 : ∃ f fd, FunD K "lot_fault" "lot_fault" (defArgs s17) (defBody s17) (defScope s17) [] [] f fd ∧ mg "lot_fault" = some (.ref f)
  d18 : ∃ f fd, FunD K "inputs_for" "inputs_for" (defArgs s18) (defBody s18) (defScope s18) [] [] f fd ∧ mg "inputs_for" = some (.ref f)
  d19 : ∃ f fd, FunD K "gate_sizes" "gate_sizes" (defArgs s19) (defBody s19) (defScope s19) [] [] f fd ∧ mg "gate_sizes" = some (.ref f)
  d20 : ∃ f fd, FunD K "gate_tables" "gate_tables" (defArgs s20) (defBody s20) (defScope s20) [] [] f fd ∧ mg "gate_tables" = some (.ref f)
  d21 : ∃ f fd, FunD K "term_form" "term_form" (defArgs s21) (defBody s21) (defScope s21) [.int 0] [] f fd ∧ mg "term_form" = some (.ref f)
  d22 : ∃ f fd, FunD K "equation_form" "equation_form" (defArgs s22) (defBody s22) (defScope s22) [] [] f fd ∧ mg "equation_form" = some (.ref f)
  d23 : ∃ f fd, FunD K "facts_form" "facts_form" (defArgs s23) (defBody s23) (defScope s23) [] [] f fd ∧ mg "facts_form" = some (.ref f)
  d24 : ∃ f fd, FunD K "claim_form" "claim_form" (defArgs s24) (defBody s24) (defScope s24) [] [] f fd ∧ mg "claim_form" = some (.ref f)
  d25 : ∃ f fd, FunD K "puts_form" "puts_form" (defArgs s25) (defBody s25) (defScope s25) [] [] f fd ∧ mg "puts_form" = some (.ref f)
  d26 : ∃ f fd, FunD K "need_gate" "need_gate" (defArgs s26) (defBody s26) (defScope s26) [] [] f fd ∧ mg "need_gate" = some (.ref f)
  d27 : ∃ f fd, FunD K "need_bits" "need_bits" (defArgs s27) (defBody s27) (defScope s27) [] [] f fd ∧ mg "need_bits" = some (.ref f)
  d29 : ∃ f fd, FunD K "lets_lot" "lets_lot" (defArgs s29) (defBody s29) (defScope s29) [] [] f fd ∧ mg "lets_lot" = some (.ref f)
  d31 : ∃ f fd, FunD K "is_bit" "is_bit" (defArgs s31) (defBody s31) (defScope s31) [] [] f fd ∧ mg "is_bit" = some (.ref f)
  d32 : ∃ f fd, FunD K "is_name" "is_name" (defArgs s32) (defBody s32) (defScope s32) [] [] f fd ∧ mg "is_name" = some (.ref f)
  d33 : ∃ f fd, FunD K "is_gate_name" "is_gate_name" (defArgs s33) (defBody s33) (defScope s33) [] [] f fd ∧ mg "is_gate_name" = some (.ref f)
  d34 : ∃ f fd, FunD K "is_lot" "is_lot" (defArgs s34) (defBody s34) (defScope s34) [] [] f fd ∧ mg "is_lot" = some (.ref f)
  d35 : ∃ f fd, FunD K "is_term" "is_term" (defArgs s35) (defBody s35) (defScope s35) [] [] f fd ∧ mg "is_term" = some (.ref f)
  d36 : ∃ f fd, FunD K "is_equation" "is_equation" (defArgs s36) (defBody s36) (defScope s36) [] [] f fd ∧ mg "is_equation" = some (.ref f)
  d37 : ∃ f fd, FunD K "is_facts" "is_facts" (defArgs s37) (defBody s37) (defScope s37) [] [] f fd ∧ mg "is_facts" = some (.ref f)
  d38 : ∃ f fd, FunD K "is_claim" "is_claim" (defArgs s38) (defBody s38) (defScope s38) [] [] f fd ∧ mg "is_claim" = some (.ref f)
  d39 : ∃ f fd, FunD K "is_puts" "is_puts" (defArgs s39) (defBody s39) (defScope s39) [] [] f fd ∧ mg "is_puts" = some (.ref f)
  d41 : ∃ f fd, FunD K "lot_of" "lot_of" (defArgs s41) (defBody s41) (defScope s41) [] [] f fd ∧ mg "lot_of" = some (.ref f)
  d42 : ∃ f fd, FunD K "gates_of" "gates_of" (defArgs s42) (defBody s42) (defScope s42) [] [] f fd ∧ mg "gates_of" = some (.ref f)
  d43 : ∃ f fd, FunD K "inputs_of" "inputs_of" (defArgs s43) (defBody s43) (defScope s43) [] [] f fd ∧ mg "inputs_of" = some (.ref f)
  d44 : ∃ f fd, FunD K "rows_of" "rows_of" (defArgs s44) (defBody s44) (defScope s44) [] [] f fd ∧ mg "rows_of" = some (.ref f)
  d45 : ∃ f fd, FunD K "answer_of" "answer_of" (defArgs s45) (defBody s45) (defScope s45) [] [] f fd ∧ mg "answer_of" = some (.ref f)
  d47 : ∃ f fd, FunD K "_law_draws" "_law_draws" (defArgs s47) (defBody s47) (defScope s47) [] [] f fd ∧ mg "_law_draws" = some (.ref f)
  d48 : ∃ f fd, FunD K "_law_take" "_law_take" (defArgs s48) (defBody s48) (defScope s48) [] [] f fd ∧ mg "_law_take" = some (.ref f)
  d49 : ∃ f fd, FunD K "_law_bits" "_law_bits" (defArgs s49) (defBody s49) (defScope s49) [] [] f fd ∧ mg "_law_bits" = some (.ref f)
  d50 : ∃ f fd, FunD K "_law_gate_word" "_law_gate_word" (defArgs s50) (defBody s50) (defScope s50) [] [] f fd ∧ mg "_law_gate_word" = some (.ref f)
  d51 : ∃ f fd, FunD K "_law_gates" "_law_gates" (defArgs s51) (defBody s51) (defScope s51) [] [] f fd ∧ mg "_law_gates" = some (.ref f)
  d52 : ∃ f fd, FunD K "_law_inputs" "_law_inputs" (defArgs s52) (defBody s52) (defScope s52) [] [] f fd ∧ mg "_law_inputs" = some (.ref f)
  d53 : ∃ f fd, FunD K "_law_name" "_law_name" (defArgs s53) (defBody s53) (defScope s53) [] [] f fd ∧ mg "_law_name" = some (.ref f)
  d54 : ∃ f fd, FunD K "_law_term" "_law_term" (defArgs s54) (defBody s54) (defScope s54) [] [] f fd ∧ mg "_law_term" = some (.ref f)
  d55 : ∃ f fd, FunD K "_law_is_bit" "_law_is_bit" (defArgs s55) (defBody s55) (defScope s55) [] [] f fd ∧ mg "_law_is_bit" = some (.ref f)
  d56 : ∃ f fd, FunD K "_law_is_name" "_law_is_name" (defArgs s56) (defBody s56) (defScope s56) [] [] f fd ∧ mg "_law_is_name" = some (.ref f)
  d57 : ∃ f fd, FunD K "_law_is_word" "_law_is_word" (defArgs s57) (defBody s57) (defScope s57) [] [] f fd ∧ mg "_law_is_word" = some (.ref f)
  d58 : ∃ f fd, FunD K "_law_is_rows" "_law_is_rows" (defArgs s58) (defBody s58) (defScope s58) [] [] f fd ∧ mg "_law_is_rows" = some (.ref f)
  d59 : ∃ f fd, FunD K "_law_gate_fault" "_law_gate_fault" (defArgs s59) (defBody s59) (defScope s59) [] [] f fd ∧ mg "_law_gate_fault" = some (.ref f)
  d60 : ∃ f fd, FunD K "_law_lot_due" "_law_lot_due" (defArgs s60) (defBody s60) (defScope s60) [] [] f fd ∧ mg "_law_lot_due" = some (.ref f)
  d61 : ∃ f fd, FunD K "_law_is_term" "_law_is_term" (defArgs s61) (defBody s61) (defScope s61) [] [] f fd ∧ mg "_law_is_term" = some (.ref f)
  d62 : ∃ f fd, FunD K "_law_is_equation" "_law_is_equation" (defArgs s62) (defBody s62) (defScope s62) [] [] f fd ∧ mg "_law_is_equation" = some (.ref f)
  d63 : ∃ f fd, FunD K "_law_is_facts" "_law_is_facts" (defArgs s63) (defBody s63) (defScope s63) [] [] f fd ∧ mg "_law_is_facts" = some (.ref f)
  d64 : ∃ f fd, FunD K "_law_is_claim" "_law_is_claim" (defArgs s64) (defBody s64) (defScope s64) [] [] f fd ∧ mg "_law_is_claim" = some (.ref f)
  d65 : ∃ f fd, FunD K "_law_is_puts" "_law_is_puts" (defArgs s65) (defBody s65) (defScope s65) [] [] f fd ∧ mg "_law_is_puts" = some (.ref f)
  d66 : ∃ f fd, FunD K "_law_odd" "_law_odd" (defArgs s66) (defBody s66) (defScope s66) [] [] f fd ∧ mg "_law_odd" = some (.ref f)
  d67 : ∃ f fd, FunD K "_law_bent" "_law_bent" (defArgs s67) (defBody s67) (defScope s67) [] [] f fd ∧ mg "_law_bent" = some (.ref f)
  d68 : ∃ f fd, FunD K "_law_told" "_law_told" (defArgs s68) (defBody s68) (defScope s68) [] [] f fd ∧ mg "_law_told" = some (.ref f)
  d69 : ∃ f fd, FunD K "_law_single_kinds" "_law_single_kinds" (defArgs s69) (defBody s69) (defScope s69) [] [] f fd ∧ mg "_law_single_kinds" = some (.ref f)
  d70 : ∃ f fd, FunD K "_law_singles" "_law_singles" (defArgs s70) (defBody s70) (defScope s70) [] [] f fd ∧ mg "_law_singles" = some (.ref f)
  d71 : ∃ f fd, FunD K "_law_term_kinds" "_law_term_kinds" (defArgs s71) (defBody s71) (defScope s71) [] [] f fd ∧ mg "_law_term_kinds" = some (.ref f)
  d72 : ∃ f fd, FunD K "_law_terms" "_law_terms" (defArgs s72) (defBody s72) (defScope s72) [] [] f fd ∧ mg "_law_terms" = some (.ref f)
  d73 : ∃ f fd, FunD K "_law_deep" "_law_deep" (defArgs s73) (defBody s73) (defScope s73) [] [] f fd ∧ mg "_law_deep" = some (.ref f)
  d74 : ∃ f fd, FunD K "_law_lets" "_law_lets" (defArgs s74) (defBody s74) (defScope s74) [] [] f fd ∧ mg "_law_lets" = some (.ref f)
  d75 : ∃ f fd, FunD K "_law_same" "_law_same" (defArgs s75) (defBody s75) (defScope s75) [] [] f fd ∧ mg "_law_same" = some (.ref f)
  tb76 : LamX.TabB base mg (He.cT K ("_law_checked", none)).1 (He.cT K ("_law_checked", none)).2
  d76 : ∃ fd, FunD K "_law_checked" "_law_checked" (defArgs s76) (defBody s76) (defScope s76) [] [] (He.fAd K ("_law_checked", none)) fd ∧ mg "_law_checked" = some (.ref (He.fAd K ("_law_checked", none)))
  d77 : ∃ f fd, FunD K "_law_made" "_law_made" (defArgs s77) (defBody s77) (defScope s77) [] [] f fd ∧ mg "_law_made" = some (.ref f)
  tb78 : LamX.TabB base mg (He.cT K ("_law_made_due", none)).1 (He.cT K ("_law_made_due", none)).2
  d78 : ∃ fd, FunD K "_law_made_due" "_law_made_due" (defArgs s78) (defBody s78) (defScope s78) [] [] (He.fAd K ("_law_made_due", none)) fd ∧ mg "_law_made_due" = some (.ref (He.fAd K ("_law_made_due", none)))
  d79 : ∃ f fd, FunD K "_law_made_so" "_law_made_so" (defArgs s79) (defBody s79) (defScope s79) [] [] f fd ∧ mg "_law_made_so" = some (.ref f)
  d80 : ∃ f fd, FunD K "_law_asked" "_law_asked" (defArgs s80) (defBody s80) (defScope s80) [] [] f fd ∧ mg "_law_asked" = some (.ref f)
  d81 : ∃ f fd, FunD K "_law_number" "_law_number" (defArgs s81) (defBody s81) (defScope s81) [] [] f fd ∧ mg "_law_number" = some (.ref f)
  d82 : ∃ f fd, FunD K "_law_gate_asked" "_law_gate_asked" (defArgs s82) (defBody s82) (defScope s82) [] [] f fd ∧ mg "_law_gate_asked" = some (.ref f)
  tb83 : LamX.TabB base mg (He.cT K ("_law_lots", none)).1 (He.cT K ("_law_lots", none)).2
  d83 : ∃ fd, FunD K "_law_lots" "_law_lots" (defArgs s83) (defBody s83) (defScope s83) [] [] (He.fAd K ("_law_lots", none)) fd ∧ mg "_law_lots" = some (.ref (He.fAd K ("_law_lots", none)))
  d84 : ∃ f fd, FunD K "law" "law" (defArgs s84) (defBody s84) (defScope s84) [] [] f fd ∧ mg "law" = some (.ref f)
section
variable {P : Program} {w : World} {K : PySem.W.Frag} {mg : Str → Option Value} {base : Heap}
/-! bit_form -/
theorem b11 (g : G0 P w K mg base) {f : Addr} {cd : Value} {A : Around} {outer : List Env} {s : Shared} {H : Hp} {E : XK} (hr : Room 3 (A.deeper (envOfC "bit_form" (defScope s11) s.heap.objs.size f cd))) :
    PSsv (XC P w K mg base N11 "bit_form" (defScope s11) f cd A outer s H E) (defBody s11) t11 :=
  (pssv_one (psv_ret (pev_and (pev_callB call_isiA sim_isi rfl g.fr_isinstance rfl (pav_cons (pev_var 0) (pav_cons (pev_ty rfl g.fr_int rfl) pav_nil))) (pev_and (pev_not (pev_callB call_isiA sim_isi rfl g.fr_isinstance rfl (pav_cons (pev_var 0) (pav_cons (pev_ty rfl g.fr_bool rfl) pav_nil)))) (pev_one (pev_chain or_le sim_le or_le sim_le pev_int (pev_var 0) pev_int))))))
theorem v11 (g : G0 P w K mg base) : FnV P w K mg base s11 "bit_form" [] ["thing"] 4 F11 := by
  obtain ⟨f, fd, hF, hm⟩ := g.d11
  exact fnv_def (k := 3) hF hm sc11 finOk (fun cd A outer s H E hr => b11 g hr)
/-! bits_form -/
theorem b12 (g : G0 P w K mg base) {f : Addr} {cd : Value} {A : Around} {outer : List Env} {s : Shared} {H : Hp} {E : XK} (hr : Room 4 (A.deeper (envOfC "bits_form" (defScope s12) s.heap.objs.size f cd))) :
    PSsv (XC P w K mg base N12 "bits_form" (defScope s12) f cd A outer s H E) (defBody s12) t12 :=
  (pssv_one (psv_ret (pev_and (pev_callB call_isiA sim_isi rfl g.fr_isinstance rfl (pav_cons (pev_var 0) (pav_cons (pev_ty rfl g.fr_tuple rfl) pav_nil))) (pev_and (pev_cmp (or_eq hr) (sim_eqS.orB sim_eqD) (pev_callB call_lenA sim_len rfl g.fr_len rfl (pav_cons (pev_var 0) pav_nil)) (pev_var 1)) (pev_one (pev_callB (cr_all rfl) sim_all rfl g.fr_all rfl (pav_cons (pev_lc (own := [("one", 2)]) rfl sc12.nd (piv_any (pev_var 0)) (blkOk_by (by kernel_rfl)) (by decide) (fun _ _ _ _ _ => (pgc_name sc12.nd)) (fun _ _ _ _ _ => ptsv_nil) (fun _ _ _ _ _ => (pev_call (v11 g) bp11 (hr.mono (by omega)) rfl rfl (pav_cons (pev_var 2) pav_nil) (al_cons al_nil)))) pav_nil)))))))
theorem v12 (g : G0 P w K mg base) : FnV P w K mg base s12 "bits_form" [] ["thing", "many"] 5 F12 := by
  obtain ⟨f, fd, hF, hm⟩ := g.d12
  exact fnv_def (k := 4) hF hm sc12 finOk (fun cd A outer s H E hr => b12 g hr)
/-! name_form -/
theorem b13 (g : G0 P w K mg base) {f : Addr} {cd : Value} {A : Around} {outer : List Env} {s : Shared} {H : Hp} {E : XK} (hr : Room 3 (A.deeper (envOfC "name_form" (defScope s13) s.heap.objs.size f cd))) :
    PSsv (XC P w K mg base N13 "name_form" (defScope s13) f cd A outer s H E) (defBody s13) t13 :=
  (pssv_cons (psv_if (PWv.pt (pwv_or (ptv_not (ptv_truth (pev_callB call_isiA sim_isi rfl g.fr_isinstance rfl (pav_cons (pev_var 0) (pav_cons (pev_ty rfl g.fr_str rfl) pav_nil))))) (pwv_or1 (ptv_not (ptv_chain or_le sim_le or_le sim_le pev_int (pev_callB call_lenA sim_len rfl g.fr_len rfl (pav_cons (pev_var 0) pav_nil)) pev_int))))) (pssv_one (psv_ret pev_bl)) pssv_nil)
    (pssv_one (psv_ret (pev_and (pev_cmp (or_in hr) sim_in (pev_ix hr (pev_var 0) pev_int) (pev_gS g.c_LETTERS rfl)) (pev_one (pev_callB (cr_all rfl) sim_all rfl g.fr_all rfl (pav_cons (pev_lc (own := [("one", 1)]) rfl sc13.nd (piv_any (pev_slice (pev_var 0) (pov_some pev_int) pov_none)) (blkOk_by (by kernel_rfl)) (by decide) (fun _ _ _ _ _ => (pgc_name sc13.nd)) (fun _ _ _ _ _ => ptsv_nil) (fun _ _ _ _ _ => (pev_cmp (or_in hr) sim_in (pev_var 1) (pev_gS g.c_FIGURES rfl)))) pav_nil)))))))
theorem v13 (g : G0 P w K mg base) : FnV P w K mg base s13 "name_form" [] ["thing"] 4 F13 := by
  obtain ⟨f, fd, hF, hm⟩ := g.d13
  exact fnv_def (k := 3) hF hm sc13 finOk (fun cd A outer s H E hr => b13 g hr)
/-! gate_name_form -/
theorem b14 (g : G0 P w K mg base) {f : Addr} {cd : Value} {A : Around} {outer : List Env} {s : Shared} {H : Hp} {E : XK} (hr : Room 3 (A.deeper (envOfC "gate_name_form" (defScope s14) s.heap.objs.size f cd))) :
    PSsv (XC P w K mg base N14 "gate_name_form" (defScope s14) f cd A outer s H E) (defBody s14) t14 :=
  (pssv_one (psv_ret (pev_and (pev_callB call_isiA sim_isi rfl g.fr_isinstance rfl (pav_cons (pev_var 0) (pav_cons (pev_ty rfl g.fr_str rfl) pav_nil))) (pev_and (pev_chain or_le sim_le or_le sim_le pev_int (pev_callB call_lenA sim_len rfl g.fr_len rfl (pav_cons (pev_var 0) pav_nil)) pev_int) (pev_one (pev_callB (cr_all rfl) sim_all rfl g.fr_all rfl (pav_cons (pev_lc (own := [("one", 1)]) rfl sc14.nd (piv_any (pev_var 0)) (blkOk_by (by kernel_rfl)) (by decide) (fun _ _ _ _ _ => (pgc_name sc14.nd)) (fun _ _ _ _ _ => ptsv_nil) (fun _ _ _ _ _ => (pev_cmp (or_in hr) sim_in (pev_var 1) (pev_gS g.c_LETTERS rfl)))) pav_nil)))))))
theorem v14 (g : G0 P w K mg base) : FnV P w K mg base s14 "gate_name_form" [] ["thing"] 4 F14 := by
  obtain ⟨f, fd, hF, hm⟩ := g.d14
  exact fnv_def (k := 3) hF hm sc14 finOk (fun cd A outer s H E hr => b14 g hr)
/-! rows_form -/
theorem b15 (g : G0 P w K mg base) {f : Addr} {cd : Value} {A : Around} {outer : List Env} {s : Shared} {H : Hp} {E : XK} (hr : Room 4 (A.deeper (envOfC "rows_form" (defScope s15) s.heap.objs.size f cd))) :
    PSsv (XC P w K mg base N15 "rows_form" (defScope s15) f cd A outer s H E) (defBody s15) t15 :=
  (pssv_one (psv_ret (pev_and (pev_callB call_isiA sim_isi rfl g.fr_isinstance rfl (pav_cons (pev_var 0) (pav_cons (pev_ty rfl g.fr_tuple rfl) pav_nil))) (pev_and (pev_cmp (or_in hr) sim_in (pev_callB call_lenA sim_len rfl g.fr_len rfl (pav_cons (pev_var 0) pav_nil)) (pev_gT g.c_ROW_COUNTS rfl)) (pev_one (pev_callB (cr_all rfl) sim_all rfl g.fr_all rfl (pav_cons (pev_lc (own := [("one", 1)]) rfl sc15.nd (piv_any (pev_var 0)) (blkOk_by (by kernel_rfl)) (by decide) (fun _ _ _ _ _ => (pgc_name sc15.nd)) (fun _ _ _ _ _ => ptsv_nil) (fun _ _ _ _ _ => (pev_call (v11 g) bp11 (hr.mono (by omega)) rfl rfl (pav_cons (pev_var 1) pav_nil) (al_cons al_nil)))) pav_nil)))))))
theorem v15 (g : G0 P w K mg base) : FnV P w K mg base s15 "rows_form" [] ["thing"] 5 F15 := by
  obtain ⟨f, fd, hF, hm⟩ := g.d15
  exact fnv_def (k := 4) hF hm sc15 finOk (fun cd A outer s H E hr => b15 g hr)
/-! gate_fault -/
theorem b16 (g : G0 P w K mg base) {f : Addr} {cd : Value} {A : Around} {outer : List Env} {s : Shared} {H : Hp} {E : XK} (hr : Room 5 (A.deeper (envOfC "gate_fault" (defScope s16) s.heap.objs.size f cd))) :
    PSsv (XC P w K mg base N16 "gate_fault" (defScope s16) f cd A outer s H E) (defBody s16) t16 :=
  (pssv_cons (psv_if (PWv.pt (pwv_or (ptv_not (ptv_truth (pev_callB call_isiA sim_isi rfl g.fr_isinstance rfl (pav_cons (pev_var 0) (pav_cons (pev_ty rfl g.fr_tuple rfl) pav_nil))))) (pwv_or1 (ptv_cmp (or_ne hr) (sim_neS.orB sim_neD) (pev_callB call_lenA sim_len rfl g.fr_len rfl (pav_cons (pev_var 0) pav_nil)) pev_int)))) (pssv_one (psv_ret pev_str)) pssv_nil)
    (pssv_cons (psv_if (ptv_not (ptv_truth (pev_call (v14 g) bp14 (hr.mono (by omega)) rfl rfl (pav_cons (pev_ix hr (pev_var 0) pev_int) pav_nil) (al_cons al_nil)))) (pssv_one (psv_ret pev_str)) pssv_nil)
    (pssv_cons (psv_if (ptv_cmp or_le sim_le (pev_ix hr (pev_var 0) pev_int) (pev_var 1)) (pssv_one (psv_ret pev_str)) pssv_nil)
    (pssv_cons (psv_if (ptv_not (ptv_truth (pev_call (v15 g) bp15 (hr.mono (by omega)) rfl rfl (pav_cons (pev_ix hr (pev_var 0) pev_int) pav_nil) (al_cons al_nil)))) (pssv_one (psv_ret pev_str)) pssv_nil)
    (pssv_one (psv_ret pev_non))))))
theorem v16 (g : G0 P w K mg base) : FnV P w K mg base s16 "gate_fault" [] ["thing", "above"] 6 F16 := by
  obtain ⟨f, fd, hF, hm⟩ := g.d16
  exact fnv_def (k := 5) hF hm sc16 finOk (fun cd A outer s H E hr => b16 g hr)
/-! lot_fault -/
theorem b17 (g : G0 P w K mg base) {f : Addr} {cd : Value} {A : Around} {outer : List Env} {s : Shared} {H : Hp} {E : XK} (hr : Room 6 (A.deeper (envOfC "lot_fault" (defScope s17) s.heap.objs.size f cd))) :
    PSsv (XC P w K mg base N17 "lot_fault" (defScope s17) f cd A outer s H E) (defBody s17) t17 :=
  (pssv_cons (psv_if (ptv_not (ptv_truth (pev_callB call_isiA sim_isi rfl g.fr_isinstance rfl (pav_cons (pev_var 0) (pav_cons (pev_ty rfl g.fr_tuple rfl) pav_nil))))) (pssv_one (psv_ret (pev_tup (pav_cons pev_str (pav_cons (pev_neg pev_int) pav_nil))))) pssv_nil)
    (pssv_cons (psv_set sc17.nd pev_str)
    (pssv_cons (psv_for (passes_of rfl) rfl (piv_enum rfl g.fr_enumerate (pev_var 0)) (pgv_tup rfl (pgsv_cons (pgv_name sc17.nd) (pgsv_cons (pgv_name sc17.nd) pgsv_nil))) (pssv_cons (psv_set sc17.nd (pev_call (v16 g) bp16 (hr.mono (by omega)) rfl rfl (pav_cons (pev_var 3) (pav_cons (pev_var 1) pav_nil)) (al_cons (al_cons al_nil))))
    (pssv_cons (psv_if (ptv_cmp or_isnot sim_isnot (pev_var 4) pev_non) (pssv_one (psv_ret (pev_tup (pav_cons (pev_var 4) (pav_cons (pev_var 2) pav_nil))))) pssv_nil)
    (pssv_one (psv_set sc17.nd (pev_ix hr (pev_var 3) pev_int))))))
    (pssv_one (psv_ret pev_non)))))
theorem v17 (g : G0 P w K mg base) : FnV P w K mg base s17 "lot_fault" [] ["thing"] 7 F17 := by
  obtain ⟨f, fd, hF, hm⟩ := g.d17
  exact fnv_def (k := 6) hF hm sc17 finOk (fun cd A outer s H E hr => b17 g hr)
/-! inputs_for -/
theorem b18 (g : G0 P w K mg base) {f : Addr} {cd : Value} {A : Around} {outer : List Env} {s : Shared} {H : Hp} {E : XK} (hr : Room 3 (A.deeper (envOfC "inputs_for" (defScope s18) s.heap.objs.size f cd))) :
    PSsv (XC P w K mg base N18 "inputs_for" (defScope s18) f cd A outer s H E) (defBody s18) t18 :=
  (pssv_cons (psv_set sc18.nd pev_int)
    (pssv_cons (psv_while 64 (passes_of rfl) (ptv_cmp or_lt sim_lt (pev_shl pev_int (pev_var 1)) (pev_callB call_lenA sim_len rfl g.fr_len rfl (pav_cons (pev_var 0) pav_nil))) (pssv_one (psv_augadd sc18.nd pev_int)))
    (pssv_one (psv_ret (pev_var 1)))))
theorem v18 (g : G0 P w K mg base) : FnV P w K mg base s18 "inputs_for" [] ["rows"] 4 F18 := by
  obtain ⟨f, fd, hF, hm⟩ := g.d18
  exact fnv_def (k := 3) hF hm sc18 finOk (fun cd A outer s H E hr => b18 g hr)
/-! gate_sizes -/
theorem b19 (g : G0 P w K mg base) {f : Addr} {cd : Value} {A : Around} {outer : List Env} {s : Shared} {H : Hp} {E : XK} (hr : Room 4 (A.deeper (envOfC "gate_sizes" (defScope s19) s.heap.objs.size f cd))) :
    PSsv (XC P w K mg base N19 "gate_sizes" (defScope s19) f cd A outer s H E) (defBody s19) t19 :=
  (pssv_one (psv_ret (pev_dc (own := [("gate", 1), ("rows", 2)]) rfl sc19.nd (piv_any (pev_var 0)) (blkOk_by (by kernel_rfl)) (by decide) (fun _ _ _ _ _ => (pgc_tup rfl (pgsc_cons (pgc_name sc19.nd) (pgsc_cons (pgc_name sc19.nd) pgsc_nil)))) (fun _ _ _ _ _ => ptsv_nil) (fun _ _ _ _ _ => (pev_var 1)) (fun _ _ _ _ _ => (pev_call (v18 g) bp18 (hr.mono (by omega)) rfl rfl (pav_cons (pev_var 2) pav_nil) (al_cons al_nil))))))
theorem v19 (g : G0 P w K mg base) : FnV P w K mg base s19 "gate_sizes" [] ["lot"] 5 F19 := by
  obtain ⟨f, fd, hF, hm⟩ := g.d19
  exact fnv_def (k := 4) hF hm sc19 finOk (fun cd A outer s H E hr => b19 g hr)
/-! gate_tables -/
theorem b20 (g : G0 P w K mg base) {f : Addr} {cd : Value} {A : Around} {outer : List Env} {s : Shared} {H : Hp} {E : XK} (hr : Room 3 (A.deeper (envOfC "gate_tables" (defScope s20) s.heap.objs.size f cd))) :
    PSsv (XC P w K mg base N20 "gate_tables" (defScope s20) f cd A outer s H E) (defBody s20) t20 :=
  (pssv_one (psv_ret (pev_dc (own := [("gate", 1), ("rows", 2)]) rfl sc20.nd (piv_any (pev_var 0)) (blkOk_by (by kernel_rfl)) (by decide) (fun _ _ _ _ _ => (pgc_tup rfl (pgsc_cons (pgc_name sc20.nd) (pgsc_cons (pgc_name sc20.nd) pgsc_nil)))) (fun _ _ _ _ _ => ptsv_nil) (fun _ _ _ _ _ => (pev_var 1)) (fun _ _ _ _ _ => (pev_var 2)))))
theorem v20 (g : G0 P w K mg base) : FnV P w K mg base s20 "gate_tables" [] ["lot"] 4 F20 := by
  obtain ⟨f, fd, hF, hm⟩ := g.d20
  exact fnv_def (k := 3) hF hm sc20 finOk (fun cd A outer s H E hr => b20 g hr)
/-! term_form -/
theorem b21 (g : G0 P w K mg base) {n : Nat} {Fr : DFn} (ih : FnV P w K mg base s21 "term_form" [.int 0] ["sizes", "thing", "depth"] (4 + n) Fr) {f : Addr} {cd : Value} {A : Around} {outer : List Env} {s : Shared} {H : Hp} {E : XK} (hr : Room (4 + n) (A.deeper (envOfC "term_form" (defScope s21) s.heap.objs.size f cd))) :
    PSsv (XC P w K mg base N21 "term_form" (defScope s21) f cd A outer s H E) (defBody s21) (t21 Fr) :=
  (pssv_cons (psv_if (ptv_truth (pev_callB call_isiA sim_isi rfl g.fr_isinstance rfl (pav_cons (pev_var 1) (pav_cons (pev_ty rfl g.fr_str rfl) pav_nil)))) (pssv_one (psv_ret (pev_call (v13 g) bp13 (hr.mono (by omega)) rfl rfl (pav_cons (pev_var 1) pav_nil) (al_cons al_nil)))) pssv_nil)
    (pssv_cons (psv_if (PWv.pt (pwv_or (ptv_not (ptv_truth (pev_callB call_isiA sim_isi rfl g.fr_isinstance rfl (pav_cons (pev_var 1) (pav_cons (pev_ty rfl g.fr_tuple rfl) pav_nil))))) (pwv_or (ptv_not (ptv_truth (pev_var 1))) (pwv_or1 (ptv_not (ptv_truth (pev_callB call_isiA sim_isi rfl g.fr_isinstance rfl (pav_cons (pev_ix hr (pev_var 1) pev_int) (pav_cons (pev_ty rfl g.fr_str rfl) pav_nil))))))))) (pssv_one (psv_ret pev_bl)) pssv_nil)
    (pssv_cons (psv_if (PWv.pt (pwv_or (ptv_cmp (or_notin hr) sim_in (pev_ix hr (pev_var 1) pev_int) (pev_var 0)) (pwv_or1 (ptv_cmp (or_ne hr) (sim_neS.orB sim_neD) (pev_callB call_lenA sim_len rfl g.fr_len rfl (pav_cons (pev_var 1) pav_nil)) (pev_add (pev_ix hr (pev_var 0) (pev_ix hr (pev_var 1) pev_int)) pev_int))))) (pssv_one (psv_ret pev_bl)) pssv_nil)
    (pssv_cons (psv_if (ptv_cmp (or_eq hr) (sim_eqS.orB sim_eqD) (pev_callB call_lenA sim_len rfl g.fr_len rfl (pav_cons (pev_var 1) pav_nil)) pev_int) (pssv_one (psv_ret pev_bl)) pssv_nil)
    (pssv_cons (psv_if (ptv_cmp (or_eq hr) (sim_eqS.orB sim_eqD) (pev_var 2) (pev_gI g.c_DEEPEST rfl)) (pssv_one (psv_ret pev_bl)) pssv_nil)
    (pssv_cons (psv_for (passes_of rfl) rfl (piv_any (pev_slice (pev_var 1) (pov_some pev_int) pov_none)) (pgv_name sc21.nd) (pssv_one (psv_if (ptv_not (ptv_truth (pev_callD (dd := []) 3 1 ih bd21_3 (by simp) hr rfl rfl (fun _ _ => .nil) rfl (pav_cons (pev_var 0) (pav_cons (pev_var 3) (pav_cons (pev_add (pev_var 2) pev_int) pav_nil))) (al_cons (al_cons (al_cons al_nil)))))) (pssv_one (psv_ret pev_bl)) pssv_nil)))
    (pssv_one (psv_ret pev_bl))))))))
theorem v21 (g : G0 P w K mg base) : ∀ n : Nat, FnV P w K mg base s21 "term_form" [.int 0] ["sizes", "thing", "depth"] (4 + n) (F21 n)
  | 0 => by
    obtain ⟨f, fd, hF, hm⟩ := g.d21
    exact fnv_stuck hF hm
  | n + 1 => by
    obtain ⟨f, fd, hF, hm⟩ := g.d21
    exact fnv_def (k := 4 + n) hF hm sc21 finOk (fun cd A outer s H E hr => b21 g (v21 g n) hr)
/-! equation_form -/
theorem b22 (g : G0 P w K mg base) {f : Addr} {cd : Value} {A : Around} {outer : List Env} {s : Shared} {H : Hp} {E : XK} (hr : Room 107 (A.deeper (envOfC "equation_form" (defScope s22) s.heap.objs.size f cd))) :
    PSsv (XC P w K mg base N22 "equation_form" (defScope s22) f cd A outer s H E) (defBody s22) t22 :=
  (pssv_cons (psv_if (PWv.pt (pwv_or (ptv_not (ptv_truth (pev_callB call_isiA sim_isi rfl g.fr_isinstance rfl (pav_cons (pev_var 1) (pav_cons (pev_ty rfl g.fr_tuple rfl) pav_nil))))) (pwv_or1 (ptv_cmp (or_ne hr) (sim_neS.orB sim_neD) (pev_callB call_lenA sim_len rfl g.fr_len rfl (pav_cons (pev_var 1) pav_nil)) pev_int)))) (pssv_one (psv_ret pev_bl)) pssv_nil)
    (pssv_one (psv_ret (pev_and (pev_callD (dd := [.int 0]) 2 0 (v21 g 103) bd21_2 (by simp) (hr.mono (by omega)) rfl rfl (fun _ _ => (.cons (.int _) .nil)) rfl (pav_cons (pev_var 0) (pav_cons (pev_ix hr (pev_var 1) pev_int) pav_nil)) (al_cons (al_cons al_nil))) (pev_one (pev_callD (dd := [.int 0]) 2 0 (v21 g 103) bd21_2 (by simp) (hr.mono (by omega)) rfl rfl (fun _ _ => (.cons (.int _) .nil)) rfl (pav_cons (pev_var 0) (pav_cons (pev_ix hr (pev_var 1) pev_int) pav_nil)) (al_cons (al_cons al_nil))))))))
theorem v22 (g : G0 P w K mg base) : FnV P w K mg base s22 "equation_form" [] ["sizes", "thing"] 108 F22 := by
  obtain ⟨f, fd, hF, hm⟩ := g.d22
  exact fnv_def (k := 107) hF hm sc22 finOk (fun cd A outer s H E hr => b22 g hr)
/-! facts_form -/
theorem b23 (g : G0 P w K mg base) {f : Addr} {cd : Value} {A : Around} {outer : List Env} {s : Shared} {H : Hp} {E : XK} (hr : Room 108 (A.deeper (envOfC "facts_form" (defScope s23) s.heap.objs.size f cd))) :
    PSsv (XC P w K mg base N23 "facts_form" (defScope s23) f cd A outer s H E) (defBody s23) t23 :=
  (pssv_one (psv_ret (pev_and (pev_callB call_isiA sim_isi rfl g.fr_isinstance rfl (pav_cons (pev_var 1) (pav_cons (pev_ty rfl g.fr_tuple rfl) pav_nil))) (pev_one (pev_callB (cr_all rfl) sim_all rfl g.fr_all rfl (pav_cons (pev_lc (own := [("one", 2)]) rfl sc23.nd (piv_any (pev_var 1)) (blkOk_by (by kernel_rfl)) (by decide) (fun _ _ _ _ _ => (pgc_name sc23.nd)) (fun _ _ _ _ _ => ptsv_nil) (fun _ _ _ _ _ => (pev_call (v22 g) bp22 (hr.mono (by omega)) rfl rfl (pav_cons (pev_var 0) (pav_cons (pev_var 2) pav_nil)) (al_cons (al_cons al_nil))))) pav_nil))))))
theorem v23 (g : G0 P w K mg base) : FnV P w K mg base s23 "facts_form" [] ["sizes", "thing"] 109 F23 := by
  obtain ⟨f, fd, hF, hm⟩ := g.d23
  exact fnv_def (k := 108) hF hm sc23 finOk (fun cd A outer s H E hr => b23 g hr)
/-! claim_form -/
theorem b24 (g : G0 P w K mg base) {f : Addr} {cd : Value} {A : Around} {outer : List Env} {s : Shared} {H : Hp} {E : XK} (hr : Room 109 (A.deeper (envOfC "claim_form" (defScope s24) s.heap.objs.size f cd))) :
    PSsv (XC P w K mg base N24 "claim_form" (defScope s24) f cd A outer s H E) (defBody s24) t24 :=
  (pssv_cons (psv_if (PWv.pt (pwv_or (ptv_not (ptv_truth (pev_callB call_isiA sim_isi rfl g.fr_isinstance rfl (pav_cons (pev_var 1) (pav_cons (pev_ty rfl g.fr_tuple rfl) pav_nil))))) (pwv_or1 (ptv_cmp (or_ne hr) (sim_neS.orB sim_neD) (pev_callB call_lenA sim_len rfl g.fr_len rfl (pav_cons (pev_var 1) pav_nil)) pev_int)))) (pssv_one (psv_ret pev_bl)) pssv_nil)
    (pssv_one (psv_ret (pev_and (pev_call (v23 g) bp23 (hr.mono (by omega)) rfl rfl (pav_cons (pev_var 0) (pav_cons (pev_ix hr (pev_var 1) pev_int) pav_nil)) (al_cons (al_cons al_nil))) (pev_one (pev_call (v22 g) bp22 (hr.mono (by omega)) rfl rfl (pav_cons (pev_var 0) (pav_cons (pev_ix hr (pev_var 1) pev_int) pav_nil)) (al_cons (al_cons al_nil))))))))
theorem v24 (g : G0 P w K mg base) : FnV P w K mg base s24 "claim_form" [] ["sizes", "thing"] 110 F24 := by
  obtain ⟨f, fd, hF, hm⟩ := g.d24
  exact fnv_def (k := 109) hF hm sc24 finOk (fun cd A outer s H E hr => b24 g hr)
/-! puts_form -/
theorem b25 (g : G0 P w K mg base) {f : Addr} {cd : Value} {A : Around} {outer : List Env} {s : Shared} {H : Hp} {E : XK} (hr : Room 107 (A.deeper (envOfC "puts_form" (defScope s25) s.heap.objs.size f cd))) :
    PSsv (XC P w K mg base N25 "puts_form" (defScope s25) f cd A outer s H E) (defBody s25) t25 :=
  (pssv_cons (psv_if (ptv_not (ptv_truth (pev_callB call_isiA sim_isi rfl g.fr_isinstance rfl (pav_cons (pev_var 1) (pav_cons (pev_ty rfl g.fr_tuple rfl) pav_nil))))) (pssv_one (psv_ret pev_bl)) pssv_nil)
    (pssv_cons (psv_set sc25.nd pev_dicC)
    (pssv_cons (psv_for (passes_of rfl) rfl (piv_any (pev_var 1)) (pgv_name sc25.nd) (pssv_cons (psv_if (PWv.pt (pwv_or (ptv_not (ptv_truth (pev_callB call_isiA sim_isi rfl g.fr_isinstance rfl (pav_cons (pev_var 3) (pav_cons (pev_ty rfl g.fr_tuple rfl) pav_nil))))) (pwv_or (ptv_cmp (or_ne hr) (sim_neS.orB sim_neD) (pev_callB call_lenA sim_len rfl g.fr_len rfl (pav_cons (pev_var 3) pav_nil)) pev_int) (pwv_or1 (ptv_not (ptv_truth (pev_call (v13 g) bp13 (hr.mono (by omega)) rfl rfl (pav_cons (pev_ix hr (pev_var 3) pev_int) pav_nil) (al_cons al_nil)))))))) (pssv_one (psv_ret pev_bl)) pssv_nil)
    (pssv_cons (psv_if (PWv.pt (pwv_or (ptv_cmp (or_in hr) sim_in (pev_ix hr (pev_var 3) pev_int) (pev_var 2)) (pwv_or1 (ptv_not (ptv_truth (pev_callD (dd := [.int 0]) 2 0 (v21 g 103) bd21_2 (by simp) (hr.mono (by omega)) rfl rfl (fun _ _ => (.cons (.int _) .nil)) rfl (pav_cons (pev_var 0) (pav_cons (pev_ix hr (pev_var 3) pev_int) pav_nil)) (al_cons (al_cons al_nil)))))))) (pssv_one (psv_ret pev_bl)) pssv_nil)
    (pssv_one (psv_put hr (pev_var 2) (pev_ix hr (pev_var 3) pev_int) pev_bl)))))
    (pssv_one (psv_ret pev_bl)))))
theorem v25 (g : G0 P w K mg base) : FnV P w K mg base s25 "puts_form" [] ["sizes", "thing"] 108 F25 := by
  obtain ⟨f, fd, hF, hm⟩ := g.d25
  exact fnv_def (k := 107) hF hm sc25 finOk (fun cd A outer s H E hr => b25 g hr)
/-! need_gate -/
theorem b26 (g : G0 P w K mg base) {f : Addr} {cd : Value} {A : Around} {outer : List Env} {s : Shared} {H : Hp} {E : XK} (hr : Room 4 (A.deeper (envOfC "need_gate" (defScope s26) s.heap.objs.size f cd))) :
    PSsv (XC P w K mg base N26 "need_gate" (defScope s26) f cd A outer s H E) (defBody s26) t26 :=
  (pssv_one (psv_if (PWv.pt (pwv_or (ptv_not (ptv_truth (pev_callB call_isiA sim_isi rfl g.fr_isinstance rfl (pav_cons (pev_var 1) (pav_cons (pev_ty rfl g.fr_str rfl) pav_nil))))) (pwv_or1 (ptv_cmp (or_notin hr) sim_in (pev_var 1) (pev_call (v20 g) bp20 (hr.mono (by omega)) rfl rfl (pav_cons (pev_var 0) pav_nil) (al_cons al_nil)))))) (pssv_one (psv_raise g.e_NotUsable rfl (hr.mono (by omega : 3 ≤ _)) rfl (by decide) (pav_cons pev_str (pav_cons (pev_neg pev_int) pav_nil)))) pssv_nil))
theorem v26 (g : G0 P w K mg base) : FnV P w K mg base s26 "need_gate" [] ["lot", "gate"] 5 F26 := by
  obtain ⟨f, fd, hF, hm⟩ := g.d26
  exact fnv_def (k := 4) hF hm sc26 finOk (fun cd A outer s H E hr => b26 g hr)
/-! need_bits -/
theorem b27 (g : G0 P w K mg base) {f : Addr} {cd : Value} {A : Around} {outer : List Env} {s : Shared} {H : Hp} {E : XK} (hr : Room 5 (A.deeper (envOfC "need_bits" (defScope s27) s.heap.objs.size f cd))) :
    PSsv (XC P w K mg base N27 "need_bits" (defScope s27) f cd A outer s H E) (defBody s27) t27 :=
  (pssv_one (psv_if (ptv_not (ptv_truth (pev_call (v12 g) bp12 (hr.mono (by omega)) rfl rfl (pav_cons (pev_var 0) (pav_cons (pev_var 1) pav_nil)) (al_cons (al_cons al_nil))))) (pssv_one (psv_raise g.e_NotUsable rfl (hr.mono (by omega : 3 ≤ _)) rfl (by decide) (pav_cons pev_str (pav_cons (pev_neg pev_int) pav_nil)))) pssv_nil))
theorem v27 (g : G0 P w K mg base) : FnV P w K mg base s27 "need_bits" [] ["bits", "many"] 6 F27 := by
  obtain ⟨f, fd, hF, hm⟩ := g.d27
  exact fnv_def (k := 5) hF hm sc27 finOk (fun cd A outer s H E hr => b27 g hr)
/-! lets_lot -/
theorem b29 (g : G0 P w K mg base) {f : Addr} {cd : Value} {A : Around} {outer : List Env} {s : Shared} {H : Hp} {E : XK} (hr : Room 7 (A.deeper (envOfC "lets_lot" (defScope s29) s.heap.objs.size f cd))) :
    PSsv (XC P w K mg base N29 "lets_lot" (defScope s29) f cd A outer s H E) (defBody s29) t29 :=
  (pssv_cons (psv_set sc29.nd (pev_call (v17 g) bp17 (hr.mono (by omega)) rfl rfl (pav_cons (pev_var 0) pav_nil) (al_cons al_nil)))
    (pssv_cons (psv_if (ptv_cmp or_isnot sim_isnot (pev_var 1) pev_non) (pssv_cons (psv_asg (pev_var 1) (pgv_tup rfl (pgsv_cons (pgv_name sc29.nd) (pgsv_cons (pgv_name sc29.nd) pgsv_nil))))
    (pssv_one (psv_raise g.e_InvalidPaper rfl (hr.mono (by omega : 3 ≤ _)) rfl (by decide) (pav_cons (pev_var 2) (pav_cons (pev_var 3) pav_nil))))) pssv_nil)
    (pssv_one (psv_ret (pev_callB call_lenA sim_len rfl g.fr_len rfl (pav_cons (pev_var 0) pav_nil))))))
theorem v29 (g : G0 P w K mg base) : FnV P w K mg base s29 "lets_lot" [] ["thing"] 8 F29 := by
  obtain ⟨f, fd, hF, hm⟩ := g.d29
  exact fnv_def (k := 7) hF hm sc29 finOk (fun cd A outer s H E hr => b29 g hr)
/-! is_bit -/
theorem b31 (g : G0 P w K mg base) {f : Addr} {cd : Value} {A : Around} {outer : List Env} {s : Shared} {H : Hp} {E : XK} (hr : Room 4 (A.deeper (envOfC "is_bit" (defScope s31) s.heap.objs.size f cd))) :
    PSsv (XC P w K mg base N31 "is_bit" (defScope s31) f cd A outer s H E) (defBody s31) t31 :=
  (pssv_one (psv_ret (pev_call (v11 g) bp11 (hr.mono (by omega)) rfl rfl (pav_cons (pev_var 0) pav_nil) (al_cons al_nil))))
theorem v31 (g : G0 P w K mg base) : FnV P w K mg base s31 "is_bit" [] ["thing"] 5 F31 := by
  obtain ⟨f, fd, hF, hm⟩ := g.d31
  exact fnv_def (k := 4) hF hm sc31 finOk (fun cd A outer s H E hr => b31 g hr)
/-! is_name -/
theorem b32 (g : G0 P w K mg base) {f : Addr} {cd : Value} {A : Around} {outer : List Env} {s : Shared} {H : Hp} {E : XK} (hr : Room 4 (A.deeper (envOfC "is_name" (defScope s32) s.heap.objs.size f cd))) :
    PSsv (XC P w K mg base N32 "is_name" (defScope s32) f cd A outer s H E) (defBody s32) t32 :=
  (pssv_one (psv_ret (pev_call (v13 g) bp13 (hr.mono (by omega)) rfl rfl (pav_cons (pev_var 0) pav_nil) (al_cons al_nil))))
theorem v32 (g : G0 P w K mg base) : FnV P w K mg base s32 "is_name" [] ["thing"] 5 F32 := by
  obtain ⟨f, fd, hF, hm⟩ := g.d32
  exact fnv_def (k := 4) hF hm sc32 finOk (fun cd A outer s H E hr => b32 g hr)
/-! is_gate_name -/
theorem b33 (g : G0 P w K mg base) {f : Addr} {cd : Value} {A : Around} {outer : List Env} {s : Shared} {H : Hp} {E : XK} (hr : Room 4 (A.deeper (envOfC "is_gate_name" (defScope s33) s.heap.objs.size f cd))) :
    PSsv (XC P w K mg base N33 "is_gate_name" (defScope s33) f cd A outer s H E) (defBody s33) t33 :=
  (pssv_one (psv_ret (pev_call (v14 g) bp14 (hr.mono (by omega)) rfl rfl (pav_cons (pev_var 0) pav_nil) (al_cons al_nil))))
theorem v33 (g : G0 P w K mg base) : FnV P w K mg base s33 "is_gate_name" [] ["thing"] 5 F33 := by
  obtain ⟨f, fd, hF, hm⟩ := g.d33
  exact fnv_def (k := 4) hF hm sc33 finOk (fun cd A outer s H E hr => b33 g hr)
/-! is_lot -/
theorem b34 (g : G0 P w K mg base) {f : Addr} {cd : Value} {A : Around} {outer : List Env} {s : Shared} {H : Hp} {E : XK} (hr : Room 7 (A.deeper (envOfC "is_lot" (defScope s34) s.heap.objs.size f cd))) :
    PSsv (XC P w K mg base N34 "is_lot" (defScope s34) f cd A outer s H E) (defBody s34) t34 :=
  (pssv_one (psv_ret (pev_cmp or_is sim_is (pev_call (v17 g) bp17 (hr.mono (by omega)) rfl rfl (pav_cons (pev_var 0) pav_nil) (al_cons al_nil)) pev_non)))
theorem v34 (g : G0 P w K mg base) : FnV P w K mg base s34 "is_lot" [] ["thing"] 8 F34 := by
  obtain ⟨f, fd, hF, hm⟩ := g.d34
  exact fnv_def (k := 7) hF hm sc34 finOk (fun cd A outer s H E hr => b34 g hr)
/-! is_term -/
theorem b35 (g : G0 P w K mg base) {f : Addr} {cd : Value} {A : Around} {outer : List Env} {s : Shared} {H : Hp} {E : XK} (hr : Room 107 (A.deeper (envOfC "is_term" (defScope s35) s.heap.objs.size f cd))) :
    PSsv (XC P w K mg base N35 "is_term" (defScope s35) f cd A outer s H E) (defBody s35) t35 :=
  (pssv_one (psv_ret (pev_callD (dd := [.int 0]) 2 0 (v21 g 103) bd21_2 (by simp) (hr.mono (by omega)) rfl rfl (fun _ _ => (.cons (.int _) .nil)) rfl (pav_cons (pev_call (v19 g) bp19 (hr.mono (by omega)) rfl rfl (pav_cons (pev_var 0) pav_nil) (al_cons al_nil)) (pav_cons (pev_var 1) pav_nil)) (al_cons (al_cons al_nil)))))
theorem v35 (g : G0 P w K mg base) : FnV P w K mg base s35 "is_term" [] ["lot", "thing"] 108 F35 := by
  obtain ⟨f, fd, hF, hm⟩ := g.d35
  exact fnv_def (k := 107) hF hm sc35 finOk (fun cd A outer s H E hr => b35 g hr)
/-! is_equation -/
theorem b36 (g : G0 P w K mg base) {f : Addr} {cd : Value} {A : Around} {outer : List Env} {s : Shared} {H : Hp} {E : XK} (hr : Room 108 (A.deeper (envOfC "is_equation" (defScope s36) s.heap.objs.size f cd))) :
    PSsv (XC P w K mg base N36 "is_equation" (defScope s36) f cd A outer s H E) (defBody s36) t36 :=
  (pssv_one (psv_ret (pev_call (v22 g) bp22 (hr.mono (by omega)) rfl rfl (pav_cons (pev_call (v19 g) bp19 (hr.mono (by omega)) rfl rfl (pav_cons (pev_var 0) pav_nil) (al_cons al_nil)) (pav_cons (pev_var 1) pav_nil)) (al_cons (al_cons al_nil)))))
theorem v36 (g : G0 P w K mg base) : FnV P w K mg base s36 "is_equation" [] ["lot", "thing"] 109 F36 := by
  obtain ⟨f, fd, hF, hm⟩ := g.d36
  exact fnv_def (k := 108) hF hm sc36 finOk (fun cd A outer s H E hr => b36 g hr)
/-! is_facts -/
theorem b37 (g : G0 P w K mg base) {f : Addr} {cd : Value} {A : Around} {outer : List Env} {s : Shared} {H : Hp} {E : XK} (hr : Room 109 (A.deeper (envOfC "is_facts" (defScope s37) s.heap.objs.size f cd))) :
    PSsv (XC P w K mg base N37 "is_facts" (defScope s37) f cd A outer s H E) (defBody s37) t37 :=
  (pssv_one (psv_ret (pev_call (v23 g) bp23 (hr.mono (by omega)) rfl rfl (pav_cons (pev_call (v19 g) bp19 (hr.mono (by omega)) rfl rfl (pav_cons (pev_var 0) pav_nil) (al_cons al_nil)) (pav_cons (pev_var 1) pav_nil)) (al_cons (al_cons al_nil)))))
theorem v37 (g : G0 P w K mg base) : FnV P w K mg base s37 "is_facts" [] ["lot", "thing"] 110 F37 := by
  obtain ⟨f, fd, hF, hm⟩ := g.d37
  exact fnv_def (k := 109) hF hm sc37 finOk (fun cd A outer s H E hr => b37 g hr)
/-! is_claim -/
theorem b38 (g : G0 P w K mg base) {f : Addr} {cd : Value} {A : Around} {outer : List Env} {s : Shared} {H : Hp} {E : XK} (hr : Room 110 (A.deeper (envOfC "is_claim" (defScope s38) s.heap.objs.size f cd))) :
    PSsv (XC P w K mg base N38 "is_claim" (defScope s38) f cd A outer s H E) (defBody s38) t38 :=
  (pssv_one (psv_ret (pev_call (v24 g) bp24 (hr.mono (by omega)) rfl rfl (pav_cons (pev_call (v19 g) bp19 (hr.mono (by omega)) rfl rfl (pav_cons (pev_var 0) pav_nil) (al_cons al_nil)) (pav_cons (pev_var 1) pav_nil)) (al_cons (al_cons al_nil)))))
theorem v38 (g : G0 P w K mg base) : FnV P w K mg base s38 "is_claim" [] ["lot", "thing"] 111 F38 := by
  obtain ⟨f, fd, hF, hm⟩ := g.d38
  exact fnv_def (k := 110) hF hm sc38 finOk (fun cd A outer s H E hr => b38 g hr)
/-! is_puts -/
theorem b39 (g : G0 P w K mg base) {f : Addr} {cd : Value} {A : Around} {outer : List Env} {s : Shared} {H : Hp} {E : XK} (hr : Room 108 (A.deeper (envOfC "is_puts" (defScope s39) s.heap.objs.size f cd))) :
    PSsv (XC P w K mg base N39 "is_puts" (defScope s39) f cd A outer s H E) (defBody s39) t39 :=
  (pssv_one (psv_ret (pev_call (v25 g) bp25 (hr.mono (by omega)) rfl rfl (pav_cons (pev_call (v19 g) bp19 (hr.mono (by omega)) rfl rfl (pav_cons (pev_var 0) pav_nil) (al_cons al_nil)) (pav_cons (pev_var 1) pav_nil)) (al_cons (al_cons al_nil)))))
theorem v39 (g : G0 P w K mg base) : FnV P w K mg base s39 "is_puts" [] ["lot", "thing"] 109 F39 := by
  obtain ⟨f, fd, hF, hm⟩ := g.d39
  exact fnv_def (k := 108) hF hm sc39 finOk (fun cd A outer s H E hr => b39 g hr)
/-! lot_of -/
theorem b41 (g : G0 P w K mg base) {f : Addr} {cd : Value} {A : Around} {outer : List Env} {s : Shared} {H : Hp} {E : XK} (hr : Room 6 (A.deeper (envOfC "lot_of" (defScope s41) s.heap.objs.size f cd))) :
    PSsv (XC P w K mg base N41 "lot_of" (defScope s41) f cd A outer s H E) (defBody s41) t41 :=
  (pssv_cons (psv_set sc41.nd pev_dicC)
    (pssv_cons (psv_for (passes_of rfl) rfl (piv_enum rfl g.fr_enumerate (pev_var 0)) (pgv_tup rfl (pgsv_cons (pgv_name sc41.nd) (pgsv_cons (pgv_name sc41.nd) pgsv_nil))) (pssv_cons (psv_if (PWv.pt (pwv_or (ptv_cmp or_isnot sim_isnot (pev_call (v16 g) bp16 (hr.mono (by omega)) rfl rfl (pav_cons (pev_var 3) (pav_cons pev_str pav_nil)) (al_cons (al_cons al_nil))) pev_non) (pwv_or1 (ptv_cmp (or_in hr) sim_in (pev_ix hr (pev_var 3) pev_int) (pev_var 1))))) (pssv_one (psv_raise g.e_NotUsable rfl (hr.mono (by omega : 3 ≤ _)) rfl (by decide) (pav_cons pev_str (pav_cons (pev_var 2) pav_nil)))) pssv_nil)
    (pssv_one (psv_put hr (pev_var 1) (pev_ix hr (pev_var 3) pev_int) (pev_ix hr (pev_var 3) pev_int)))))
    (pssv_one (psv_ret (pev_callTy call_tuple_of sim_tuple rfl g.fr_tuple rfl (pav_cons (pev_lc (own := [("name", 4)]) rfl sc41.nd (piv_any (pev_callB (call_srt hr) sim_srt rfl g.fr_sorted rfl (pav_cons (pev_callTy (call_listB rfl) sim_listB rfl g.fr_list rfl (pav_cons (pev_var 1) pav_nil)) pav_nil))) (blkOk_by (by kernel_rfl)) (by decide) (fun _ _ _ _ _ => (pgc_name sc41.nd)) (fun _ _ _ _ _ => ptsv_nil) (fun _ _ _ _ _ => (pev_tup (pav_cons (pev_var 4) (pav_cons (pev_ix hr (pev_var 1) (pev_var 4)) pav_nil))))) pav_nil))))))
theorem v41 (g : G0 P w K mg base) : FnS P w K mg base "lot_of" 7 F41 := by
  obtain ⟨f, fd, hF, hm⟩ := g.d41
  exact fns_def (k := 6) hF hm sc41 finOk bs41 (fun cd A outer s H E hr => b41 g hr)
/-! gates_of -/
theorem b42 (g : G0 P w K mg base) {f : Addr} {cd : Value} {A : Around} {outer : List Env} {s : Shared} {H : Hp} {E : XK} (hr : Room 3 (A.deeper (envOfC "gates_of" (defScope s42) s.heap.objs.size f cd))) :
    PSsv (XC P w K mg base N42 "gates_of" (defScope s42) f cd A outer s H E) (defBody s42) t42 :=
  (pssv_one (psv_ret (pev_callTy call_tuple_of sim_tuple rfl g.fr_tuple rfl (pav_cons (pev_lc (own := [("name", 1), ("_", 2)]) rfl sc42.nd (piv_any (pev_var 0)) (blkOk_by (by kernel_rfl)) (by decide) (fun _ _ _ _ _ => (pgc_tup rfl (pgsc_cons (pgc_name sc42.nd) (pgsc_cons (pgc_name sc42.nd) pgsc_nil)))) (fun _ _ _ _ _ => ptsv_nil) (fun _ _ _ _ _ => (pev_var 1))) pav_nil))))
theorem v42 (g : G0 P w K mg base) : FnV P w K mg base s42 "gates_of" [] ["lot"] 4 F42 := by
  obtain ⟨f, fd, hF, hm⟩ := g.d42
  exact fnv_def (k := 3) hF hm sc42 finOk (fun cd A outer s H E hr => b42 g hr)
/-! inputs_of -/
theorem b43 (g : G0 P w K mg base) {f : Addr} {cd : Value} {A : Around} {outer : List Env} {s : Shared} {H : Hp} {E : XK} (hr : Room 5 (A.deeper (envOfC "inputs_of" (defScope s43) s.heap.objs.size f cd))) :
    PSsv (XC P w K mg base N43 "inputs_of" (defScope s43) f cd A outer s H E) (defBody s43) t43 :=
  (pssv_cons (psv_expr (pev_call (v26 g) bp26 (hr.mono (by omega)) rfl rfl (pav_cons (pev_var 0) (pav_cons (pev_var 1) pav_nil)) (al_cons (al_cons al_nil))))
    (pssv_one (psv_ret (pev_call (v18 g) bp18 (hr.mono (by omega)) rfl rfl (pav_cons (pev_ix hr (pev_call (v20 g) bp20 (hr.mono (by omega)) rfl rfl (pav_cons (pev_var 0) pav_nil) (al_cons al_nil)) (pev_var 1)) pav_nil) (al_cons al_nil)))))
theorem v43 (g : G0 P w K mg base) : FnV P w K mg base s43 "inputs_of" [] ["lot", "gate"] 6 F43 := by
  obtain ⟨f, fd, hF, hm⟩ := g.d43
  exact fnv_def (k := 5) hF hm sc43 finOk (fun cd A outer s H E hr => b43 g hr)
/-! rows_of -/
theorem b44 (g : G0 P w K mg base) {f : Addr} {cd : Value} {A : Around} {outer : List Env} {s : Shared} {H : Hp} {E : XK} (hr : Room 5 (A.deeper (envOfC "rows_of" (defScope s44) s.heap.objs.size f cd))) :
    PSsv (XC P w K mg base N44 "rows_of" (defScope s44) f cd A outer s H E) (defBody s44) t44 :=
  (pssv_cons (psv_expr (pev_call (v26 g) bp26 (hr.mono (by omega)) rfl rfl (pav_cons (pev_var 0) (pav_cons (pev_var 1) pav_nil)) (al_cons (al_cons al_nil))))
    (pssv_one (psv_ret (pev_ix hr (pev_call (v20 g) bp20 (hr.mono (by omega)) rfl rfl (pav_cons (pev_var 0) pav_nil) (al_cons al_nil)) (pev_var 1)))))
theorem v44 (g : G0 P w K mg base) : FnV P w K mg base s44 "rows_of" [] ["lot", "gate"] 6 F44 := by
  obtain ⟨f, fd, hF, hm⟩ := g.d44
  exact fnv_def (k := 5) hF hm sc44 finOk (fun cd A outer s H E hr => b44 g hr)
/-! answer_of -/
theorem b45 (g : G0 P w K mg base) {f : Addr} {cd : Value} {A : Around} {outer : List Env} {s : Shared} {H : Hp} {E : XK} (hr : Room 6 (A.deeper (envOfC "answer_of" (defScope s45) s.heap.objs.size f cd))) :
    PSsv (XC P w K mg base N45 "answer_of" (defScope s45) f cd A outer s H E) (defBody s45) t45 :=
  (pssv_cons (psv_expr (pev_call (v26 g) bp26 (hr.mono (by omega)) rfl rfl (pav_cons (pev_var 0) (pav_cons (pev_var 1) pav_nil)) (al_cons (al_cons al_nil))))
    (pssv_cons (psv_set sc45.nd (pev_ix hr (pev_call (v20 g) bp20 (hr.mono (by omega)) rfl rfl (pav_cons (pev_var 0) pav_nil) (al_cons al_nil)) (pev_var 1)))
    (pssv_cons (psv_expr (pev_call (v27 g) bp27 (hr.mono (by omega)) rfl rfl (pav_cons (pev_var 2) (pav_cons (pev_call (v18 g) bp18 (hr.mono (by omega)) rfl rfl (pav_cons (pev_var 3) pav_nil) (al_cons al_nil)) pav_nil)) (al_cons (al_cons al_nil))))
    (pssv_cons (psv_set sc45.nd pev_int)
    (pssv_cons (psv_for (passes_of rfl) rfl (piv_any (pev_var 2)) (pgv_name sc45.nd) (pssv_one (psv_set sc45.nd (pev_add (pev_mulX pev_int (pev_var 4)) (pev_var 5)))))
    (pssv_one (psv_ret (pev_ix hr (pev_var 3) (pev_var 4)))))))))
theorem v45 (g : G0 P w K mg base) : FnV P w K mg base s45 "answer_of" [] ["lot", "gate", "bits"] 7 F45 := by
  obtain ⟨f, fd, hF, hm⟩ := g.d45
  exact fnv_def (k := 6) hF hm sc45 finOk (fun cd A outer s H E hr => b45 g hr)
/-! _law_draws -/
theorem b47 (g : G0 P w K mg base) {f : Addr} {cd : Value} {A : Around} {outer : List Env} {s : Shared} {H : Hp} {E : XK} (hr : Room 3 (A.deeper (envOfC "_law_draws" (defScope s47) s.heap.objs.size f cd))) :
    PSsv (XC P w K mg base N47 "_law_draws" (defScope s47) f cd A outer s H E) (defBody s47) t47 :=
  (pssv_cons (psv_set sc47.nd (pev_lstC pav_nil))
    (pssv_cons (psv_set sc47.nd pev_int)
    (pssv_cons (psv_for (passes_of rfl) rfl (piv_any (pev_var 0)) (pgv_name sc47.nd) (pssv_cons (psv_set sc47.nd (pev_callB call_abs sim_abs rfl g.fr_abs rfl (pav_cons (pev_callTy call_int1 sim_int1 rfl g.fr_int rfl (pav_cons (pev_var 3) pav_nil)) pav_nil)))
    (pssv_cons (psv_set sc47.nd (pev_mod (pev_callTy call_int1 sim_int1 rfl g.fr_int rfl (pav_cons (pev_add (pev_add (pev_add (pev_mulX (pev_var 2) pev_int) (pev_mulX (pev_var 4) pev_int)) (pev_callTy call_int1 sim_int1 rfl g.fr_int rfl (pav_cons (pev_cmp or_lt sim_lt (pev_var 3) pev_int) pav_nil))) pev_int) pav_nil)) pev_int))
    (pssv_one (psv_if (ptv_cmp or_ge sim_ge (pev_var 4) (pev_pow pev_int pev_int)) (pssv_one (psv_for (passes_of rfl) rfl (piv_range1 rfl g.fr_range (pav_cons pev_int pav_nil) (al_cons al_nil)) (pgv_name sc47.nd) (pssv_cons (psv_if (ptv_cmp (or_eq hr) (sim_eqS.orB sim_eqD) (pev_var 4) pev_int) (pssv_one psv_break) pssv_nil)
    (pssv_cons (psv_expr (pev_append (pev_var 1) (pev_mod (pev_callTy call_int1 sim_int1 rfl g.fr_int rfl (pav_cons (pev_var 4) pav_nil)) pev_int)))
    (pssv_one (psv_set sc47.nd (pev_fdiv (pev_var 4) pev_int))))))) pssv_nil)))))
    (pssv_cons (psv_for (passes_of rfl) rfl (piv_range1 rfl g.fr_range (pav_cons pev_int pav_nil) (al_cons al_nil)) (pgv_name sc47.nd) (pssv_cons (psv_set sc47.nd (pev_mod (pev_callTy call_int1 sim_int1 rfl g.fr_int rfl (pav_cons (pev_add (pev_mulX (pev_var 2) pev_int) pev_int) pav_nil)) pev_int))
    (pssv_one (psv_expr (pev_append (pev_var 1) (pev_fdiv (pev_var 2) pev_int))))))
    (pssv_one (psv_ret (pev_listRevC rfl rfl g.fr_list rfl g.fr_reversed (pev_var 1))))))))
theorem v47 (g : G0 P w K mg base) : FnV P w K mg base s47 "_law_draws" [] ["_law_script"] 4 F47 := by
  obtain ⟨f, fd, hF, hm⟩ := g.d47
  exact fnv_def (k := 3) hF hm sc47 finOkC (fun cd A outer s H E hr => b47 g hr)
/-! _law_take -/
theorem b48 (g : G0 P w K mg base) {f : Addr} {cd : Value} {A : Around} {outer : List Env} {s : Shared} {H : Hp} {E : XK} (hr : Room 3 (A.deeper (envOfC "_law_take" (defScope s48) s.heap.objs.size f cd))) :
    PSsv (XC P w K mg base N48 "_law_take" (defScope s48) f cd A outer s H E) (defBody s48) t48 :=
  (pssv_cons (psv_if (ptv_cmp (or_eq hr) (sim_eqS.orB sim_eqD) (pev_callB call_lenA sim_len rfl g.fr_len rfl (pav_cons (pev_var 0) pav_nil)) pev_int) (pssv_one (psv_ret pev_int)) pssv_nil)
    (pssv_one (psv_ret (pev_mod (pev_callTy call_int1 sim_int1 rfl g.fr_int rfl (pav_cons (pev_pop (pev_var 0)) pav_nil)) (pev_var 1)))))
theorem v48 (g : G0 P w K mg base) : FnV P w K mg base s48 "_law_take" [] ["_law_row", "_law_many"] 4 F48 := by
  obtain ⟨f, fd, hF, hm⟩ := g.d48
  exact fnv_def (k := 3) hF hm sc48 finOk (fun cd A outer s H E hr => b48 g hr)
/-! _law_bits -/
theorem b49 (g : G0 P w K mg base) {f : Addr} {cd : Value} {A : Around} {outer : List Env} {s : Shared} {H : Hp} {E : XK} (hr : Room 4 (A.deeper (envOfC "_law_bits" (defScope s49) s.heap.objs.size f cd))) :
    PSsv (XC P w K mg base N49 "_law_bits" (defScope s49) f cd A outer s H E) (defBody s49) t49 :=
  (pssv_cons (psv_set sc49.nd (pev_lstC pav_nil))
    (pssv_cons (psv_for (passes_of rfl) rfl (piv_range1 rfl g.fr_range (pav_cons (pev_fdiv (pev_callTy call_int1 sim_int1 rfl g.fr_int rfl (pav_cons (pev_add (pev_var 1) pev_int) pav_nil)) pev_int) pav_nil) (al_cons al_nil)) (pgv_name sc49.nd) (pssv_cons (psv_set sc49.nd (pev_call (v48 g) bp48 (hr.mono (by omega)) rfl rfl (pav_cons (pev_var 0) (pav_cons pev_int pav_nil)) (al_cons (al_cons al_nil))))
    (pssv_one (psv_for (passes_of rfl) rfl (piv_any (pev_tup (pav_cons pev_int (pav_cons pev_int (pav_cons pev_int (pav_cons pev_int (pav_cons pev_int (pav_cons pev_int (pav_cons pev_int (pav_cons pev_int pav_nil)))))))))) (pgv_name sc49.nd) (pssv_one (psv_expr (pev_append (pev_var 2) (pev_sub (pev_fdiv (pev_var 4) (pev_var 5)) (pev_mulX pev_int (pev_fdiv (pev_var 4) (pev_mulX pev_int (pev_var 5))))))))))))
    (pssv_one (psv_ret (pev_callTy call_tuple_of sim_tuple rfl g.fr_tuple rfl (pav_cons (pev_slice (pev_var 2) pov_none (pov_some (pev_var 1))) pav_nil))))))
theorem v49 (g : G0 P w K mg base) : FnV P w K mg base s49 "_law_bits" [] ["_law_row", "_law_many"] 5 F49 := by
  obtain ⟨f, fd, hF, hm⟩ := g.d49
  exact fnv_def (k := 4) hF hm sc49 finOk (fun cd A outer s H E hr => b49 g hr)
/-! _law_gate_word -/
theorem b50 (g : G0 P w K mg base) {f : Addr} {cd : Value} {A : Around} {outer : List Env} {s : Shared} {H : Hp} {E : XK} (hr : Room 4 (A.deeper (envOfC "_law_gate_word" (defScope s50) s.heap.objs.size f cd))) :
    PSsv (XC P w K mg base N50 "_law_gate_word" (defScope s50) f cd A outer s H E) (defBody s50) t50 :=
  (pssv_cons (psv_set sc50.nd (pev_add pev_int (pev_call (v48 g) bp48 (hr.mono (by omega)) rfl rfl (pav_cons (pev_var 0) (pav_cons pev_int pav_nil)) (al_cons (al_cons al_nil)))))
    (pssv_cons (psv_if (ptv_cmp (or_eq hr) (sim_eqS.orB sim_eqD) (pev_call (v48 g) bp48 (hr.mono (by omega)) rfl rfl (pav_cons (pev_var 0) (pav_cons pev_int pav_nil)) (al_cons (al_cons al_nil))) pev_int) (pssv_one (psv_set sc50.nd pev_int)) pssv_nil)
    (pssv_cons (psv_set sc50.nd pev_str)
    (pssv_cons (psv_set sc50.nd (pev_call (v48 g) bp48 (hr.mono (by omega)) rfl rfl (pav_cons (pev_var 0) (pav_cons pev_int pav_nil)) (al_cons (al_cons al_nil))))
    (pssv_cons (psv_set sc50.nd (pev_call (v48 g) bp48 (hr.mono (by omega)) rfl rfl (pav_cons (pev_var 0) (pav_cons pev_int pav_nil)) (al_cons (al_cons al_nil))))
    (pssv_one (psv_ret (pev_join pev_str (pev_lc (own := [("_law_k", 5)]) rfl sc50.nd (piv_range1 rfl g.fr_range (pav_cons (pev_var 1) pav_nil) (al_cons al_nil)) (blkOk_by (by kernel_rfl)) (by decide) (fun _ _ _ _ _ => (pgc_name sc50.nd)) (fun _ _ _ _ _ => ptsv_nil) (fun _ _ _ _ _ => (pev_ix hr (pev_var 2) (pev_mod (pev_callTy call_int1 sim_int1 rfl g.fr_int rfl (pav_cons (pev_add (pev_var 3) (pev_mulX (pev_var 4) (pev_var 5))) pav_nil)) pev_int))))))))))))
theorem v50 (g : G0 P w K mg base) : FnV P w K mg base s50 "_law_gate_word" [] ["_law_row"] 5 F50 := by
  obtain ⟨f, fd, hF, hm⟩ := g.d50
  exact fnv_def (k := 4) hF hm sc50 finOk (fun cd A outer s H E hr => b50 g hr)
/-! _law_gates -/
theorem b51 (g : G0 P w K mg base) {f : Addr} {cd : Value} {A : Around} {outer : List Env} {s : Shared} {H : Hp} {E : XK} (hr : Room 5 (A.deeper (envOfC "_law_gates" (defScope s51) s.heap.objs.size f cd))) :
    PSsv (XC P w K mg base N51 "_law_gates" (defScope s51) f cd A outer s H E) (defBody s51) t51 :=
  (pssv_cons (psv_set sc51.nd (pev_lstC pav_nil))
    (pssv_cons (psv_for (passes_of rfl) rfl (piv_range1 rfl g.fr_range (pav_cons (pev_var 1) pav_nil) (al_cons al_nil)) (pgv_name sc51.nd) (pssv_cons (psv_set sc51.nd (pev_call (v50 g) bp50 (hr.mono (by omega)) rfl rfl (pav_cons (pev_var 0) pav_nil) (al_cons al_nil)))
    (pssv_cons (psv_set sc51.nd (pev_call (v48 g) bp48 (hr.mono (by omega)) rfl rfl (pav_cons (pev_var 0) (pav_cons pev_int pav_nil)) (al_cons (al_cons al_nil))))
    (pssv_cons (psv_if (ptv_cmp (or_eq hr) (sim_eqS.orB sim_eqD) (pev_call (v48 g) bp48 (hr.mono (by omega)) rfl rfl (pav_cons (pev_var 0) (pav_cons pev_int pav_nil)) (al_cons (al_cons al_nil))) pev_int) (pssv_one (psv_set sc51.nd (pev_add pev_int (pev_call (v48 g) bp48 (hr.mono (by omega)) rfl rfl (pav_cons (pev_var 0) (pav_cons pev_int pav_nil)) (al_cons (al_cons al_nil)))))) pssv_nil)
    (pssv_cons (psv_set sc51.nd (pev_call (v49 g) bp49 (hr.mono (by omega)) rfl rfl (pav_cons (pev_var 0) (pav_cons (pev_ix hr (pev_tup (pav_cons pev_int (pav_cons pev_int (pav_cons pev_int (pav_cons pev_int (pav_cons pev_int (pav_cons pev_int pav_nil))))))) (pev_var 5)) pav_nil)) (al_cons (al_cons al_nil))))
    (pssv_one (psv_if (ptv_cmp (or_notin hr) sim_in (pev_var 4) (pev_lc (own := [("_law_gate", 7)]) rfl sc51.nd (piv_any (pev_var 2)) (blkOk_by (by kernel_rfl)) (by decide) (fun _ _ _ _ _ => (pgc_name sc51.nd)) (fun _ _ _ _ _ => ptsv_nil) (fun _ _ _ _ _ => (pev_ix hr (pev_var 7) pev_int)))) (pssv_one (psv_expr (pev_append (pev_var 2) (pev_tup (pav_cons (pev_var 4) (pav_cons (pev_var 6) pav_nil)))))) pssv_nil)))))))
    (pssv_one (psv_ret (pev_var 2)))))
theorem v51 (g : G0 P w K mg base) : FnV P w K mg base s51 "_law_gates" [] ["_law_row", "_law_many"] 6 F51 := by
  obtain ⟨f, fd, hF, hm⟩ := g.d51
  exact fnv_def (k := 5) hF hm sc51 finOk (fun cd A outer s H E hr => b51 g hr)
/-! _law_inputs -/
theorem b52 (g : G0 P w K mg base) {f : Addr} {cd : Value} {A : Around} {outer : List Env} {s : Shared} {H : Hp} {E : XK} (hr : Room 3 (A.deeper (envOfC "_law_inputs" (defScope s52) s.heap.objs.size f cd))) :
    PSsv (XC P w K mg base N52 "_law_inputs" (defScope s52) f cd A outer s H E) (defBody s52) t52 :=
  (pssv_one (psv_ret (pev_sub (pev_bits (pev_callB call_lenA sim_len rfl g.fr_len rfl (pav_cons (pev_ix hr (pev_var 0) pev_int) pav_nil))) pev_int)))
theorem v52 (g : G0 P w K mg base) : FnV P w K mg base s52 "_law_inputs" [] ["_law_gate"] 4 F52 := by
  obtain ⟨f, fd, hF, hm⟩ := g.d52
  exact fnv_def (k := 3) hF hm sc52 finOk (fun cd A outer s H E hr => b52 g hr)
/-! _law_name -/
theorem b53 (g : G0 P w K mg base) {f : Addr} {cd : Value} {A : Around} {outer : List Env} {s : Shared} {H : Hp} {E : XK} (hr : Room 4 (A.deeper (envOfC "_law_name" (defScope s53) s.heap.objs.size f cd))) :
    PSsv (XC P w K mg base N53 "_law_name" (defScope s53) f cd A outer s H E) (defBody s53) t53 :=
  (pssv_cons (psv_set sc53.nd (pev_ix hr (pev_tup (pav_cons pev_str (pav_cons pev_str (pav_cons pev_str (pav_cons pev_str (pav_cons pev_str (pav_cons pev_str (pav_cons pev_str pav_nil)))))))) (pev_call (v48 g) bp48 (hr.mono (by omega)) rfl rfl (pav_cons (pev_var 0) (pav_cons pev_int pav_nil)) (al_cons (al_cons al_nil)))))
    (pssv_one (psv_ret (pev_add (pev_ix hr pev_str (pev_call (v48 g) bp48 (hr.mono (by omega)) rfl rfl (pav_cons (pev_var 0) (pav_cons pev_int pav_nil)) (al_cons (al_cons al_nil)))) (pev_var 1)))))
theorem v53 (g : G0 P w K mg base) : FnV P w K mg base s53 "_law_name" [] ["_law_row"] 5 F53 := by
  obtain ⟨f, fd, hF, hm⟩ := g.d53
  exact fnv_def (k := 4) hF hm sc53 finOk (fun cd A outer s H E hr => b53 g hr)
/-! _law_term -/
theorem b54 (g : G0 P w K mg base) {n : Nat} {Fr : DFn} (ih : FnV P w K mg base s54 "_law_term" [] ["_law_row", "_law_lot", "_law_deep_here"] (5 + n) Fr) {f : Addr} {cd : Value} {A : Around} {outer : List Env} {s : Shared} {H : Hp} {E : XK} (hr : Room (5 + n) (A.deeper (envOfC "_law_term" (defScope s54) s.heap.objs.size f cd))) :
    PSsv (XC P w K mg base N54 "_law_term" (defScope s54) f cd A outer s H E) (defBody s54) (t54 Fr) :=
  (pssv_cons (psv_if (PWv.pt (pwv_or (ptv_cmp (or_eq hr) (sim_eqS.orB sim_eqD) (pev_var 2) pev_int) (pwv_or (ptv_cmp (or_eq hr) (sim_eqS.orB sim_eqD) (pev_callB call_lenA sim_len rfl g.fr_len rfl (pav_cons (pev_var 1) pav_nil)) pev_int) (pwv_or1 (ptv_cmp (or_eq hr) (sim_eqS.orB sim_eqD) (pev_call (v48 g) bp48 (hr.mono (by omega)) rfl rfl (pav_cons (pev_var 0) (pav_cons pev_int pav_nil)) (al_cons (al_cons al_nil))) pev_int))))) (pssv_one (psv_ret (pev_call (v53 g) bp53 (hr.mono (by omega)) rfl rfl (pav_cons (pev_var 0) pav_nil) (al_cons al_nil)))) pssv_nil)
    (pssv_cons (psv_set sc54.nd (pev_ix hr (pev_var 1) (pev_call (v48 g) bp48 (hr.mono (by omega)) rfl rfl (pav_cons (pev_var 0) (pav_cons (pev_callB call_lenA sim_len rfl g.fr_len rfl (pav_cons (pev_var 1) pav_nil)) pav_nil)) (al_cons (al_cons al_nil)))))
    (pssv_one (psv_ret (pev_add (pev_tup (pav_cons (pev_ix hr (pev_var 3) pev_int) pav_nil)) (pev_callTy call_tuple_of sim_tuple rfl g.fr_tuple rfl (pav_cons (pev_lc (own := [("_law_k", 4)]) rfl sc54.nd (piv_range1 rfl g.fr_range (pav_cons (pev_call (v52 g) bp52 (hr.mono (by omega)) rfl rfl (pav_cons (pev_var 3) pav_nil) (al_cons al_nil)) pav_nil) (al_cons al_nil)) (blkOk_by (by kernel_rfl)) (by decide) (fun _ _ _ _ _ => (pgc_name sc54.nd)) (fun _ _ _ _ _ => ptsv_nil) (fun _ _ _ _ _ => (pev_call ih bp54 hr rfl rfl (pav_cons (pev_var 0) (pav_cons (pev_var 1) (pav_cons (pev_sub (pev_var 2) pev_int) pav_nil))) (al_cons (al_cons (al_cons al_nil)))))) pav_nil)))))))
theorem v54 (g : G0 P w K mg base) : ∀ n : Nat, FnV P w K mg base s54 "_law_term" [] ["_law_row", "_law_lot", "_law_deep_here"] (5 + n) (F54 n)
  | 0 => by
    obtain ⟨f, fd, hF, hm⟩ := g.d54
    exact fnv_stuck hF hm
  | n + 1 => by
    obtain ⟨f, fd, hF, hm⟩ := g.d54
    exact fnv_def (k := 5 + n) hF hm sc54 finOk (fun cd A outer s H E hr => b54 g (v54 g n) hr)
/-! _law_is_bit -/
theorem b55 (g : G0 P w K mg base) {f : Addr} {cd : Value} {A : Around} {outer : List Env} {s : Shared} {H : Hp} {E : XK} (hr : Room 3 (A.deeper (envOfC "_law_is_bit" (defScope s55) s.heap.objs.size f cd))) :
    PSsv (XC P w K mg base N55 "_law_is_bit" (defScope s55) f cd A outer s H E) (defBody s55) t55 :=
  (pssv_one (psv_ret (pev_and (pev_callB call_isiA sim_isi rfl g.fr_isinstance rfl (pav_cons (pev_var 0) (pav_cons (pev_ty rfl g.fr_int rfl) pav_nil))) (pev_and (pev_not (pev_callB call_isiA sim_isi rfl g.fr_isinstance rfl (pav_cons (pev_var 0) (pav_cons (pev_ty rfl g.fr_bool rfl) pav_nil)))) (pev_one (pev_chain or_le sim_le or_le sim_le pev_int (pev_var 0) pev_int))))))
theorem v55 (g : G0 P w K mg base) : FnV P w K mg base s55 "_law_is_bit" [] ["_law_thing"] 4 F55 := by
  obtain ⟨f, fd, hF, hm⟩ := g.d55
  exact fnv_def (k := 3) hF hm sc55 finOk (fun cd A outer s H E hr => b55 g hr)
/-! _law_is_name -/
theorem b56 (g : G0 P w K mg base) {f : Addr} {cd : Value} {A : Around} {outer : List Env} {s : Shared} {H : Hp} {E : XK} (hr : Room 3 (A.deeper (envOfC "_law_is_name" (defScope s56) s.heap.objs.size f cd))) :
    PSsv (XC P w K mg base N56 "_law_is_name" (defScope s56) f cd A outer s H E) (defBody s56) t56 :=
  (pssv_cons (psv_if (PWv.pt (pwv_or (ptv_not (ptv_truth (pev_callB call_isiA sim_isi rfl g.fr_isinstance rfl (pav_cons (pev_var 0) (pav_cons (pev_ty rfl g.fr_str rfl) pav_nil))))) (pwv_or1 (ptv_not (ptv_chain or_le sim_le or_le sim_le pev_int (pev_callB call_lenA sim_len rfl g.fr_len rfl (pav_cons (pev_var 0) pav_nil)) pev_int))))) (pssv_one (psv_ret pev_bl)) pssv_nil)
    (pssv_cons (psv_if (ptv_cmp (or_notin hr) sim_in (pev_ix hr (pev_var 0) pev_int) pev_str) (pssv_one (psv_ret pev_bl)) pssv_nil)
    (pssv_one (psv_ret (pev_callB (cr_all rfl) sim_all rfl g.fr_all rfl (pav_cons (pev_lc (own := [("_law_sign", 1)]) rfl sc56.nd (piv_any (pev_slice (pev_var 0) (pov_some pev_int) pov_none)) (blkOk_by (by kernel_rfl)) (by decide) (fun _ _ _ _ _ => (pgc_name sc56.nd)) (fun _ _ _ _ _ => ptsv_nil) (fun _ _ _ _ _ => (pev_cmp (or_in hr) sim_in (pev_var 1) pev_str))) pav_nil))))))
theorem v56 (g : G0 P w K mg base) : FnV P w K mg base s56 "_law_is_name" [] ["_law_thing"] 4 F56 := by
  obtain ⟨f, fd, hF, hm⟩ := g.d56
  exact fnv_def (k := 3) hF hm sc56 finOk (fun cd A outer s H E hr => b56 g hr)
/-! _law_is_word -/
theorem b57 (g : G0 P w K mg base) {f : Addr} {cd : Value} {A : Around} {outer : List Env} {s : Shared} {H : Hp} {E : XK} (hr : Room 3 (A.deeper (envOfC "_law_is_word" (defScope s57) s.heap.objs.size f cd))) :
    PSsv (XC P w K mg base N57 "_law_is_word" (defScope s57) f cd A outer s H E) (defBody s57) t57 :=
  (pssv_cons (psv_if (PWv.pt (pwv_or (ptv_not (ptv_truth (pev_callB call_isiA sim_isi rfl g.fr_isinstance rfl (pav_cons (pev_var 0) (pav_cons (pev_ty rfl g.fr_str rfl) pav_nil))))) (pwv_or1 (ptv_not (ptv_chain or_le sim_le or_le sim_le pev_int (pev_callB call_lenA sim_len rfl g.fr_len rfl (pav_cons (pev_var 0) pav_nil)) pev_int))))) (pssv_one (psv_ret pev_bl)) pssv_nil)
    (pssv_one (psv_ret (pev_callB (cr_all rfl) sim_all rfl g.fr_all rfl (pav_cons (pev_lc (own := [("_law_sign", 1)]) rfl sc57.nd (piv_any (pev_var 0)) (blkOk_by (by kernel_rfl)) (by decide) (fun _ _ _ _ _ => (pgc_name sc57.nd)) (fun _ _ _ _ _ => ptsv_nil) (fun _ _ _ _ _ => (pev_cmp (or_in hr) sim_in (pev_var 1) pev_str))) pav_nil)))))
theorem v57 (g : G0 P w K mg base) : FnV P w K mg base s57 "_law_is_word" [] ["_law_thing"] 4 F57 := by
  obtain ⟨f, fd, hF, hm⟩ := g.d57
  exact fnv_def (k := 3) hF hm sc57 finOk (fun cd A outer s H E hr => b57 g hr)
/-! _law_is_rows -/
theorem b58 (g : G0 P w K mg base) {f : Addr} {cd : Value} {A : Around} {outer : List Env} {s : Shared} {H : Hp} {E : XK} (hr : Room 4 (A.deeper (envOfC "_law_is_rows" (defScope s58) s.heap.objs.size f cd))) :
    PSsv (XC P w K mg base N58 "_law_is_rows" (defScope s58) f cd A outer s H E) (defBody s58) t58 :=
  (pssv_cons (psv_if (PWv.pt (pwv_or (ptv_not (ptv_truth (pev_callB call_isiA sim_isi rfl g.fr_isinstance rfl (pav_cons (pev_var 0) (pav_cons (pev_ty rfl g.fr_tuple rfl) pav_nil))))) (pwv_or1 (ptv_cmp (or_notin hr) sim_in (pev_callB call_lenA sim_len rfl g.fr_len rfl (pav_cons (pev_var 0) pav_nil)) (pev_tup (pav_cons pev_int (pav_cons pev_int (pav_cons pev_int (pav_cons pev_int (pav_cons pev_int (pav_cons pev_int pav_nil))))))))))) (pssv_one (psv_ret pev_bl)) pssv_nil)
    (pssv_one (psv_ret (pev_callB (cr_all rfl) sim_all rfl g.fr_all rfl (pav_cons (pev_lc (own := [("_law_bit", 1)]) rfl sc58.nd (piv_any (pev_var 0)) (blkOk_by (by kernel_rfl)) (by decide) (fun _ _ _ _ _ => (pgc_name sc58.nd)) (fun _ _ _ _ _ => ptsv_nil) (fun _ _ _ _ _ => (pev_call (v55 g) bp55 (hr.mono (by omega)) rfl rfl (pav_cons (pev_var 1) pav_nil) (al_cons al_nil)))) pav_nil)))))
theorem v58 (g : G0 P w K mg base) : FnV P w K mg base s58 "_law_is_rows" [] ["_law_thing"] 5 F58 := by
  obtain ⟨f, fd, hF, hm⟩ := g.d58
  exact fnv_def (k := 4) hF hm sc58 finOk (fun cd A outer s H E hr => b58 g hr)
/-! _law_gate_fault -/
theorem b59 (g : G0 P w K mg base) {f : Addr} {cd : Value} {A : Around} {outer : List Env} {s : Shared} {H : Hp} {E : XK} (hr : Room 5 (A.deeper (envOfC "_law_gate_fault" (defScope s59) s.heap.objs.size f cd))) :
    PSsv (XC P w K mg base N59 "_law_gate_fault" (defScope s59) f cd A outer s H E) (defBody s59) t59 :=
  (pssv_cons (psv_if (PWv.pt (pwv_or (ptv_not (ptv_truth (pev_callB call_isiA sim_isi rfl g.fr_isinstance rfl (pav_cons (pev_var 0) (pav_cons (pev_ty rfl g.fr_tuple rfl) pav_nil))))) (pwv_or1 (ptv_cmp (or_ne hr) (sim_neS.orB sim_neD) (pev_callB call_lenA sim_len rfl g.fr_len rfl (pav_cons (pev_var 0) pav_nil)) pev_int)))) (pssv_one (psv_ret pev_str)) pssv_nil)
    (pssv_cons (psv_if (ptv_not (ptv_truth (pev_call (v57 g) bp57 (hr.mono (by omega)) rfl rfl (pav_cons (pev_ix hr (pev_var 0) pev_int) pav_nil) (al_cons al_nil)))) (pssv_one (psv_ret pev_str)) pssv_nil)
    (pssv_cons (psv_if (ptv_not (ptv_cmp or_gt sim_gt (pev_ix hr (pev_var 0) pev_int) (pev_var 1))) (pssv_one (psv_ret pev_str)) pssv_nil)
    (pssv_cons (psv_if (ptv_not (ptv_truth (pev_call (v58 g) bp58 (hr.mono (by omega)) rfl rfl (pav_cons (pev_ix hr (pev_var 0) pev_int) pav_nil) (al_cons al_nil)))) (pssv_one (psv_ret pev_str)) pssv_nil)
    (pssv_one (psv_ret pev_str))))))
theorem v59 (g : G0 P w K mg base) : FnV P w K mg base s59 "_law_gate_fault" [] ["_law_gate", "_law_before"] 6 F59 := by
  obtain ⟨f, fd, hF, hm⟩ := g.d59
  exact fnv_def (k := 5) hF hm sc59 finOk (fun cd A outer s H E hr => b59 g hr)
/-! _law_lot_due -/
theorem b60 (g : G0 P w K mg base) {f : Addr} {cd : Value} {A : Around} {outer : List Env} {s : Shared} {H : Hp} {E : XK} (hr : Room 6 (A.deeper (envOfC "_law_lot_due" (defScope s60) s.heap.objs.size f cd))) :
    PSsv (XC P w K mg base N60 "_law_lot_due" (defScope s60) f cd A outer s H E) (defBody s60) t60 :=
  (pssv_cons (psv_if (ptv_not (ptv_truth (pev_callB call_isiA sim_isi rfl g.fr_isinstance rfl (pav_cons (pev_var 0) (pav_cons (pev_ty rfl g.fr_tuple rfl) pav_nil))))) (pssv_one (psv_ret (pev_tup (pav_cons pev_bl (pav_cons pev_str (pav_cons (pev_neg pev_int) pav_nil)))))) pssv_nil)
    (pssv_cons (psv_set sc60.nd pev_str)
    (pssv_cons (psv_for (passes_of rfl) rfl (piv_enum rfl g.fr_enumerate (pev_var 0)) (pgv_tup rfl (pgsv_cons (pgv_name sc60.nd) (pgsv_cons (pgv_name sc60.nd) pgsv_nil))) (pssv_cons (psv_set sc60.nd (pev_call (v59 g) bp59 (hr.mono (by omega)) rfl rfl (pav_cons (pev_var 3) (pav_cons (pev_var 1) pav_nil)) (al_cons (al_cons al_nil))))
    (pssv_cons (psv_if (ptv_cmp (or_ne hr) (sim_neS.orB sim_neD) (pev_var 4) pev_str) (pssv_one (psv_ret (pev_tup (pav_cons pev_bl (pav_cons (pev_var 4) (pav_cons (pev_var 2) pav_nil)))))) pssv_nil)
    (pssv_one (psv_set sc60.nd (pev_ix hr (pev_var 3) pev_int))))))
    (pssv_one (psv_ret (pev_tup (pav_cons pev_bl (pav_cons (pev_callB call_lenA sim_len rfl g.fr_len rfl (pav_cons (pev_var 0) pav_nil)) pav_nil))))))))
theorem v60 (g : G0 P w K mg base) : FnV P w K mg base s60 "_law_lot_due" [] ["_law_thing"] 7 F60 := by
  obtain ⟨f, fd, hF, hm⟩ := g.d60
  exact fnv_def (k := 6) hF hm sc60 finOk (fun cd A outer s H E hr => b60 g hr)
/-! _law_is_term -/
theorem b61 (g : G0 P w K mg base) {n : Nat} {Fr : DFn} (ih : FnV P w K mg base s61 "_law_is_term" [] ["_law_lot", "_law_thing"] (4 + n) Fr) {f : Addr} {cd : Value} {A : Around} {outer : List Env} {s : Shared} {H : Hp} {E : XK} (hr : Room (4 + n) (A.deeper (envOfC "_law_is_term" (defScope s61) s.heap.objs.size f cd))) :
    PSsv (XC P w K mg base N61 "_law_is_term" (defScope s61) f cd A outer s H E) (defBody s61) (t61 Fr) :=
  (pssv_cons (psv_if (ptv_truth (pev_callB call_isiA sim_isi rfl g.fr_isinstance rfl (pav_cons (pev_var 1) (pav_cons (pev_ty rfl g.fr_str rfl) pav_nil)))) (pssv_one (psv_ret (pev_call (v56 g) bp56 (hr.mono (by omega)) rfl rfl (pav_cons (pev_var 1) pav_nil) (al_cons al_nil)))) pssv_nil)
    (pssv_cons (psv_if (PWv.pt (pwv_or (ptv_not (ptv_truth (pev_callB call_isiA sim_isi rfl g.fr_isinstance rfl (pav_cons (pev_var 1) (pav_cons (pev_ty rfl g.fr_tuple rfl) pav_nil))))) (pwv_or (ptv_cmp (or_eq hr) (sim_eqS.orB sim_eqD) (pev_callB call_lenA sim_len rfl g.fr_len rfl (pav_cons (pev_var 1) pav_nil)) pev_int) (pwv_or1 (ptv_not (ptv_truth (pev_callB call_isiA sim_isi rfl g.fr_isinstance rfl (pav_cons (pev_ix hr (pev_var 1) pev_int) (pav_cons (pev_ty rfl g.fr_str rfl) pav_nil))))))))) (pssv_one (psv_ret pev_bl)) pssv_nil)
    (pssv_cons (psv_for (passes_of rfl) rfl (piv_any (pev_var 0)) (pgv_name sc61.nd) (pssv_one (psv_if (ptv_cmp (or_eq hr) (sim_eqS.orB sim_eqD) (pev_ix hr (pev_var 2) pev_int) (pev_ix hr (pev_var 1) pev_int)) (pssv_one (psv_ret (pev_and (pev_cmp (or_eq hr) (sim_eqS.orB sim_eqD) (pev_sub (pev_callB call_lenA sim_len rfl g.fr_len rfl (pav_cons (pev_var 1) pav_nil)) pev_int) (pev_call (v52 g) bp52 (hr.mono (by omega)) rfl rfl (pav_cons (pev_var 2) pav_nil) (al_cons al_nil))) (pev_one (pev_callB (cr_all rfl) sim_all rfl g.fr_all rfl (pav_cons (pev_lc (own := [("_law_part", 3)]) rfl sc61.nd (piv_any (pev_slice (pev_var 1) (pov_some pev_int) pov_none)) (blkOk_by (by kernel_rfl)) (by decide) (fun _ _ _ _ _ => (pgc_name sc61.nd)) (fun _ _ _ _ _ => ptsv_nil) (fun _ _ _ _ _ => (pev_call ih bp61 hr rfl rfl (pav_cons (pev_var 0) (pav_cons (pev_var 3) pav_nil)) (al_cons (al_cons al_nil))))) pav_nil)))))) pssv_nil)))
    (pssv_one (psv_ret pev_bl)))))
theorem v61 (g : G0 P w K mg base) : ∀ n : Nat, FnV P w K mg base s61 "_law_is_term" [] ["_law_lot", "_law_thing"] (4 + n) (F61 n)
  | 0 => by
    obtain ⟨f, fd, hF, hm⟩ := g.d61
    exact fnv_stuck hF hm
  | n + 1 => by
    obtain ⟨f, fd, hF, hm⟩ := g.d61
    exact fnv_def (k := 4 + n) hF hm sc61 finOk (fun cd A outer s H E hr => b61 g (v61 g n) hr)
/-! _law_is_equation -/
theorem b62 (g : G0 P w K mg base) {f : Addr} {cd : Value} {A : Around} {outer : List Env} {s : Shared} {H : Hp} {E : XK} (hr : Room 20 (A.deeper (envOfC "_law_is_equation" (defScope s62) s.heap.objs.size f cd))) :
    PSsv (XC P w K mg base N62 "_law_is_equation" (defScope s62) f cd A outer s H E) (defBody s62) t62 :=
  (pssv_cons (psv_if (PWv.pt (pwv_or (ptv_not (ptv_truth (pev_callB call_isiA sim_isi rfl g.fr_isinstance rfl (pav_cons (pev_var 1) (pav_cons (pev_ty rfl g.fr_tuple rfl) pav_nil))))) (pwv_or1 (ptv_cmp (or_ne hr) (sim_neS.orB sim_neD) (pev_callB call_lenA sim_len rfl g.fr_len rfl (pav_cons (pev_var 1) pav_nil)) pev_int)))) (pssv_one (psv_ret pev_bl)) pssv_nil)
    (pssv_one (psv_ret (pev_and (pev_call (v61 g 16) bp61 (hr.mono (by omega)) rfl rfl (pav_cons (pev_var 0) (pav_cons (pev_ix hr (pev_var 1) pev_int) pav_nil)) (al_cons (al_cons al_nil))) (pev_one (pev_call (v61 g 16) bp61 (hr.mono (by omega)) rfl rfl (pav_cons (pev_var 0) (pav_cons (pev_ix hr (pev_var 1) pev_int) pav_nil)) (al_cons (al_cons al_nil))))))))
theorem v62 (g : G0 P w K mg base) : FnV P w K mg base s62 "_law_is_equation" [] ["_law_lot", "_law_thing"] 21 F62 := by
  obtain ⟨f, fd, hF, hm⟩ := g.d62
  exact fnv_def (k := 20) hF hm sc62 finOk (fun cd A outer s H E hr => b62 g hr)
/-! _law_is_facts -/
theorem b63 (g : G0 P w K mg base) {f : Addr} {cd : Value} {A : Around} {outer : List Env} {s : Shared} {H : Hp} {E : XK} (hr : Room 21 (A.deeper (envOfC "_law_is_facts" (defScope s63) s.heap.objs.size f cd))) :
    PSsv (XC P w K mg base N63 "_law_is_facts" (defScope s63) f cd A outer s H E) (defBody s63) t63 :=
  (pssv_one (psv_ret (pev_and (pev_callB call_isiA sim_isi rfl g.fr_isinstance rfl (pav_cons (pev_var 1) (pav_cons (pev_ty rfl g.fr_tuple rfl) pav_nil))) (pev_one (pev_callB (cr_all rfl) sim_all rfl g.fr_all rfl (pav_cons (pev_lc (own := [("_law_fact", 2)]) rfl sc63.nd (piv_any (pev_var 1)) (blkOk_by (by kernel_rfl)) (by decide) (fun _ _ _ _ _ => (pgc_name sc63.nd)) (fun _ _ _ _ _ => ptsv_nil) (fun _ _ _ _ _ => (pev_call (v62 g) bp62 (hr.mono (by omega)) rfl rfl (pav_cons (pev_var 0) (pav_cons (pev_var 2) pav_nil)) (al_cons (al_cons al_nil))))) pav_nil))))))
theorem v63 (g : G0 P w K mg base) : FnV P w K mg base s63 "_law_is_facts" [] ["_law_lot", "_law_thing"] 22 F63 := by
  obtain ⟨f, fd, hF, hm⟩ := g.d63
  exact fnv_def (k := 21) hF hm sc63 finOk (fun cd A outer s H E hr => b63 g hr)
/-! _law_is_claim -/
theorem b64 (g : G0 P w K mg base) {f : Addr} {cd : Value} {A : Around} {outer : List Env} {s : Shared} {H : Hp} {E : XK} (hr : Room 22 (A.deeper (envOfC "_law_is_claim" (defScope s64) s.heap.objs.size f cd))) :
    PSsv (XC P w K mg base N64 "_law_is_claim" (defScope s64) f cd A outer s H E) (defBody s64) t64 :=
  (pssv_cons (psv_if (PWv.pt (pwv_or (ptv_not (ptv_truth (pev_callB call_isiA sim_isi rfl g.fr_isinstance rfl (pav_cons (pev_var 1) (pav_cons (pev_ty rfl g.fr_tuple rfl) pav_nil))))) (pwv_or1 (ptv_cmp (or_ne hr) (sim_neS.orB sim_neD) (pev_callB call_lenA sim_len rfl g.fr_len rfl (pav_cons (pev_var 1) pav_nil)) pev_int)))) (pssv_one (psv_ret pev_bl)) pssv_nil)
    (pssv_one (psv_ret (pev_and (pev_call (v63 g) bp63 (hr.mono (by omega)) rfl rfl (pav_cons (pev_var 0) (pav_cons (pev_ix hr (pev_var 1) pev_int) pav_nil)) (al_cons (al_cons al_nil))) (pev_one (pev_call (v62 g) bp62 (hr.mono (by omega)) rfl rfl (pav_cons (pev_var 0) (pav_cons (pev_ix hr (pev_var 1) pev_int) pav_nil)) (al_cons (al_cons al_nil))))))))
theorem v64 (g : G0 P w K mg base) : FnV P w K mg base s64 "_law_is_claim" [] ["_law_lot", "_law_thing"] 23 F64 := by
  obtain ⟨f, fd, hF, hm⟩ := g.d64
  exact fnv_def (k := 22) hF hm sc64 finOk (fun cd A outer s H E hr => b64 g hr)
/-! _law_is_puts -/
theorem b65 (g : G0 P w K mg base) {f : Addr} {cd : Value} {A : Around} {outer : List Env} {s : Shared} {H : Hp} {E : XK} (hr : Room 20 (A.deeper (envOfC "_law_is_puts" (defScope s65) s.heap.objs.size f cd))) :
    PSsv (XC P w K mg base N65 "_law_is_puts" (defScope s65) f cd A outer s H E) (defBody s65) t65 :=
  (pssv_cons (psv_if (ptv_not (ptv_truth (pev_callB call_isiA sim_isi rfl g.fr_isinstance rfl (pav_cons (pev_var 1) (pav_cons (pev_ty rfl g.fr_tuple rfl) pav_nil))))) (pssv_one (psv_ret pev_bl)) pssv_nil)
    (pssv_cons (psv_set sc65.nd (pev_lstC pav_nil))
    (pssv_cons (psv_for (passes_of rfl) rfl (piv_any (pev_var 1)) (pgv_name sc65.nd) (pssv_cons (psv_if (PWv.pt (pwv_or (ptv_not (ptv_truth (pev_callB call_isiA sim_isi rfl g.fr_isinstance rfl (pav_cons (pev_var 3) (pav_cons (pev_ty rfl g.fr_tuple rfl) pav_nil))))) (pwv_or (ptv_cmp (or_ne hr) (sim_neS.orB sim_neD) (pev_callB call_lenA sim_len rfl g.fr_len rfl (pav_cons (pev_var 3) pav_nil)) pev_int) (pwv_or1 (ptv_not (ptv_truth (pev_call (v56 g) bp56 (hr.mono (by omega)) rfl rfl (pav_cons (pev_ix hr (pev_var 3) pev_int) pav_nil) (al_cons al_nil)))))))) (pssv_one (psv_ret pev_bl)) pssv_nil)
    (pssv_cons (psv_if (PWv.pt (pwv_or (ptv_cmp (or_in hr) sim_in (pev_ix hr (pev_var 3) pev_int) (pev_var 2)) (pwv_or1 (ptv_not (ptv_truth (pev_call (v61 g 16) bp61 (hr.mono (by omega)) rfl rfl (pav_cons (pev_var 0) (pav_cons (pev_ix hr (pev_var 3) pev_int) pav_nil)) (al_cons (al_cons al_nil)))))))) (pssv_one (psv_ret pev_bl)) pssv_nil)
    (pssv_one (psv_expr (pev_append (pev_var 2) (pev_ix hr (pev_var 3) pev_int)))))))
    (pssv_one (psv_ret pev_bl)))))
theorem v65 (g : G0 P w K mg base) : FnV P w K mg base s65 "_law_is_puts" [] ["_law_lot", "_law_thing"] 21 F65 := by
  obtain ⟨f, fd, hF, hm⟩ := g.d65
  exact fnv_def (k := 20) hF hm sc65 finOk (fun cd A outer s H E hr => b65 g hr)
/-! _law_odd -/
theorem b66 (g : G0 P w K mg base) {f : Addr} {cd : Value} {A : Around} {outer : List Env} {s : Shared} {H : Hp} {E : XK} (hr : Room 4 (A.deeper (envOfC "_law_odd" (defScope s66) s.heap.objs.size f cd))) :
    PSsv (XC P w K mg base N66 "_law_odd" (defScope s66) f cd A outer s H E) (defBody s66) t66 :=
  (pssv_cons (psv_set sc66.nd (pev_call (v48 g) bp48 (hr.mono (by omega)) rfl rfl (pav_cons (pev_var 0) (pav_cons pev_int pav_nil)) (al_cons (al_cons al_nil))))
    (pssv_cons (psv_if (PWv.pt (pwv_and (ptv_cmp (or_eq hr) (sim_eqS.orB sim_eqD) (pev_var 2) pev_int) (pwv_and1 (ptv_truth (pev_callB call_isiA sim_isi rfl g.fr_isinstance rfl (pav_cons (pev_var 1) (pav_cons (pev_ty rfl g.fr_tuple rfl) pav_nil))))))) (pssv_one (psv_ret (pev_callTy (call_listB rfl) sim_listB rfl g.fr_list rfl (pav_cons (pev_var 1) pav_nil)))) pssv_nil)
    (pssv_cons (psv_if (ptv_cmp (or_eq hr) (sim_eqS.orB sim_eqD) (pev_var 2) pev_int) (pssv_one (psv_ret (pev_tup (pav_cons (pev_var 1) pav_nil)))) pssv_nil)
    (pssv_cons (psv_if (PWv.pt (pwv_and (ptv_chain or_le sim_le or_le sim_le pev_int (pev_var 2) pev_int) (pwv_and (ptv_truth (pev_callB call_isiA sim_isi rfl g.fr_isinstance rfl (pav_cons (pev_var 1) (pav_cons (pev_tup (pav_cons (pev_ty rfl g.fr_str rfl) (pav_cons (pev_ty rfl g.fr_tuple rfl) pav_nil))) pav_nil)))) (pwv_and1 (ptv_cmp or_gt sim_gt (pev_callB call_lenA sim_len rfl g.fr_len rfl (pav_cons (pev_var 1) pav_nil)) pev_int))))) (pssv_one (psv_ret (pev_ix hr (pev_tup (pav_cons (pev_add (pev_var 1) (pev_slice (pev_var 1) (pov_some (pev_neg pev_int)) pov_none)) (pav_cons (pev_slice (pev_var 1) pov_none (pov_some (pev_neg pev_int))) (pav_cons (pev_add (pev_slice (pev_var 1) (pov_some pev_int) pov_none) (pev_slice (pev_var 1) pov_none (pov_some pev_int))) pav_nil)))) (pev_sub (pev_var 2) pev_int)))) pssv_nil)
    (pssv_cons (psv_if (PWv.pt (pwv_and (ptv_chain or_le sim_le or_le sim_le pev_int (pev_var 2) pev_int) (pwv_and1 (ptv_truth (pev_call (v55 g) bp55 (hr.mono (by omega)) rfl rfl (pav_cons (pev_var 1) pav_nil) (al_cons al_nil)))))) (pssv_one (psv_ret (pev_ix hr (pev_tup (pav_cons (pev_cmp (or_eq hr) (sim_eqS.orB sim_eqD) (pev_var 1) pev_int) (pav_cons (pev_callTy call_str_int sim_str1 rfl g.fr_str rfl (pav_cons (pev_var 1) pav_nil)) pav_nil))) (pev_sub (pev_var 2) pev_int)))) pssv_nil)
    (pssv_cons (psv_if (PWv.pt (pwv_and (ptv_cmp (or_eq hr) (sim_eqS.orB sim_eqD) (pev_var 2) pev_int) (pwv_and1 (ptv_truth (pev_callB call_isiA sim_isi rfl g.fr_isinstance rfl (pav_cons (pev_var 1) (pav_cons (pev_ty rfl g.fr_str rfl) pav_nil))))))) (pssv_one (psv_ret (pev_add (pev_var 1) pev_str))) pssv_nil)
    (pssv_cons (psv_if (PWv.pt (pwv_and (ptv_cmp (or_eq hr) (sim_eqS.orB sim_eqD) (pev_var 2) pev_int) (pwv_and1 (ptv_truth (pev_callB call_isiA sim_isi rfl g.fr_isinstance rfl (pav_cons (pev_var 1) (pav_cons (pev_ty rfl g.fr_str rfl) pav_nil))))))) (pssv_one (psv_ret (pev_upper (pev_var 1)))) pssv_nil)
    (pssv_cons (psv_set sc66.nd (pev_tup (pav_cons pev_non (pav_cons pev_bl (pav_cons pev_int (pav_cons pev_str (pav_cons pev_str (pav_cons pev_str (pav_cons pev_str (pav_cons pev_str (pav_cons pev_str (pav_cons pev_str (pav_cons (pev_tup pav_nil) (pav_cons (pev_lst pav_nil) (pav_cons (pev_neg pev_int) (pav_cons pev_int (pav_cons pev_int (pav_cons pev_str pav_nil))))))))))))))))))
    (pssv_one (psv_ret (pev_ix hr (pev_var 3) (pev_call (v48 g) bp48 (hr.mono (by omega)) rfl rfl (pav_cons (pev_var 0) (pav_cons pev_int pav_nil)) (al_cons (al_cons al_nil))))))))))))))
theorem v66 (g : G0 P w K mg base) : FnV P w K mg base s66 "_law_odd" [] ["_law_row", "_law_thing"] 5 F66 := by
  obtain ⟨f, fd, hF, hm⟩ := g.d66
  exact fnv_def (k := 4) hF hm sc66 finOk (fun cd A outer s H E hr => b66 g hr)
/-! _law_bent -/
theorem b67 (g : G0 P w K mg base) {f : Addr} {cd : Value} {A : Around} {outer : List Env} {s : Shared} {H : Hp} {E : XK} (hr : Room 5 (A.deeper (envOfC "_law_bent" (defScope s67) s.heap.objs.size f cd))) :
    PSsv (XC P w K mg base N67 "_law_bent" (defScope s67) f cd A outer s H E) (defBody s67) t67 :=
  (pssv_cons (psv_set sc67.nd (pev_lstC pav_nil))
    (pssv_cons (psv_set sc67.nd (pev_var 1))
    (pssv_cons (psv_for (passes_of rfl) rfl (piv_range1 rfl g.fr_range (pav_cons pev_int pav_nil) (al_cons al_nil)) (pgv_name sc67.nd) (pssv_cons (psv_if (PWv.pt (pwv_or (ptv_not (ptv_truth (pev_callB call_isiA sim_isi rfl g.fr_isinstance rfl (pav_cons (pev_var 3) (pav_cons (pev_ty rfl g.fr_tuple rfl) pav_nil))))) (pwv_or (ptv_cmp (or_eq hr) (sim_eqS.orB sim_eqD) (pev_callB call_lenA sim_len rfl g.fr_len rfl (pav_cons (pev_var 3) pav_nil)) pev_int) (pwv_or1 (ptv_cmp (or_eq hr) (sim_eqS.orB sim_eqD) (pev_call (v48 g) bp48 (hr.mono (by omega)) rfl rfl (pav_cons (pev_var 0) (pav_cons pev_int pav_nil)) (al_cons (al_cons al_nil))) pev_int))))) (pssv_one psv_break) pssv_nil)
    (pssv_cons (psv_expr (pev_append (pev_var 2) (pev_call (v48 g) bp48 (hr.mono (by omega)) rfl rfl (pav_cons (pev_var 0) (pav_cons (pev_callB call_lenA sim_len rfl g.fr_len rfl (pav_cons (pev_var 3) pav_nil)) pav_nil)) (al_cons (al_cons al_nil)))))
    (pssv_one (psv_set sc67.nd (pev_ix hr (pev_var 3) (pev_ix hr (pev_var 2) (pev_neg pev_int))))))))
    (pssv_cons (psv_set sc67.nd (pev_call (v66 g) bp66 (hr.mono (by omega)) rfl rfl (pav_cons (pev_var 0) (pav_cons (pev_var 3) pav_nil)) (al_cons (al_cons al_nil))))
    (pssv_cons (psv_for (passes_of rfl) rfl (piv_range1 rfl g.fr_range (pav_cons (pev_callB call_lenA sim_len rfl g.fr_len rfl (pav_cons (pev_var 2) pav_nil)) pav_nil) (al_cons al_nil)) (pgv_name sc67.nd) (pssv_cons (psv_set sc67.nd (pev_var 1))
    (pssv_cons (psv_for (passes_of rfl) rfl (piv_any (pev_slice (pev_var 2) pov_none (pov_some (pev_sub (pev_sub (pev_callB call_lenA sim_len rfl g.fr_len rfl (pav_cons (pev_var 2) pav_nil)) pev_int) (pev_var 4))))) (pgv_name sc67.nd) (pssv_one (psv_set sc67.nd (pev_ix hr (pev_var 3) (pev_var 6)))))
    (pssv_cons (psv_set sc67.nd (pev_ix hr (pev_var 2) (pev_sub (pev_sub (pev_callB call_lenA sim_len rfl g.fr_len rfl (pav_cons (pev_var 2) pav_nil)) pev_int) (pev_var 4))))
    (pssv_one (psv_set sc67.nd (pev_add (pev_add (pev_slice (pev_var 3) pov_none (pov_some (pev_var 6))) (pev_tup (pav_cons (pev_var 5) pav_nil))) (pev_slice (pev_var 3) (pov_some (pev_add (pev_var 6) pev_int)) pov_none))))))))
    (pssv_one (psv_ret (pev_var 5))))))))
theorem v67 (g : G0 P w K mg base) : FnV P w K mg base s67 "_law_bent" [] ["_law_row", "_law_thing"] 6 F67 := by
  obtain ⟨f, fd, hF, hm⟩ := g.d67
  exact fnv_def (k := 5) hF hm sc67 finOk (fun cd A outer s H E hr => b67 g hr)
/-! _law_told -/
theorem b68 (g : G0 P w K mg base) {f : Addr} {cd : Value} {A : Around} {outer : List Env} {s : Shared} {H : Hp} {E : XK} (hr : Room 3 (A.deeper (envOfC "_law_told" (defScope s68) s.heap.objs.size f cd))) :
    PSsv (XC P w K mg base N68 "_law_told" (defScope s68) f cd A outer s H E) (defBody s68) t68 :=
  (pssv_one (psv_ret (pev_or (pev_and (pev_var 1) (pev_one (pev_cmp or_is sim_is (pev_var 0) pev_bl))) (pev_one (pev_and (pev_not (pev_var 1)) (pev_one (pev_cmp or_is sim_is (pev_var 0) pev_bl)))))))
theorem v68 (g : G0 P w K mg base) : FnV P w K mg base s68 "_law_told" [] ["_law_got", "_law_due"] 4 F68 := by
  obtain ⟨f, fd, hF, hm⟩ := g.d68
  exact fnv_def (k := 3) hF hm sc68 finOk (fun cd A outer s H E hr => b68 g hr)
/-! _law_single_kinds -/
theorem b69 (g : G0 P w K mg base) {f : Addr} {cd : Value} {A : Around} {outer : List Env} {s : Shared} {H : Hp} {E : XK} (hr : Room 5 (A.deeper (envOfC "_law_single_kinds" (defScope s69) s.heap.objs.size f cd))) :
    PSsv (XC P w K mg base N69 "_law_single_kinds" (defScope s69) f cd A outer s H E) (defBody s69) t69 :=
  (pssv_cons (psv_set sc69.nd (pev_lstC (pav_cons (pev_tup (pav_cons (pev_call (v31 g) bp31 (hr.mono (by omega)) rfl rfl (pav_cons (pev_var 0) pav_nil) (al_cons al_nil)) (pav_cons (pev_call (v55 g) bp55 (hr.mono (by omega)) rfl rfl (pav_cons (pev_var 0) pav_nil) (al_cons al_nil)) pav_nil))) (pav_cons (pev_tup (pav_cons (pev_callK0 (v32 g) bk32_0_0 rfl (hr.mono (by omega)) rfl (pkv_cons (pev_var 0) pkv_nil)) (pav_cons (pev_call (v56 g) bp56 (hr.mono (by omega)) rfl rfl (pav_cons (pev_var 0) pav_nil) (al_cons al_nil)) pav_nil))) pav_nil))))
    (pssv_cons (psv_expr (pev_append (pev_var 1) (pev_tup (pav_cons (pev_call (v33 g) bp33 (hr.mono (by omega)) rfl rfl (pav_cons (pev_var 0) pav_nil) (al_cons al_nil)) (pav_cons (pev_call (v57 g) bp57 (hr.mono (by omega)) rfl rfl (pav_cons (pev_var 0) pav_nil) (al_cons al_nil)) pav_nil)))))
    (pssv_one (psv_ret (pev_callB (cr_all rfl) sim_all rfl g.fr_all rfl (pav_cons (pev_lc (own := [("_law_pair", 2)]) rfl sc69.nd (piv_any (pev_var 1)) (blkOk_by (by kernel_rfl)) (by decide) (fun _ _ _ _ _ => (pgc_name sc69.nd)) (fun _ _ _ _ _ => ptsv_nil) (fun _ _ _ _ _ => (pev_call (v68 g) bp68 (hr.mono (by omega)) rfl rfl (pav_cons (pev_ix hr (pev_var 2) pev_int) (pav_cons (pev_ix hr (pev_var 2) pev_int) pav_nil)) (al_cons (al_cons al_nil))))) pav_nil))))))
theorem v69 (g : G0 P w K mg base) : FnV P w K mg base s69 "_law_single_kinds" [] ["_law_thing"] 6 F69 := by
  obtain ⟨f, fd, hF, hm⟩ := g.d69
  exact fnv_def (k := 5) hF hm sc69 finOk (fun cd A outer s H E hr => b69 g hr)
/-! _law_singles -/
theorem b70 (g : G0 P w K mg base) {f : Addr} {cd : Value} {A : Around} {outer : List Env} {s : Shared} {H : Hp} {E : XK} (hr : Room 6 (A.deeper (envOfC "_law_singles" (defScope s70) s.heap.objs.size f cd))) :
    PSsv (XC P w K mg base N70 "_law_singles" (defScope s70) f cd A outer s H E) (defBody s70) t70 :=
  (pssv_cons (psv_set sc70.nd (pev_lst (pav_cons pev_str (pav_cons pev_str (pav_cons pev_str (pav_cons pev_str (pav_cons pev_str (pav_cons pev_str (pav_cons pev_str (pav_cons pev_str (pav_cons pev_str (pav_cons pev_str (pav_cons pev_str (pav_cons pev_str (pav_cons pev_str pav_nil)))))))))))))))
    (pssv_cons (psv_set sc70.nd (pev_add (pev_var 1) (pev_lst (pav_cons pev_int (pav_cons pev_int (pav_cons pev_int (pav_cons (pev_neg pev_int) (pav_cons pev_bl (pav_cons pev_bl (pav_cons pev_non (pav_cons (pev_pow pev_int pev_int) (pav_cons (pev_tup (pav_cons pev_int pav_nil)) (pav_cons (pev_lst (pav_cons pev_int pav_nil)) (pav_cons (pev_tup (pav_cons pev_str pav_nil)) (pav_cons (pev_tup (pav_cons pev_str pav_nil)) (pav_cons pev_str (pav_cons pev_str (pav_cons pev_str (pav_cons pev_str pav_nil)))))))))))))))))))
    (pssv_cons (psv_set sc70.nd (pev_call (v50 g) bp50 (hr.mono (by omega)) rfl rfl (pav_cons (pev_var 0) pav_nil) (al_cons al_nil)))
    (pssv_cons (psv_set sc70.nd (pev_call (v53 g) bp53 (hr.mono (by omega)) rfl rfl (pav_cons (pev_var 0) pav_nil) (al_cons al_nil)))
    (pssv_cons (psv_for (passes_of rfl) rfl (piv_any (pev_tup (pav_cons (pev_var 2) (pav_cons (pev_var 3) (pav_cons pev_int (pav_cons pev_int (pav_cons (pev_var 2) (pav_cons (pev_var 3) pav_nil)))))))) (pgv_name sc70.nd) (pssv_one (psv_set sc70.nd (pev_add (pev_var 1) (pev_lst (pav_cons (pev_var 4) (pav_cons (pev_call (v66 g) bp66 (hr.mono (by omega)) rfl rfl (pav_cons (pev_var 0) (pav_cons (pev_var 4) pav_nil)) (al_cons (al_cons al_nil))) pav_nil)))))))
    (pssv_cons (psv_set sc70.nd (pev_call (v48 g) bp48 (hr.mono (by omega)) rfl rfl (pav_cons (pev_var 0) (pav_cons pev_int pav_nil)) (al_cons (al_cons al_nil))))
    (pssv_cons (psv_for (passes_of rfl) rfl (piv_range1 rfl g.fr_range (pav_cons pev_int pav_nil) (al_cons al_nil)) (pgv_name sc70.nd) (pssv_cons (psv_set sc70.nd (pev_ix hr (pev_var 1) (pev_sub (pev_sub (pev_callB call_lenA sim_len rfl g.fr_len rfl (pav_cons (pev_var 1) pav_nil)) pev_int) (pev_var 6))))
    (pssv_cons (psv_if (ptv_cmp or_ge sim_ge (pev_var 6) pev_int) (pssv_one (psv_set sc70.nd (pev_ix hr (pev_var 1) (pev_mod (pev_callTy call_int1 sim_int1 rfl g.fr_int rfl (pav_cons (pev_add (pev_var 5) (pev_var 6)) pav_nil)) pev_int)))) pssv_nil)
    (pssv_one (psv_if (ptv_not (ptv_truth (pev_call (v69 g) bp69 (hr.mono (by omega)) rfl rfl (pav_cons (pev_var 4) pav_nil) (al_cons al_nil)))) (pssv_one (psv_ret pev_bl)) pssv_nil)))))
    (pssv_one (psv_ret pev_bl)))))))))
theorem v70 (g : G0 P w K mg base) : FnV P w K mg base s70 "_law_singles" [] ["_law_row"] 7 F70 := by
  obtain ⟨f, fd, hF, hm⟩ := g.d70
  exact fnv_def (k := 6) hF hm sc70 finOk (fun cd A outer s H E hr => b70 g hr)
/-! _law_term_kinds -/
theorem b71 (g : G0 P w K mg base) {f : Addr} {cd : Value} {A : Around} {outer : List Env} {s : Shared} {H : Hp} {E : XK} (hr : Room 111 (A.deeper (envOfC "_law_term_kinds" (defScope s71) s.heap.objs.size f cd))) :
    PSsv (XC P w K mg base N71 "_law_term_kinds" (defScope s71) f cd A outer s H E) (defBody s71) t71 :=
  (pssv_cons (psv_set sc71.nd (pev_lstC (pav_cons (pev_tup (pav_cons (pev_call (v35 g) bp35 (hr.mono (by omega)) rfl rfl (pav_cons (pev_var 0) (pav_cons (pev_var 1) pav_nil)) (al_cons (al_cons al_nil))) (pav_cons (pev_call (v61 g 16) bp61 (hr.mono (by omega)) rfl rfl (pav_cons (pev_var 0) (pav_cons (pev_var 1) pav_nil)) (al_cons (al_cons al_nil))) pav_nil))) pav_nil)))
    (pssv_cons (psv_expr (pev_append (pev_var 2) (pev_tup (pav_cons (pev_callK0 (v36 g) bk36_0_1_0 rfl (hr.mono (by omega)) rfl (pkv_cons (pev_var 1) (pkv_cons (pev_var 0) pkv_nil))) (pav_cons (pev_call (v62 g) bp62 (hr.mono (by omega)) rfl rfl (pav_cons (pev_var 0) (pav_cons (pev_var 1) pav_nil)) (al_cons (al_cons al_nil))) pav_nil)))))
    (pssv_cons (psv_expr (pev_append (pev_var 2) (pev_tup (pav_cons (pev_call (v37 g) bp37 (hr.mono (by omega)) rfl rfl (pav_cons (pev_var 0) (pav_cons (pev_var 1) pav_nil)) (al_cons (al_cons al_nil))) (pav_cons (pev_call (v63 g) bp63 (hr.mono (by omega)) rfl rfl (pav_cons (pev_var 0) (pav_cons (pev_var 1) pav_nil)) (al_cons (al_cons al_nil))) pav_nil)))))
    (pssv_cons (psv_expr (pev_append (pev_var 2) (pev_tup (pav_cons (pev_callK (v38 g) bk38_1_1 rfl (hr.mono (by omega)) rfl (pav_cons (pev_var 0) pav_nil) (pkv_cons (pev_var 1) pkv_nil)) (pav_cons (pev_call (v64 g) bp64 (hr.mono (by omega)) rfl rfl (pav_cons (pev_var 0) (pav_cons (pev_var 1) pav_nil)) (al_cons (al_cons al_nil))) pav_nil)))))
    (pssv_cons (psv_expr (pev_append (pev_var 2) (pev_tup (pav_cons (pev_call (v39 g) bp39 (hr.mono (by omega)) rfl rfl (pav_cons (pev_var 0) (pav_cons (pev_var 1) pav_nil)) (al_cons (al_cons al_nil))) (pav_cons (pev_call (v65 g) bp65 (hr.mono (by omega)) rfl rfl (pav_cons (pev_var 0) (pav_cons (pev_var 1) pav_nil)) (al_cons (al_cons al_nil))) pav_nil)))))
    (pssv_one (psv_ret (pev_callB (cr_all rfl) sim_all rfl g.fr_all rfl (pav_cons (pev_lc (own := [("_law_pair", 3)]) rfl sc71.nd (piv_any (pev_var 2)) (blkOk_by (by kernel_rfl)) (by decide) (fun _ _ _ _ _ => (pgc_name sc71.nd)) (fun _ _ _ _ _ => ptsv_nil) (fun _ _ _ _ _ => (pev_call (v68 g) bp68 (hr.mono (by omega)) rfl rfl (pav_cons (pev_ix hr (pev_var 3) pev_int) (pav_cons (pev_ix hr (pev_var 3) pev_int) pav_nil)) (al_cons (al_cons al_nil))))) pav_nil)))))))))
theorem v71 (g : G0 P w K mg base) : FnV P w K mg base s71 "_law_term_kinds" [] ["_law_lot", "_law_thing"] 112 F71 := by
  obtain ⟨f, fd, hF, hm⟩ := g.d71
  exact fnv_def (k := 111) hF hm sc71 finOk (fun cd A outer s H E hr => b71 g hr)
/-! _law_terms -/
theorem b72 (g : G0 P w K mg base) {f : Addr} {cd : Value} {A : Around} {outer : List Env} {s : Shared} {H : Hp} {E : XK} (hr : Room 112 (A.deeper (envOfC "_law_terms" (defScope s72) s.heap.objs.size f cd))) :
    PSsv (XC P w K mg base N72 "_law_terms" (defScope s72) f cd A outer s H E) (defBody s72) t72 :=
  (pssv_cons (psv_set sc72.nd (pev_lc (own := [("_law_k", 3)]) rfl sc72.nd (piv_range1 rfl g.fr_range (pav_cons pev_int pav_nil) (al_cons al_nil)) (blkOk_by (by kernel_rfl)) (by decide) (fun _ _ _ _ _ => (pgc_name sc72.nd)) (fun _ _ _ _ _ => ptsv_nil) (fun _ _ _ _ _ => (pev_call (v54 g 8) bp54 (hr.mono (by omega)) rfl rfl (pav_cons (pev_var 0) (pav_cons (pev_var 1) (pav_cons pev_int pav_nil))) (al_cons (al_cons (al_cons al_nil)))))))
    (pssv_cons (psv_set sc72.nd (pev_slice (pev_tup (pav_cons (pev_tup (pav_cons (pev_ix hr (pev_var 2) pev_int) (pav_cons (pev_ix hr (pev_var 2) pev_int) pav_nil))) (pav_cons (pev_tup (pav_cons (pev_ix hr (pev_var 2) pev_int) (pav_cons pev_str pav_nil))) (pav_cons (pev_tup (pav_cons (pev_ix hr (pev_var 2) pev_int) (pav_cons (pev_ix hr (pev_var 2) pev_int) pav_nil))) pav_nil)))) pov_none (pov_some (pev_call (v48 g) bp48 (hr.mono (by omega)) rfl rfl (pav_cons (pev_var 0) (pav_cons pev_int pav_nil)) (al_cons (al_cons al_nil))))))
    (pssv_cons (psv_set sc72.nd (pev_tup (pav_cons (pev_call (v53 g) bp53 (hr.mono (by omega)) rfl rfl (pav_cons (pev_var 0) pav_nil) (al_cons al_nil)) (pav_cons pev_str (pav_cons pev_str pav_nil)))))
    (pssv_cons (psv_set sc72.nd (pev_slice (pev_tup (pav_cons (pev_tup (pav_cons (pev_ix hr (pev_var 5) pev_int) (pav_cons (pev_ix hr (pev_var 2) pev_int) pav_nil))) (pav_cons (pev_tup (pav_cons (pev_ix hr (pev_var 5) pev_int) (pav_cons (pev_ix hr (pev_var 2) pev_int) pav_nil))) (pav_cons (pev_tup (pav_cons (pev_ix hr (pev_var 5) (pev_sub pev_int (pev_call (v48 g) bp48 (hr.mono (by omega)) rfl rfl (pav_cons (pev_var 0) (pav_cons pev_int pav_nil)) (al_cons (al_cons al_nil))))) (pav_cons (pev_ix hr (pev_var 2) pev_int) pav_nil))) pav_nil)))) pov_none (pov_some (pev_call (v48 g) bp48 (hr.mono (by omega)) rfl rfl (pav_cons (pev_var 0) (pav_cons pev_int pav_nil)) (al_cons (al_cons al_nil))))))
    (pssv_cons (psv_set sc72.nd (pev_lst (pav_cons (pev_ix hr (pev_var 2) pev_int) (pav_cons (pev_tup (pav_cons (pev_ix hr (pev_var 2) pev_int) (pav_cons (pev_ix hr (pev_var 2) pev_int) pav_nil))) (pav_cons (pev_var 4) (pav_cons (pev_tup (pav_cons (pev_var 4) (pav_cons (pev_tup (pav_cons (pev_ix hr (pev_var 2) pev_int) (pav_cons (pev_ix hr (pev_var 2) pev_int) pav_nil))) pav_nil))) (pav_cons (pev_var 6) (pav_cons (pev_tup pav_nil) pav_nil))))))))
    (pssv_cons (psv_set sc72.nd (pev_add (pev_var 7) (pev_lc (own := [("_law_thing", 8)]) rfl sc72.nd (piv_any (pev_var 7)) (blkOk_by (by kernel_rfl)) (by decide) (fun _ _ _ _ _ => (pgc_name sc72.nd)) (fun _ _ _ _ _ => ptsv_nil) (fun _ _ _ _ _ => (pev_call (v67 g) bp67 (hr.mono (by omega)) rfl rfl (pav_cons (pev_var 0) (pav_cons (pev_var 8) pav_nil)) (al_cons (al_cons al_nil)))))))
    (pssv_cons (psv_set sc72.nd (pev_add (pev_var 7) (pev_lst (pav_cons (pev_tup (pav_cons (pev_ix hr (pev_var 2) pev_int) (pav_cons (pev_ix hr (pev_var 2) pev_int) (pav_cons (pev_ix hr (pev_var 2) pev_int) pav_nil)))) (pav_cons (pev_tup (pav_cons (pev_tup (pav_cons (pev_ix hr (pev_var 2) pev_int) (pav_cons (pev_ix hr (pev_var 2) pev_int) pav_nil))) (pav_cons (pev_var 4) pav_nil))) (pav_cons (pev_callTy (call_listB rfl) sim_listB rfl g.fr_list rfl (pav_cons (pev_var 4) pav_nil)) pav_nil))))))
    (pssv_cons (psv_for (passes_of rfl) rfl (piv_any (pev_slice (pev_var 2) pov_none (pov_some pev_int))) (pgv_name sc72.nd) (pssv_one (psv_set sc72.nd (pev_add (pev_var 7) (pev_lst (pav_cons (pev_callTy (call_listB rfl) sim_listB rfl g.fr_list rfl (pav_cons (pev_var 9) pav_nil)) (pav_cons (pev_tup (pav_cons pev_str (pav_cons (pev_callTy (call_listB rfl) sim_listB rfl g.fr_list rfl (pav_cons (pev_var 9) pav_nil)) pav_nil))) pav_nil)))))))
    (pssv_cons (psv_set sc72.nd (pev_lst (pav_cons pev_str (pav_cons pev_str (pav_cons pev_str (pav_cons pev_str (pav_cons pev_str (pav_cons pev_str (pav_cons pev_str pav_nil)))))))))
    (pssv_cons (psv_set sc72.nd (pev_callTy call_tuple_of sim_tuple rfl g.fr_tuple rfl (pav_cons (pev_lc (own := [("_law_k", 3), ("_law_name_here", 12)]) rfl sc72.nd (piv_enum rfl g.fr_enumerate (pev_var 10)) (blkOk_by (by kernel_rfl)) (by decide) (fun _ _ _ _ _ => (pgc_tup rfl (pgsc_cons (pgc_name sc72.nd) (pgsc_cons (pgc_name sc72.nd) pgsc_nil)))) (fun _ _ _ _ _ => ptsv_nil) (fun _ _ _ _ _ => (pev_tup (pav_cons (pev_var 12) (pav_cons (pev_ix hr (pev_var 2) (pev_sub (pev_var 3) pev_int)) pav_nil))))) pav_nil)))
    (pssv_cons (psv_set sc72.nd (pev_add (pev_var 7) (pev_lst (pav_cons (pev_var 11) (pav_cons (pev_tup (pav_cons (pev_var 11) (pav_cons (pev_tup (pav_cons pev_str (pav_cons pev_str pav_nil))) pav_nil))) (pav_cons (pev_add (pev_var 11) (pev_slice (pev_var 11) pov_none (pov_some pev_int))) pav_nil))))))
    (pssv_cons (psv_for (passes_of rfl) rfl (piv_any (pev_var 1)) (pgv_name sc72.nd) (pssv_one (psv_set sc72.nd (pev_add (pev_var 7) (pev_lst (pav_cons (pev_ix hr (pev_var 13) pev_int) (pav_cons (pev_tup (pav_cons (pev_ix hr (pev_var 13) pev_int) pav_nil)) pav_nil)))))))
    (pssv_one (psv_ret (pev_callB (cr_all rfl) sim_all rfl g.fr_all rfl (pav_cons (pev_lc (own := [("_law_thing", 8)]) rfl sc72.nd (piv_any (pev_add (pev_var 7) (pev_slice (pev_var 7) pov_none (pov_some pev_int)))) (blkOk_by (by kernel_rfl)) (by decide) (fun _ _ _ _ _ => (pgc_name sc72.nd)) (fun _ _ _ _ _ => ptsv_nil) (fun _ _ _ _ _ => (pev_call (v71 g) bp71 (hr.mono (by omega)) rfl rfl (pav_cons (pev_var 1) (pav_cons (pev_var 8) pav_nil)) (al_cons (al_cons al_nil))))) pav_nil))))))))))))))))
theorem v72 (g : G0 P w K mg base) : FnV P w K mg base s72 "_law_terms" [] ["_law_row", "_law_lot"] 113 F72 := by
  obtain ⟨f, fd, hF, hm⟩ := g.d72
  exact fnv_def (k := 112) hF hm sc72 finOk (fun cd A outer s H E hr => b72 g hr)
/-! _law_deep -/
theorem b73 (g : G0 P w K mg base) {f : Addr} {cd : Value} {A : Around} {outer : List Env} {s : Shared} {H : Hp} {E : XK} (hr : Room 108 (A.deeper (envOfC "_law_deep" (defScope s73) s.heap.objs.size f cd))) :
    PSsv (XC P w K mg base N73 "_law_deep" (defScope s73) f cd A outer s H E) (defBody s73) t73 :=
  (pssv_cons (psv_set sc73.nd (pev_mulX (pev_tup (pav_cons pev_str pav_nil)) (pev_sub (pev_call (v52 g) bp52 (hr.mono (by omega)) rfl rfl (pav_cons (pev_var 1) pav_nil) (al_cons al_nil)) pev_int)))
    (pssv_cons (psv_for (passes_of rfl) rfl (piv_any (pev_add (pev_lst (pav_cons pev_str pav_nil)) (pev_slice (pev_lc (own := [("_law_other", 4)]) rfl sc73.nd (piv_any (pev_var 0)) (blkOk_by (by kernel_rfl)) (by decide) (fun _ _ _ _ _ => (pgc_name sc73.nd)) (fun _ _ _ _ _ => (ptsv_one (ptv_cmp (or_eq hr) (sim_eqS.orB sim_eqD) (pev_call (v52 g) bp52 (hr.mono (by omega)) rfl rfl (pav_cons (pev_var 4) pav_nil) (al_cons al_nil)) pev_int))) (fun _ _ _ _ _ => (pev_tup (pav_cons (pev_ix hr (pev_var 4) pev_int) pav_nil)))) pov_none (pov_some pev_int)))) (pgv_name sc73.nd) (pssv_cons (psv_set sc73.nd (pev_var 3))
    (pssv_cons (psv_set sc73.nd (pev_var 3))
    (pssv_cons (psv_for (passes_of rfl) rfl (piv_range1 rfl g.fr_range (pav_cons pev_int pav_nil) (al_cons al_nil)) (pgv_name sc73.nd) (pssv_cons (psv_if (PWv.pt (pwv_and (ptv_cmp (or_eq hr) (sim_eqS.orB sim_eqD) (pev_var 7) pev_int) (pwv_and1 (PWv.pt (pwv_or (ptv_cmp or_isnot sim_isnot (pev_call (v35 g) bp35 (hr.mono (by omega)) rfl rfl (pav_cons (pev_var 0) (pav_cons (pev_var 5) pav_nil)) (al_cons (al_cons al_nil))) pev_bl) (pwv_or1 (ptv_cmp or_isnot sim_isnot (pev_call (v35 g) bp35 (hr.mono (by omega)) rfl rfl (pav_cons (pev_var 0) (pav_cons (pev_var 6) pav_nil)) (al_cons (al_cons al_nil))) pev_bl))))))) (pssv_one (psv_ret pev_bl)) pssv_nil)
    (pssv_cons (psv_set sc73.nd (pev_add (pev_tup (pav_cons (pev_ix hr (pev_var 1) pev_int) (pav_cons (pev_var 5) pav_nil))) (pev_var 2)))
    (pssv_one (psv_set sc73.nd (pev_add (pev_add (pev_tup (pav_cons (pev_ix hr (pev_var 1) pev_int) pav_nil)) (pev_var 2)) (pev_tup (pav_cons (pev_var 6) pav_nil))))))))
    (pssv_one (psv_if (PWv.pt (pwv_or (ptv_cmp or_isnot sim_isnot (pev_call (v35 g) bp35 (hr.mono (by omega)) rfl rfl (pav_cons (pev_var 0) (pav_cons (pev_var 5) pav_nil)) (al_cons (al_cons al_nil))) pev_bl) (pwv_or1 (ptv_cmp or_isnot sim_isnot (pev_call (v35 g) bp35 (hr.mono (by omega)) rfl rfl (pav_cons (pev_var 0) (pav_cons (pev_var 6) pav_nil)) (al_cons (al_cons al_nil))) pev_bl)))) (pssv_one (psv_ret pev_bl)) pssv_nil))))))
    (pssv_one (psv_ret pev_bl))))
theorem v73 (g : G0 P w K mg base) : FnV P w K mg base s73 "_law_deep" [] ["_law_lot", "_law_gate"] 109 F73 := by
  obtain ⟨f, fd, hF, hm⟩ := g.d73
  exact fnv_def (k := 108) hF hm sc73 finOk (fun cd A outer s H E hr => b73 g hr)
/-! _law_lets -/
theorem ind74_0 : IndX 2 (fun a dd c => (sRet (dTup (aCons (dC (.bl false)) (aCons (dXf a dd "word" 2) (aCons (dXf a dd "at" 2) aNil)))))) := by
  intro a dd c ks ds δ S
  simp only [sRet, clr_ofR, dTup, aCons, aNil, dC, dXf_self]
theorem b74 (g : G0 P w K mg base) {f : Addr} {cd : Value} {A : Around} {outer : List Env} {s : Shared} {H : Hp} {E : XK} (hr : Room 8 (A.deeper (envOfC "_law_lets" (defScope s74) s.heap.objs.size f cd))) :
    PSsv (XC P w K mg base N74 "_law_lets" (defScope s74) f cd A outer s H E) (defBody s74) t74 :=
  (pssv_cons (psv_tryAs (i := 2) rfl rfl sc74.nd rfl rfl ⟨rfl, by decide, .inl g.m_InvalidPaper⟩ g.mt_InvalidPaper ind74_0 (fun pn xe hpw => (pssv_one (psv_set sc74.nd (pev_call (v29 g) bp29 (hr.mono (by omega)) rfl rfl (pav_cons (pev_var 0) pav_nil) (al_cons al_nil))))) (fun a oe C dd c pn hz hfv hcm hmem => have gX := g.gx_InvalidPaper; (pssv_one (psv_ret (pev_tup (pav_cons pev_bl (pav_cons (pev_xf 2 (gX c C hcm hmem).1 ((gX c C hcm hmem).2 "word" (by decide)) hz hfv) (pav_cons (pev_xf 2 (gX c C hcm hmem).1 ((gX c C hcm hmem).2 "at" (by decide)) hz hfv) pav_nil))))))))
    (pssv_one (psv_ret (pev_tup (pav_cons pev_bl (pav_cons (pev_var 1) pav_nil))))))
theorem v74 (g : G0 P w K mg base) : FnV P w K mg base s74 "_law_lets" [] ["_law_thing"] 9 F74 := by
  obtain ⟨f, fd, hF, hm⟩ := g.d74
  exact fnv_def (k := 8) hF hm sc74 finOk (fun cd A outer s H E hr => b74 g hr)
/-! _law_same -/
theorem b75 (g : G0 P w K mg base) {f : Addr} {cd : Value} {A : Around} {outer : List Env} {s : Shared} {H : Hp} {E : XK} (hr : Room 3 (A.deeper (envOfC "_law_same" (defScope s75) s.heap.objs.size f cd))) :
    PSsv (XC P w K mg base N75 "_law_same" (defScope s75) f cd A outer s H E) (defBody s75) t75 :=
  (pssv_cons (psv_if (PWv.pt (pwv_or (ptv_not (ptv_truth (pev_callB call_isiA sim_isi rfl g.fr_isinstance rfl (pav_cons (pev_var 0) (pav_cons (pev_ty rfl g.fr_tuple rfl) pav_nil))))) (pwv_or (ptv_cmp (or_ne hr) (sim_neS.orB sim_neD) (pev_callB call_lenA sim_len rfl g.fr_len rfl (pav_cons (pev_var 0) pav_nil)) (pev_callB call_lenA sim_len rfl g.fr_len rfl (pav_cons (pev_var 1) pav_nil))) (pwv_or1 (ptv_cmp (or_ne hr) (sim_neS.orB sim_neD) (pev_ix hr (pev_var 0) pev_int) (pev_ix hr (pev_var 1) pev_int)))))) (pssv_one (psv_ret pev_bl)) pssv_nil)
    (pssv_cons (psv_for (passes_of rfl) rfl (piv_zip rfl g.fr_zip (pav_cons (pev_slice (pev_var 0) (pov_some pev_int) pov_none) (pav_cons (pev_slice (pev_var 1) (pov_some pev_int) pov_none) pav_nil))) (pgv_tup rfl (pgsv_cons (pgv_name sc75.nd) (pgsv_cons (pgv_name sc75.nd) pgsv_nil))) (pssv_one (psv_if (PWv.pt (pwv_or (ptv_truth (pev_callB call_isiA sim_isi rfl g.fr_isinstance rfl (pav_cons (pev_var 2) (pav_cons (pev_ty rfl g.fr_bool rfl) pav_nil)))) (pwv_or (ptv_not (ptv_truth (pev_callB call_isiA sim_isi rfl g.fr_isinstance rfl (pav_cons (pev_var 2) (pav_cons (pev_tup (pav_cons (pev_ty rfl g.fr_int rfl) (pav_cons (pev_ty rfl g.fr_str rfl) pav_nil))) pav_nil))))) (pwv_or1 (ptv_cmp (or_ne hr) (sim_neS.orB sim_neD) (pev_var 2) (pev_var 3)))))) (pssv_one (psv_ret pev_bl)) pssv_nil)))
    (pssv_one (psv_ret pev_bl))))
theorem v75 (g : G0 P w K mg base) : FnV P w K mg base s75 "_law_same" [] ["_law_got", "_law_due"] 4 F75 := by
  obtain ⟨f, fd, hF, hm⟩ := g.d75
  exact fnv_def (k := 3) hF hm sc75 finOk (fun cd A outer s H E hr => b75 g hr)
/-! _law_checked -/
theorem b76 (g : G0 P w K mg base) {A : Around} {outer : List Env} {s : Shared} {H : Hp} {E : XK} (hr : Room 9 (A.deeper (envOfC "_law_checked" (defScope s76) s.heap.objs.size (He.fAd K ("_law_checked", none)) (.ref (He.cT K ("_law_checked", none)).1)))) :
    PSsv (XC P w K mg base N76 "_law_checked" (defScope s76) (He.fAd K ("_law_checked", none)) (.ref (He.cT K ("_law_checked", none)).1) A outer s H E) (defBody s76) t76 :=
  (pssv_cons (psv_set sc76.nd (pev_callTy call_tuple_of sim_tuple rfl g.fr_tuple rfl (pav_cons (pev_sort0 (hr.mono (by omega : 1 ≤ _)) rfl g.fr_sorted (pev_call (v51 g) bp51 (hr.mono (by omega)) rfl rfl (pav_cons (pev_var 0) (pav_cons (pev_call (v48 g) bp48 (hr.mono (by omega)) rfl rfl (pav_cons (pev_var 0) (pav_cons pev_int pav_nil)) (al_cons (al_cons al_nil))) pav_nil)) (al_cons (al_cons al_nil))) g.tb76 rfl (tbl_mem (q := "_law_checked.<locals>.<lambda>") (by decide)) (fun p hp e => tblB_ok g.tbl hp (tbl_mem (p := ("_law_checked", none)) (q := "_law_checked.<locals>.<lambda>") (by decide)) e)) pav_nil)))
    (pssv_cons (psv_set sc76.nd (pev_call (v67 g) bp67 (hr.mono (by omega)) rfl rfl (pav_cons (pev_var 0) (pav_cons (pev_var 1) pav_nil)) (al_cons (al_cons al_nil))))
    (pssv_cons (psv_set sc76.nd (pev_lst (pav_cons (pev_var 1) (pav_cons (pev_var 2) (pav_cons (pev_call (v67 g) bp67 (hr.mono (by omega)) rfl rfl (pav_cons (pev_var 0) (pav_cons (pev_var 2) pav_nil)) (al_cons (al_cons al_nil))) (pav_cons (pev_add (pev_var 1) (pev_slice (pev_var 1) pov_none (pov_some pev_int))) (pav_cons (pev_add (pev_var 1) (pev_slice (pev_var 1) (pov_some (pev_neg pev_int)) pov_none)) (pav_cons (pev_callTy (call_listB rfl) sim_listB rfl g.fr_list rfl (pav_cons (pev_var 1) pav_nil)) pav_nil))))))))
    (pssv_cons (psv_if (ptv_cmp or_gt sim_gt (pev_callB call_lenA sim_len rfl g.fr_len rfl (pav_cons (pev_var 1) pav_nil)) pev_int) (pssv_cons (psv_set sc76.nd (pev_add (pev_var 3) (pev_lst (pav_cons (pev_add (pev_var 1) (pev_tup (pav_cons (pev_tup (pav_cons (pev_add (pev_ix hr (pev_ix hr (pev_var 1) (pev_neg pev_int)) pev_int) pev_str) (pav_cons (pev_mulX (pev_tup (pav_cons pev_int pav_nil)) pev_int) pav_nil))) pav_nil))) (pav_cons (pev_add (pev_var 1) (pev_tup (pav_cons (pev_tup (pav_cons (pev_ix hr (pev_ix hr (pev_var 1) (pev_neg pev_int)) pev_int) (pav_cons pev_non pav_nil))) pav_nil))) pav_nil)))))
    (pssv_one (psv_for (passes_of rfl) rfl (piv_any (pev_tup (pav_cons (pev_ix hr (pev_ix hr (pev_var 1) pev_int) pev_int) (pav_cons pev_str pav_nil)))) (pgv_name sc76.nd) (pssv_one (psv_set sc76.nd (pev_add (pev_var 3) (pev_lst (pav_cons (pev_add (pev_tup (pav_cons (pev_tup (pav_cons (pev_var 4) (pav_cons (pev_callTy (call_listB rfl) sim_listB rfl g.fr_list rfl (pav_cons (pev_ix hr (pev_ix hr (pev_var 1) pev_int) pev_int) pav_nil)) pav_nil))) pav_nil)) (pev_slice (pev_var 1) (pov_some pev_int) pov_none)) (pav_cons (pev_add (pev_tup (pav_cons (pev_tup (pav_cons (pev_var 4) (pav_cons (pev_ix hr (pev_ix hr (pev_var 1) pev_int) pev_int) (pav_cons pev_int pav_nil)))) pav_nil)) (pev_slice (pev_var 1) (pov_some pev_int) pov_none)) pav_nil))))))))) pssv_nil)
    (pssv_cons (psv_for (passes_of rfl) rfl (piv_any (pev_add (pev_var 3) (pev_lst (pav_cons (pev_var 1) pav_nil)))) (pgv_name sc76.nd) (pssv_cons (psv_set sc76.nd (pev_call (v60 g) bp60 (hr.mono (by omega)) rfl rfl (pav_cons (pev_var 5) pav_nil) (al_cons al_nil)))
    (pssv_one (psv_if (PWv.pt (pwv_or (ptv_not (ptv_truth (pev_call (v75 g) bp75 (hr.mono (by omega)) rfl rfl (pav_cons (pev_call (v74 g) bp74 (hr.mono (by omega)) rfl rfl (pav_cons (pev_var 5) pav_nil) (al_cons al_nil)) (pav_cons (pev_var 6) pav_nil)) (al_cons (al_cons al_nil))))) (pwv_or1 (ptv_not (ptv_truth (pev_call (v68 g) bp68 (hr.mono (by omega)) rfl rfl (pav_cons (pev_call (v34 g) bp34 (hr.mono (by omega)) rfl rfl (pav_cons (pev_var 5) pav_nil) (al_cons al_nil)) (pav_cons (pev_ix hr (pev_var 6) pev_int) pav_nil)) (al_cons (al_cons al_nil)))))))) (pssv_one (psv_ret pev_bl)) pssv_nil))))
    (pssv_one (psv_ret (pev_and (pev_cmp or_is sim_is (pev_callK0 (v34 g) bk34_0_0 rfl (hr.mono (by omega)) rfl (pkv_cons (pev_var 1) pkv_nil)) pev_bl) (pev_one (pev_cmp (or_eq hr) (sim_eqS.orB sim_eqD) (pev_callK0 (v29 g) bk29_0_0 rfl (hr.mono (by omega)) rfl (pkv_cons (pev_var 1) pkv_nil)) (pev_callB call_lenA sim_len rfl g.fr_len rfl (pav_cons (pev_var 1) pav_nil))))))))))))
theorem v76 (g : G0 P w K mg base) : FnV P w K mg base s76 "_law_checked" [] ["_law_row"] 10 F76 := by
  obtain ⟨fd, hF, hm⟩ := g.d76
  exact fnv_defL (k := 9) hF hm sc76 finOk (fun A outer s H E hr => b76 g hr)
/-! _law_made -/
theorem ind77_0 : IndX 1 (fun a dd c => (sRet (dTup (aCons (dC (.bl false)) (aCons (dXf a dd "word" 1) (aCons (dXf a dd "at" 1) aNil)))))) := by
  intro a dd c ks ds δ S
  simp only [sRet, clr_ofR, dTup, aCons, aNil, dC, dXf_self]
theorem b77 (g : G0 P w K mg base) {f : Addr} {cd : Value} {A : Around} {outer : List Env} {s : Shared} {H : Hp} {E : XK} (hr : Room 7 (A.deeper (envOfC "_law_made" (defScope s77) s.heap.objs.size f cd))) :
    PSsv (XC P w K mg base N77 "_law_made" (defScope s77) f cd A outer s H E) (defBody s77) t77 :=
  (pssv_one (psv_tryAs (i := 1) rfl rfl sc77.nd rfl rfl ⟨rfl, by decide, .inl g.m_NotUsable⟩ g.mt_NotUsable ind77_0 (fun pn xe hpw => (pssv_cons (psv_if (ptv_cmp or_lt sim_lt (pev_callB call_lenA sim_len rfl g.fr_len rfl (pav_cons (pev_var 0) pav_nil)) pev_int) (pssv_one (psv_ret (pev_tup (pav_cons pev_bl (pav_cons (pev_if (ptv_cmp (or_eq hr) (sim_eqS.orB sim_eqD) (pev_callB call_lenA sim_len rfl g.fr_len rfl (pav_cons (pev_var 0) pav_nil)) pev_int) (pev_callS (v41 g) (hr.mono (by omega)) rfl (pav_cons (pev_ix hr (pev_var 0) pev_int) pav_nil)) (pev_callS0 (v41 g) (hr.mono (by omega)) rfl)) pav_nil))))) pssv_nil)
    (pssv_cons (psv_if (ptv_cmp (or_eq hr) (sim_eqS.orB sim_eqD) (pev_callB call_lenA sim_len rfl g.fr_len rfl (pav_cons (pev_var 0) pav_nil)) pev_int) (pssv_one (psv_ret (pev_tup (pav_cons pev_bl (pav_cons (pev_callS (v41 g) (hr.mono (by omega)) rfl (pav_cons (pev_ix hr (pev_var 0) pev_int) (pav_cons (pev_ix hr (pev_var 0) pev_int) pav_nil))) pav_nil))))) pssv_nil)
    (pssv_cons (psv_if (ptv_cmp (or_eq hr) (sim_eqS.orB sim_eqD) (pev_callB call_lenA sim_len rfl g.fr_len rfl (pav_cons (pev_var 0) pav_nil)) pev_int) (pssv_one (psv_ret (pev_tup (pav_cons pev_bl (pav_cons (pev_callS (v41 g) (hr.mono (by omega)) rfl (pav_cons (pev_ix hr (pev_var 0) pev_int) (pav_cons (pev_ix hr (pev_var 0) pev_int) (pav_cons (pev_ix hr (pev_var 0) pev_int) pav_nil)))) pav_nil))))) pssv_nil)
    (pssv_one (psv_ret (pev_tup (pav_cons pev_bl (pav_cons (pev_callS (v41 g) (hr.mono (by omega)) rfl (pav_cons (pev_ix hr (pev_var 0) pev_int) (pav_cons (pev_ix hr (pev_var 0) pev_int) (pav_cons (pev_ix hr (pev_var 0) pev_int) (pav_cons (pev_ix hr (pev_var 0) pev_int) pav_nil))))) pav_nil))))))))) (fun a oe C dd c pn hz hfv hcm hmem => have gX := g.gx_NotUsable; (pssv_one (psv_ret (pev_tup (pav_cons pev_bl (pav_cons (pev_xf 1 (gX c C hcm hmem).1 ((gX c C hcm hmem).2 "word" (by decide)) hz hfv) (pav_cons (pev_xf 1 (gX c C hcm hmem).1 ((gX c C hcm hmem).2 "at" (by decide)) hz hfv) pav_nil)))))))))
theorem v77 (g : G0 P w K mg base) : FnV P w K mg base s77 "_law_made" [] ["_law_gates_here"] 8 F77 := by
  obtain ⟨f, fd, hF, hm⟩ := g.d77
  exact fnv_def (k := 7) hF hm sc77 finOk (fun cd A outer s H E hr => b77 g hr)
/-! _law_made_due -/
theorem b78 (g : G0 P w K mg base) {A : Around} {outer : List Env} {s : Shared} {H : Hp} {E : XK} (hr : Room 6 (A.deeper (envOfC "_law_made_due" (defScope s78) s.heap.objs.size (He.fAd K ("_law_made_due", none)) (.ref (He.cT K ("_law_made_due", none)).1)))) :
    PSsv (XC P w K mg base N78 "_law_made_due" (defScope s78) (He.fAd K ("_law_made_due", none)) (.ref (He.cT K ("_law_made_due", none)).1) A outer s H E) (defBody s78) t78 :=
  (pssv_cons (psv_set sc78.nd (pev_lstC pav_nil))
    (pssv_cons (psv_for (passes_of rfl) rfl (piv_enum rfl g.fr_enumerate (pev_var 0)) (pgv_tup rfl (pgsv_cons (pgv_name sc78.nd) (pgsv_cons (pgv_name sc78.nd) pgsv_nil))) (pssv_cons (psv_if (PWv.pt (pwv_or (ptv_cmp (or_ne hr) (sim_neS.orB sim_neD) (pev_call (v59 g) bp59 (hr.mono (by omega)) rfl rfl (pav_cons (pev_var 3) (pav_cons pev_str pav_nil)) (al_cons (al_cons al_nil))) pev_str) (pwv_or1 (ptv_cmp (or_in hr) sim_in (pev_ix hr (pev_var 3) pev_int) (pev_var 1))))) (pssv_one (psv_ret (pev_tup (pav_cons pev_bl (pav_cons pev_str (pav_cons (pev_var 2) pav_nil)))))) pssv_nil)
    (pssv_one (psv_expr (pev_append (pev_var 1) (pev_ix hr (pev_var 3) pev_int))))))
    (pssv_one (psv_ret (pev_tup (pav_cons pev_bl (pav_cons (pev_callTy call_tuple_of sim_tuple rfl g.fr_tuple rfl (pav_cons (pev_sort0 (hr.mono (by omega : 1 ≤ _)) rfl g.fr_sorted (pev_var 0) g.tb78 rfl (tbl_mem (q := "_law_made_due.<locals>.<lambda>") (by decide)) (fun p hp e => tblB_ok g.tbl hp (tbl_mem (p := ("_law_made_due", none)) (q := "_law_made_due.<locals>.<lambda>") (by decide)) e)) pav_nil)) pav_nil)))))))
theorem v78 (g : G0 P w K mg base) : FnV P w K mg base s78 "_law_made_due" [] ["_law_gates_here"] 7 F78 := by
  obtain ⟨fd, hF, hm⟩ := g.d78
  exact fnv_defL (k := 6) hF hm sc78 finOk (fun A outer s H E hr => b78 g hr)
/-! _law_made_so -/
theorem b79 (g : G0 P w K mg base) {f : Addr} {cd : Value} {A : Around} {outer : List Env} {s : Shared} {H : Hp} {E : XK} (hr : Room 8 (A.deeper (envOfC "_law_made_so" (defScope s79) s.heap.objs.size f cd))) :
    PSsv (XC P w K mg base N79 "_law_made_so" (defScope s79) f cd A outer s H E) (defBody s79) t79 :=
  (pssv_cons (psv_set sc79.nd (pev_call (v77 g) bp77 (hr.mono (by omega)) rfl rfl (pav_cons (pev_var 0) pav_nil) (al_cons al_nil)))
    (pssv_cons (psv_set sc79.nd (pev_call (v78 g) bp78 (hr.mono (by omega)) rfl rfl (pav_cons (pev_var 0) pav_nil) (al_cons al_nil)))
    (pssv_cons (psv_if (ptv_not (ptv_truth (pev_ix hr (pev_var 2) pev_int))) (pssv_one (psv_ret (pev_call (v75 g) bp75 (hr.mono (by omega)) rfl rfl (pav_cons (pev_var 1) (pav_cons (pev_var 2) pav_nil)) (al_cons (al_cons al_nil))))) pssv_nil)
    (pssv_one (psv_ret (pev_and (pev_cmp or_is sim_is (pev_ix hr (pev_var 1) pev_int) pev_bl) (pev_and (pev_ix hr (pev_call (v60 g) bp60 (hr.mono (by omega)) rfl rfl (pav_cons (pev_ix hr (pev_var 1) pev_int) pav_nil) (al_cons al_nil)) pev_int) (pev_one (pev_cmp (or_eq hr) (sim_eqS.orB sim_eqD) (pev_ix hr (pev_var 1) pev_int) (pev_ix hr (pev_var 2) pev_int))))))))))
theorem v79 (g : G0 P w K mg base) : FnV P w K mg base s79 "_law_made_so" [] ["_law_gates_here"] 9 F79 := by
  obtain ⟨f, fd, hF, hm⟩ := g.d79
  exact fnv_def (k := 8) hF hm sc79 finOk (fun cd A outer s H E hr => b79 g hr)
/-! _law_asked -/
theorem ind80_0 : IndX 4 (fun a dd c => (sRet (dTup (aCons (dC (.bl false)) (aCons (dXf a dd "word" 4) (aCons (dXf a dd "at" 4) aNil)))))) := by
  intro a dd c ks ds δ S
  simp only [sRet, clr_ofR, dTup, aCons, aNil, dC, dXf_self]
theorem b80 (g : G0 P w K mg base) {f : Addr} {cd : Value} {A : Around} {outer : List Env} {s : Shared} {H : Hp} {E : XK} (hr : Room 7 (A.deeper (envOfC "_law_asked" (defScope s80) s.heap.objs.size f cd))) :
    PSsv (XC P w K mg base N80 "_law_asked" (defScope s80) f cd A outer s H E) (defBody s80) t80 :=
  (pssv_one (psv_tryAs (i := 4) rfl rfl sc80.nd rfl rfl ⟨rfl, by decide, .inl g.m_NotUsable⟩ g.mt_NotUsable ind80_0 (fun pn xe hpw => (pssv_cons (psv_if (ptv_cmp (or_eq hr) (sim_eqS.orB sim_eqD) (pev_var 1) pev_int) (pssv_one (psv_ret (pev_tup (pav_cons pev_bl (pav_cons (pev_call (v43 g) bp43 (hr.mono (by omega)) rfl rfl (pav_cons (pev_var 0) (pav_cons (pev_var 2) pav_nil)) (al_cons (al_cons al_nil))) pav_nil))))) pssv_nil)
    (pssv_cons (psv_if (ptv_cmp (or_eq hr) (sim_eqS.orB sim_eqD) (pev_var 1) pev_int) (pssv_one (psv_ret (pev_tup (pav_cons pev_bl (pav_cons (pev_callK0 (v44 g) bk44_0_1_0 rfl (hr.mono (by omega)) rfl (pkv_cons (pev_var 2) (pkv_cons (pev_var 0) pkv_nil))) pav_nil))))) pssv_nil)
    (pssv_cons (psv_if (ptv_cmp (or_eq hr) (sim_eqS.orB sim_eqD) (pev_var 1) pev_int) (pssv_one (psv_ret (pev_tup (pav_cons pev_bl (pav_cons (pev_call (v45 g) bp45 (hr.mono (by omega)) rfl rfl (pav_cons (pev_var 0) (pav_cons (pev_var 2) (pav_cons (pev_var 3) pav_nil))) (al_cons (al_cons (al_cons al_nil)))) pav_nil))))) pssv_nil)
    (pssv_one (psv_ret (pev_tup (pav_cons pev_bl (pav_cons (pev_callK0 (v45 g) bk45_0_2_1_0 rfl (hr.mono (by omega)) rfl (pkv_cons (pev_var 3) (pkv_cons (pev_var 2) (pkv_cons (pev_var 0) pkv_nil)))) pav_nil))))))))) (fun a oe C dd c pn hz hfv hcm hmem => have gX := g.gx_NotUsable; (pssv_one (psv_ret (pev_tup (pav_cons pev_bl (pav_cons (pev_xf 4 (gX c C hcm hmem).1 ((gX c C hcm hmem).2 "word" (by decide)) hz hfv) (pav_cons (pev_xf 4 (gX c C hcm hmem).1 ((gX c C hcm hmem).2 "at" (by decide)) hz hfv) pav_nil)))))))))
theorem v80 (g : G0 P w K mg base) : FnV P w K mg base s80 "_law_asked" [] ["_law_lot", "_law_which", "_law_gate", "_law_bits_here"] 8 F80 := by
  obtain ⟨f, fd, hF, hm⟩ := g.d80
  exact fnv_def (k := 7) hF hm sc80 finOk (fun cd A outer s H E hr => b80 g hr)
/-! _law_number -/
theorem b81 (g : G0 P w K mg base) {f : Addr} {cd : Value} {A : Around} {outer : List Env} {s : Shared} {H : Hp} {E : XK} (hr : Room 3 (A.deeper (envOfC "_law_number" (defScope s81) s.heap.objs.size f cd))) :
    PSsv (XC P w K mg base N81 "_law_number" (defScope s81) f cd A outer s H E) (defBody s81) t81 :=
  (pssv_cons (psv_set sc81.nd pev_int)
    (pssv_cons (psv_for (passes_of rfl) rfl (piv_any (pev_var 0)) (pgv_name sc81.nd) (pssv_one (psv_set sc81.nd (pev_add (pev_mulX pev_int (pev_var 1)) (pev_var 2)))))
    (pssv_one (psv_ret (pev_var 1)))))
theorem v81 (g : G0 P w K mg base) : FnV P w K mg base s81 "_law_number" [] ["_law_bits_here"] 4 F81 := by
  obtain ⟨f, fd, hF, hm⟩ := g.d81
  exact fnv_def (k := 3) hF hm sc81 finOk (fun cd A outer s H E hr => b81 g hr)
/-! _law_gate_asked -/
theorem b82 (g : G0 P w K mg base) {f : Addr} {cd : Value} {A : Around} {outer : List Env} {s : Shared} {H : Hp} {E : XK} (hr : Room 8 (A.deeper (envOfC "_law_gate_asked" (defScope s82) s.heap.objs.size f cd))) :
    PSsv (XC P w K mg base N82 "_law_gate_asked" (defScope s82) f cd A outer s H E) (defBody s82) t82 :=
  (pssv_cons (psv_set sc82.nd (pev_call (v52 g) bp52 (hr.mono (by omega)) rfl rfl (pav_cons (pev_var 2) pav_nil) (al_cons al_nil)))
    (pssv_cons (psv_set sc82.nd (pev_call (v49 g) bp49 (hr.mono (by omega)) rfl rfl (pav_cons (pev_var 0) (pav_cons (pev_var 3) pav_nil)) (al_cons (al_cons al_nil))))
    (pssv_cons (psv_if (ptv_not (ptv_truth (pev_call (v75 g) bp75 (hr.mono (by omega)) rfl rfl (pav_cons (pev_call (v80 g) bp80 (hr.mono (by omega)) rfl rfl (pav_cons (pev_var 1) (pav_cons pev_int (pav_cons (pev_ix hr (pev_var 2) pev_int) (pav_cons (pev_var 4) pav_nil)))) (al_cons (al_cons (al_cons (al_cons al_nil))))) (pav_cons (pev_tup (pav_cons pev_bl (pav_cons (pev_var 3) pav_nil))) pav_nil)) (al_cons (al_cons al_nil))))) (pssv_one (psv_ret pev_bl)) pssv_nil)
    (pssv_cons (psv_set sc82.nd (pev_call (v80 g) bp80 (hr.mono (by omega)) rfl rfl (pav_cons (pev_var 1) (pav_cons pev_int (pav_cons (pev_ix hr (pev_var 2) pev_int) (pav_cons (pev_var 4) pav_nil)))) (al_cons (al_cons (al_cons (al_cons al_nil))))))
    (pssv_cons (psv_if (PWv.pt (pwv_or (ptv_cmp or_isnot sim_isnot (pev_ix hr (pev_var 5) pev_int) pev_bl) (pwv_or (ptv_not (ptv_truth (pev_call (v58 g) bp58 (hr.mono (by omega)) rfl rfl (pav_cons (pev_ix hr (pev_var 5) pev_int) pav_nil) (al_cons al_nil)))) (pwv_or1 (ptv_cmp (or_ne hr) (sim_neS.orB sim_neD) (pev_ix hr (pev_var 5) pev_int) (pev_ix hr (pev_var 2) pev_int)))))) (pssv_one (psv_ret pev_bl)) pssv_nil)
    (pssv_cons (psv_if (ptv_not (ptv_truth (pev_call (v75 g) bp75 (hr.mono (by omega)) rfl rfl (pav_cons (pev_call (v80 g) bp80 (hr.mono (by omega)) rfl rfl (pav_cons (pev_var 1) (pav_cons pev_int (pav_cons (pev_ix hr (pev_var 2) pev_int) (pav_cons (pev_var 4) pav_nil)))) (al_cons (al_cons (al_cons (al_cons al_nil))))) (pav_cons (pev_tup (pav_cons pev_bl (pav_cons (pev_ix hr (pev_ix hr (pev_var 2) pev_int) (pev_call (v81 g) bp81 (hr.mono (by omega)) rfl rfl (pav_cons (pev_var 4) pav_nil) (al_cons al_nil))) pav_nil))) pav_nil)) (al_cons (al_cons al_nil))))) (pssv_one (psv_ret pev_bl)) pssv_nil)
    (pssv_cons (psv_set sc82.nd (pev_lst (pav_cons (pev_add (pev_var 4) (pev_tup (pav_cons pev_int pav_nil))) (pav_cons (pev_callTy (call_listB rfl) sim_listB rfl g.fr_list rfl (pav_cons (pev_var 4) pav_nil)) (pav_cons pev_non (pav_cons (pev_add (pev_slice (pev_var 4) pov_none (pov_some (pev_neg pev_int))) (pev_tup (pav_cons pev_bl pav_nil))) (pav_cons (pev_add (pev_slice (pev_var 4) pov_none (pov_some (pev_neg pev_int))) (pev_tup (pav_cons pev_int pav_nil))) (pav_cons (pev_var 3) (pav_cons (pev_mulX pev_str (pev_var 3)) (pav_cons (pev_slice (pev_var 4) pov_none (pov_some (pev_neg pev_int))) pav_nil))))))))))
    (pssv_cons (psv_for (passes_of rfl) rfl (piv_any (pev_add (pev_var 6) (pev_lst (pav_cons (pev_var 4) pav_nil)))) (pgv_name sc82.nd) (pssv_cons (psv_set sc82.nd (pev_tup (pav_cons pev_bl (pav_cons pev_str (pav_cons (pev_neg pev_int) pav_nil)))))
    (pssv_cons (psv_if (PWv.pt (pwv_and (ptv_truth (pev_callB call_isiA sim_isi rfl g.fr_isinstance rfl (pav_cons (pev_var 7) (pav_cons (pev_ty rfl g.fr_tuple rfl) pav_nil)))) (pwv_and (ptv_cmp (or_eq hr) (sim_eqS.orB sim_eqD) (pev_callB call_lenA sim_len rfl g.fr_len rfl (pav_cons (pev_var 7) pav_nil)) (pev_var 3)) (pwv_and1 (ptv_truth (pev_callB (cr_all rfl) sim_all rfl g.fr_all rfl (pav_cons (pev_lc (own := [("_law_bit", 9)]) rfl sc82.nd (piv_any (pev_var 7)) (blkOk_by (by kernel_rfl)) (by decide) (fun _ _ _ _ _ => (pgc_name sc82.nd)) (fun _ _ _ _ _ => ptsv_nil) (fun _ _ _ _ _ => (pev_call (v55 g) bp55 (hr.mono (by omega)) rfl rfl (pav_cons (pev_var 9) pav_nil) (al_cons al_nil)))) pav_nil))))))) (pssv_one (psv_set sc82.nd (pev_tup (pav_cons pev_bl (pav_cons (pev_ix hr (pev_ix hr (pev_var 2) pev_int) (pev_call (v81 g) bp81 (hr.mono (by omega)) rfl rfl (pav_cons (pev_var 7) pav_nil) (al_cons al_nil))) pav_nil))))) pssv_nil)
    (pssv_one (psv_if (ptv_not (ptv_truth (pev_call (v75 g) bp75 (hr.mono (by omega)) rfl rfl (pav_cons (pev_call (v80 g) bp80 (hr.mono (by omega)) rfl rfl (pav_cons (pev_var 1) (pav_cons pev_int (pav_cons (pev_ix hr (pev_var 2) pev_int) (pav_cons (pev_var 7) pav_nil)))) (al_cons (al_cons (al_cons (al_cons al_nil))))) (pav_cons (pev_var 8) pav_nil)) (al_cons (al_cons al_nil))))) (pssv_one (psv_ret pev_bl)) pssv_nil)))))
    (pssv_one (psv_ret pev_bl))))))))))
theorem v82 (g : G0 P w K mg base) : FnV P w K mg base s82 "_law_gate_asked" [] ["_law_row", "_law_lot", "_law_gate"] 9 F82 := by
  obtain ⟨f, fd, hF, hm⟩ := g.d82
  exact fnv_def (k := 8) hF hm sc82 finOk (fun cd A outer s H E hr => b82 g hr)
/-! _law_lots -/
theorem b83 (g : G0 P w K mg base) {A : Around} {outer : List Env} {s : Shared} {H : Hp} {E : XK} (hr : Room 113 (A.deeper (envOfC "_law_lots" (defScope s83) s.heap.objs.size (He.fAd K ("_law_lots", none)) (.ref (He.cT K ("_law_lots", none)).1)))) :
    PSsv (XC P w K mg base N83 "_law_lots" (defScope s83) (He.fAd K ("_law_lots", none)) (.ref (He.cT K ("_law_lots", none)).1) A outer s H E) (defBody s83) t83 :=
  (pssv_cons (psv_set sc83.nd (pev_call (v51 g) bp51 (hr.mono (by omega)) rfl rfl (pav_cons (pev_var 0) (pav_cons (pev_call (v48 g) bp48 (hr.mono (by omega)) rfl rfl (pav_cons (pev_var 0) (pav_cons pev_int pav_nil)) (al_cons (al_cons al_nil))) pav_nil)) (al_cons (al_cons al_nil))))
    (pssv_cons (psv_set sc83.nd (pev_callTy call_tuple_of sim_tuple rfl g.fr_tuple rfl (pav_cons (pev_sort0 (hr.mono (by omega : 1 ≤ _)) rfl g.fr_sorted (pev_var 1) g.tb83 rfl (tbl_mem (q := "_law_lots.<locals>.<lambda>") (by decide)) (fun p hp e => tblB_ok g.tbl hp (tbl_mem (p := ("_law_lots", none)) (q := "_law_lots.<locals>.<lambda>") (by decide)) e)) pav_nil)))
    (pssv_cons (psv_set sc83.nd (pev_listC rfl g.fr_list rfl (pav_cons (pev_var 1) pav_nil)))
    (pssv_cons (psv_if (ptv_cmp or_gt sim_gt (pev_callB call_lenA sim_len rfl g.fr_len rfl (pav_cons (pev_var 1) pav_nil)) pev_int) (pssv_one (psv_put hr (pev_var 3) (pev_call (v48 g) bp48 (hr.mono (by omega)) rfl rfl (pav_cons (pev_var 0) (pav_cons (pev_callB call_lenA sim_len rfl g.fr_len rfl (pav_cons (pev_var 1) pav_nil)) pav_nil)) (al_cons (al_cons al_nil))) (pev_call (v67 g) bp67 (hr.mono (by omega)) rfl rfl (pav_cons (pev_var 0) (pav_cons (pev_ix hr (pev_var 1) (pev_call (v48 g) bp48 (hr.mono (by omega)) rfl rfl (pav_cons (pev_var 0) (pav_cons (pev_callB call_lenA sim_len rfl g.fr_len rfl (pav_cons (pev_var 1) pav_nil)) pav_nil)) (al_cons (al_cons al_nil)))) pav_nil)) (al_cons (al_cons al_nil))))) pssv_nil)
    (pssv_cons (psv_set sc83.nd (pev_callTy (call_listB rfl) sim_listB rfl g.fr_list rfl (pav_cons (pev_add (pev_slice (pev_var 1) pov_none (pov_some pev_int)) (pev_slice (pev_slice (pev_var 1) (pov_some (pev_call (v48 g) bp48 (hr.mono (by omega)) rfl rfl (pav_cons (pev_var 0) (pav_cons pev_int pav_nil)) (al_cons (al_cons al_nil)))) pov_none) pov_none (pov_some pev_int))) pav_nil)))
    (pssv_cons (psv_for (passes_of rfl) rfl (piv_any (pev_tup (pav_cons (pev_var 1) (pav_cons (pev_listRev rfl rfl g.fr_list rfl g.fr_reversed (pev_var 1)) (pav_cons (pev_var 3) (pav_cons (pev_var 4) (pav_cons (pev_add (pev_slice (pev_var 1) (pov_some pev_int) pov_none) (pev_slice (pev_var 1) pov_none (pov_some pev_int))) (pav_cons (pev_var 1) pav_nil)))))))) (pgv_name sc83.nd) (pssv_one (psv_if (ptv_not (ptv_truth (pev_call (v79 g) bp79 (hr.mono (by omega)) rfl rfl (pav_cons (pev_var 5) pav_nil) (al_cons al_nil)))) (pssv_one (psv_ret pev_bl)) pssv_nil)))
    (pssv_cons (psv_set sc83.nd (pev_callK0 (v42 g) bk42_0_0 rfl (hr.mono (by omega)) rfl (pkv_cons (pev_var 2) pkv_nil)))
    (pssv_cons (psv_if (PWv.pt (pwv_or (ptv_not (ptv_truth (pev_callB call_isiA sim_isi rfl g.fr_isinstance rfl (pav_cons (pev_var 6) (pav_cons (pev_ty rfl g.fr_tuple rfl) pav_nil))))) (pwv_or1 (ptv_cmp (or_ne hr) (sim_neS.orB sim_neD) (pev_callTy (call_listB rfl) sim_listB rfl g.fr_list rfl (pav_cons (pev_var 6) pav_nil)) (pev_lc (own := [("_law_gate", 7)]) rfl sc83.nd (piv_any (pev_var 2)) (blkOk_by (by kernel_rfl)) (by decide) (fun _ _ _ _ _ => (pgc_name sc83.nd)) (fun _ _ _ _ _ => ptsv_nil) (fun _ _ _ _ _ => (pev_ix hr (pev_var 7) pev_int))))))) (pssv_one (psv_ret pev_bl)) pssv_nil)
    (pssv_cons (psv_for (passes_of rfl) rfl (piv_any (pev_var 2)) (pgv_name sc83.nd) (pssv_one (psv_if (ptv_not (ptv_truth (pev_call (v82 g) bp82 (hr.mono (by omega)) rfl rfl (pav_cons (pev_var 0) (pav_cons (pev_var 2) (pav_cons (pev_var 7) pav_nil))) (al_cons (al_cons (al_cons al_nil)))))) (pssv_one (psv_ret pev_bl)) pssv_nil)))
    (pssv_cons (psv_for (passes_of rfl) rfl (piv_any (pev_slice (pev_lc (own := [("_law_told_here", 5)]) rfl sc83.nd (piv_any (pev_var 2)) (blkOk_by (by kernel_rfl)) (by decide) (fun _ _ _ _ _ => (pgc_name sc83.nd)) (fun _ _ _ _ _ => (ptsv_one (ptv_cmp or_gt sim_gt (pev_call (v52 g) bp52 (hr.mono (by omega)) rfl rfl (pav_cons (pev_var 5) pav_nil) (al_cons al_nil)) pev_int))) (fun _ _ _ _ _ => (pev_var 5))) pov_none (pov_some pev_int))) (pgv_name sc83.nd) (pssv_one (psv_if (ptv_not (ptv_truth (pev_call (v73 g) bp73 (hr.mono (by omega)) rfl rfl (pav_cons (pev_var 2) (pav_cons (pev_var 7) pav_nil)) (al_cons (al_cons al_nil))))) (pssv_one (psv_ret pev_bl)) pssv_nil)))
    (pssv_cons (psv_setLc (own := [("_law_gate", 7)]) rfl sc83.nd (piv_any (pev_var 2)) (blkOk_by (by kernel_rfl)) (by decide) (fun _ _ _ _ _ => (pgc_name sc83.nd)) (fun _ _ _ _ _ => ptsv_nil) (fun _ _ _ _ _ => (pev_ix hr (pev_var 7) pev_int)))
    (pssv_cons (psv_for (passes_of rfl) rfl (piv_range1 rfl g.fr_range (pav_cons pev_int pav_nil) (al_cons al_nil)) (pgv_name sc83.nd) (pssv_one (psv_for (passes_of rfl) rfl (piv_any (pev_tup (pav_cons pev_str (pav_cons pev_str (pav_cons pev_non (pav_cons pev_bl (pav_cons (pev_tup (pav_cons pev_str pav_nil)) (pav_cons (pev_lst (pav_cons pev_str pav_nil)) (pav_cons pev_int (pav_cons pev_str (pav_cons pev_str pav_nil))))))))))) (pgv_name sc83.nd) (pssv_one (psv_if (PWv.pt (pwv_and (ptv_cmp (or_notin hr) sim_in (pev_var 7) (pev_var 8)) (pwv_and1 (ptv_not (ptv_truth (pev_call (v75 g) bp75 (hr.mono (by omega)) rfl rfl (pav_cons (pev_call (v80 g) bp80 (hr.mono (by omega)) rfl rfl (pav_cons (pev_var 2) (pav_cons (pev_var 9) (pav_cons (pev_var 7) (pav_cons (pev_lst (pav_cons pev_int pav_nil)) pav_nil)))) (al_cons (al_cons (al_cons (al_cons al_nil))))) (pav_cons (pev_tup (pav_cons pev_bl (pav_cons pev_str (pav_cons (pev_neg pev_int) pav_nil)))) pav_nil)) (al_cons (al_cons al_nil)))))))) (pssv_one (psv_ret pev_bl)) pssv_nil)))))
    (pssv_one (psv_ret (pev_call (v72 g) bp72 (hr.mono (by omega)) rfl rfl (pav_cons (pev_var 0) (pav_cons (pev_var 2) pav_nil)) (al_cons (al_cons al_nil)))))))))))))))))
theorem v83 (g : G0 P w K mg base) : FnV P w K mg base s83 "_law_lots" [] ["_law_row"] 114 F83 := by
  obtain ⟨fd, hF, hm⟩ := g.d83
  exact fnv_defL (k := 113) hF hm sc83 finOk (fun A outer s H E hr => b83 g hr)
/-! law -/
theorem b84 (g : G0 P w K mg base) {f : Addr} {cd : Value} {A : Around} {outer : List Env} {s : Shared} {H : Hp} {E : XK} (hr : Room 114 (A.deeper (envOfC "law" (defScope s84) s.heap.objs.size f cd))) :
    PSsv (XC P w K mg base N84 "law" (defScope s84) f cd A outer s H E) (defBody s84) t84 :=
  (pssv_cons (psv_set sc84.nd (pev_call (v47 g) bp47 (hr.mono (by omega)) rfl rfl (pav_cons (pev_var 0) pav_nil) (al_cons al_nil)))
    (pssv_one (psv_ret (pev_and (pev_call (v83 g) bp83 (hr.mono (by omega)) rfl rfl (pav_cons (pev_var 1) pav_nil) (al_cons al_nil)) (pev_and (pev_call (v76 g) bp76 (hr.mono (by omega)) rfl rfl (pav_cons (pev_var 1) pav_nil) (al_cons al_nil)) (pev_one (pev_call (v70 g) bp70 (hr.mono (by omega)) rfl rfl (pav_cons (pev_var 1) pav_nil) (al_cons al_nil))))))))
theorem v84 (g : G0 P w K mg base) : FnV P w K mg base s84 "law" [] ["_law_script"] 115 F84 := by
  obtain ⟨f, fd, hF, hm⟩ := g.d84
  exact fnv_def (k := 114) hF hm sc84 finOk (fun cd A outer s H E hr => b84 g hr)
end
end QB
set_option maxHeartbeats 0
namespace QB
open PySem PySem.Spec PySem.Calls PyProof.Rows L2
/-! the head -/
def fnL0 : List He.DefD := [⟨("bit_form", none), "bit_form", "bit_form", defArgs s11, defBody s11, defScope s11, [], []⟩,
  ⟨("bits_form", none), "bits_form", "bits_form", defArgs s12, defBody s12, defScope s12, [], []⟩,
  ⟨("name_form", none), "name_form", "name_form", defArgs s13, defBody s13, defScope s13, [], []⟩,
  ⟨("gate_name_form", none), "gate_name_form", "gate_name_form", defArgs s14, defBody s14, defScope s14, [], []⟩,
  ⟨("rows_form", none), "rows_form", "rows_form", defArgs s15, defBody s15, defScope s15, [], []⟩,
  ⟨("gate_fault", none), "gate_fault", "gate_fault", defArgs s16, defBody s16, defScope s16, [], []⟩,
  ⟨("lot_fault", none), "lot_fault", "lot_fault", defArgs s17, defBody s17, defScope s17, [], []⟩,
  ⟨("inputs_for", none), "inputs_for", "inputs_for", defArgs s18, defBody s18, defScope s18, [], []⟩,
  ⟨("gate_sizes", none), "gate_sizes", "gate_sizes", defArgs s19, defBody s19, defScope s19, [], []⟩,
  ⟨("gate_tables", none), "gate_tables", "gate_tables", defArgs s20, defBody s20, defScope s20, [], []⟩,
  ⟨("term_form", none), "term_form", "term_form", defArgs s21, defBody s21, defScope s21, [.int 0], []⟩,
  ⟨("equation_form", none), "equation_form", "equation_form", defArgs s22, defBody s22, defScope s22, [], []⟩]
def fnL1 : List He.DefD := [⟨("facts_form", none), "facts_form", "facts_form", defArgs s23, defBody s23, defScope s23, [], []⟩,
  ⟨("claim_form", none), "claim_form", "claim_form", defArgs s24, defBody s24, defScope s24, [], []⟩,
  ⟨("puts_form", none), "puts_form", "puts_form", defArgs s25, defBody s25, defScope s25, [], []⟩,
  ⟨("need_gate", none), "need_gate", "need_gate", defArgs s26, defBody s26, defScope s26, [], []⟩,
  ⟨("need_bits", none), "need_bits", "need_bits", defArgs s27, defBody s27, defScope s27, [], []⟩,
  ⟨("lets_lot", none), "lets_lot", "lets_lot", defArgs s29, defBody s29, defScope s29, [], []⟩,
  ⟨("is_bit", none), "is_bit", "is_bit", defArgs s31, defBody s31, defScope s31, [], []⟩,
  ⟨("is_name", none), "is_name", "is_name", defArgs s32, defBody s32, defScope s32, [], []⟩,
  ⟨("is_gate_name", none), "is_gate_name", "is_gate_name", defArgs s33, defBody s33, defScope s33, [], []⟩,
  ⟨("is_lot", none), "is_lot", "is_lot", defArgs s34, defBody s34, defScope s34, [], []⟩,
  ⟨("is_term", none), "is_term", "is_term", defArgs s35, defBody s35, defScope s35, [], []⟩,
  ⟨("is_equation", none), "is_equation", "is_equation", defArgs s36, defBody s36, defScope s36, [], []⟩]
def fnL2 : List He.DefD := [⟨("is_facts", none), "is_facts", "is_facts", defArgs s37, defBody s37, defScope s37, [], []⟩,
  ⟨("is_claim", none), "is_claim", "is_claim", defArgs s38, defBody s38, defScope s38, [], []⟩,
  ⟨("is_puts", none), "is_puts", "is_puts", defArgs s39, defBody s39, defScope s39, [], []⟩,
  ⟨("lot_of", none), "lot_of", "lot_of", defArgs s41, defBody s41, defScope s41, [], []⟩,
  ⟨("gates_of", none), "gates_of", "gates_of", defArgs s42, defBody s42, defScope s42, [], []⟩,
  ⟨("inputs_of", none), "inputs_of", "inputs_of", defArgs s43, defBody s43, defScope s43, [], []⟩,
  ⟨("rows_of", none), "rows_of", "rows_of", defArgs s44, defBody s44, defScope s44, [], []⟩,
  ⟨("answer_of", none), "answer_of", "answer_of", defArgs s45, defBody s45, defScope s45, [], []⟩,
  ⟨("_law_draws", none), "_law_draws", "_law_draws", defArgs s47, defBody s47, defScope s47, [], []⟩,
  ⟨("_law_take", none), "_law_take", "_law_take", defArgs s48, defBody s48, defScope s48, [], []⟩,
  ⟨("_law_bits", none), "_law_bits", "_law_bits", defArgs s49, defBody s49, defScope s49, [], []⟩,
  ⟨("_law_gate_word", none), "_law_gate_word", "_law_gate_word", defArgs s50, defBody s50, defScope s50, [], []⟩]
def fnL3 : List He.DefD := [⟨("_law_gates", none), "_law_gates", "_law_gates", defArgs s51, defBody s51, defScope s51, [], []⟩,
  ⟨("_law_inputs", none), "_law_inputs", "_law_inputs", defArgs s52, defBody s52, defScope s52, [], []⟩,
  ⟨("_law_name", none), "_law_name", "_law_name", defArgs s53, defBody s53, defScope s53, [], []⟩,
  ⟨("_law_term", none), "_law_term", "_law_term", defArgs s54, defBody s54, defScope s54, [], []⟩,
  ⟨("_law_is_bit", none), "_law_is_bit", "_law_is_bit", defArgs s55, defBody s55, defScope s55, [], []⟩,
  ⟨("_law_is_name", none), "_law_is_name", "_law_is_name", defArgs s56, defBody s56, defScope s56, [], []⟩,
  ⟨("_law_is_word", none), "_law_is_word", "_law_is_word", defArgs s57, defBody s57, defScope s57, [], []⟩,
  ⟨("_law_is_rows", none), "_law_is_rows", "_law_is_rows", defArgs s58, defBody s58, defScope s58, [], []⟩,
  ⟨("_law_gate_fault", none), "_law_gate_fault", "_law_gate_fault", defArgs s59, defBody s59, defScope s59, [], []⟩,
  ⟨("_law_lot_due", none), "_law_lot_due", "_law_lot_due", defArgs s60, defBody s60, defScope s60, [], []⟩,
  ⟨("_law_is_term", none), "_law_is_term", "_law_is_term", defArgs s61, defBody s61, defScope s61, [], []⟩,
  ⟨("_law_is_equation", none), "_law_is_equation", "_law_is_equation", defArgs s62, defBody s62, defScope s62, [], []⟩]
def fnL4 : List He.DefD := [⟨("_law_is_facts", none), "_law_is_facts", "_law_is_facts", defArgs s63, defBody s63, defScope s63, [], []⟩,
  ⟨("_law_is_claim", none), "_law_is_claim", "_law_is_claim", defArgs s64, defBody s64, defScope s64, [], []⟩,
  ⟨("_law_is_puts", none), "_law_is_puts", "_law_is_puts", defArgs s65, defBody s65, defScope s65, [], []⟩,
  ⟨("_law_odd", none), "_law_odd", "_law_odd", defArgs s66, defBody s66, defScope s66, [], []⟩,
  ⟨("_law_bent", none), "_law_bent", "_law_bent", defArgs s67, defBody s67, defScope s67, [], []⟩,
  ⟨("_law_told", none), "_law_told", "_law_told", defArgs s68, defBody s68, defScope s68, [], []⟩,
  ⟨("_law_single_kinds", none), "_law_single_kinds", "_law_single_kinds", defArgs s69, defBody s69, defScope s69, [], []⟩,
  ⟨("_law_singles", none), "_law_singles", "_law_singles", defArgs s70, defBody s70, defScope s70, [], []⟩,
  ⟨("_law_term_kinds", none), "_law_term_kinds", "_law_term_kinds", defArgs s71, defBody s71, defScope s71, [], []⟩,
  ⟨("_law_terms", none), "_law_terms", "_law_terms", defArgs s72, defBody s72, defScope s72, [], []⟩,
  ⟨("_law_deep", none), "_law_deep", "_law_deep", defArgs s73, defBody s73, defScope s73, [], []⟩,
  ⟨("_law_lets", none), "_law_lets", "_law_lets", defArgs s74, defBody s74, defScope s74, [], []⟩]
def fnL5 : List He.DefD := [⟨("_law_same", none), "_law_same", "_law_same", defArgs s75, defBody s75, defScope s75, [], []⟩,
  ⟨("_law_checked", none), "_law_checked", "_law_checked", defArgs s76, defBody s76, defScope s76, [], []⟩,
  ⟨("_law_made", none), "_law_made", "_law_made", defArgs s77, defBody s77, defScope s77, [], []⟩,
  ⟨("_law_made_due", none), "_law_made_due", "_law_made_due", defArgs s78, defBody s78, defScope s78, [], []⟩,
  ⟨("_law_made_so", none), "_law_made_so", "_law_made_so", defArgs s79, defBody s79, defScope s79, [], []⟩,
  ⟨("_law_asked", none), "_law_asked", "_law_asked", defArgs s80, defBody s80, defScope s80, [], []⟩,
  ⟨("_law_number", none), "_law_number", "_law_number", defArgs s81, defBody s81, defScope s81, [], []⟩,
  ⟨("_law_gate_asked", none), "_law_gate_asked", "_law_gate_asked", defArgs s82, defBody s82, defScope s82, [], []⟩,
  ⟨("_law_lots", none), "_law_lots", "_law_lots", defArgs s83, defBody s83, defScope s83, [], []⟩,
  ⟨("law", none), "law", "law", defArgs s84, defBody s84, defScope s84, [], []⟩,
  ⟨("InvalidPaper", some "__init__"), "__init__", "InvalidPaper.__init__", defArgs (initSt (top 4)), defBody (initSt (top 4)), defScope (initSt (top 4)), [], []⟩,
  ⟨("NotUsable", some "__init__"), "__init__", "NotUsable.__init__", defArgs (initSt (top 5)), defBody (initSt (top 5)), defScope (initSt (top 5)), [], []⟩]
def fnL : List He.DefD := fnL0 ++ (fnL1 ++ (fnL2 ++ (fnL3 ++ (fnL4 ++ (fnL5)))))
def faL0 : List He.Fa := [.free "abs",
  .free "all",
  .free "bool",
  .free "enumerate",
  .free "int",
  .free "isinstance",
  .free "len",
  .free "list",
  .free "range",
  .free "reversed",
  .free "sorted",
  .free "str"]
def faL1 : List He.Fa := [.free "tuple",
  .free "zip",
  .glo "bit_form",
  .glo "bits_form",
  .glo "name_form",
  .glo "gate_name_form",
  .glo "rows_form",
  .glo "gate_fault",
  .glo "lot_fault",
  .glo "inputs_for",
  .glo "gate_sizes",
  .glo "gate_tables"]
def faL2 : List He.Fa := [.glo "term_form",
  .glo "equation_form",
  .glo "facts_form",
  .glo "claim_form",
  .glo "puts_form",
  .glo "need_gate",
  .glo "need_bits",
  .glo "lets_lot",
  .glo "is_bit",
  .glo "is_name",
  .glo "is_gate_name",
  .glo "is_lot"]
def faL3 : List He.Fa := [.glo "is_term",
  .glo "is_equation",
  .glo "is_facts",
  .glo "is_claim",
  .glo "is_puts",
  .glo "lot_of",
  .glo "gates_of",
  .glo "inputs_of",
  .glo "rows_of",
  .glo "answer_of",
  .glo "_law_draws",
  .glo "_law_take"]
def faL4 : List He.Fa := [.glo "_law_bits",
  .glo "_law_gate_word",
  .glo "_law_gates",
  .glo "_law_inputs",
  .glo "_law_name",
  .glo "_law_term",
  .glo "_law_is_bit",
  .glo "_law_is_name",
  .glo "_law_is_word",
  .glo "_law_is_rows",
  .glo "_law_gate_fault",
  .glo "_law_lot_due"]
def faL5 : List He.Fa := [.glo "_law_is_term",
  .glo "_law_is_equation",
  .glo "_law_is_facts",
  .glo "_law_is_claim",
  .glo "_law_is_puts",
  .glo "_law_odd",
  .glo "_law_bent",
  .glo "_law_told",
  .glo "_law_single_kinds",
  .glo "_law_singles",
  .glo "_law_term_kinds",
  .glo "_law_terms"]
def faL6 : List He.Fa := [.glo "_law_deep",
  .glo "_law_lets",
  .glo "_law_same",
  .glo "_law_checked",
  .glo "_law_made",
  .glo "_law_made_due",
  .glo "_law_made_so",
  .glo "_law_asked",
  .glo "_law_number",
  .glo "_law_gate_asked",
  .glo "_law_lots",
  .glo "law"]
def faL7 : List He.Fa := [.glo "InvalidPaper",
  .glo "NotUsable",
  .int "DEEPEST" 100,
  .str "FIGURES" "0123456789",
  .str "LETTERS" "abcdefghijklmnopqrstuvwxyz",
  .glo "ROW_COUNTS"]
def faL : List He.Fa := faL0 ++ (faL1 ++ (faL2 ++ (faL3 ++ (faL4 ++ (faL5 ++ (faL6 ++ (faL7)))))))
def tfL : List (Str × Option Str) := [("_law_checked", none), ("_law_made_due", none), ("_law_lots", none)]
def exB (K : PySem.W.Frag) : Bool := ktB K "ROW_COUNTS" [.int 1, .int 2, .int 4, .int 8, .int 16, .int 32] && (ecB K "InvalidPaper" ["word", "at"] && (ecB K "NotUsable" ["word", "at"] && (decide (PySem.W.exmOne K (.ref (He.ga K "InvalidPaper")) (.ref (He.ga K "InvalidPaper")) = some true) && (decide (PySem.W.exmOne K (.ref (He.ga K "NotUsable")) (.ref (He.ga K "InvalidPaper")) = some false) && (decide (PySem.W.exmOne K (.ref (He.ga K "InvalidPaper")) (.ref (He.ga K "NotUsable")) = some false) && (decide (PySem.W.exmOne K (.ref (He.ga K "NotUsable")) (.ref (He.ga K "NotUsable")) = some true) && (tblB K)))))))
def nmL0 : List Str := ["QuietError",
  "PaperError",
  "LotError",
  "InvalidPaper",
  "NotUsable",
  "LETTERS",
  "FIGURES",
  "ROW_COUNTS",
  "DEEPEST",
  "bit_form",
  "bits_form",
  "name_form",
  "gate_name_form",
  "rows_form",
  "gate_fault",
  "lot_fault",
  "inputs_for",
  "gate_sizes",
  "gate_tables",
  "term_form",
  "equation_form",
  "facts_form",
  "claim_form",
  "puts_form",
  "need_gate",
  "need_bits",
  "lets_lot",
  "is_bit",
  "is_name",
  "is_gate_name"]
def nmL1 : List Str := ["is_lot",
  "is_term",
  "is_equation",
  "is_facts",
  "is_claim",
  "is_puts",
  "lot_of",
  "gates_of",
  "inputs_of",
  "rows_of",
  "answer_of",
  "_law_draws",
  "_law_take",
  "_law_bits",
  "_law_gate_word",
  "_law_gates",
  "_law_inputs",
  "_law_name",
  "_law_term",
  "_law_is_bit",
  "_law_is_name",
  "_law_is_word",
  "_law_is_rows",
  "_law_gate_fault",
  "_law_lot_due",
  "_law_is_term",
  "_law_is_equation",
  "_law_is_facts",
  "_law_is_claim",
  "_law_is_puts"]
def nmL2 : List Str := ["_law_odd",
  "_law_bent",
  "_law_told",
  "_law_single_kinds",
  "_law_singles",
  "_law_term_kinds",
  "_law_terms",
  "_law_deep",
  "_law_lets",
  "_law_same",
  "_law_checked",
  "_law_made",
  "_law_made_due",
  "_law_made_so",
  "_law_asked",
  "_law_number",
  "_law_gate_asked",
  "_law_lots"]
def nmL : List Str := nmL0 ++ (nmL1 ++ (nmL2))
abbrev RR : PySem.W.OpenRow := PySem.W.OpenLaw.row PySem.Challenge.rw_quietbit_k00_kinds_and_the_lot_checker
abbrev qV : Program := PySem.W.view RR.prog [84]
abbrev hkX : PySem.W.Hook := He.hookX 6 faL fnL [] tfL exB
def obX (s : PySem.W.SharedT) : He.AlX := He.obsX 6 faL fnL [] tfL exB (HandSHeadRun.getT s)
theorem obX_eq (s : PySem.W.SharedT) : obX s = hkX.obs s.abs := He.obsX_eq (HandSHeadRun.getT_eq s)
theorem runX (w : World) : HandSHeadRun.RunEq RR qV hkX obX 4000 nmL w := by
  intro os
  kernel_rfl
section
variable {P : Program} {w : World} {K : PySem.W.Frag} {h base : Heap} {mg : Str → Option Value}
theorem g0 (X : K.In h) (G : h.Ns mainGlobals mg) (c : He.SaysX faL fnL [] tfL exB w h K) (hT : ∀ p ∈ tfL.map (He.cT K), LamX.TabB base mg p.1 p.2) : G0 P w K mg base := by
  have fa : ∀ (i : Nat) (f : He.Fa), faL[i]? = some f → f.ok K = true := fun i f h => c.t.d.fact i h
  have fd : ∀ (i : Nat) (d : He.DefD), fnL[i]? = some d → ∃ fd, FunD K d.name d.qual d.params d.body d.scope (d.dvs K) (d.kws K) (He.fAd K d.at_) fd := fun i d h => c.t.d.def_ i h
  have e := c.more
  unfold exB at e
  obtain ⟨e_kt_ROW_COUNTS, e⟩ := and_t e
  obtain ⟨e_ec_InvalidPaper, e⟩ := and_t e
  obtain ⟨e_ec_NotUsable, e⟩ := and_t e
  obtain ⟨e_xm_InvalidPaper_InvalidPaper, e⟩ := and_t e
  obtain ⟨e_xm_InvalidPaper_NotUsable, e⟩ := and_t e
  obtain ⟨e_xm_NotUsable_InvalidPaper, e⟩ := and_t e
  obtain ⟨e_xm_NotUsable_NotUsable, e⟩ := and_t e
  have e_tbl := e
  have m_InvalidPaper : mg "InvalidPaper" = some (.ref (He.ga K "InvalidPaper")) := He.glo_ok X G (fa 84 _ rfl)
  have m_NotUsable : mg "NotUsable" = some (.ref (He.ga K "NotUsable")) := He.glo_ok X G (fa 85 _ rfl)
  obtain ⟨h1_InvalidPaper, h2_InvalidPaper⟩ := and_t (show (oexB K (He.ga K "InvalidPaper") && _) = true from e_ec_InvalidPaper)
  obtain ⟨h2_InvalidPaper, h3_InvalidPaper⟩ := and_t h2_InvalidPaper
  obtain ⟨h3_InvalidPaper, h4_InvalidPaper⟩ := and_t h3_InvalidPaper
  obtain ⟨h4_InvalidPaper, h5_InvalidPaper⟩ := and_t h4_InvalidPaper
  have n1_InvalidPaper : PySem.W.findIn K (.ref (He.ga K "InvalidPaper")) "word" = some none := of_decide_eq_true (List.all_eq_true.mp h5_InvalidPaper "word" (by decide))
  have n2_InvalidPaper : PySem.W.findIn K (.ref (He.ga K "InvalidPaper")) "at" = some none := of_decide_eq_true (List.all_eq_true.mp h5_InvalidPaper "at" (by decide))
  obtain ⟨h1_NotUsable, h2_NotUsable⟩ := and_t (show (oexB K (He.ga K "NotUsable") && _) = true from e_ec_NotUsable)
  obtain ⟨h2_NotUsable, h3_NotUsable⟩ := and_t h2_NotUsable
  obtain ⟨h3_NotUsable, h4_NotUsable⟩ := and_t h3_NotUsable
  obtain ⟨h4_NotUsable, h5_NotUsable⟩ := and_t h4_NotUsable
  have n1_NotUsable : PySem.W.findIn K (.ref (He.ga K "NotUsable")) "word" = some none := of_decide_eq_true (List.all_eq_true.mp h5_NotUsable "word" (by decide))
  have n2_NotUsable : PySem.W.findIn K (.ref (He.ga K "NotUsable")) "at" = some none := of_decide_eq_true (List.all_eq_true.mp h5_NotUsable "at" (by decide))
  constructor
  case fr_abs => exact He.free_ok X G (fa 0 _ rfl)
  case fr_all => exact He.free_ok X G (fa 1 _ rfl)
  case fr_bool => exact He.free_ok X G (fa 2 _ rfl)
  case fr_enumerate => exact He.free_ok X G (fa 3 _ rfl)
  case fr_int => exact He.free_ok X G (fa 4 _ rfl)
  case fr_isinstance => exact He.free_ok X G (fa 5 _ rfl)
  case fr_len => exact He.free_ok X G (fa 6 _ rfl)
  case fr_list => exact He.free_ok X G (fa 7 _ rfl)
  case fr_range => exact He.free_ok X G (fa 8 _ rfl)
  case fr_reversed => exact He.free_ok X G (fa 9 _ rfl)
  case fr_sorted => exact He.free_ok X G (fa 10 _ rfl)
  case fr_str => exact He.free_ok X G (fa 11 _ rfl)
  case fr_tuple => exact He.free_ok X G (fa 12 _ rfl)
  case fr_zip => exact He.free_ok X G (fa 13 _ rfl)
  case c_DEEPEST => exact He.int_ok X G (fa 86 _ rfl)
  case c_FIGURES => exact He.str_ok X G (fa 87 _ rfl)
  case c_LETTERS => exact He.str_ok X G (fa 88 _ rfl)
  case c_ROW_COUNTS => exact ⟨_, _, He.glo_ok X G (fa 89 _ rfl), ktB_ok e_kt_ROW_COUNTS, fun m H => (.cons (.int _) (.cons (.int _) (.cons (.int _) (.cons (.int _) (.cons (.int _) (.cons (.int _) .nil))))))⟩
  case e_InvalidPaper =>
    obtain ⟨fd1, F1⟩ := fd 70 _ rfl
    exact ecV_of (st := top 4) m_InvalidPaper (oexB_ok h1_InvalidPaper) (xfB_ok h2_InvalidPaper) n1_InvalidPaper n2_InvalidPaper (of_decide_eq_true h3_InvalidPaper) (of_decide_eq_true h4_InvalidPaper) F1 (C8.fnScope_by (by kernel_rfl)) rfl rfl (by decide) (by decide) (by decide) (by decide) rfl rfl
      (FunD.bindsN F1 fun _ _ _ _ _ _ us hl => match us, hl with | [_, _, _], _ => rfl)
  case e_NotUsable =>
    obtain ⟨fd1, F1⟩ := fd 71 _ rfl
    exact ecV_of (st := top 5) m_NotUsable (oexB_ok h1_NotUsable) (xfB_ok h2_NotUsable) n1_NotUsable n2_NotUsable (of_decide_eq_true h3_NotUsable) (of_decide_eq_true h4_NotUsable) F1 (C8.fnScope_by (by kernel_rfl)) rfl rfl (by decide) (by decide) (by decide) (by decide) rfl rfl
      (FunD.bindsN F1 fun _ _ _ _ _ _ us hl => match us, hl with | [_, _, _], _ => rfl)
  case m_InvalidPaper => exact m_InvalidPaper
  case mt_InvalidPaper =>
    intro p hp C hC
    simp only [List.mem_cons, List.not_mem_nil, or_false] at hp
    rcases hp with rfl | rfl
    · cases (hC.symm.trans m_InvalidPaper)
      exact of_decide_eq_true e_xm_InvalidPaper_InvalidPaper
    · cases (hC.symm.trans m_NotUsable)
      exact of_decide_eq_true e_xm_InvalidPaper_NotUsable
  case gx_InvalidPaper =>
    intro cc C hC hm
    simp only [List.mem_cons, List.not_mem_nil, or_false, Prod.mk.injEq] at hm
    rcases hm with ⟨rfl, hb⟩ | ⟨rfl, hb⟩
    · cases (hC.symm.trans m_InvalidPaper)
      refine ⟨xfB_ok h2_InvalidPaper, fun f hf => ?_⟩
      simp only [List.mem_cons, List.not_mem_nil, or_false] at hf
      rcases hf with rfl | rfl
      · exact n1_InvalidPaper
      · exact n2_InvalidPaper
    · cases hb
  case m_NotUsable => exact m_NotUsable
  case mt_NotUsable =>
    intro p hp C hC
    simp only [List.mem_cons, List.not_mem_nil, or_false] at hp
    rcases hp with rfl | rfl
    · cases (hC.symm.trans m_InvalidPaper)
      exact of_decide_eq_true e_xm_NotUsable_InvalidPaper
    · cases (hC.symm.trans m_NotUsable)
      exact of_decide_eq_true e_xm_NotUsable_NotUsable
  case gx_NotUsable =>
    intro cc C hC hm
    simp only [List.mem_cons, List.not_mem_nil, or_false, Prod.mk.injEq] at hm
    rcases hm with ⟨rfl, hb⟩ | ⟨rfl, hb⟩
    · cases hb
    · cases (hC.symm.trans m_NotUsable)
      refine ⟨xfB_ok h2_NotUsable, fun f hf => ?_⟩
      simp only [List.mem_cons, List.not_mem_nil, or_false] at hf
      rcases hf with rfl | rfl
      · exact n1_NotUsable
      · exact n2_NotUsable
  case tbl => exact e_tbl
  case d11 =>
    obtain ⟨fd1, F1⟩ := fd 0 _ rfl
    exact ⟨_, fd1, F1, He.glo_ok X G (fa 14 _ rfl)⟩
  case d12 =>
    obtain ⟨fd1, F1⟩ := fd 1 _ rfl
    exact ⟨_, fd1, F1, He.glo_ok X G (fa 15 _ rfl)⟩
  case d13 =>
    obtain ⟨fd1, F1⟩ := fd 2 _ rfl
    exact ⟨_, fd1, F1, He.glo_ok X G (fa 16 _ rfl)⟩
  case d14 =>
    obtain ⟨fd1, F1⟩ := fd 3 _ rfl
    exact ⟨_, fd1, F1, He.glo_ok X G (fa 17 _ rfl)⟩
  case d15 =>
    obtain ⟨fd1, F1⟩ := fd 4 _ rfl
    exact ⟨_, fd1, F1, He.glo_ok X G (fa 18 _ rfl)⟩
  case d16 =>
    obtain ⟨fd1, F1⟩ := fd 5 _ rfl
    exact ⟨_, fd1, F1, He.glo_ok X G (fa 19 _ rfl)⟩
  case d17 =>
    obtain ⟨fd1, F1⟩ := fd 6 _ rfl
    exact ⟨_, fd1, F1, He.glo_ok X G (fa 20 _ rfl)⟩
  case d18 =>
    obtain ⟨fd1, F1⟩ := fd 7 _ rfl
    exact ⟨_, fd1, F1, He.glo_ok X G (fa 21 _ rfl)⟩
  case d19 =>
    obtain ⟨fd1, F1⟩ := fd 8 _ rfl
    exact ⟨_, fd1, F1, He.glo_ok X G (fa 22 _ rfl)⟩
  case d20 =>
    obtain ⟨fd1, F1⟩ := fd 9 _ rfl
    exact ⟨_, fd1, F1, He.glo_ok X G (fa 23 _ rfl)⟩
  case d21 =>
    obtain ⟨fd1, F1⟩ := fd 10 _ rfl
    exact ⟨_, fd1, F1, He.glo_ok X G (fa 24 _ rfl)⟩
  case d22 =>
    obtain ⟨fd1, F1⟩ := fd 11 _ rfl
    exact ⟨_, fd1, F1, He.glo_ok X G (fa 25 _ rfl)⟩
  case d23 =>
    obtain ⟨fd1, F1⟩ := fd 12 _ rfl
    exact ⟨_, fd1, F1, He.glo_ok X G (fa 26 _ rfl)⟩
  case d24 =>
    obtain ⟨fd1, F1⟩ := fd 13 _ rfl
    exact ⟨_, fd1, F1, He.glo_ok X G (fa 27 _ rfl)⟩
  case d25 =>
    obtain ⟨fd1, F1⟩ := fd 14 _ rfl
    exact ⟨_, fd1, F1, He.glo_ok X G (fa 28 _ rfl)⟩
  case d26 =>
    obtain ⟨fd1, F1⟩ := fd 15 _ rfl
    exact ⟨_, fd1, F1, He.glo_ok X G (fa 29 _ rfl)⟩
  case d27 =>
    obtain ⟨fd1, F1⟩ := fd 16 _ rfl
    exact ⟨_, fd1, F1, He.glo_ok X G (fa 30 _ rfl)⟩
  case d29 =>
    obtain ⟨fd1, F1⟩ := fd 17 _ rfl
    exact ⟨_, fd1, F1, He.glo_ok X G (fa 31 _ rfl)⟩
  case d31 =>
    obtain ⟨fd1, F1⟩ := fd 18 _ rfl
    exact ⟨_, fd1, F1, He.glo_ok X G (fa 32 _ rfl)⟩
  case d32 =>
    obtain ⟨fd1, F1⟩ := fd 19 _ rfl
    exact ⟨_, fd1, F1, He.glo_ok X G (fa 33 _ rfl)⟩
  case d33 =>
    obtain ⟨fd1, F1⟩ := fd 20 _ rfl
    exact ⟨_, fd1, F1, He.glo_ok X G (fa 34 _ rfl)⟩
  case d34 =>
    obtain ⟨fd1, F1⟩ := fd 21 _ rfl
    exact ⟨_, fd1, F1, He.glo_ok X G (fa 35 _ rfl)⟩
  case d35 =>
    obtain ⟨fd1, F1⟩ := fd 22 _ rfl
    exact ⟨_, fd1, F1, He.glo_ok X G (fa 36 _ rfl)⟩
  case d36 =>
    obtain ⟨fd1, F1⟩ := fd 23 _ rfl
    exact ⟨_, fd1, F1, He.glo_ok X G (fa 37 _ rfl)⟩
  case d37 =>
    obtain ⟨fd1, F1⟩ := fd 24 _ rfl
    exact ⟨_, fd1, F1, He.glo_ok X G (fa 38 _ rfl)⟩
  case d38 =>
    obtain ⟨fd1, F1⟩ := fd 25 _ rfl
    exact ⟨_, fd1, F1, He.glo_ok X G (fa 39 _ rfl)⟩
  case d39 =>
    obtain ⟨fd1, F1⟩ := fd 26 _ rfl
    exact ⟨_, fd1, F1, He.glo_ok X G (fa 40 _ rfl)⟩
  case d41 =>
    obtain ⟨fd1, F1⟩ := fd 27 _ rfl
    exact ⟨_, fd1, F1, He.glo_ok X G (fa 41 _ rfl)⟩
  case d42 =>
    obtain ⟨fd1, F1⟩ := fd 28 _ rfl
    exact ⟨_, fd1, F1, He.glo_ok X G (fa 42 _ rfl)⟩
  case d43 =>
    obtain ⟨fd1, F1⟩ := fd 29 _ rfl
    exact ⟨_, fd1, F1, He.glo_ok X G (fa 43 _ rfl)⟩
  case d44 =>
    obtain ⟨fd1, F1⟩ := fd 30 _ rfl
    exact ⟨_, fd1, F1, He.glo_ok X G (fa 44 _ rfl)⟩
  case d45 =>
    obtain ⟨fd1, F1⟩ := fd 31 _ rfl
    exact ⟨_, fd1, F1, He.glo_ok X G (fa 45 _ rfl)⟩
  case d47 =>
    obtain ⟨fd1, F1⟩ := fd 32 _ rfl
    exact ⟨_, fd1, F1, He.glo_ok X G (fa 46 _ rfl)⟩
  case d48 =>
    obtain ⟨fd1, F1⟩ := fd 33 _ rfl
    exact ⟨_, fd1, F1, He.glo_ok X G (fa 47 _ rfl)⟩
  case d49 =>
    obtain ⟨fd1, F1⟩ := fd 34 _ rfl
    exact ⟨_, fd1, F1, He.glo_ok X G (fa 48 _ rfl)⟩
  case d50 =>
    obtain ⟨fd1, F1⟩ := fd 35 _ rfl
    exact ⟨_, fd1, F1, He.glo_ok X G (fa 49 _ rfl)⟩
  case d51 =>
    obtain ⟨fd1, F1⟩ := fd 36 _ rfl
    exact ⟨_, fd1, F1, He.glo_ok X G (fa 50 _ rfl)⟩
  case d52 =>
    obtain ⟨fd1, F1⟩ := fd 37 _ rfl
    exact ⟨_, fd1, F1, He.glo_ok X G (fa 51 _ rfl)⟩
  case d53 =>
    obtain ⟨fd1, F1⟩ := fd 38 _ rfl
    exact ⟨_, fd1, F1, He.glo_ok X G (fa 52 _ rfl)⟩
  case d54 =>
    obtain ⟨fd1, F1⟩ := fd 39 _ rfl
    exact ⟨_, fd1, F1, He.glo_ok X G (fa 53 _ rfl)⟩
  case d55 =>
    obtain ⟨fd1, F1⟩ := fd 40 _ rfl
    exact ⟨_, fd1, F1, He.glo_ok X G (fa 54 _ rfl)⟩
  case d56 =>
    obtain ⟨fd1, F1⟩ := fd 41 _ rfl
    exact ⟨_, fd1, F1, He.glo_ok X G (fa 55 _ rfl)⟩
  case d57 =>
    obtain ⟨fd1, F1⟩ := fd 42 _ rfl
    exact ⟨_, fd1, F1, He.glo_ok X G (fa 56 _ rfl)⟩
  case d58 =>
    obtain ⟨fd1, F1⟩ := fd 43 _ rfl
    exact ⟨_, fd1, F1, He.glo_ok X G (fa 57 _ rfl)⟩
  case d59 =>
    obtain ⟨fd1, F1⟩ := fd 44 _ rfl
    exact ⟨_, fd1, F1, He.glo_ok X G (fa 58 _ rfl)⟩
  case d60 =>
    obtain ⟨fd1, F1⟩ := fd 45 _ rfl
    exact ⟨_, fd1, F1, He.glo_ok X G (fa 59 _ rfl)⟩
  case d61 =>
    obtain ⟨fd1, F1⟩ := fd 46 _ rfl
    exact ⟨_, fd1, F1, He.glo_ok X G (fa 60 _ rfl)⟩
  case d62 =>
    obtain ⟨fd1, F1⟩ := fd 47 _ rfl
    exact ⟨_, fd1, F1, He.glo_ok X G (fa 61 _ rfl)⟩
  case d63 =>
    obtain ⟨fd1, F1⟩ := fd 48 _ rfl
    exact ⟨_, fd1, F1, He.glo_ok X G (fa 62 _ rfl)⟩
  case d64 =>
    obtain ⟨fd1, F1⟩ := fd 49 _ rfl
    exact ⟨_, fd1, F1, He.glo_ok X G (fa 63 _ rfl)⟩
  case d65 =>
    obtain ⟨fd1, F1⟩ := fd 50 _ rfl
    exact ⟨_, fd1, F1, He.glo_ok X G (fa 64 _ rfl)⟩
  case d66 =>
    obtain ⟨fd1, F1⟩ := fd 51 _ rfl
    exact ⟨_, fd1, F1, He.glo_ok X G (fa 65 _ rfl)⟩
  case d67 =>
    obtain ⟨fd1, F1⟩ := fd 52 _ rfl
    exact ⟨_, fd1, F1, He.glo_ok X G (fa 66 _ rfl)⟩
  case d68 =>
    obtain ⟨fd1, F1⟩ := fd 53 _ rfl
    exact ⟨_, fd1, F1, He.glo_ok X G (fa 67 _ rfl)⟩
  case d69 =>
    obtain ⟨fd1, F1⟩ := fd 54 _ rfl
    exact ⟨_, fd1, F1, He.glo_ok X G (fa 68 _ rfl)⟩
  case d70 =>
    obtain ⟨fd1, F1⟩ := fd 55 _ rfl
    exact ⟨_, fd1, F1, He.glo_ok X G (fa 69 _ rfl)⟩
  case d71 =>
    obtain ⟨fd1, F1⟩ := fd 56 _ rfl
    exact ⟨_, fd1, F1, He.glo_ok X G (fa 70 _ rfl)⟩
  case d72 =>
    obtain ⟨fd1, F1⟩ := fd 57 _ rfl
    exact ⟨_, fd1, F1, He.glo_ok X G (fa 71 _ rfl)⟩
  case d73 =>
    obtain ⟨fd1, F1⟩ := fd 58 _ rfl
    exact ⟨_, fd1, F1, He.glo_ok X G (fa 72 _ rfl)⟩
  case d74 =>
    obtain ⟨fd1, F1⟩ := fd 59 _ rfl
    exact ⟨_, fd1, F1, He.glo_ok X G (fa 73 _ rfl)⟩
  case d75 =>
    obtain ⟨fd1, F1⟩ := fd 60 _ rfl
    exact ⟨_, fd1, F1, He.glo_ok X G (fa 74 _ rfl)⟩
  case tb76 => exact hT (He.cT K ("_law_checked", none)) (List.mem_map.mpr ⟨("_law_checked", none), by decide, rfl⟩)
  case d76 =>
    obtain ⟨fd1, F1⟩ := fd 61 _ rfl
    exact ⟨fd1, F1, He.glo_ok X G (fa 75 _ rfl)⟩
  case d77 =>
    obtain ⟨fd1, F1⟩ := fd 62 _ rfl
    exact ⟨_, fd1, F1, He.glo_ok X G (fa 76 _ rfl)⟩
  case tb78 => exact hT (He.cT K ("_law_made_due", none)) (List.mem_map.mpr ⟨("_law_made_due", none), by decide, rfl⟩)
  case d78 =>
    obtain ⟨fd1, F1⟩ := fd 63 _ rfl
    exact ⟨fd1, F1, He.glo_ok X G (fa 77 _ rfl)⟩
  case d79 =>
    obtain ⟨fd1, F1⟩ := fd 64 _ rfl
    exact ⟨_, fd1, F1, He.glo_ok X G (fa 78 _ rfl)⟩
  case d80 =>
    obtain ⟨fd1, F1⟩ := fd 65 _ rfl
    exact ⟨_, fd1, F1, He.glo_ok X G (fa 79 _ rfl)⟩
  case d81 =>
    obtain ⟨fd1, F1⟩ := fd 66 _ rfl
    exact ⟨_, fd1, F1, He.glo_ok X G (fa 80 _ rfl)⟩
  case d82 =>
    obtain ⟨fd1, F1⟩ := fd 67 _ rfl
    exact ⟨_, fd1, F1, He.glo_ok X G (fa 81 _ rfl)⟩
  case tb83 => exact hT (He.cT K ("_law_lots", none)) (List.mem_map.mpr ⟨("_law_lots", none), by decide, rfl⟩)
  case d83 =>
    obtain ⟨fd1, F1⟩ := fd 68 _ rfl
    exact ⟨fd1, F1, He.glo_ok X G (fa 82 _ rfl)⟩
  case d84 =>
    obtain ⟨fd1, F1⟩ := fd 69 _ rfl
    exact ⟨_, fd1, F1, He.glo_ok X G (fa 83 _ rfl)⟩
end
theorem law_end (hlaw : ∀ ns : List Int, ns.length ≤ 63 → (∀ z ∈ ns, Builtin.Int.intBits z ≤ 1048576) → ∃ S, F84 [.frz (ns.map D.int)] [] = .ok (.bl true) S) : PySem.Challenge.rw_quietbit_k00_kinds_and_the_lot_checker.Holds := by
  w_on; o_law
  refine HandSHeadRun.head_any (r := RR) (q := qV) (H := hkX) (ob := obX) (M := 4000) (loose := nmL) (d := HandSHeadRun.topDef RR.prog 84) (kwd := []) obX_eq
    (by kernel_rfl) (fun s => by kernel_rfl) runX (by kernel_rfl) (by kernel_rfl) (by kernel_rfl) (by rfl) (by first | assumption | decide +kernel) (by decide +kernel) ⟨rfl, rfl, rfl, rfl, rfl, by decide +kernel⟩ ?hw ?hc
  case hw => w_witness2
  case hc =>
    refine LamX.walk_ofTsE (l := PySem.Challenge.rw_quietbit_k00_kinds_and_the_lot_checker) (n := 63) (k := 115) (x := "_law_script") (CX := fun w => L2.CX PySem.Challenge.rw_quietbit_k00_kinds_and_the_lot_checker.prog w) rfl (by decide) (by kernel_rfl) ⟨rfl, by decide, by decide⟩ ?F (fun w H s e s' z => cx_false z)
    intro w mg fa h Y G hmg0
    obtain ⟨K, KX, c⟩ := Y
    have hmg : mg ("law" : PySem.Str) = some (.ref fa) := by
      have e : (HandSHeadRun.topDef RR.prog 84).name = ("law" : PySem.Str) := by kernel_rfl
      rw [← e]
      exact hmg0
    refine ⟨K, KX, law_at (cs := tfL.map (He.cT K)) (fun p hp => ?_) (fun p hp => ?_) (fun p hp => ?_) (by rfl) hmg (He.glo_ok KX G (c.t.d.fact 83 rfl)) (c.t.d.def_ 69 rfl) bp84 (fun base hT => v84 (g0 KX G c hT)) hlaw⟩
    · obtain ⟨q, hq, rfl⟩ := List.mem_map.mp hp
      exact c.empty q hq
    · obtain ⟨q, hq, rfl⟩ := List.mem_map.mp hp
      exact c.out q hq
    · obtain ⟨q, hq, rfl⟩ := List.mem_map.mp hp
      exact PySem.W.codeHd_of_K KX (c.hd q hq)
end QB
set_option maxHeartbeats 4000000
namespace QB
open PySem PySem.Spec PySem.Calls PyProof.Rows L2
/-! ### data without cells -/
mutual
def nr : D → Bool
  | .ref _ => false
  | .exc .. => false
  | .tup xs => nrs xs
  | .lst xs => nrs xs
  | .frz xs => nrs xs
  | .dic _ xs => nrs xs
  | _ => true
def nrs : List D → Bool
  | [] => true
  | d :: ds => nr d && nrs ds
end
mutual
theorem fzD_nr (g : Nat → Option D) : ∀ d : D, nr d = true → fzD g d = some d
  | .non, _ => rfl
  | .bl _, _ => rfl
  | .int _, _ => rfl
  | .str _, _ => rfl
  | .ty _, _ => rfl
  | .tup xs, h => by rw [nr] at h; rw [fzD, fzL_nr g xs h]; rfl
  | .lst xs, h => by rw [nr] at h; rw [fzD, fzL_nr g xs h]; rfl
  | .frz xs, h => by rw [nr] at h; rw [fzD, fzL_nr g xs h]; rfl
  | .dic k xs, h => by rw [nr] at h; rw [fzD, fzL_nr g xs h]; rfl
  | .ref _, h => by simp [nr] at h
  | .exc .., h => by simp [nr] at h
theorem fzL_nr (g : Nat → Option D) : ∀ ds : List D, nrs ds = true → fzL g ds = some ds
  | [], _ => rfl
  | d :: ds, h => by
    rw [nrs, Bool.and_eq_true] at h
    rw [fzL, fzD_nr g d h.1, fzL_nr g ds h.2]
    rfl
end
theorem nrs_mem : ∀ {ds : List D}, nrs ds = true ↔ ∀ d ∈ ds, nr d = true
  | [] => by simp [nrs]
  | d :: ds => by simp [nrs, nrs_mem (ds := ds)]
def nrO : Ob → Bool
  | .lst ds => nrs ds
  | .dic kvs => nrs (kvs.map (·.2))
def Clean (S : Sto) : Prop := ∀ u ∈ S, nrO u = true
theorem fzO_nr (g : Nat → Option D) {u : Ob} (h : nrO u = true) : fzO g u = some u := by
  cases u with
  | lst ds => rw [fzO, fzL_nr g ds h]; rfl
  | dic kvs =>
    rw [fzO, fzL_nr g _ h]
    show some (Ob.dic _) = _
    have : ∀ l : List (Key × D), (l.map (·.1)).zip (l.map (·.2)) = l := by
      intro l
      induction l with
      | nil => rfl
      | cons p l ih => simp [ih]
    rw [this]
theorem fzS_clean (g : Nat → Option D) : ∀ {S : Sto}, Clean S → fzS g S = some S
  | [], _ => rfl
  | u :: S, h => by
    rw [fzS, fzO_nr g (h u List.mem_cons_self), fzS_clean g (fun v hv => h v (List.mem_cons_of_mem _ hv))]
    rfl
theorem fin_rtT {S T : Sto} {d : D} (h : Clean S) (hd : nr d = true) : fin S.length (.rt d (S ++ T)) = .ok d S := by
  unfold fin
  simp only [List.take_left, fzS_clean _ h, fzD_nr _ d hd]
theorem fin_rt {S : Sto} {d : D} (h : Clean S) (hd : nr d = true) : fin S.length (.rt d S) = .ok d S := by
  have := fin_rtT (T := []) h hd
  rwa [List.append_nil] at this
theorem fin_nx {S : Sto} {δ : Sl} (h : Clean S) : fin S.length (.nx δ S) = .ok .non S := by
  unfold fin
  simp only [List.take_length, fzS_clean _ h]
theorem fin_ex2 {S : Sto} {δ : Sl} {c f1 f2 : Str} {d1 d2 : D} (h : Clean S) (h1 : nr d1 = true) (h2 : nr d2 = true) : fin S.length (.ex c [(f1, d1), (f2, d2)] δ S) = .ex c [(f1, d1), (f2, d2)] S := by
  unfold fin
  simp only [List.take_length, fzS_clean _ h, fzF, fzD_nr _ _ h1, fzD_nr _ _ h2, Option.map_some]
theorem dDef_eq {fi : Nat → Out → R D} {N : List Str} {n : Nat} {t : DS} {ds : List D} {S : Sto} (h : ds.length = n) : dDef fi N n t ds S = fi S.length (t (slots N ds) S) := by
  unfold dDef
  rw [if_pos h]
/-! ### values: None, truth values, whole numbers, texts, tuples and lists of them -/
def BIG : Nat := 1000000
mutual
def pv : D → Bool
  | .non => true
  | .bl _ => true
  | .int _ => true
  | .str z => decide (z.length ≤ BIG)
  | .tup xs => decide (xs.length ≤ BIG) && pvs xs
  | .lst xs => decide (xs.length ≤ BIG) && pvs xs
  | _ => false
def pvs : List D → Bool
  | [] => true
  | d :: ds => pv d && pvs ds
end
mutual
theorem pv_nr : ∀ d : D, pv d = true → nr d = true
  | .non, _ => rfl
  | .bl _, _ => rfl
  | .int _, _ => rfl
  | .str _, _ => rfl
  | .tup xs, h => by rw [pv, Bool.and_eq_true] at h; rw [nr]; exact pvs_nrs xs h.2
  | .lst xs, h => by rw [pv, Bool.and_eq_true] at h; rw [nr]; exact pvs_nrs xs h.2
  | .frz xs, h => by simp [pv] at h
  | .dic k xs, h => by simp [pv] at h
  | .ref _, h => by simp [pv] at h
  | .exc .., h => by simp [pv] at h
  | .ty _, h => by simp [pv] at h
theorem pvs_nrs : ∀ ds : List D, pvs ds = true → nrs ds = true
  | [], _ => rfl
  | d :: ds, h => by
    rw [pvs, Bool.and_eq_true] at h
    rw [nrs, pv_nr d h.1, pvs_nrs ds h.2]
    rfl
end
theorem pv_str {z : Str} : pv (.str z) = true ↔ z.length ≤ BIG := by simp [pv]
theorem pv_tup {xs : List D} : pv (.tup xs) = true ↔ xs.length ≤ BIG ∧ pvs xs = true := by simp [pv]
theorem pv_lst {xs : List D} : pv (.lst xs) = true ↔ xs.length ≤ BIG ∧ pvs xs = true := by simp [pv]
theorem big_line : BIG < sizeLine := by rw [sizeLine_eq]; decide
theorem pvs_mem : ∀ {ds : List D}, pvs ds = true ↔ ∀ d ∈ ds, pv d = true
  | [] => by simp [pvs]
  | d :: ds => by simp [pvs, pvs_mem (ds := ds)]
def isTup : D → Bool
  | .tup _ => true
  | _ => false
def isStr : D → Bool
  | .str _ => true
  | _ => false
def isInt : D → Bool
  | .int _ => true
  | .bl _ => true
  | _ => false
def isBl : D → Bool
  | .bl _ => true
  | _ => false
theorem fIsi_tuple {d : D} {S : Sto} (h : pv d = true) : fIsi [d, .ty "tuple"] S = some (.bl (isTup d)) := by
  cases d with
  | non => show Option.map D.bl (kitB "NoneType" "tuple") = _; rw [show kitB "NoneType" "tuple" = some false from by decide +kernel]; rfl
  | bl b => show Option.map D.bl (kitB "bool" "tuple") = _; rw [show kitB "bool" "tuple" = some false from by decide +kernel]; rfl
  | int b => show Option.map D.bl (kitB "int" "tuple") = _; rw [show kitB "int" "tuple" = some false from by decide +kernel]; rfl
  | str b => show Option.map D.bl (kitB "str" "tuple") = _; rw [show kitB "str" "tuple" = some false from by decide +kernel]; rfl
  | tup b => show Option.map D.bl (kitB "tuple" "tuple") = _; rw [show kitB "tuple" "tuple" = some true from by decide +kernel]; rfl
  | lst b => show Option.map D.bl (kitB "list" "tuple") = _; rw [show kitB "list" "tuple" = some false from by decide +kernel]; rfl
  | _ => simp [pv] at h
theorem fIsi_str {d : D} {S : Sto} (h : pv d = true) : fIsi [d, .ty "str"] S = some (.bl (isStr d)) := by
  cases d with
  | non => show Option.map D.bl (kitB "NoneType" "str") = _; rw [show kitB "NoneType" "str" = some false from by decide +kernel]; rfl
  | bl b => show Option.map D.bl (kitB "bool" "str") = _; rw [show kitB "bool" "str" = some false from by decide +kernel]; rfl
  | int b => show Option.map D.bl (kitB "int" "str") = _; rw [show kitB "int" "str" = some false from by decide +kernel]; rfl
  | str b => show Option.map D.bl (kitB "str" "str") = _; rw [show kitB "str" "str" = some true from by decide +kernel]; rfl
  | tup b => show Option.map D.bl (kitB "tuple" "str") = _; rw [show kitB "tuple" "str" = some false from by decide +kernel]; rfl
  | lst b => show Option.map D.bl (kitB "list" "str") = _; rw [show kitB "list" "str" = some false from by decide +kernel]; rfl
  | _ => simp [pv] at h
theorem fIsi_int {d : D} {S : Sto} (h : pv d = true) : fIsi [d, .ty "int"] S = some (.bl (isInt d)) := by
  cases d with
  | non => show Option.map D.bl (kitB "NoneType" "int") = _; rw [show kitB "NoneType" "int" = some false from by decide +kernel]; rfl
  | bl b => show Option.map D.bl (kitB "bool" "int") = _; rw [show kitB "bool" "int" = some true from by decide +kernel]; rfl
  | int b => show Option.map D.bl (kitB "int" "int") = _; rw [show kitB "int" "int" = some true from by decide +kernel]; rfl
  | str b => show Option.map D.bl (kitB "str" "int") = _; rw [show kitB "str" "int" = some false from by decide +kernel]; rfl
  | tup b => show Option.map D.bl (kitB "tuple" "int") = _; rw [show kitB "tuple" "int" = some false from by decide +kernel]; rfl
  | lst b => show Option.map D.bl (kitB "list" "int") = _; rw [show kitB "list" "int" = some false from by decide +kernel]; rfl
  | _ => simp [pv] at h
theorem fIsi_bool {d : D} {S : Sto} (h : pv d = true) : fIsi [d, .ty "bool"] S = some (.bl (isBl d)) := by
  cases d with
  | non => show Option.map D.bl (kitB "NoneType" "bool") = _; rw [show kitB "NoneType" "bool" = some false from by decide +kernel]; rfl
  | bl b => show Option.map D.bl (kitB "bool" "bool") = _; rw [show kitB "bool" "bool" = some true from by decide +kernel]; rfl
  | int b => show Option.map D.bl (kitB "int" "bool") = _; rw [show kitB "int" "bool" = some false from by decide +kernel]; rfl
  | str b => show Option.map D.bl (kitB "str" "bool") = _; rw [show kitB "str" "bool" = some false from by decide +kernel]; rfl
  | tup b => show Option.map D.bl (kitB "tuple" "bool") = _; rw [show kitB "tuple" "bool" = some false from by decide +kernel]; rfl
  | lst b => show Option.map D.bl (kitB "list" "bool") = _; rw [show kitB "list" "bool" = some false from by decide +kernel]; rfl
  | _ => simp [pv] at h
end QB
set_option maxHeartbeats 4000000
namespace QB
open PySem PySem.Spec PySem.Calls PyProof.Rows L2
/-! ### evaluation, as one set of equations -/
theorem evR {α β : Type} : (∀ (a : α) (S : Sto) (f : α → Sto → R β), (R.ok a S).bind f = f a S) ∧ (∀ (c : Str) (fs : List (Str × D)) (S : Sto) (f : α → Sto → R β), (R.ex c fs S : R α).bind f = .ex c fs S) := ⟨fun _ _ _ => rfl, fun _ _ _ _ => rfl⟩
theorem evO {α : Type} : (∀ (δ : Sl) (a : α) (S : Sto) (f : α → Sto → Out), ofR δ (.ok a S) f = f a S) ∧ (∀ (δ : Sl) (c : Str) (fs : List (Str × D)) (S : Sto) (f : α → Sto → Out), ofR δ (.ex c fs S : R α) f = .ex c fs δ S) ∧ (∀ (a : α) (S : Sto), (R.ok a S).nox = .ok a S) := ⟨fun _ _ _ _ => rfl, fun _ _ _ _ _ => rfl, fun _ _ => rfl⟩
theorem evE : (∀ (d : D) (δ : Sl) (S : Sto), dC d δ S = .ok d S) ∧ (∀ (δ : Sl) (S : Sto), aNil δ S = .ok [] S) ∧ (∀ (t : DE) (ts : DA) (δ : Sl) (S : Sto), aCons t ts δ S = (t δ S).bind fun x S1 => (ts δ S1).bind fun xs S2 => .ok (x :: xs) S2) ∧
    (∀ (f : DB) (ta tb : DE) (δ : Sl) (S : Sto), d2 f ta tb δ S = (ta δ S).bind fun x S1 => (tb δ S1).bind fun y S2 => ofOpt (f x y S2) S2) ∧ (∀ (f : D → Sto → Option D) (ta : DE) (δ : Sl) (S : Sto), d1 f ta δ S = (ta δ S).bind fun x S1 => ofOpt (f x S1) S1) ∧
    (∀ (f : DF) (ts : DA) (δ : Sl) (S : Sto), dF f ts δ S = (ts δ S).bind fun xs S1 => ofOpt (f xs S1) S1) ∧ (∀ (F : DFn) (ts : DA) (δ : Sl) (S : Sto), dCall F ts δ S = (ts δ S).bind F) ∧ (∀ (d : D) (S : Sto), ofOpt (some d) S = .ok d S) ∧
    (∀ (ta tb : DE) (δ : Sl) (S : Sto), dAnd ta tb δ S = (ta δ S).bind fun x S1 => match dTru x S1 with | some true => tb δ S1 | some false => .ok x S1 | none => .stuck) ∧ (∀ (ta tb : DE) (δ : Sl) (S : Sto), dOr ta tb δ S = (ta δ S).bind fun x S1 => match dTru x S1 with | some false => tb δ S1 | some true => .ok x S1 | none => .stuck) ∧
    (∀ (ta : DE) (δ : Sl) (S : Sto), dNot ta δ S = (ta δ S).bind fun x S1 => match dTru x S1 with | some b => .ok (.bl (!b)) S1 | none => .stuck) ∧ (∀ (b : Bool) (S : Sto), dTru (.bl b) S = some b) ∧ (∀ (i : Int) (S : Sto), dTru (.int i) S = some (i != 0)) ∧ (∀ (S : Sto), dTru .non S = some false) ∧
    (∀ (ts : DA) (δ : Sl) (S : Sto), dTup ts δ S = (ts δ S).bind fun xs S1 => if xs.length ≤ sizeLine then .ok (.tup xs) S1 else .stuck) ∧ (∀ (ts : DA) (δ : Sl) (S : Sto), dLst ts δ S = (ts δ S).bind fun xs S1 => if xs.length ≤ sizeLine then .ok (.lst xs) S1 else .stuck) ∧
    (∀ (t : DT) (ta tb : DE) (δ : Sl) (S : Sto), dIf t ta tb δ S = (t δ S).bind fun b S1 => if b = true then ta δ S1 else tb δ S1) :=
  ⟨fun _ _ _ => rfl, fun _ _ => rfl, fun _ _ _ _ => rfl, fun _ _ _ _ _ => rfl, fun _ _ _ _ => rfl, fun _ _ _ _ => rfl, fun _ _ _ _ => rfl, fun _ _ => rfl, fun _ _ _ _ => rfl, fun _ _ _ _ => rfl, fun _ _ _ => rfl, fun _ _ => rfl, fun _ _ => rfl, fun _ => rfl, fun _ _ _ => rfl, fun _ _ _ => rfl, fun _ _ _ _ _ => rfl⟩
theorem evT : (∀ (ta : DE) (δ : Sl) (S : Sto), tTru ta δ S = (ta δ S).bind fun x S1 => match dTru x S1 with | some b => .ok b S1 | none => .stuck) ∧ (∀ (ta : DE) (δ : Sl) (S : Sto), tBool ta δ S = (ta δ S).bind fun x S1 => match x with | .bl b => .ok b S1 | _ => .stuck) ∧
    (∀ (t : DT) (δ : Sl) (S : Sto), tNotD t δ S = (t δ S).bind fun b S1 => .ok (!b) S1) ∧ (∀ (t u : DT) (δ : Sl) (S : Sto), tAndD t u δ S = (t δ S).bind fun b S1 => if b = true then u δ S1 else .ok false S1) ∧
    (∀ (t u : DT) (δ : Sl) (S : Sto), tOrD t u δ S = (t δ S).bind fun b S1 => if b = true then .ok true S1 else u δ S1) ∧ (∀ (δ : Sl) (S : Sto), tYesD δ S = .ok true S) := ⟨fun _ _ _ => rfl, fun _ _ _ => rfl, fun _ _ _ => rfl, fun _ _ _ _ => rfl, fun _ _ _ _ => rfl, fun _ _ => rfl⟩
theorem evS : (∀ (t u : DS) (δ : Sl) (S : Sto), sSeq t u δ S = (t δ S).seq u) ∧ (∀ (δ : Sl) (S : Sto) (f : Sl → Sto → Out), (Out.nx δ S).seq f = f δ S) ∧ (∀ (d : D) (S : Sto) (f : Sl → Sto → Out), (Out.rt d S).seq f = .rt d S) ∧ (∀ (δ : Sl) (S : Sto) (f : Sl → Sto → Out), (Out.bk δ S).seq f = .bk δ S) ∧
    (∀ (c : Str) (fs : List (Str × D)) (δ : Sl) (S : Sto) (f : Sl → Sto → Out), (Out.ex c fs δ S).seq f = .ex c fs δ S) ∧ (∀ (t : DE) (δ : Sl) (S : Sto), sExpr t δ S = ofR δ (t δ S) fun _ S1 => .nx δ S1) ∧ (∀ (t : DE) (δ : Sl) (S : Sto), sRet t δ S = ofR δ (t δ S) fun d S1 => .rt d S1) ∧
    (∀ (c : DT) (t u : DS) (δ : Sl) (S : Sto), sIf c t u δ S = ofR δ (c δ S) fun b S1 => if b = true then t δ S1 else u δ S1) ∧ (∀ (δ : Sl) (S : Sto), sSkip δ S = .nx δ S) ∧ (∀ (δ : Sl) (S : Sto), sBreak δ S = .bk δ S) ∧
    (∀ (t : DE) (g : DG) (δ : Sl) (S : Sto), sAsg t g δ S = ofR δ (t δ S) fun d S1 => match g d δ S1 with | some δ' => .nx δ' S1 | none => .stuck) ∧ (∀ (i : Nat) (d : D) (δ : Sl) (S : Sto), gNm i d δ S = some (δ.set i (some d))) :=
  ⟨fun _ _ _ _ => rfl, fun _ _ _ => rfl, fun _ _ _ => rfl, fun _ _ _ => rfl, fun _ _ _ _ _ => rfl, fun _ _ _ => rfl, fun _ _ _ => rfl, fun _ _ _ _ _ => rfl, fun _ _ => rfl, fun _ _ => rfl, fun _ _ _ _ => rfl, fun _ _ _ _ => rfl⟩
theorem evV : (∀ (d : D) (δ : Sl) (S : Sto), dVar 0 (some d :: δ) S = .ok d S) ∧ (∀ (i : Nat) (x : Option D) (δ : Sl) (S : Sto), dVar (i + 1) (x :: δ) S = dVar i δ S) := ⟨fun _ _ _ => rfl, fun _ _ _ _ => rfl⟩
theorem orB_some {f g : DB} {x y d : D} {S : Sto} (h : f x y S = some d) : orB f g x y S = some d := by
  unfold orB
  rw [h]
theorem orB_none {f g : DB} {x y : D} {S : Sto} {o : Option D} (h : f x y S = none) (h2 : g x y S = o) : orB f g x y S = o := by
  unfold orB
  rw [h]
  exact h2
/-! ### step by step -/
section
variable {δ : Sl} {S S1 S2 S3 : Sto} {ta tb tc : DE} {ts : DA} {t u : DT} {p q : Bool} {x y z d : D} {xs ys : List D}
theorem e_nil : aNil δ S = .ok [] S := rfl
theorem e_cons (h : ta δ S = .ok x S1) (h2 : ts δ S1 = .ok xs S2) : aCons ta ts δ S = .ok (x :: xs) S2 := by simp only [evE, h, evR, h2]
theorem e_f {f : DF} (h : ts δ S = .ok xs S1) (h2 : f xs S1 = some d) : dF f ts δ S = .ok d S1 := by simp only [evE, h, evR, h2]
theorem e_2 {f : DB} (h : ta δ S = .ok x S1) (h2 : tb δ S1 = .ok y S2) (h3 : f x y S2 = some d) : d2 f ta tb δ S = .ok d S2 := by simp only [evE, h, evR, h2, h3]
theorem e_1 {f : D → Sto → Option D} (h : ta δ S = .ok x S1) (h3 : f x S1 = some d) : d1 f ta δ S = .ok d S1 := by simp only [evE, h, evR, h3]
theorem e_call {F : DFn} {r : R D} (h : ts δ S = .ok xs S1) (h2 : F xs S1 = r) : dCall F ts δ S = r := by simp only [evE, h, evR, h2]
theorem e_and (h : ta δ S = .ok (.bl p) S1) (h2 : p = true → tb δ S1 = .ok (.bl q) S1) : dAnd ta tb δ S = .ok (.bl (p && q)) S1 := by
  cases p
  · simp only [evE, h, evR, Bool.false_and]
  · simp only [evE, h, evR, h2 rfl, Bool.true_and]
theorem e_or (h : ta δ S = .ok (.bl p) S1) (h2 : p = false → tb δ S1 = .ok (.bl q) S1) : dOr ta tb δ S = .ok (.bl (p || q)) S1 := by
  cases p
  · simp only [evE, h, evR, h2 rfl, Bool.false_or]
  · simp only [evE, h, evR, Bool.true_or]
theorem e_andF (h : ta δ S = .ok (.bl false) S1) : dAnd ta tb δ S = .ok (.bl false) S1 := e_and (q := false) h (fun z => by cases z)
theorem e_andT {r : R D} (h : ta δ S = .ok (.bl true) S1) (h2 : tb δ S1 = r) : dAnd ta tb δ S = r := by simp only [evE, h, evR, h2]
theorem e_orT (h : ta δ S = .ok (.bl true) S1) : dOr ta tb δ S = .ok (.bl true) S1 := e_or (q := false) h (fun z => by cases z)
theorem e_orF {r : R D} (h : ta δ S = .ok (.bl false) S1) (h2 : tb δ S1 = r) : dOr ta tb δ S = r := by simp only [evE, h, evR, h2]
theorem e_not (h : ta δ S = .ok (.bl p) S1) : dNot ta δ S = .ok (.bl (!p)) S1 := by simp only [evE, h, evR]
theorem e_tup (h : ts δ S = .ok xs S1) (hl : xs.length ≤ sizeLine) : dTup ts δ S = .ok (.tup xs) S1 := by simp only [evE, h, evR, if_pos hl]
theorem e_lst (h : ts δ S = .ok xs S1) (hl : xs.length ≤ sizeLine) : dLst ts δ S = .ok (.lst xs) S1 := by simp only [evE, h, evR, if_pos hl]
theorem e_if (h : t δ S = .ok p S1) (ht : p = true → ta δ S1 = .ok x S2) (hf : p = false → tb δ S1 = .ok x S2) : dIf t ta tb δ S = .ok x S2 := by
  cases p
  · simp only [evE, h, evR, hf rfl, if_neg Bool.false_ne_true]
  · simp only [evE, h, evR, ht rfl, if_true]
theorem e_tru (h : ta δ S = .ok (.bl p) S1) : tTru ta δ S = .ok p S1 := by simp only [evT, evE, h, evR]
theorem e_truI {i : Int} (h : ta δ S = .ok (.int i) S1) : tTru ta δ S = .ok (i != 0) S1 := by simp only [evT, evE, h, evR]
theorem e_bool (h : ta δ S = .ok (.bl p) S1) : tBool ta δ S = .ok p S1 := by simp only [evT, h, evR]
theorem e_tnot (h : t δ S = .ok p S1) : tNotD t δ S = .ok (!p) S1 := by simp only [evT, h, evR]
theorem e_tand (h : t δ S = .ok p S1) (h2 : p = true → u δ S1 = .ok q S1) : tAndD t u δ S = .ok (p && q) S1 := by
  cases p
  · simp only [evT, h, evR, if_neg Bool.false_ne_true, Bool.false_and]
  · simp only [evT, h, evR, h2 rfl, if_true, Bool.true_and]
theorem e_tor (h : t δ S = .ok p S1) (h2 : p = false → u δ S1 = .ok q S1) : tOrD t u δ S = .ok (p || q) S1 := by
  cases p
  · simp only [evT, h, evR, h2 rfl, if_neg Bool.false_ne_true, Bool.false_or]
  · simp only [evT, h, evR, if_true, Bool.true_or]
theorem e_tandF (h : t δ S = .ok false S1) : tAndD t u δ S = .ok false S1 := e_tand (q := false) h (fun z => by cases z)
theorem e_tandT {r : R Bool} (h : t δ S = .ok true S1) (h2 : u δ S1 = r) : tAndD t u δ S = r := by simp only [evT, h, evR, if_true, h2]
theorem e_torT (h : t δ S = .ok true S1) : tOrD t u δ S = .ok true S1 := e_tor (q := false) h (fun z => by cases z)
theorem e_torF {r : R Bool} (h : t δ S = .ok false S1) (h2 : u δ S1 = r) : tOrD t u δ S = r := by simp only [evT, h, evR, if_neg Bool.false_ne_true, h2]
theorem e_chain {a b c : Int} (h : ta δ S = .ok (.int a) S1) (h2 : tb δ S1 = .ok (.int b) S1) (h3 : tc δ S1 = .ok (.int c) S1) : dChain bLe bLe ta tb tc δ S = .ok (.bl (decide (a ≤ b) && decide (b ≤ c))) S1 := by
  unfold dChain
  simp only [h, evR, h2]
  show (match some (D.bl (decide (a ≤ b))) with | some (.bl true) => _ | some (.bl false) => _ | _ => _) = _
  cases hb : decide (a ≤ b)
  · simp
  · simp only [h3, evR, Bool.true_and]
    rfl
/-! statements -/
variable {s1 s2 : DS} {o : Out} {δ1 : Sl}
theorem e_ret (h : ta δ S = .ok d S1) : sRet ta δ S = .rt d S1 := by simp only [evS, h, evO]
theorem e_expr (h : ta δ S = .ok d S1) : sExpr ta δ S = .nx δ S1 := by simp only [evS, h, evO]
theorem e_asg {i : Nat} (h : ta δ S = .ok d S1) : sAsg ta (gNm i) δ S = .nx (δ.set i (some d)) S1 := by simp only [evS, h, evO]
theorem e_seq (h : s1 δ S = .nx δ1 S1) (h2 : s2 δ1 S1 = o) : sSeq s1 s2 δ S = o := by simp only [evS, h, h2]
theorem e_seqR (h : s1 δ S = .rt d S1) : sSeq s1 s2 δ S = .rt d S1 := by simp only [evS, h]
theorem e_sif (h : t δ S = .ok p S1) : sIf t s1 s2 δ S = if p = true then s1 δ S1 else s2 δ S1 := by simp only [evS, h, evO]
theorem e_ift (h : t δ S = .ok true S1) (h2 : s1 δ S1 = o) : sIf t s1 s2 δ S = o := by simp only [evS, h, evO, if_true, h2]
theorem e_iff (h : t δ S = .ok false S1) (h2 : s2 δ S1 = o) : sIf t s1 s2 δ S = o := by simp only [evS, h, evO, if_neg Bool.false_ne_true, h2]
end
/-! ### comprehensions, any, all -/
theorem lcL_map {g : DG} {te : DE} {δ : Sl} {S : Sto} {f : D → D} {ds0 : List D} : ∀ {l : List D}, (∀ d ∈ l, ∃ δ1, g d δ S = some δ1 ∧ te δ1 S = .ok (f d) S) → lcL ⟨ds0, none⟩ g tYesD te δ l S = .ok (l.map f) S
  | [], _ => rfl
  | d :: l, h => by
    obtain ⟨δ1, h1, h2⟩ := h d List.mem_cons_self
    unfold lcL
    rw [if_pos (show (Src.mk ds0 none).ok S = true from rfl), h1]
    simp only [evT, evR, evO, if_true, h2, lcL_map (fun d hd => h d (List.mem_cons_of_mem _ hd)), List.map_cons]
theorem dLc_map {t : DI} {g : DG} {te : DE} {vs : List Nat} {δ : Sl} {S S1 : Sto} {l : List D} {f : D → D} (ht : t δ S = .ok ⟨l, none⟩ S1) (hl : l.length < sizeLine) (h : ∀ d ∈ l, ∃ δ1, g d (wipeD δ vs) S1 = some δ1 ∧ te δ1 S1 = .ok (f d) S1) : dLc t g tYesD te vs δ S = .ok (.lst (l.map f)) S1 := by
  unfold dLc
  rw [ht]
  simp only [evR]
  rw [if_pos hl, lcL_map h]
  rfl
theorem boolsOf_map {α : Type} (f : α → Bool) : ∀ l : List α, boolsOf (l.map fun x => .bl (f x)) = some (l.map f)
  | [] => rfl
  | x :: l => by simp [boolsOf, boolsOf_map f l]
theorem fAll_map {α : Type} (f : α → Bool) (l : List α) (S : Sto) : fAll [.lst (l.map fun x => .bl (f x))] S = some (.bl (l.all f)) := by
  show Option.map _ ((some (l.map fun x => D.bl (f x))).bind boolsOf) = _
  rw [Option.bind_some, boolsOf_map]
  simp [List.all_map]
end QB
set_option maxHeartbeats 4000000
namespace QB
open PySem PySem.Spec PySem.Calls PyProof.Rows L2
def bitD : D → Bool
  | .int i => decide (0 ≤ i) && decide (i ≤ 1)
  | _ => false
theorem F11_eq {d : D} {S : Sto} (hS : Clean S) (hd : pv d = true) : F11 [d] S = .ok (.bl (bitD d)) S := by
  rw [F11, dDef_eq (n := 1) rfl]
  have : t11 (slots N11 [d]) S = .rt (.bl (bitD d)) S := by
    simp only [t11, slots, List.map_cons, List.map_nil, List.cons_append, evS, evE, evR, evO, evT, evV, dChain, fIsi_int hd, fIsi_bool hd]
    cases d <;> simp [isInt, isBl, bitD, bLe, orB, bCmpI, evE, evR, evO]
    rename_i i
    by_cases h : 0 ≤ i <;> simp [h, evO]
  rw [this]
  exact fin_rt hS rfl
theorem F55_eq {d : D} {S : Sto} (hS : Clean S) (hd : pv d = true) : F55 [d] S = .ok (.bl (bitD d)) S := F11_eq hS hd
def L26 : List Nat := (Str.ofString "abcdefghijklmnopqrstuvwxyz").cps.toList
def L10 : List Nat := (Str.ofString "0123456789").cps.toList
theorem bIn_sign {c : Nat} {z : Str} {S : Sto} {f : Bool → Bool} : bIn f (.str ⟨#[c]⟩) (.str z) S = some (.bl (f (decide (c ∈ z.cps.toList)))) := rfl
theorem len_str {z : Str} {S : Sto} (h : pv (.str z) = true) : fLen [.str z] S = some (.int (z.cps.toList.length : Nat)) := by
  show Option.map _ (if z.length ≤ sizeLine then some z.length else none) = _
  rw [if_pos (Nat.le_of_lt (Nat.lt_of_le_of_lt (pv_str.mp h) big_line))]
  simp [Str.length]
theorem len_tup {xs : List D} {S : Sto} : fLen [.tup xs] S = some (.int (xs.length : Nat)) := rfl
theorem len_lst {xs : List D} {S : Sto} : fLen [.lst xs] S = some (.int (xs.length : Nat)) := rfl
def nameL (l : List Nat) : Bool := decide (1 ≤ l.length) && decide (l.length ≤ 4) && decide (l.headD 0 ∈ L26) && (l.drop 1).all fun c => decide (c ∈ L10)
def nameD : D → Bool
  | .str z => nameL z.cps.toList
  | _ => false
def wordL (l : List Nat) : Bool := decide (2 ≤ l.length) && decide (l.length ≤ 12) && l.all fun c => decide (c ∈ L26)
def wordD : D → Bool
  | .str z => wordL z.cps.toList
  | _ => false
theorem fAll_bl {α : Type} (f : α → Bool) (l : List α) (S : Sto) : fAll [.lst (l.map fun x => D.bl (f x))] S = some (.bl (l.all f)) := fAll_map f l S
/-- all signs of a text in another one -/
theorem all_signs {z y : Str} {δ : Sl} {S : Sto} {i : Nat} {t : DI} (ht : t δ S = .ok ⟨signs z, none⟩ S) (hz : z.cps.toList.length < sizeLine) (hi : i < δ.length) : dF fAll (aCons (dLc t (gNm i) tYesD (d2 (bIn id) (dVar i) (dC (.str y))) [i]) aNil) δ S = .ok (.bl (z.cps.toList.all fun c => decide (c ∈ y.cps.toList))) S := by
  have := dLc_map (f := fun d => match d with | .str s => .bl (decide (s.cps.toList.headD 0 ∈ y.cps.toList)) | _ => .non) (te := d2 (bIn id) (dVar i) (dC (.str y))) (vs := [i]) (g := gNm i) ht (by simpa [signs] using hz) fun d hd => by
    obtain ⟨c, hc, rfl⟩ := List.mem_map.mp hd
    refine ⟨_, rfl, ?_⟩
    have e : dVar i ((wipeD δ [i]).set i (some (.str ⟨#[c]⟩))) S = .ok (.str ⟨#[c]⟩) S := by
      unfold dVar
      rw [List.getElem?_set_self (by rw [wipeD_length]; exact hi)]
    exact e_2 e rfl bIn_sign
  refine e_f (e_cons this e_nil) ?_
  unfold signs
  rw [List.map_map]
  exact fAll_bl (fun c => decide (c ∈ y.cps.toList)) z.cps.toList S
theorem isi_t {i : Nat} {δ : Sl} {S : Sto} {d : D} (h : pv d = true) (hv : dVar i δ S = .ok d S) : dF fIsi (aCons (dVar i) (aCons (dC (.ty "tuple")) aNil)) δ S = .ok (.bl (isTup d)) S := e_f (e_cons hv (e_cons rfl e_nil)) (fIsi_tuple h)
theorem isi_s {i : Nat} {δ : Sl} {S : Sto} {d : D} (h : pv d = true) (hv : dVar i δ S = .ok d S) : dF fIsi (aCons (dVar i) (aCons (dC (.ty "str")) aNil)) δ S = .ok (.bl (isStr d)) S := e_f (e_cons hv (e_cons rfl e_nil)) (fIsi_str h)
theorem isi_i {i : Nat} {δ : Sl} {S : Sto} {d : D} (h : pv d = true) (hv : dVar i δ S = .ok d S) : dF fIsi (aCons (dVar i) (aCons (dC (.ty "int")) aNil)) δ S = .ok (.bl (isInt d)) S := e_f (e_cons hv (e_cons rfl e_nil)) (fIsi_int h)
theorem isi_b {i : Nat} {δ : Sl} {S : Sto} {d : D} (h : pv d = true) (hv : dVar i δ S = .ok d S) : dF fIsi (aCons (dVar i) (aCons (dC (.ty "bool")) aNil)) δ S = .ok (.bl (isBl d)) S := e_f (e_cons hv (e_cons rfl e_nil)) (fIsi_bool h)
theorem len_s {i : Nat} {δ : Sl} {S : Sto} {z : Str} (h : pv (.str z) = true) (hv : dVar i δ S = .ok (.str z) S) : dF fLen (aCons (dVar i) aNil) δ S = .ok (.int (z.cps.toList.length : Nat)) S := e_f (e_cons hv e_nil) (len_str h)
theorem len_t {i : Nat} {δ : Sl} {S : Sto} {xs : List D} (hv : dVar i δ S = .ok (.tup xs) S) : dF fLen (aCons (dVar i) aNil) δ S = .ok (.int (xs.length : Nat)) S := e_f (e_cons hv e_nil) rfl
theorem str_line {z : Str} (h : pv (.str z) = true) : z.cps.toList.length < sizeLine := Nat.lt_of_le_of_lt (by simpa [Str.length] using pv_str.mp h) big_line
theorem bool_eq {a b : Bool} {S : Sto} (h : a = b) : Out.rt (.bl a) S = .rt (.bl b) S := by rw [h]
theorem dec_nat {a b : Nat} {p : Int → Int → Prop} : True := trivial
theorem wordL_eq (z : Str) : ((decide ((2 : Int) ≤ (z.cps.toList.length : Nat)) && decide (((z.cps.toList.length : Nat) : Int) ≤ 12)) && z.cps.toList.all fun c => decide (c ∈ (Str.ofString "abcdefghijklmnopqrstuvwxyz").cps.toList)) = wordL z.cps.toList := by
  unfold wordL L26
  congr 2
  · exact decide_eq_decide.mpr (by omega)
  · exact decide_eq_decide.mpr (by omega)
theorem F14_eq {d : D} {S : Sto} (hS : Clean S) (hd : pv d = true) : F14 [d] S = .ok (.bl (wordD d)) S := by
  rw [F14, dDef_eq (n := 1) rfl]
  have : t14 (slots N14 [d]) S = .rt (.bl (wordD d)) S := by
    cases d with
    | str z => exact (e_ret (e_andT (isi_s hd rfl) (e_and (e_chain rfl (len_s hd rfl) rfl) fun _ => all_signs rfl (str_line hd) (by show 1 < 2; decide)))).trans (bool_eq (wordL_eq z))
    | _ => exact e_ret (e_andF (isi_s hd rfl))
  rw [this]
  exact fin_rt hS rfl
theorem F57_eq {d : D} {S : Sto} (hS : Clean S) (hd : pv d = true) : F57 [d] S = .ok (.bl (wordD d)) S := by
  rw [F57, dDef_eq (n := 1) rfl]
  have : t57 (slots N57 [d]) S = .rt (.bl (wordD d)) S := by
    cases d with
    | str z =>
      have h1 : tOrD (tNotD (tTru (dF fIsi (aCons (dVar 0) (aCons (dC (.ty "str")) aNil))))) (tNotD (tBool (dChain bLe bLe (dC (.int 2)) (dF fLen (aCons (dVar 0) aNil)) (dC (.int 12))))) (slots N57 [.str z]) S = _ := e_torF (e_tnot (e_tru (isi_s hd rfl))) (e_tnot (e_bool (e_chain rfl (len_s hd rfl) rfl)))
      have e := wordL_eq z
      cases hb : (decide ((2 : Int) ≤ (z.cps.toList.length : Nat)) && decide (((z.cps.toList.length : Nat) : Int) ≤ 12)) with
      | false =>
        rw [hb] at h1 e
        exact (e_seqR (e_ift h1 (e_ret rfl))).trans (bool_eq e)
      | true =>
        rw [hb] at h1 e
        exact (e_seq (e_iff h1 rfl) (e_ret (all_signs rfl (str_line hd) (by show 1 < 2; decide)))).trans (bool_eq e)
    | _ => exact e_seqR (e_ift (e_torT (e_tnot (e_tru (isi_s hd rfl)))) (e_ret rfl))
  rw [this]
  exact fin_rt hS rfl
/-! names -/
theorem ix_tup {xs : List D} {i : Int} {d : D} {S : Sto} (h : atI xs i = some d) : bIx (.tup xs) (.int i) S = some d := by
  have : bIxQ (.tup xs) (.int i) S = some d := h
  unfold bIx orB
  rw [this]
theorem ix_lst {xs : List D} {i : Int} {d : D} {S : Sto} (h : atI xs i = some d) : bIx (.lst xs) (.int i) S = some d := by
  have : bIxQ (.lst xs) (.int i) S = some d := h
  unfold bIx orB
  rw [this]
theorem ix_str {z : Str} {i : Int} {c : Nat} {S : Sto} (hz : z.length ≤ sizeLine) (h : atI z.cps.toList i = some c) : bIx (.str z) (.int i) S = some (.str ⟨#[c]⟩) := by
  have h1 : bIxQ (.str z) (.int i) S = none := rfl
  have h2 : bIxS (.str z) (.int i) S = some (.str ⟨#[c]⟩) := by
    show (if z.length ≤ sizeLine then (atI z.cps.toList i).map _ else none) = _
    rw [if_pos hz, h]
    rfl
  unfold bIx orB
  rw [h1]
  simp only [h2]
theorem str_len {z : Str} (h : pv (.str z) = true) : z.length ≤ sizeLine := Nat.le_of_lt (Nat.lt_of_le_of_lt (pv_str.mp h) big_line)
theorem at0 {α : Type} {x : α} {r : List α} : atI (x :: r) 0 = some x := atI_nat (j := 0) rfl
theorem at1 {α : Type} {x y : α} {r : List α} : atI (x :: y :: r) 1 = some y := atI_nat (j := 1) rfl
theorem cut1 {z : Str} : (cutS z (some 1) none).cps.toList = z.cps.toList.drop 1 := by
  have e : HT.sIx z.length 0 (some 1) = min 1 z.length := HT.sIx_nat z.length 0 1
  have hl : z.length = z.cps.toList.length := by simp [Str.length]
  simp only [cutS, HT.sIx_none, e]
  rw [hl]
  cases hz : z.cps.toList with
  | nil => rfl
  | cons c r =>
    simp
theorem e_sl1 {i : Nat} {δ : Sl} {S : Sto} {z : Str} (h : pv (.str z) = true) (hv : dVar i δ S = .ok (.str z) S) : iOf (dSl (dVar i) (oSome (dC (.int 1))) oNone) δ S = .ok ⟨signs (cutS z (some 1) none), none⟩ S := by
  unfold iOf dSl
  rw [hv]
  simp only [evR, oSome, oNone, evE]
  have : sliceD (.str z) (some 1) none S = some (.str (cutS z (some 1) none)) := if_pos (str_len h)
  rw [this]
  rfl
theorem nameL_eq (z : Str) : ((decide ((1 : Int) ≤ (z.cps.toList.length : Nat)) && decide (((z.cps.toList.length : Nat) : Int) ≤ 4)) && (decide (z.cps.toList.headD 0 ∈ L26) && (z.cps.toList.drop 1).all fun c => decide (c ∈ L10))) = nameL z.cps.toList := by
  unfold nameL
  rw [show decide ((1 : Int) ≤ (z.cps.toList.length : Nat)) = decide (1 ≤ z.cps.toList.length) from decide_eq_decide.mpr (by omega), show decide (((z.cps.toList.length : Nat) : Int) ≤ 4) = decide (z.cps.toList.length ≤ 4) from decide_eq_decide.mpr (by omega)]
  simp only [Bool.and_assoc]
theorem cut_line {z : Str} (h : pv (.str z) = true) : (cutS z (some 1) none).cps.toList.length < sizeLine := by
  rw [cut1, List.length_drop]
  have := str_line h
  omega
theorem F13_eq {d : D} {S : Sto} (hS : Clean S) (hd : pv d = true) : F13 [d] S = .ok (.bl (nameD d)) S := by
  rw [F13, dDef_eq (n := 1) rfl]
  have : t13 (slots N13 [d]) S = .rt (.bl (nameD d)) S := by
    cases d with
    | str z =>
      have h1 : tOrD (tNotD (tTru (dF fIsi (aCons (dVar 0) (aCons (dC (.ty "str")) aNil))))) (tNotD (tBool (dChain bLe bLe (dC (.int 1)) (dF fLen (aCons (dVar 0) aNil)) (dC (.int 4))))) (slots N13 [.str z]) S = _ := e_torF (e_tnot (e_tru (isi_s hd rfl))) (e_tnot (e_bool (e_chain rfl (len_s hd rfl) rfl)))
      have e := nameL_eq z
      cases hb : (decide ((1 : Int) ≤ (z.cps.toList.length : Nat)) && decide (((z.cps.toList.length : Nat) : Int) ≤ 4)) with
      | false =>
        rw [hb] at h1 e
        exact (e_seqR (e_ift h1 (e_ret rfl))).trans (bool_eq e)
      | true =>
        rw [hb] at h1 e
        cases hl : z.cps.toList with
        | nil => rw [hl] at hb; cases hb
        | cons c r =>
          have h2 := all_signs (y := Str.ofString "0123456789") (e_sl1 (i := 0) (δ := slots N13 [.str z]) (S := S) hd rfl) (cut_line hd) (i := 1) (by show 1 < 2; decide)
          have h3 : bIn id (.str ⟨#[c]⟩) (.str (Str.ofString "abcdefghijklmnopqrstuvwxyz")) S = some (.bl (decide (c ∈ L26))) := bIn_sign
          refine (e_seq (e_iff h1 rfl) (e_ret (e_and (e_2 (e_2 rfl rfl (ix_str (str_len hd) (by rw [hl]; exact at0))) rfl h3) fun _ => h2))).trans (bool_eq ?_)
          show _ = nameL z.cps.toList
          rw [← e, hl, cut1, hl]
          rfl
    | _ => exact e_seqR (e_ift (e_torT (e_tnot (e_tru (isi_s hd rfl)))) (e_ret rfl))
  rw [this]
  exact fin_rt hS rfl
theorem F56_eq {d : D} {S : Sto} (hS : Clean S) (hd : pv d = true) : F56 [d] S = .ok (.bl (nameD d)) S := by
  rw [F56, dDef_eq (n := 1) rfl]
  have : t56 (slots N56 [d]) S = .rt (.bl (nameD d)) S := by
    cases d with
    | str z =>
      have h1 : tOrD (tNotD (tTru (dF fIsi (aCons (dVar 0) (aCons (dC (.ty "str")) aNil))))) (tNotD (tBool (dChain bLe bLe (dC (.int 1)) (dF fLen (aCons (dVar 0) aNil)) (dC (.int 4))))) (slots N56 [.str z]) S = _ := e_torF (e_tnot (e_tru (isi_s hd rfl))) (e_tnot (e_bool (e_chain rfl (len_s hd rfl) rfl)))
      have e := nameL_eq z
      cases hb : (decide ((1 : Int) ≤ (z.cps.toList.length : Nat)) && decide (((z.cps.toList.length : Nat) : Int) ≤ 4)) with
      | false =>
        rw [hb] at h1 e
        exact (e_seqR (e_ift h1 (e_ret rfl))).trans (bool_eq e)
      | true =>
        rw [hb] at h1 e
        cases hl : z.cps.toList with
        | nil => rw [hl] at hb; cases hb
        | cons c r =>
          have h2 := all_signs (y := Str.ofString "0123456789") (e_sl1 (i := 0) (δ := slots N56 [.str z]) (S := S) hd rfl) (cut_line hd) (i := 1) (by show 1 < 2; decide)
          have h3 : bIn not (.str ⟨#[c]⟩) (.str (Str.ofString "abcdefghijklmnopqrstuvwxyz")) S = some (.bl (!decide (c ∈ L26))) := bIn_sign
          have h4 : tBool (d2 (bIn not) (d2 bIx (dVar 0) (dC (.int 0))) (dC (.str "abcdefghijklmnopqrstuvwxyz"))) (slots N56 [.str z]) S = .ok (!decide (c ∈ L26)) S := e_bool (e_2 (e_2 rfl rfl (ix_str (str_len hd) (by rw [hl]; exact at0))) rfl h3)
          refine e_seq (e_iff h1 rfl) ?_
          rw [hl] at e
          cases hc : decide (c ∈ L26) with
          | false =>
            rw [hc] at h4
            refine (e_seqR (e_ift h4 (e_ret rfl))).trans (bool_eq ?_)
            show false = nameL z.cps.toList
            rw [hl, ← e]
            show false = (true && (decide (c ∈ L26) && _))
            rw [hc]
            rfl
          | true =>
            rw [hc] at h4
            refine (e_seq (e_iff h4 rfl) (e_ret h2)).trans (bool_eq ?_)
            show _ = nameL z.cps.toList
            rw [hl, ← e, cut1, hl]
            show _ = (true && (decide (c ∈ L26) && _))
            rw [hc]
            rfl
    | _ => exact e_seqR (e_ift (e_torT (e_tnot (e_tru (isi_s hd rfl)))) (e_ret rfl))
  rw [this]
  exact fin_rt hS rfl
end QB
set_option maxHeartbeats 4000000
namespace QB
open PySem PySem.Spec PySem.Calls PyProof.Rows L2
/-! ### all([f(one) for one in thing]) -/
theorem all_call {F : DFn} {f : D → Bool} {xs : List D} {δ : Sl} {S : Sto} {i : Nat} {t : DI} (ht : t δ S = .ok ⟨xs, none⟩ S) (hl : xs.length < sizeLine) (hi : i < δ.length) (hF : ∀ d ∈ xs, F [d] S = .ok (.bl (f d)) S) :
    dF fAll (aCons (dLc t (gNm i) tYesD (dCall F (aCons (dVar i) aNil)) [i]) aNil) δ S = .ok (.bl (xs.all f)) S := by
  have := dLc_map (f := fun d => .bl (f d)) (te := dCall F (aCons (dVar i) aNil)) (vs := [i]) (g := gNm i) ht hl fun d hd => by
    refine ⟨_, rfl, ?_⟩
    have e : dVar i ((wipeD δ [i]).set i (some d)) S = .ok d S := by
      unfold dVar
      rw [List.getElem?_set_self (by rw [wipeD_length]; exact hi)]
    exact e_call (e_cons e e_nil) (hF d hd)
  exact e_f (e_cons this e_nil) (fAll_bl f xs S)
theorem tup_line {xs : List D} (h : pv (.tup xs) = true) : xs.length < sizeLine := Nat.lt_of_le_of_lt (pv_tup.mp h).1 big_line
theorem tup_mem {xs : List D} (h : pv (.tup xs) = true) : ∀ d ∈ xs, pv d = true := pvs_mem.mp (pv_tup.mp h).2
def isRows (n : Nat) : Bool := decide (n ∈ [1, 2, 4, 8, 16, 32])
def rowsD : D → Bool
  | .tup xs => isRows xs.length && xs.all bitD
  | _ => false
def RC : List D := [.int 1, .int 2, .int 4, .int 8, .int 16, .int 32]
theorem in_RC {n : Nat} {S : Sto} {f : Bool → Bool} : bIn f (.int n) (.tup RC) S = some (.bl (f (isRows n))) := by
  have h : bInF f (.int n) (.tup RC) S = some (.bl (f (inV (.int n) [.int 1, .int 2, .int 4, .int 8, .int 16, .int 32]))) := rfl
  have e : inV (.int n) [.int 1, .int 2, .int 4, .int 8, .int 16, .int 32] = isRows n := by
    unfold inV isRows
    simp only [List.any_cons, List.any_nil, eqV]
    rw [Bool.eq_iff_iff]
    simp
    omega
  rw [e] at h
  exact orB_none rfl (orB_none rfl (orB_some h))
theorem F15_eq {d : D} {S : Sto} (hS : Clean S) (hd : pv d = true) : F15 [d] S = .ok (.bl (rowsD d)) S := by
  rw [F15, dDef_eq (n := 1) rfl]
  have : t15 (slots N15 [d]) S = .rt (.bl (rowsD d)) S := by
    cases d with
    | tup xs => exact e_ret (e_andT (isi_t hd rfl) (e_and (e_2 (len_t rfl) rfl in_RC) fun _ => all_call rfl (tup_line hd) (by show 1 < 2; decide) fun d h => F11_eq hS (tup_mem hd d h)))
    | _ => exact e_ret (e_andF (isi_t hd rfl))
  rw [this]
  exact fin_rt hS rfl
theorem F58_eq {d : D} {S : Sto} (hS : Clean S) (hd : pv d = true) : F58 [d] S = .ok (.bl (rowsD d)) S := by
  rw [F58, dDef_eq (n := 1) rfl]
  have : t58 (slots N58 [d]) S = .rt (.bl (rowsD d)) S := by
    cases d with
    | tup xs =>
      have h1 : tOrD (tNotD (tTru (dF fIsi (aCons (dVar 0) (aCons (dC (.ty "tuple")) aNil))))) (tBool (d2 (bIn not) (dF fLen (aCons (dVar 0) aNil)) (dTup (aCons (dC (.int 1)) (aCons (dC (.int 2)) (aCons (dC (.int 4)) (aCons (dC (.int 8)) (aCons (dC (.int 16)) (aCons (dC (.int 32)) aNil))))))))) (slots N58 [.tup xs]) S = _ :=
        e_torF (e_tnot (e_tru (isi_t hd rfl))) (e_bool (e_2 (len_t rfl) (e_tup (e_cons rfl (e_cons rfl (e_cons rfl (e_cons rfl (e_cons rfl (e_cons rfl e_nil)))))) (by rw [sizeLine_eq]; decide)) in_RC))
      cases hb : isRows xs.length with
      | false =>
        rw [hb] at h1
        exact (e_seqR (e_ift h1 (e_ret rfl))).trans (bool_eq (by simp [rowsD, hb]))
      | true =>
        rw [hb] at h1
        exact (e_seq (e_iff h1 rfl) (e_ret (all_call rfl (tup_line hd) (by show 1 < 2; decide) fun d h => F55_eq hS (tup_mem hd d h)))).trans (bool_eq (by simp [rowsD, hb]))
    | _ => exact e_seqR (e_ift (e_torT (e_tnot (e_tru (isi_t hd rfl)))) (e_ret rfl))
  rw [this]
  exact fin_rt hS rfl
/-! ### a gate -/
def strLe (a b : Str) : Bool := !decide (b.cps.toList < a.cps.toList)
def gateF (d : D) (above : Str) : Option String := match d with
  | .tup [n, r] => (match n with
    | .str w => if wordL w.cps.toList = true then (if strLe w above = true then some "sequence" else if rowsD r = true then none else some "rows") else some "name"
    | _ => some "name")
  | _ => some "shape"
def ofF : Option String → D
  | some w => .str (Str.ofString w)
  | none => .non
def ofF2 : Option String → D
  | some w => .str (Str.ofString w)
  | none => .str (Str.ofString "")
theorem scalI {a b : Int} : scal (.int a) (.int b) = true := rfl
theorem decI {a b : Int} : decide (V.int a = V.int b) = decide (a = b) := by simp
theorem bNe_int {a b : Int} {S : Sto} : bNe (.int a) (.int b) S = some (.bl (!decide (a = b))) := by
  refine orB_some ?_
  show (if scal (.int a) (.int b) = true then some (D.bl (not (decide (V.int a = V.int b)))) else none) = _
  rw [if_pos scalI, decI]
theorem bEq_int {a b : Int} {S : Sto} : bEq (.int a) (.int b) S = some (.bl (decide (a = b))) := by
  refine orB_some ?_
  show (if scal (.int a) (.int b) = true then some (D.bl (id (decide (V.int a = V.int b)))) else none) = _
  rw [if_pos scalI, decI]
  rfl
theorem scalS {a b : Str} : scal (.str a) (.str b) = true := rfl
theorem decS {a b : Str} : decide (V.str a = V.str b) = decide (a = b) := by simp
theorem bNe_str {a b : Str} {S : Sto} : bNe (.str a) (.str b) S = some (.bl (!decide (a = b))) := by
  refine orB_some ?_
  show (if scal (.str a) (.str b) = true then some (D.bl (not (decide (V.str a = V.str b)))) else none) = _
  rw [if_pos scalS, decS]
theorem bEq_str {a b : Str} {S : Sto} : bEq (.str a) (.str b) S = some (.bl (decide (a = b))) := by
  refine orB_some ?_
  show (if scal (.str a) (.str b) = true then some (D.bl (id (decide (V.str a = V.str b)))) else none) = _
  rw [if_pos scalS, decS]
  rfl
theorem bLe_str {a b : Str} {S : Sto} : bLe (.str a) (.str b) S = some (.bl (strLe a b)) := rfl
theorem bGt_str {a b : Str} {S : Sto} : bGt (.str a) (.str b) S = some (.bl (!strLe a b)) := by
  show some (D.bl (decide (b.cps.toList < a.cps.toList))) = _
  simp [strLe]
theorem F16_eq {d : D} {a : Str} {S : Sto} (hS : Clean S) (hd : pv d = true) : F16 [d, .str a] S = .ok (ofF (gateF d a)) S := by
  rw [F16, dDef_eq (n := 2) rfl]
  have : t16 (slots N16 [d, .str a]) S = .rt (ofF (gateF d a)) S := by
    cases d with
    | tup xs =>
      have h1 : tOrD (tNotD (tTru (dF fIsi (aCons (dVar 0) (aCons (dC (.ty "tuple")) aNil))))) (tBool (d2 bNe (dF fLen (aCons (dVar 0) aNil)) (dC (.int 2)))) (slots N16 [.tup xs, .str a]) S = _ := e_torF (e_tnot (e_tru (isi_t hd rfl))) (e_bool (e_2 (len_t rfl) rfl bNe_int))
      rcases xs with _ | ⟨n, _ | ⟨r, _ | ⟨e, xs⟩⟩⟩
      · exact e_seqR (e_ift h1 (e_ret rfl))
      · exact e_seqR (e_ift h1 (e_ret rfl))
      · have hn := tup_mem hd n (by simp)
        have hr := tup_mem hd r (by simp)
        refine e_seq (e_iff h1 rfl) ?_
        have i0 : d2 bIx (dVar 0) (dC (.int 0)) (slots N16 [.tup [n, r], .str a]) S = .ok n S := e_2 rfl rfl (ix_tup at0)
        have i1 : d2 bIx (dVar 0) (dC (.int 1)) (slots N16 [.tup [n, r], .str a]) S = .ok r S := e_2 rfl rfl (ix_tup at1)
        have h2 : tNotD (tTru (dCall F14 (aCons (d2 bIx (dVar 0) (dC (.int 0))) aNil))) (slots N16 [.tup [n, r], .str a]) S = _ := e_tnot (e_tru (e_call (e_cons i0 e_nil) (F14_eq hS hn)))
        cases n with
        | str w =>
          cases hw : wordL w.cps.toList with
          | false =>
            rw [show wordD (.str w) = false from hw] at h2
            refine (e_seqR (e_ift h2 (e_ret rfl))).trans ?_
            simp [gateF, hw, ofF]
          | true =>
            rw [show wordD (.str w) = true from hw] at h2
            refine e_seq (e_iff h2 rfl) ?_
            have h3 : tBool (d2 bLe (d2 bIx (dVar 0) (dC (.int 0))) (dVar 1)) (slots N16 [.tup [.str w, r], .str a]) S = _ := e_bool (e_2 i0 rfl bLe_str)
            cases hs : strLe w a with
            | true =>
              rw [hs] at h3
              refine (e_seqR (e_ift h3 (e_ret rfl))).trans ?_
              simp [gateF, hw, hs, ofF]
            | false =>
              rw [hs] at h3
              refine e_seq (e_iff h3 rfl) ?_
              have h4 : tNotD (tTru (dCall F15 (aCons (d2 bIx (dVar 0) (dC (.int 1))) aNil))) (slots N16 [.tup [.str w, r], .str a]) S = _ := e_tnot (e_tru (e_call (e_cons i1 e_nil) (F15_eq hS hr)))
              cases hq : rowsD r with
              | false =>
                rw [hq] at h4
                refine (e_seqR (e_ift h4 (e_ret rfl))).trans ?_
                simp [gateF, hw, hs, hq, ofF]
              | true =>
                rw [hq] at h4
                refine (e_seq (e_iff h4 rfl) (e_ret rfl)).trans ?_
                simp [gateF, hw, hs, hq, ofF]
        | _ => exact e_seqR (e_ift h2 (e_ret rfl))
      · refine (e_seqR (e_ift (h1.trans ?_) (e_ret rfl)))
        simp
        omega
    | _ => exact e_seqR (e_ift (e_torT (e_tnot (e_tru (isi_t hd rfl)))) (e_ret rfl))
  rw [this]
  refine fin_rt hS ?_
  cases gateF d a <;> rfl
theorem F59_eq {d : D} {a : Str} {S : Sto} (hS : Clean S) (hd : pv d = true) : F59 [d, .str a] S = .ok (ofF2 (gateF d a)) S := by
  rw [F59, dDef_eq (n := 2) rfl]
  have : t59 (slots N59 [d, .str a]) S = .rt (ofF2 (gateF d a)) S := by
    cases d with
    | tup xs =>
      have h1 : tOrD (tNotD (tTru (dF fIsi (aCons (dVar 0) (aCons (dC (.ty "tuple")) aNil))))) (tBool (d2 bNe (dF fLen (aCons (dVar 0) aNil)) (dC (.int 2)))) (slots N59 [.tup xs, .str a]) S = _ := e_torF (e_tnot (e_tru (isi_t hd rfl))) (e_bool (e_2 (len_t rfl) rfl bNe_int))
      rcases xs with _ | ⟨n, _ | ⟨r, _ | ⟨e, xs⟩⟩⟩
      · exact e_seqR (e_ift h1 (e_ret rfl))
      · exact e_seqR (e_ift h1 (e_ret rfl))
      · have hn := tup_mem hd n (by simp)
        have hr := tup_mem hd r (by simp)
        refine e_seq (e_iff h1 rfl) ?_
        have i0 : d2 bIx (dVar 0) (dC (.int 0)) (slots N59 [.tup [n, r], .str a]) S = .ok n S := e_2 rfl rfl (ix_tup at0)
        have i1 : d2 bIx (dVar 0) (dC (.int 1)) (slots N59 [.tup [n, r], .str a]) S = .ok r S := e_2 rfl rfl (ix_tup at1)
        have h2 : tNotD (tTru (dCall F57 (aCons (d2 bIx (dVar 0) (dC (.int 0))) aNil))) (slots N59 [.tup [n, r], .str a]) S = _ := e_tnot (e_tru (e_call (e_cons i0 e_nil) (F57_eq hS hn)))
        cases n with
        | str w =>
          cases hw : wordL w.cps.toList with
          | false =>
            rw [show wordD (.str w) = false from hw] at h2
            refine (e_seqR (e_ift h2 (e_ret rfl))).trans ?_
            simp [gateF, hw, ofF2]
          | true =>
            rw [show wordD (.str w) = true from hw] at h2
            refine e_seq (e_iff h2 rfl) ?_
            have h3 : tNotD (tBool (d2 bGt (d2 bIx (dVar 0) (dC (.int 0))) (dVar 1))) (slots N59 [.tup [.str w, r], .str a]) S = _ := e_tnot (e_bool (e_2 i0 rfl bGt_str))
            rw [Bool.not_not] at h3
            cases hs : strLe w a with
            | true =>
              rw [hs] at h3
              refine (e_seqR (e_ift h3 (e_ret rfl))).trans ?_
              simp [gateF, hw, hs, ofF2]
            | false =>
              rw [hs] at h3
              refine e_seq (e_iff h3 rfl) ?_
              have h4 : tNotD (tTru (dCall F58 (aCons (d2 bIx (dVar 0) (dC (.int 1))) aNil))) (slots N59 [.tup [.str w, r], .str a]) S = _ := e_tnot (e_tru (e_call (e_cons i1 e_nil) (F58_eq hS hr)))
              cases hq : rowsD r with
              | false =>
                rw [hq] at h4
                refine (e_seqR (e_ift h4 (e_ret rfl))).trans ?_
                simp [gateF, hw, hs, hq, ofF2]
              | true =>
                rw [hq] at h4
                refine (e_seq (e_iff h4 rfl) (e_ret rfl)).trans ?_
                simp [gateF, hw, hs, hq, ofF2]
        | _ => exact e_seqR (e_ift h2 (e_ret rfl))
      · refine (e_seqR (e_ift (h1.trans ?_) (e_ret rfl)))
        simp
        omega
    | _ => exact e_seqR (e_ift (e_torT (e_tnot (e_tru (isi_t hd rfl)))) (e_ret rfl))
  rw [this]
  refine fin_rt hS ?_
  cases gateF d a <;> rfl
end QB
set_option maxHeartbeats 4000000
namespace QB
open PySem PySem.Spec PySem.Calls PyProof.Rows L2
/-! ### loops -/
theorem for_nil {E : List D} {g : DG} {b : DS} {δ : Sl} {S : Sto} : sForL ⟨E, none⟩ g b [] δ S = .nx δ S := rfl
theorem for_rt {E : List D} {g : DG} {b : DS} {d v : D} {r : List D} {δ δ1 : Sl} {S S2 : Sto} (hg : g d δ S = some δ1) (hb : b δ1 S = .rt v S2) : sForL ⟨E, none⟩ g b (d :: r) δ S = .rt v S2 := by
  unfold sForL
  rw [if_pos (show (Src.mk E none).ok S = true from rfl), hg]
  simp only [hb]
theorem for_nx {E : List D} {g : DG} {b : DS} {d : D} {r : List D} {δ δ1 δ2 : Sl} {S S2 : Sto} {o : Out} (hg : g d δ S = some δ1) (hb : b δ1 S = .nx δ2 S2) (hr : sForL ⟨E, none⟩ g b r δ2 S2 = o) : sForL ⟨E, none⟩ g b (d :: r) δ S = o := by
  unfold sForL
  rw [if_pos (show (Src.mk E none).ok S = true from rfl), hg]
  simp only [hb]
  exact hr
theorem for_bk {E : List D} {g : DG} {b : DS} {d : D} {r : List D} {δ δ1 δ2 : Sl} {S S2 : Sto} (hg : g d δ S = some δ1) (hb : b δ1 S = .bk δ2 S2) : sForL ⟨E, none⟩ g b (d :: r) δ S = .nx δ2 S2 := by
  unfold sForL
  rw [if_pos (show (Src.mk E none).ok S = true from rfl), hg]
  simp only [hb]
theorem for_ex {E : List D} {g : DG} {b : DS} {d : D} {r : List D} {δ δ1 δ2 : Sl} {S S2 : Sto} {c : Str} {fs : List (Str × D)} (hg : g d δ S = some δ1) (hb : b δ1 S = .ex c fs δ2 S2) : sForL ⟨E, none⟩ g b (d :: r) δ S = .ex c fs δ2 S2 := by
  unfold sForL
  rw [if_pos (show (Src.mk E none).ok S = true from rfl), hg]
  simp only [hb]
theorem e_for {t : DI} {g : DG} {b : DS} {δ : Sl} {S S1 : Sto} {l : List D} {o : Out} (ht : t δ S = .ok ⟨l, none⟩ S1) (h : sForL ⟨l, none⟩ g b l δ S1 = o) : sFor t g b δ S = o := by
  unfold sFor
  rw [ht]
  exact h
def enumF : Nat → List D → List D
  | _, [] => []
  | i, d :: r => .tup [.int i, d] :: enumF (i + 1) r
theorem enumD_eq (ds : List D) : enumD ds = enumF 0 ds := by
  have key : ∀ (l : List D) (k : Nat), (List.range' k l.length).zipWith (fun (i : Nat) d => D.tup [.int i, d]) l = enumF k l := by
    intro l
    induction l with
    | nil => intro k; rfl
    | cons d l ih =>
      intro k
      rw [List.length_cons, List.range'_succ, List.zipWith_cons_cons, enumF, ih (k + 1)]
  unfold enumD
  rw [List.range_eq_range']
  exact key ds 0
theorem bIs_not_non {d : D} {S : Sto} : bIs not d .non S = some (.bl (!isNon d)) := rfl
theorem bIs_non {d : D} {S : Sto} : bIs id d .non S = some (.bl (isNon d)) := rfl
theorem bIs_nn {S : Sto} : bIs not .non .non S = some (.bl false) := rfl
theorem sm {n : Nat} (h : n ≤ 100) : n ≤ sizeLine := by rw [sizeLine_eq]; omega
/-! ### a lot -/
def gname : D → Str
  | .tup (.str w :: _) => w
  | _ => ⟨#[]⟩
def lotF : List D → Nat → Str → Option (String × Nat)
  | [], _, _ => none
  | d :: r, i, a => match gateF d a with
    | some w => some (w, i)
    | none => lotF r (i + 1) (gname d)
def lotD : D → Option (String × Int)
  | .tup xs => (lotF xs 0 (Str.ofString "")).map fun p => (p.1, (p.2 : Int))
  | _ => some ("shape", -1)
theorem gateF_none {d : D} {a : Str} (h : gateF d a = none) : ∃ w r, d = .tup [.str w, r] ∧ wordL w.cps.toList = true ∧ strLe w a = false ∧ rowsD r = true := by
  unfold gateF at h
  split at h
  · split at h
    · rename_i n r w
      split at h
      · split at h
        · cases h
        · split at h
          · exact ⟨_, _, rfl, by assumption, by simpa using ‹¬ strLe _ a = true›, by assumption⟩
          · cases h
      · cases h
    · cases h
  · cases h
abbrev gE : DG := gTp 2 (gsCons (gNm 2) (gsCons (gNm 3) gsNil))
theorem loop17 {E : List D} {S : Sto} (hS : Clean S) (x0 : Option D) : ∀ (xs : List D) (i : Nat) (a : Str) (x2 x3 x4 : Option D), (∀ d ∈ xs, pv d = true) →
    (∃ w j, lotF xs i a = some (w, j) ∧ sForL ⟨E, none⟩ gE L17_0 (enumF i xs) [x0, some (.str a), x2, x3, x4] S = .rt (.tup [.str (Str.ofString w), .int j]) S) ∨
    (lotF xs i a = none ∧ ∃ δ', sForL ⟨E, none⟩ gE L17_0 (enumF i xs) [x0, some (.str a), x2, x3, x4] S = .nx δ' S)
  | [], i, a, x2, x3, x4, _ => .inr ⟨rfl, _, for_nil⟩
  | d :: xs, i, a, x2, x3, x4, hp => by
    have hd := hp d List.mem_cons_self
    have e1 : sAsg (dCall F16 (aCons (dVar 3) (aCons (dVar 1) aNil))) (gNm 4) [x0, some (.str a), some (.int i), some d, x4] S = .nx [x0, some (.str a), some (.int i), some d, some (ofF (gateF d a))] S := e_asg (e_call (e_cons rfl (e_cons rfl e_nil)) (F16_eq hS hd))
    cases hg : gateF d a with
    | some w =>
      refine .inl ⟨w, i, by simp [lotF, hg], for_rt (δ1 := [x0, some (.str a), some (.int i), some d, x4]) rfl ?_⟩
      rw [hg] at e1
      exact e_seq e1 (e_seqR (e_ift (e_bool (e_2 rfl rfl bIs_not_non)) (e_ret (e_tup (e_cons rfl (e_cons rfl e_nil)) (sm (by simp))))))
    | none =>
      obtain ⟨w, r, rfl, _⟩ := gateF_none hg
      rw [hg] at e1
      have e2 : L17_0 [x0, some (.str a), some (.int i), some (.tup [.str w, r]), x4] S = .nx [x0, some (.str w), some (.int i), some (.tup [.str w, r]), some .non] S :=
        e_seq e1 (e_seq (e_iff (e_bool (e_2 rfl rfl bIs_nn)) rfl) (e_asg (e_2 rfl rfl (ix_tup at0))))
      rcases loop17 hS x0 xs (i + 1) w (some (.int i)) (some (.tup [.str w, r])) (some .non) (fun d hd => hp d (List.mem_cons_of_mem _ hd)) with ⟨w', j, h1, h2⟩ | ⟨h1, δ', h2⟩
      · exact .inl ⟨w', j, by simp [lotF, hg, gname, h1], for_nx (δ1 := [x0, some (.str a), some (.int i), some (.tup [.str w, r]), x4]) rfl e2 h2⟩
      · exact .inr ⟨by simp [lotF, hg, gname, h1], δ', for_nx (δ1 := [x0, some (.str a), some (.int i), some (.tup [.str w, r]), x4]) rfl e2 h2⟩
def lot17 : Option (String × Int) → D
  | some (w, i) => .tup [.str (Str.ofString w), .int i]
  | none => .non
theorem F17_eq {d : D} {S : Sto} (hS : Clean S) (hd : pv d = true) : F17 [d] S = .ok (lot17 (lotD d)) S := by
  rw [F17, dDef_eq (n := 1) rfl]
  have : t17 (slots N17 [d]) S = .rt (lot17 (lotD d)) S := by
    cases d with
    | tup xs =>
      have h1 : tNotD (tTru (dF fIsi (aCons (dVar 0) (aCons (dC (.ty "tuple")) aNil)))) (slots N17 [.tup xs]) S = _ := e_tnot (e_tru (isi_t hd rfl))
      refine e_seq (e_iff h1 rfl) (e_seq (e_asg rfl) ?_)
      have hsrc : iEnumD (dVar 0) [some (.tup xs), some (.str (Str.ofString "")), none, none, none] S = .ok ⟨enumF 0 xs, none⟩ S := by
        rw [← enumD_eq]; rfl
      rcases loop17 (E := enumF 0 xs) hS (some (.tup xs)) xs 0 (Str.ofString "") none none none (tup_mem hd) with ⟨w, j, h2, h3⟩ | ⟨h2, δ', h3⟩
      · refine (e_seqR (e_for hsrc h3)).trans ?_
        simp [lotD, h2, lot17]
      · refine (e_seq (e_for hsrc h3) (e_ret rfl)).trans ?_
        simp [lotD, h2, lot17]
    | _ => exact e_seqR (e_ift (e_tnot (e_tru (isi_t hd rfl))) (e_ret (e_tup (e_cons rfl (e_cons rfl e_nil)) (sm (by simp)))))
  rw [this]
  refine fin_rt hS ?_
  cases lotD d <;> rfl
theorem gateF_ne {d : D} {a : Str} {w : String} (h : gateF d a = some w) : Str.ofString w ≠ Str.ofString "" := by
  have : w = "shape" ∨ w = "name" ∨ w = "sequence" ∨ w = "rows" := by
    unfold gateF at h
    split at h
    · split at h
      · split at h
        · split at h
          · cases h; simp
          · split at h
            · cases h
            · cases h; simp
        · cases h; simp
      · cases h; simp
    · cases h; simp
  rcases this with rfl | rfl | rfl | rfl <;> decide
theorem loop60 {E : List D} {S : Sto} (hS : Clean S) (x0 : Option D) : ∀ (xs : List D) (i : Nat) (a : Str) (x2 x3 x4 : Option D), (∀ d ∈ xs, pv d = true) →
    (∃ w j, lotF xs i a = some (w, j) ∧ sForL ⟨E, none⟩ gE L60_0 (enumF i xs) [x0, some (.str a), x2, x3, x4] S = .rt (.tup [.bl false, .str (Str.ofString w), .int j]) S) ∨
    (lotF xs i a = none ∧ ∃ y1 y2 y3 y4, sForL ⟨E, none⟩ gE L60_0 (enumF i xs) [x0, some (.str a), x2, x3, x4] S = .nx [x0, y1, y2, y3, y4] S)
  | [], i, a, x2, x3, x4, _ => .inr ⟨rfl, _, _, _, _, for_nil⟩
  | d :: xs, i, a, x2, x3, x4, hp => by
    have hd := hp d List.mem_cons_self
    have e1 : sAsg (dCall F59 (aCons (dVar 3) (aCons (dVar 1) aNil))) (gNm 4) [x0, some (.str a), some (.int i), some d, x4] S = .nx [x0, some (.str a), some (.int i), some d, some (ofF2 (gateF d a))] S := e_asg (e_call (e_cons rfl (e_cons rfl e_nil)) (F59_eq hS hd))
    cases hg : gateF d a with
    | some w =>
      refine .inl ⟨w, i, by simp [lotF, hg], for_rt (δ1 := [x0, some (.str a), some (.int i), some d, x4]) rfl ?_⟩
      rw [hg] at e1
      have e3 : bNe (.str (Str.ofString w)) (.str (Str.ofString "")) S = some (.bl true) := by rw [bNe_str, decide_eq_false (gateF_ne hg)]; rfl
      exact e_seq e1 (e_seqR (e_ift (e_bool (e_2 rfl rfl e3)) (e_ret (e_tup (e_cons rfl (e_cons rfl (e_cons rfl e_nil))) (sm (by simp))))))
    | none =>
      obtain ⟨w, r, rfl, _⟩ := gateF_none hg
      rw [hg] at e1
      have e3 : bNe (.str (Str.ofString "")) (.str (Str.ofString "")) S = some (.bl false) := by rw [bNe_str, decide_eq_true rfl]; rfl
      have e2 : L60_0 [x0, some (.str a), some (.int i), some (.tup [.str w, r]), x4] S = .nx [x0, some (.str w), some (.int i), some (.tup [.str w, r]), some (.str (Str.ofString ""))] S :=
        e_seq e1 (e_seq (e_iff (e_bool (e_2 rfl rfl e3)) rfl) (e_asg (e_2 rfl rfl (ix_tup at0))))
      rcases loop60 hS x0 xs (i + 1) w (some (.int i)) (some (.tup [.str w, r])) (some (.str (Str.ofString ""))) (fun d hd => hp d (List.mem_cons_of_mem _ hd)) with ⟨w', j, h1, h2⟩ | ⟨h1, y1, y2, y3, y4, h2⟩
      · exact .inl ⟨w', j, by simp [lotF, hg, gname, h1], for_nx (δ1 := [x0, some (.str a), some (.int i), some (.tup [.str w, r]), x4]) rfl e2 h2⟩
      · exact .inr ⟨by simp [lotF, hg, gname, h1], y1, y2, y3, y4, for_nx (δ1 := [x0, some (.str a), some (.int i), some (.tup [.str w, r]), x4]) rfl e2 h2⟩
/-- what _law_lot_due gives -/
def due60 (d : D) : D := match lotD d with
  | some (w, i) => .tup [.bl false, .str (Str.ofString w), .int i]
  | none => match d with
    | .tup xs => .tup [.bl true, .int xs.length]
    | _ => .non
theorem F60_eq {d : D} {S : Sto} (hS : Clean S) (hd : pv d = true) : F60 [d] S = .ok (due60 d) S := by
  rw [F60, dDef_eq (n := 1) rfl]
  have : t60 (slots N60 [d]) S = .rt (due60 d) S := by
    cases d with
    | tup xs =>
      have h1 : tNotD (tTru (dF fIsi (aCons (dVar 0) (aCons (dC (.ty "tuple")) aNil)))) (slots N60 [.tup xs]) S = _ := e_tnot (e_tru (isi_t hd rfl))
      refine e_seq (e_iff h1 rfl) (e_seq (e_asg rfl) ?_)
      have hsrc : iEnumD (dVar 0) [some (.tup xs), some (.str (Str.ofString "")), none, none, none] S = .ok ⟨enumF 0 xs, none⟩ S := by
        rw [← enumD_eq]; rfl
      rcases loop60 (E := enumF 0 xs) hS (some (.tup xs)) xs 0 (Str.ofString "") none none none (tup_mem hd) with ⟨w, j, h2, h3⟩ | ⟨h2, y1, y2, y3, y4, h3⟩
      · refine (e_seqR (e_for hsrc h3)).trans ?_
        simp [due60, lotD, h2]
      · refine (e_seq (e_for hsrc h3) (e_ret (e_tup (e_cons rfl (e_cons (len_t rfl) e_nil)) (sm (by simp))))).trans ?_
        simp [due60, lotD, h2]
    | _ => exact e_seqR (e_ift (e_tnot (e_tru (isi_t hd rfl))) (e_ret (e_tup (e_cons rfl (e_cons rfl (e_cons rfl e_nil))) (sm (by simp)))))
  rw [this]
  refine fin_rt hS ?_
  unfold due60
  cases lotD d with
  | some p => rfl
  | none => cases d <;> rfl
end QB
set_option maxHeartbeats 4000000
namespace QB
open PySem PySem.Spec PySem.Calls PyProof.Rows L2
theorem lotD_tup {d : D} (h : lotD d = none) : ∃ xs, d = .tup xs := by
  cases d <;> first | exact ⟨_, rfl⟩ | simp [lotD] at h
def exF (w : String) (i : Int) : List (Str × D) := [(Str.ofString "word", .str (Str.ofString w)), (Str.ofString "at", .int i)]
theorem F29_ex {d : D} {S : Sto} {w : String} {i : Int} (hS : Clean S) (hd : pv d = true) (h : lotD d = some (w, i)) : F29 [d] S = .ex (Str.ofString "InvalidPaper") (exF w i) S := by
  rw [F29, dDef_eq (n := 1) rfl]
  have e1 : sAsg (dCall F17 (aCons (dVar 0) aNil)) (gNm 1) (slots N29 [d]) S = .nx [some d, some (.tup [.str (Str.ofString w), .int i]), none, none] S := by
    have := F17_eq hS hd
    rw [h] at this
    exact e_asg (e_call (e_cons rfl e_nil) this)
  have : t29 (slots N29 [d]) S = .ex (Str.ofString "InvalidPaper") (exF w i) [some d, some (.tup [.str (Str.ofString w), .int i]), some (.str (Str.ofString w)), some (.int i)] S := by
    refine e_seq e1 ?_
    show (sIf _ _ _ _ _).seq _ = _
    rw [e_ift (e_bool (e_2 rfl rfl bIs_not_non)) rfl]
    rfl
  rw [this]
  exact fin_ex2 hS rfl rfl
theorem F29_ok {xs : List D} {S : Sto} (hS : Clean S) (hd : pv (.tup xs) = true) (h : lotD (.tup xs) = none) : F29 [.tup xs] S = .ok (.int xs.length) S := by
  rw [F29, dDef_eq (n := 1) rfl]
  have e1 : sAsg (dCall F17 (aCons (dVar 0) aNil)) (gNm 1) (slots N29 [.tup xs]) S = .nx [some (.tup xs), some .non, none, none] S := by
    have := F17_eq hS hd
    rw [h] at this
    exact e_asg (e_call (e_cons rfl e_nil) this)
  have : t29 (slots N29 [.tup xs]) S = .rt (.int xs.length) S := e_seq e1 (e_seq (e_iff (e_bool (e_2 rfl rfl bIs_nn)) rfl) (e_ret (len_t rfl)))
  rw [this]
  exact fin_rt hS rfl
theorem F34_eq {d : D} {S : Sto} (hS : Clean S) (hd : pv d = true) : F34 [d] S = .ok (.bl (lotD d).isNone) S := by
  rw [F34, dDef_eq (n := 1) rfl]
  have : t34 (slots N34 [d]) S = .rt (.bl (isNon (lot17 (lotD d)))) S := e_ret (e_2 (e_call (e_cons rfl e_nil) (F17_eq hS hd)) rfl bIs_non)
  rw [this]
  have e : isNon (lot17 (lotD d)) = (lotD d).isNone := by cases lotD d <;> rfl
  rw [e]
  exact fin_rt hS rfl
theorem e_tryEx {mt : List (Str × Bool)} {i : Nat} {ts : Nat → Nat → Str → DS} {tb : DS} {δ δ1 : Sl} {S S1 : Sto} {c : Str} {fs : List (Str × D)} {o : Out} (h : tb δ S = .ex c fs δ1 S1) (hm : mtL mt c = some true) (hn : (fs.map (·.1)).Nodup)
    (ho : (ts 0 0 c (δ1.set i (some (.exc 0 0 c (fs.map (·.1)) (fs.map (·.2))))) S1).clr i = o) : sTryAs mt i ts tb δ S = o := by
  unfold sTryAs
  rw [h]
  simp only [hm]
  rw [if_pos hn]
  exact ho
theorem e_tryNx {mt : List (Str × Bool)} {i : Nat} {ts : Nat → Nat → Str → DS} {tb : DS} {δ δ1 : Sl} {S S1 : Sto} (h : tb δ S = .nx δ1 S1) : sTryAs mt i ts tb δ S = .nx δ1 S1 := by
  unfold sTryAs
  rw [h]
theorem e_tryRt {mt : List (Str × Bool)} {i : Nat} {ts : Nat → Nat → Str → DS} {tb : DS} {δ : Sl} {S S1 : Sto} {d : D} (h : tb δ S = .rt d S1) : sTryAs mt i ts tb δ S = .rt d S1 := by
  unfold sTryAs
  rw [h]
theorem nodupWA : [Str.ofString "word", Str.ofString "at"].Nodup := by decide +kernel
theorem e_word {i : Nat} {δ : Sl} {S : Sto} {c : Str} {d1 d2 : D} (hi : i < δ.length) : dXf 0 0 (Str.ofString "word") i (δ.set i (some (.exc 0 0 c [Str.ofString "word", Str.ofString "at"] [d1, d2]))) S = .ok d1 S := by
  rw [dXf_self, if_pos hi]
  rfl
theorem e_at {i : Nat} {δ : Sl} {S : Sto} {c : Str} {d1 d2 : D} (hi : i < δ.length) : dXf 0 0 (Str.ofString "at") i (δ.set i (some (.exc 0 0 c [Str.ofString "word", Str.ofString "at"] [d1, d2]))) S = .ok d2 S := by
  rw [dXf_self, if_pos hi]
  have : List.lookup (Str.ofString "at") ([Str.ofString "word", Str.ofString "at"].zip [d1, d2]) = some d2 := by
    show List.lookup (Str.ofString "at") [(Str.ofString "word", d1), (Str.ofString "at", d2)] = some d2
    rw [List.lookup_cons, show (Str.ofString "at" == Str.ofString "word") = false from by decide +kernel]
    exact List.lookup_cons_self
  rw [this]
/-- except C as e: return (False, e.word, e.at) -/
theorem e_suite {i : Nat} {δ : Sl} {S : Sto} {c : Str} {d1 d2 : D} (hi : i < δ.length) : (sRet (dTup (aCons (dC (.bl false)) (aCons (dXf 0 0 (Str.ofString "word") i) (aCons (dXf 0 0 (Str.ofString "at") i) aNil)))) (δ.set i (some (.exc 0 0 c [Str.ofString "word", Str.ofString "at"] [d1, d2]))) S).clr i = .rt (.tup [.bl false, d1, d2]) S := by
  rw [e_ret (e_tup (e_cons rfl (e_cons (e_word hi) (e_cons (e_at hi) e_nil))) (sm (by simp)))]
  rfl
theorem F74_eq {d : D} {S : Sto} (hS : Clean S) (hd : pv d = true) : F74 [d] S = .ok (due60 d) S := by
  rw [F74, dDef_eq (n := 1) rfl]
  have : t74 (slots N74 [d]) S = .rt (due60 d) S := by
    cases h : lotD d with
    | some p =>
      obtain ⟨w, i⟩ := p
      have e1 : sAsg (dCall F29 (aCons (dVar 0) aNil)) (gNm 1) (slots N74 [d]) S = .ex (Str.ofString "InvalidPaper") (exF w i) (slots N74 [d]) S := by
        simp only [evS, e_call (e_cons (show dVar 0 (slots N74 [d]) S = .ok d S from rfl) e_nil) (F29_ex hS hd h), evO]
      have e2 : due60 d = .tup [.bl false, .str (Str.ofString w), .int i] := by simp [due60, h]
      rw [e2]
      exact e_seqR (e_tryEx e1 (by decide +kernel) nodupWA (e_suite (by show 2 < 3; decide)))
    | none =>
      obtain ⟨xs, rfl⟩ := lotD_tup h
      have e1 : sAsg (dCall F29 (aCons (dVar 0) aNil)) (gNm 1) (slots N74 [.tup xs]) S = .nx [some (.tup xs), some (.int xs.length), none] S := e_asg (e_call (e_cons rfl e_nil) (F29_ok hS hd h))
      have e2 : due60 (.tup xs) = .tup [.bl true, .int xs.length] := by simp [due60, h]
      rw [e2]
      exact e_seq (e_tryNx e1) (e_ret (e_tup (e_cons rfl (e_cons rfl e_nil)) (sm (by simp))))
  rw [this]
  refine fin_rt hS ?_
  unfold due60
  cases lotD d with
  | some p => rfl
  | none => cases d <;> rfl
/-! ### _law_same, _law_told -/
def isItem : D → Bool
  | .int _ => true
  | .str _ => true
  | _ => false
theorem item_pv {d : D} (h : isItem d = true) (hs : ∀ z, d = .str z → z.length ≤ BIG) : pv d = true := by
  cases d <;> simp [isItem] at h
  · rfl
  · exact pv_str.mpr (hs _ rfl)
theorem fIsi_is {d : D} {S : Sto} (h : isItem d = true) : fIsi [d, .tup [.ty "int", .ty "str"]] S = some (.bl true) := by
  cases d <;> simp [isItem] at h
  · show Option.map D.bl (kitAnyB "int" [.ty "int", .ty "str"]) = _
    rw [show kitAnyB "int" [.ty "int", .ty "str"] = some true from by decide +kernel]
    rfl
  · show Option.map D.bl (kitAnyB "str" [.ty "int", .ty "str"]) = _
    rw [show kitAnyB "str" [.ty "int", .ty "str"] = some true from by decide +kernel]
    rfl
theorem fIsi_bi {d : D} {S : Sto} (h : isItem d = true) : fIsi [d, .ty "bool"] S = some (.bl false) := by
  cases d <;> simp [isItem] at h
  · exact fIsi_bool (d := .int _) rfl
  · show Option.map D.bl (kitB "str" "bool") = _
    rw [show kitB "str" "bool" = some false from by decide +kernel]
    rfl
theorem bNe_item {d : D} {S : Sto} (h : isItem d = true) : bNe d d S = some (.bl false) := by
  cases d <;> simp [isItem] at h
  · rw [bNe_int, decide_eq_true rfl]; rfl
  · rw [bNe_str, decide_eq_true rfl]; rfl
theorem loop75 {E : List D} {S : Sto} (x0 x1 : Option D) : ∀ (xs : List D) (x2 x3 : Option D), (∀ d ∈ xs, isItem d = true) → ∃ y2 y3, sForL ⟨E, none⟩ gE L75_0 (zipD xs xs) [x0, x1, x2, x3] S = .nx [x0, x1, y2, y3] S
  | [], x2, x3, _ => ⟨_, _, for_nil⟩
  | d :: xs, x2, x3, h => by
    have hd := h d List.mem_cons_self
    obtain ⟨y2, y3, h2⟩ := loop75 x0 x1 xs (some d) (some d) (fun d hd => h d (List.mem_cons_of_mem _ hd))
    refine ⟨y2, y3, for_nx (δ1 := [x0, x1, some d, some d]) rfl ?_ h2⟩
    exact e_iff (e_torF (e_tru (e_f (e_cons rfl (e_cons rfl e_nil)) (fIsi_bi hd))) (e_torF (e_tnot (e_tru (e_f (e_cons rfl (e_cons (e_tup (e_cons rfl (e_cons rfl e_nil)) (sm (by simp))) e_nil)) (fIsi_is hd)))) (e_bool (e_2 rfl rfl (bNe_item hd))))) rfl
theorem e_slT {i : Nat} {δ : Sl} {S : Sto} {x : D} {xs : List D} (hv : dVar i δ S = .ok (.tup (x :: xs)) S) : dSl (dVar i) (oSome (dC (.int 1))) oNone δ S = .ok (.tup xs) S := by
  have e : HT.sIx (x :: xs).length 0 (some 1) = min 1 (x :: xs).length := HT.sIx_nat (x :: xs).length 0 1
  have e2 : cutL (x :: xs) (some 1) none = xs := by
    unfold cutL
    rw [e, HT.sIx_none]
    have : min 1 (x :: xs).length = 1 := by simp
    rw [this]
    simp
  unfold dSl
  rw [hv]
  simp only [evR, oSome, oNone, evE]
  show ofOpt (some (D.tup (cutL (x :: xs) (some 1) none))) S = _
  rw [e2]
  rfl
theorem F75_refl {b : Bool} {r : List D} {S : Sto} (hS : Clean S) (h : ∀ d ∈ r, isItem d = true) (hp : pv (.tup (.bl b :: r)) = true) : F75 [.tup (.bl b :: r), .tup (.bl b :: r)] S = .ok (.bl true) S := by
  rw [F75, dDef_eq (n := 2) rfl]
  have : t75 (slots N75 [.tup (.bl b :: r), .tup (.bl b :: r)]) S = .rt (.bl true) S := by
    have hb : bNe (.bl b) (.bl b) S = some (.bl false) := by cases b <;> rfl
    have hl : bNe (.int ((D.bl b :: r).length : Nat)) (.int ((D.bl b :: r).length : Nat)) S = some (.bl false) := by rw [bNe_int, decide_eq_true rfl]; rfl
    refine e_seq (e_iff (e_torF (e_tnot (e_tru (isi_t hp rfl))) (e_torF (e_bool (e_2 (len_t rfl) (len_t rfl) hl)) (e_bool (e_2 (e_2 rfl rfl (ix_tup at0)) (e_2 rfl rfl (ix_tup at0)) hb)))) rfl) ?_
    obtain ⟨y2, y3, h2⟩ := loop75 (E := zipD r r) (S := S) (some (.tup (.bl b :: r))) (some (.tup (.bl b :: r))) r none none h
    refine e_seq (e_for (l := zipD r r) ?_ h2) (e_ret rfl)
    unfold iZipD
    rw [e_cons (e_slT (i := 0) (δ := slots N75 [.tup (.bl b :: r), .tup (.bl b :: r)]) rfl) (e_cons (e_slT (i := 1) rfl) e_nil)]
    rfl
  rw [this]
  exact fin_rt hS rfl
theorem F68_same {b : Bool} {S : Sto} (hS : Clean S) : F68 [.bl b, .bl b] S = .ok (.bl true) S := by
  rw [F68, dDef_eq (n := 2) rfl]
  have : t68 (slots N68 [.bl b, .bl b]) S = .rt (.bl true) S := by cases b <;> rfl
  rw [this]
  exact fin_rt hS rfl
end QB
set_option maxHeartbeats 4000000
namespace QB
open PySem PySem.Spec PySem.Calls PyProof.Rows L2
/-! ### inputs -/
def lg : Nat → Nat
  | 2 => 1
  | 4 => 2
  | 8 => 3
  | 16 => 4
  | 32 => 5
  | _ => 0
theorem lg_pow {n : Nat} (h : isRows n = true) : n = 2 ^ lg n ∧ lg n ≤ 5 := by
  have : n ∈ [1, 2, 4, 8, 16, 32] := of_decide_eq_true h
  simp at this
  rcases this with rfl | rfl | rfl | rfl | rfl | rfl <;> decide
abbrev w18 : DT := tBool (d2 bLt (d2 bShl (dC (.int 1)) (dVar 1)) (dF fLen (aCons (dVar 0) aNil)))
theorem loop18 {xs : List D} {S : Sto} : ∀ (k m fuel : Nat), xs.length = 2 ^ (m + k) → m + k ≤ 5 → k < fuel → sWhileL w18 (sAugI 1 bAddI (dC (.int 1))) fuel [some (.tup xs), some (.int m)] S = .nx [some (.tup xs), some (.int ((m + k : Nat) : Int))] S
  | k, m, 0, _, _, h => by omega
  | k, m, fuel + 1, hl, hk, hf => by
    have hs : bShl (.int 1) (.int (m : Int)) S = some (.int ((2 ^ m : Nat) : Int)) := by
      show (if 0 ≤ (m : Int) ∧ (m : Int) ≤ 1000000 ∧ (1 : Int).natAbs < 2 ^ 64 then some ((1 : Int) * 2 ^ (m : Int).toNat) else none).map D.int = _
      rw [if_pos ⟨by omega, by omega, by decide⟩]
      simp
    have hlt : bLt (.int ((2 ^ m : Nat) : Int)) (.int (xs.length : Nat)) S = some (.bl (decide (2 ^ m < xs.length))) := by
      have : bLt (.int ((2 ^ m : Nat) : Int)) (.int (xs.length : Nat)) S = some (.bl (decide (((2 ^ m : Nat) : Int) < (xs.length : Nat)))) := rfl
      rw [this]
      congr 2
      exact decide_eq_decide.mpr (by omega)
    have ht : w18 [some (.tup xs), some (.int m)] S = .ok (decide (2 ^ m < xs.length)) S := e_bool (e_2 (e_2 rfl rfl hs) (len_t rfl) hlt)
    unfold sWhileL
    rw [ht]
    simp only [evO]
    cases k with
    | zero =>
      have : decide (2 ^ m < xs.length) = false := decide_eq_false (by rw [hl]; simp)
      rw [this]
      rfl
    | succ k =>
      have : decide (2 ^ m < xs.length) = true := decide_eq_true (by rw [hl]; exact Nat.pow_lt_pow_right (by decide) (by omega))
      rw [this]
      have hb : sAugI 1 bAddI (dC (.int 1)) [some (.tup xs), some (.int m)] S = .nx [some (.tup xs), some (.int ((m : Int) + 1))] S := rfl
      rw [if_pos rfl, hb]
      have ih := loop18 (xs := xs) (S := S) k (m + 1) fuel (by rw [hl]; congr 1; omega) (by omega) (by omega)
      have e : m + 1 + k = m + (k + 1) := by omega
      rw [e] at ih
      exact ih
theorem F18_eq {xs : List D} {S : Sto} (hS : Clean S) (h : isRows xs.length = true) : F18 [.tup xs] S = .ok (.int (lg xs.length : Nat)) S := by
  rw [F18, dDef_eq (n := 1) rfl]
  obtain ⟨h1, h2⟩ := lg_pow h
  have e := loop18 (xs := xs) (S := S) (lg xs.length) 0 64 (by rw [Nat.zero_add]; exact h1) (by omega) (by omega)
  rw [Nat.zero_add] at e
  have : t18 (slots N18 [.tup xs]) S = .rt (.int (lg xs.length : Nat)) S := e_seq (e_asg rfl) (e_seq e (e_ret rfl))
  rw [this]
  exact fin_rt hS rfl
/-! ### good gates -/
def gR : D → List D
  | .tup [_, .tup r] => r
  | _ => []
structure GG (g : D) : Prop where
  ex : ∃ w r, g = .tup [.str w, .tup r] ∧ wordL w.cps.toList = true ∧ isRows r.length = true ∧ r.all bitD = true
def inp (g : D) : Nat := lg (gR g).length
theorem F52_eq {g : D} {S : Sto} (hS : Clean S) (h : GG g) : F52 [g] S = .ok (.int (inp g : Nat)) S := by
  obtain ⟨w, r, rfl, h1, h2, h3⟩ := h.ex
  rw [F52, dDef_eq (n := 1) rfl]
  have hb : dBits (dF fLen (aCons (d2 bIx (dVar 0) (dC (.int 1))) aNil)) (slots N52 [.tup [.str w, .tup r]]) S = .ok (.int ((lg r.length : Nat) + 1 : Int)) S := by
    unfold dBits
    rw [e_f (e_cons (e_2 (x := .tup [.str w, .tup r]) (y := .int 1) rfl rfl (ix_tup at1)) e_nil) rfl]
    simp only [evR]
    have : r.length ∈ [1, 2, 4, 8, 16, 32] := of_decide_eq_true h2
    simp at this
    rcases this with e | e | e | e | e | e <;> rw [e] <;> rfl
  have : t52 (slots N52 [.tup [.str w, .tup r]]) S = .rt (.int (lg r.length : Nat)) S := by
    refine (e_ret (e_2 hb rfl (show bSub (.int ((lg r.length : Nat) + 1 : Int)) (.int 1) S = some (.int ((lg r.length : Nat) + 1 - 1 : Int)) from rfl))).trans ?_
    congr 2
    omega
  rw [this]
  exact fin_rt hS rfl
end QB
set_option maxHeartbeats 4000000
namespace QB
open PySem PySem.Spec PySem.Calls PyProof.Rows L2
/-! ### the lot as a dict -/
def Lot (gs : List D) : Prop := (∀ g ∈ gs, GG g) ∧ (gs.map gname).Nodup ∧ gs.length ≤ 100
theorem putD_new {acc : List (Key × D)} {k : Key} {v : D} (h : k ∉ acc.map (·.1)) : putD acc k v = acc ++ [(k, v)] := by
  unfold putD
  rw [if_neg]
  intro hq
  obtain ⟨p, hp, e⟩ := List.any_eq_true.mp hq
  exact h (List.mem_map.mpr ⟨p, hp, of_decide_eq_true e⟩)
abbrev g12 : DG := gTp 2 (gsCons (gNm 1) (gsCons (gNm 2) gsNil))
theorem dcL_gates {E : List D} {S : Sto} {tv : DE} {f : D → D} {x0 : Option D} : ∀ (gs : List D) (acc : List (Key × D)), (∀ g ∈ gs, GG g) → (gs.map gname).Nodup → (∀ g ∈ gs, Sum.inr (gname g) ∉ acc.map (·.1)) →
    (∀ w r, D.tup [.str w, .tup r] ∈ gs → tv [x0, some (.str w), some (.tup r)] S = .ok (f (.tup [.str w, .tup r])) S) → dcL ⟨E, none⟩ g12 tYesD (dVar 1) tv [x0, none, none] gs acc S = .ok (acc ++ gs.map fun g => (Sum.inr (gname g), f g)) S
  | [], acc, _, _, _, _ => by
    unfold dcL
    rw [if_pos (show (Src.mk E none).ok S = true from rfl)]
    simp
  | g :: gs, acc, h1, h2, h3, h4 => by
    obtain ⟨w, r, rfl, _⟩ := (h1 _ List.mem_cons_self).ex
    have h2' := List.nodup_cons.mp (show (w :: gs.map gname).Nodup from h2)
    have ih := dcL_gates (E := E) (S := S) (tv := tv) (f := f) (x0 := x0) gs (acc ++ [(Sum.inr w, f (.tup [.str w, .tup r]))]) (fun g hg => h1 g (List.mem_cons_of_mem _ hg)) h2'.2 (fun g hg => by
      rw [List.map_append, List.mem_append]
      rintro (z | z)
      · exact h3 g (List.mem_cons_of_mem _ hg) z
      · have e : Sum.inr (gname g) = (Sum.inr w : Key) := List.mem_singleton.mp z
        have e : gname g = w := by injection e
        exact h2'.1 (List.mem_map.mpr ⟨g, hg, e⟩)) (fun w r hm => h4 w r (List.mem_cons_of_mem _ hm))
    unfold dcL
    rw [if_pos (show (Src.mk E none).ok S = true from rfl)]
    have q0 : g12 (.tup [.str w, .tup r]) [x0, none, none] S = some [x0, some (.str w), some (.tup r)] := rfl
    simp only [q0, tYesD, evT, evO, evR, if_true]
    have q1 : dVar 1 [x0, some (D.str w), some (D.tup r)] S = .ok (.str w) S := rfl
    simp only [q1, evO, evR]
    rw [h4 w r List.mem_cons_self]
    simp only [evO, evR, show keyD (.str w) = some (Sum.inr w) from rfl]
    rw [putD_new (k := Sum.inr w) (h3 _ List.mem_cons_self)]
    rw [ih, List.append_assoc]
    rfl
def keysG (gs : List D) : List Key := gs.map fun g => Sum.inr (gname g)
theorem F19_eq {gs : List D} {S : Sto} (hS : Clean S) (hl : Lot gs) : F19 [.tup gs] S = .ok (.dic (keysG gs) (gs.map fun g => .int (inp g : Nat))) S := by
  rw [F19, dDef_eq (n := 1) rfl]
  have hlen : gs.length < sizeLine := by rw [sizeLine_eq]; have := hl.2.2; omega
  have : t19 (slots N19 [.tup gs]) S = .rt (.dic (keysG gs) (gs.map fun g => .int (inp g : Nat))) S := by
    refine e_ret ?_
    have e := dcL_gates (E := gs) (S := S) (tv := dCall F18 (aCons (dVar 2) aNil)) (f := fun g => .int (inp g : Nat)) (x0 := some (.tup gs)) gs [] hl.1 hl.2.1 (fun _ _ z => by cases z) fun w r hm => by
      obtain ⟨w', r', e, _, h2, _⟩ := (hl.1 _ hm).ex
      cases e
      exact e_call (e_cons rfl e_nil) (F18_eq hS h2)
    unfold dDc
    rw [show iOf (dVar 0) (slots N19 [.tup gs]) S = .ok ⟨gs, none⟩ S from rfl]
    simp only [evR]
    rw [if_pos hlen, show wipeD (slots N19 [.tup gs]) [1, 2] = [some (.tup gs), none, none] from rfl, e]
    simp [evO, evR, keysG, Function.comp_def]
  rw [this]
  exact fin_rt hS (by show nrs _ = true; exact nrs_mem.mpr fun d hd => by obtain ⟨g, _, rfl⟩ := List.mem_map.mp hd; rfl)
theorem F20_eq {gs : List D} {S : Sto} (hS : Clean S) (hl : Lot gs) (hp : ∀ g ∈ gs, pv g = true) : F20 [.tup gs] S = .ok (.dic (keysG gs) (gs.map fun g => .tup (gR g))) S := by
  rw [F20, dDef_eq (n := 1) rfl]
  have hlen : gs.length < sizeLine := by rw [sizeLine_eq]; have := hl.2.2; omega
  have : t20 (slots N20 [.tup gs]) S = .rt (.dic (keysG gs) (gs.map fun g => .tup (gR g))) S := by
    refine e_ret ?_
    have e := dcL_gates (E := gs) (S := S) (tv := dVar 2) (f := fun g => .tup (gR g)) (x0 := some (.tup gs)) gs [] hl.1 hl.2.1 (fun _ _ z => by cases z) fun w r hm => rfl
    unfold dDc
    rw [show iOf (dVar 0) (slots N20 [.tup gs]) S = .ok ⟨gs, none⟩ S from rfl]
    simp only [evR]
    rw [if_pos hlen, show wipeD (slots N20 [.tup gs]) [1, 2] = [some (.tup gs), none, none] from rfl, e]
    simp [evO, evR, keysG, Function.comp_def]
  rw [this]
  refine fin_rt hS ?_
  show nrs _ = true
  refine nrs_mem.mpr fun d hd => ?_
  obtain ⟨g, hg, rfl⟩ := List.mem_map.mp hd
  obtain ⟨w, r, rfl, _⟩ := (hl.1 g hg).ex
  exact pv_nr (.tup r) (tup_mem (hp _ hg) (.tup r) (by simp))
/-! looking up -/
def findG (gs : List D) (w : Str) : Option D := gs.find? fun g => decide (gname g = w)
theorem valD_G {f : D → D} {w : Str} : ∀ gs : List D, valD ((keysG gs).zip (gs.map f)) (Sum.inr w) = (findG gs w).map f
  | [] => rfl
  | g :: gs => by
    have ih := valD_G (f := f) (w := w) gs
    unfold valD findG keysG at *
    simp only [List.map_cons, List.zip_cons_cons, List.find?_cons]
    by_cases h : gname g = w
    · subst h; simp
    · have h1 : decide ((Sum.inr (gname g) : Key) = Sum.inr w) = false := decide_eq_false (fun e => h (by injection e))
      rw [h1, decide_eq_false h]
      exact ih
theorem bIx_dic {ks : List Key} {vs : List D} {w : Str} {d : D} {S : Sto} (h : valD (ks.zip vs) (Sum.inr w) = some d) : bIx (.dic ks vs) (.str w) S = some d := orB_none rfl (orB_none rfl h)
theorem bIn_dic {f : Bool → Bool} {ks : List Key} {vs : List D} {w : Str} {S : Sto} : bIn f (.str w) (.dic ks vs) S = some (.bl (f (valD (ks.zip vs) (Sum.inr w)).isSome)) := by
  have h1 : bInC f (.str w) (.dic ks vs) S = none := rfl
  exact orB_none h1 (orB_some rfl)
/-! ### terms -/
mutual
def termD (gs : List D) : D → Bool
  | .str z => nameL z.cps.toList
  | .tup (.str w :: r) => (match findG gs w with
    | some g => decide (r.length = inp g)
    | none => false) && termDs gs r
  | _ => false
def termDs (gs : List D) : List D → Bool
  | [] => true
  | d :: r => termD gs d && termDs gs r
end
mutual
def dpt : D → Nat
  | .tup (_ :: d :: r) => max (dpt d) (dpts r) + 1
  | _ => 0
def dpts : List D → Nat
  | [] => 0
  | d :: r => max (dpt d) (dpts r)
end
end QB
set_option maxHeartbeats 4000000
namespace QB
open PySem PySem.Spec PySem.Calls PyProof.Rows L2
def szD (gs : List D) : D := .dic (keysG gs) (gs.map fun g => .int (inp g : Nat))
theorem e_callD {F : DFn} {r : R D} {dd xs : List D} {ts : DA} {δ : Sl} {S S1 : Sto} (h : ts δ S = .ok xs S1) (h2 : F (xs ++ dd) S1 = r) : dCallD F dd ts δ S = r := by
  unfold dCallD
  rw [h]
  exact h2
/-- a loop that answers false at the first bad thing -/
theorem for_all {E : List D} {b : DS} {S : Sto} {p : D → Bool} {g : DG} {I : Sl → Prop} : ∀ (xs : List D) (δ : Sl), I δ → (∀ δ, I δ → ∀ d ∈ xs, ∃ δ1, g d δ S = some δ1 ∧ (p d = true → ∃ δ2, I δ2 ∧ b δ1 S = .nx δ2 S) ∧ (p d = false → b δ1 S = .rt (.bl false) S)) →
    ∃ δ2, I δ2 ∧ sForL ⟨E, none⟩ g b xs δ S = if xs.all p = true then .nx δ2 S else .rt (.bl false) S
  | [], δ, hI, _ => ⟨δ, hI, rfl⟩
  | d :: xs, δ, hI, h => by
    obtain ⟨δ1, hg, ht, hf⟩ := h δ hI d List.mem_cons_self
    cases hp : p d with
    | false => exact ⟨δ, hI, (for_rt hg (hf hp)).trans (by simp [hp])⟩
    | true =>
      obtain ⟨δ2, hI2, hb⟩ := ht hp
      obtain ⟨δ3, hI3, e⟩ := for_all (E := E) xs δ2 hI2 (fun δ hI d hd => h δ hI d (List.mem_cons_of_mem _ hd))
      exact ⟨δ3, hI3, (for_nx hg hb e).trans (by simp [hp])⟩
theorem termDs_all {gs : List D} : ∀ r : List D, termDs gs r = r.all (termD gs)
  | [] => rfl
  | d :: r => by rw [termDs, termDs_all r, List.all_cons]
theorem dpts_all {m : Nat} : ∀ r : List D, decide (dpts r ≤ m) = r.all fun d => decide (dpt d ≤ m)
  | [] => by simp [dpts]
  | d :: r => by
    rw [dpts, List.all_cons, ← dpts_all r, Bool.eq_iff_iff]
    simp [Nat.max_le]
theorem dpt_one {w d : D} {r : List D} : dpt (.tup (w :: d :: r)) = dpts (d :: r) + 1 := by rw [dpt, dpts]
theorem all_and {p q : D → Bool} : ∀ r : List D, (r.all fun d => p d && q d) = (r.all p && r.all q)
  | [] => rfl
  | d :: r => by rw [List.all_cons, List.all_cons, List.all_cons, all_and r]; cases p d <;> cases q d <;> simp
theorem F21_eq {gs : List D} (hl : Lot gs) {S : Sto} (hS : Clean S) : ∀ (n : Nat) (d : D) (dep : Nat), pv d = true → 101 ≤ n + dep → dep ≤ 100 → F21 n [szD gs, d, .int dep] S = .ok (.bl (termD gs d && decide (dpt d + dep ≤ 100))) S
  | 0, _, _, _, h1, h2 => by omega
  | n + 1, d, dep, hd, h1, h2 => by
    rw [F21, dDef_eq (n := 3) rfl]
    have : t21 (F21 n) (slots N21 [szD gs, d, .int dep]) S = .rt (.bl (termD gs d && decide (dpt d + dep ≤ 100))) S := by
      have hs : tTru (dF fIsi (aCons (dVar 1) (aCons (dC (.ty "str")) aNil))) (slots N21 [szD gs, d, .int dep]) S = .ok (isStr d) S := e_tru (isi_s hd rfl)
      have ht : tNotD (tTru (dF fIsi (aCons (dVar 1) (aCons (dC (.ty "tuple")) aNil)))) (slots N21 [szD gs, d, .int dep]) S = .ok (!isTup d) S := e_tnot (e_tru (isi_t hd rfl))
      cases d with
      | str z =>
        refine e_seqR (e_ift hs (e_ret (e_call (e_cons rfl e_nil) ((F13_eq hS hd).trans ?_))))
        rw [show termD gs (.str z) = nameD (.str z) from by rw [termD, nameD], show dpt (.str z) = 0 from by rw [dpt]; intro _ _ _ h; cases h]
        rw [decide_eq_true (show 0 + dep ≤ 100 by omega), Bool.and_true]
      | tup xs =>
        refine e_seq (e_iff hs rfl) ?_
        cases xs with
        | nil =>
          refine (e_seqR (e_ift (e_torF ht (e_torT (e_tnot (p := false) rfl))) (e_ret rfl))).trans ?_
          rw [termD, Bool.false_and]
          · intro _ h; cases h
          · intro _ _ h; cases h
        | cons x r =>
          have hx : pv x = true := tup_mem hd x (by simp)
          have h0 : d2 bIx (dVar 1) (dC (.int 0)) (slots N21 [szD gs, .tup (x :: r), .int dep]) S = .ok x S := e_2 (x := .tup (x :: r)) (y := .int 0) rfl rfl (ix_tup at0)
          have hq : tNotD (tTru (dF fIsi (aCons (d2 bIx (dVar 1) (dC (.int 0))) (aCons (dC (.ty "str")) aNil)))) (slots N21 [szD gs, .tup (x :: r), .int dep]) S = .ok (!isStr x) S := e_tnot (e_tru (e_f (e_cons h0 (e_cons rfl e_nil)) (fIsi_str hx)))
          have htest := e_torF (u := tOrD (tNotD (tTru (dVar 1))) (tNotD (tTru (dF fIsi (aCons (d2 bIx (dVar 1) (dC (.int 0))) (aCons (dC (.ty "str")) aNil)))))) ht (e_torF (e_tnot (p := true) rfl) hq)
          by_cases hxs : ∃ w, x = .str w
          · obtain ⟨w, rfl⟩ := hxs
            refine e_seq (e_iff htest rfl) ?_
            rw [termD]
            have hin : tBool (d2 (bIn not) (d2 bIx (dVar 1) (dC (.int 0))) (dVar 0)) (slots N21 [szD gs, .tup (.str w :: r), .int dep]) S = .ok (!(findG gs w).isSome) S := by
              refine e_bool ((e_2 h0 (y := szD gs) rfl bIn_dic).trans ?_)
              rw [valD_G, Option.isSome_map]
            have hlen : dF fLen (aCons (dVar 1) aNil) (slots N21 [szD gs, .tup (.str w :: r), .int dep]) S = .ok (.int ((r.length + 1 : Nat) : Int)) S := len_t (xs := .str w :: r) rfl
            cases hf : findG gs w with
            | none =>
              refine (e_seqR (e_ift (e_torT (hin.trans (by rw [hf]; rfl))) (e_ret rfl))).trans ?_
              simp
            | some g =>
              have hv : d2 bIx (dVar 0) (d2 bIx (dVar 1) (dC (.int 0))) (slots N21 [szD gs, .tup (.str w :: r), .int dep]) S = .ok (.int (inp g : Nat)) S := e_2 (x := szD gs) rfl h0 (bIx_dic (by rw [valD_G, hf]; rfl))
              have hne := e_bool (e_2 hlen (e_2 hv (show dC (.int 1) _ S = .ok (.int 1) S from rfl) (show bAdd (.int (inp g : Nat)) (.int 1) S = some (.int ((inp g : Nat) + 1 : Int)) from rfl)) (bNe_int (S := S)))
              have htest2 := e_torF (hin.trans (by rw [hf]; rfl)) hne
              by_cases hi : r.length = inp g
              · rw [decide_eq_true (by rw [hi]; rfl)] at htest2
                refine e_seq (e_iff htest2 rfl) ?_
                have hone := e_bool (e_2 hlen (show dC (.int 1) _ S = .ok (.int 1) S from rfl) (bEq_int (S := S)))
                simp only [decide_eq_true hi, Bool.true_and]
                cases r with
                | nil =>
                  rw [decide_eq_true (show ((([] : List D).length + 1 : Nat) : Int) = 1 from rfl)] at hone
                  refine (e_seqR (e_ift hone (e_ret rfl))).trans ?_
                  rw [termDs, dpt, decide_eq_true (show 0 + dep ≤ 100 by omega)]
                  · rfl
                  · intro _ _ _ h; cases h
                | cons x1 r =>
                  rw [decide_eq_false (by simp; omega)] at hone
                  refine e_seq (e_iff hone rfl) ?_
                  have hdep := e_bool (e_2 (show dVar 2 (slots N21 [szD gs, .tup (.str w :: x1 :: r), .int dep]) S = .ok (.int dep) S from rfl) (show dC (.int 100) _ S = .ok (.int 100) S from rfl) (bEq_int (S := S)))
                  rw [dpt_one]
                  by_cases hd1 : dep = 100
                  · refine (e_seqR (e_ift (hdep.trans (by rw [decide_eq_true (by omega)])) (e_ret rfl))).trans ?_
                    rw [decide_eq_false (by omega), Bool.and_false]
                  · rw [decide_eq_false (by omega)] at hdep
                    refine e_seq (e_iff hdep rfl) ?_
                    obtain ⟨δ2, _, e⟩ := for_all (E := x1 :: r) (b := L21_0 (F21 n)) (S := S) (p := fun d => termD gs d && decide (dpt d + (dep + 1) ≤ 100)) (g := gNm 3) (I := fun δ => ∃ y, δ = [some (szD gs), some (.tup (.str w :: x1 :: r)), some (.int dep), y]) (x1 :: r) _ ⟨none, rfl⟩ (by
                      rintro _ ⟨y, rfl⟩ d hdm
                      refine ⟨_, rfl, ?_⟩
                      have hc : tNotD (tTru (dCallD (F21 n) [] (aCons (dVar 0) (aCons (dVar 3) (aCons (d2 bAdd (dVar 2) (dC (.int 1))) aNil))))) [some (szD gs), some (.tup (.str w :: x1 :: r)), some (.int dep), some d] S = _ := e_tnot (e_tru (e_callD (xs := [szD gs, d, .int (dep + 1 : Nat)]) (e_cons rfl (e_cons rfl (e_cons rfl e_nil))) (F21_eq hl hS n d (dep + 1) (tup_mem hd d (List.mem_cons_of_mem _ hdm)) (by omega) (by omega))))
                      constructor
                      · intro hp
                        rw [hp] at hc
                        exact ⟨_, ⟨some d, rfl⟩, e_iff hc rfl⟩
                      · intro hp
                        rw [hp] at hc
                        exact e_ift hc (e_ret rfl))
                    have hall : ((x1 :: r).all fun d => termD gs d && decide (dpt d + (dep + 1) ≤ 100)) = (termDs gs (x1 :: r) && decide (dpts (x1 :: r) + 1 + dep ≤ 100)) := by
                      rw [termDs_all, all_and]
                      congr 1
                      rw [show decide (dpts (x1 :: r) + 1 + dep ≤ 100) = decide (dpts (x1 :: r) ≤ 99 - dep) from by rw [Bool.eq_iff_iff]; simp only [decide_eq_true_eq]; omega, dpts_all]
                      congr 1
                      funext d
                      rw [Bool.eq_iff_iff]; simp only [decide_eq_true_eq]; omega
                    rw [hall] at e
                    have hsrc : iOf (dSl (dVar 1) (oSome (dC (.int 1))) oNone) (slots N21 [szD gs, .tup (.str w :: x1 :: r), .int dep]) S = .ok ⟨x1 :: r, none⟩ S := by
                      unfold iOf
                      rw [e_slT rfl]
                      rfl
                    cases hb : (termDs gs (x1 :: r) && decide (dpts (x1 :: r) + 1 + dep ≤ 100)) with
                    | false =>
                      rw [hb, if_neg Bool.false_ne_true] at e
                      exact e_seqR (e_for hsrc e)
                    | true =>
                      rw [hb, if_pos rfl] at e
                      exact e_seq (e_for hsrc e) (e_ret rfl)
              · rw [decide_eq_false (by omega)] at htest2
                refine (e_seqR (e_ift htest2 (e_ret rfl))).trans ?_
                simp [hi]
          · have hx2 : isStr x = false := by
              cases x <;> first | rfl | exact absurd ⟨_, rfl⟩ hxs
            rw [hx2] at htest
            refine (e_seqR (e_ift htest (e_ret rfl))).trans ?_
            rw [termD, Bool.false_and]
            · intro _ h; cases h
            · intro w r' h; injection h with h; injection h with h h'; exact hxs ⟨w, h⟩
      | _ => 
        refine e_seq (e_iff hs rfl) ((e_seqR (e_ift (e_torT ht) (e_ret rfl))).trans ?_)
        rw [termD, Bool.false_and]
        · intro _ h; cases h
        · intro _ _ h; cases h
    rw [this]
    exact fin_rt hS rfl
end QB
set_option maxHeartbeats 4000000
namespace QB
open PySem PySem.Spec PySem.Calls PyProof.Rows L2
mutual
def dp : D → Nat
  | .tup xs => dps xs + 1
  | .lst xs => dps xs + 1
  | _ => 0
def dps : List D → Nat
  | [] => 0
  | d :: r => max (dp d) (dps r)
end
theorem dps_mem : ∀ {xs : List D} {d : D}, d ∈ xs → dp d ≤ dps xs
  | x :: xs, d, h => by
    rw [dps]
    rcases List.mem_cons.mp h with rfl | h
    · omega
    · have := dps_mem h; omega
theorem dp_tup {xs : List D} {d : D} (h : d ∈ xs) : dp d < dp (.tup xs) := by
  have := dps_mem h
  rw [dp]; omega
theorem dp_lst {xs : List D} {d : D} (h : d ∈ xs) : dp d < dp (.lst xs) := by
  have := dps_mem h
  rw [dp]; omega
mutual
theorem dpt_dp : ∀ d : D, dpt d ≤ dp d
  | .tup [] => by rw [dpt]; omega; intro _ _ _ h; cases h
  | .tup [_] => by rw [dpt]; omega; intro _ _ _ h; cases h
  | .tup (x :: d :: r) => by
    have h1 := dpt_dp d
    have h2 := dpts_dps r
    rw [dpt, dp, dps, dps]; omega
  | .non => by simp [dpt]
  | .bl _ => by simp [dpt]
  | .int _ => by simp [dpt]
  | .str _ => by simp [dpt]
  | .lst _ => by simp [dpt]
  | .dic _ _ => by simp [dpt]
  | .frz _ => by simp [dpt]
  | .ref _ => by simp [dpt]
  | .exc _ _ _ _ _ => by simp [dpt]
  | .ty _ => by simp [dpt]
theorem dpts_dps : ∀ r : List D, dpts r ≤ dps r
  | [] => by rw [dpts]; omega
  | d :: r => by
    have h1 := dpt_dp d
    have h2 := dpts_dps r
    rw [dpts, dps]; omega
end

/-! ### the law's own term checker -/
theorem loop61 {E : List D} {S : Sto} (hS : Clean S) {F : DFn} {gs : List D} {w : Str} {r : List D} (hd : pv (.tup (.str w :: r)) = true) (hF : ∀ d ∈ r, F [.tup gs, d] S = .ok (.bl (termD gs d)) S) : ∀ (xs : List D) (x2 : Option D), (∀ g ∈ xs, GG g) →
    (match findG xs w with
    | some g => sForL ⟨E, none⟩ (gNm 2) (L61_0 F) xs [some (.tup gs), some (.tup (.str w :: r)), x2, none] S = .rt (.bl (decide (r.length = inp g) && termDs gs r)) S
    | none => ∃ y2, sForL ⟨E, none⟩ (gNm 2) (L61_0 F) xs [some (.tup gs), some (.tup (.str w :: r)), x2, none] S = .nx [some (.tup gs), some (.tup (.str w :: r)), y2, none] S)
  | [], x2, _ => ⟨x2, rfl⟩
  | g :: xs, x2, hg => by
    obtain ⟨v, rr, rfl, h1, h2, h3⟩ := (hg _ List.mem_cons_self).ex
    have ht : tBool (d2 bEq (d2 bIx (dVar 2) (dC (.int 0))) (d2 bIx (dVar 1) (dC (.int 0)))) [some (.tup gs), some (.tup (.str w :: r)), some (.tup [.str v, .tup rr]), none] S = .ok (decide (v = w)) S :=
      e_bool (e_2 (e_2 (x := .tup [.str v, .tup rr]) (y := .int 0) rfl rfl (ix_tup at0)) (e_2 (x := .tup (.str w :: r)) (y := .int 0) rfl rfl (ix_tup at0)) bEq_str)
    by_cases hv : v = w
    · subst hv
      rw [show findG (D.tup [.str v, .tup rr] :: xs) v = some (.tup [.str v, .tup rr]) from by unfold findG; simp [gname]]
      rw [decide_eq_true rfl] at ht
      refine for_rt rfl (e_ift ht (e_ret (e_and (p := decide (r.length = inp (.tup [.str v, .tup rr]))) ((e_2 (e_2 (len_t (xs := .str v :: r) rfl) (show dC (.int 1) _ S = .ok (.int 1) S from rfl) (show bSub (.int ((r.length + 1 : Nat) : Int)) (.int 1) S = some (.int ((r.length + 1 : Nat) - 1 : Int)) from rfl)) (e_call (e_cons rfl e_nil) (F52_eq hS (hg _ List.mem_cons_self))) bEq_int).trans ?_) fun _ => ?_)))
      · congr 2
        rw [Bool.eq_iff_iff]; simp only [decide_eq_true_eq]; omega
      · have hsrc : iOf (dSl (dVar 1) (oSome (dC (.int 1))) oNone) [some (.tup gs), some (.tup (.str v :: r)), some (.tup [.str v, .tup rr]), none] S = .ok ⟨r, none⟩ S := by
          unfold iOf
          rw [e_slT rfl]
          rfl
        refine e_f (e_cons (dLc_map (f := fun d => .bl (termD gs d)) hsrc ?_ fun d hm => ⟨_, rfl, e_call (e_cons rfl (e_cons rfl e_nil)) (hF d hm)⟩) e_nil) ?_
        · have := tup_line hd
          simp at this; omega
        · rw [fAll_map, termDs_all]
    · rw [show findG (D.tup [.str v, .tup rr] :: xs) w = findG xs w from by unfold findG; simp [gname, hv]]
      rw [decide_eq_false hv] at ht
      have hb : L61_0 F [some (.tup gs), some (.tup (.str w :: r)), some (.tup [.str v, .tup rr]), none] S = .nx _ S := e_iff ht rfl
      have ih := loop61 (E := E) hS hd hF xs (some (.tup [.str v, .tup rr])) (fun g h => hg g (List.mem_cons_of_mem _ h))
      cases hf : findG xs w with
      | none =>
        rw [hf] at ih
        obtain ⟨y, e⟩ := ih
        exact ⟨y, for_nx rfl hb e⟩
      | some g =>
        rw [hf] at ih
        exact for_nx rfl hb ih
theorem F61_eq {gs : List D} (hl : Lot gs) {S : Sto} (hS : Clean S) : ∀ (n : Nat) (d : D), pv d = true → dpt d < n → F61 n [.tup gs, d] S = .ok (.bl (termD gs d)) S
  | 0, _, _, h1 => by omega
  | n + 1, d, hd, h1 => by
    rw [F61, dDef_eq (n := 2) rfl]
    have : t61 (F61 n) (slots N61 [.tup gs, d]) S = .rt (.bl (termD gs d)) S := by
      have hs : tTru (dF fIsi (aCons (dVar 1) (aCons (dC (.ty "str")) aNil))) (slots N61 [.tup gs, d]) S = .ok (isStr d) S := e_tru (isi_s hd rfl)
      have ht : tNotD (tTru (dF fIsi (aCons (dVar 1) (aCons (dC (.ty "tuple")) aNil)))) (slots N61 [.tup gs, d]) S = .ok (!isTup d) S := e_tnot (e_tru (isi_t hd rfl))
      cases d with
      | str z =>
        refine e_seqR (e_ift hs (e_ret (e_call (e_cons rfl e_nil) ((F56_eq hS hd).trans ?_))))
        rw [show termD gs (.str z) = nameD (.str z) from by rw [termD, nameD]]
      | tup xs =>
        refine e_seq (e_iff hs rfl) ?_
        cases xs with
        | nil =>
          refine (e_seqR (e_ift (e_torF ht (e_torT (e_bool (e_2 (len_t (xs := []) rfl) (show dC (.int 0) _ S = .ok (.int 0) S from rfl) rfl)))) (e_ret rfl))).trans ?_
          rw [termD]
          · intro _ h; cases h
          · intro _ _ h; cases h
        | cons x r =>
          have hx : pv x = true := tup_mem hd x (by simp)
          have h0 : d2 bIx (dVar 1) (dC (.int 0)) (slots N61 [.tup gs, .tup (x :: r)]) S = .ok x S := e_2 (x := .tup (x :: r)) (y := .int 0) rfl rfl (ix_tup at0)
          have hq : tNotD (tTru (dF fIsi (aCons (d2 bIx (dVar 1) (dC (.int 0))) (aCons (dC (.ty "str")) aNil)))) (slots N61 [.tup gs, .tup (x :: r)]) S = .ok (!isStr x) S := e_tnot (e_tru (e_f (e_cons h0 (e_cons rfl e_nil)) (fIsi_str hx)))
          have hz := e_bool (e_2 (len_t (S := S) (xs := x :: r) (i := 1) (δ := slots N61 [.tup gs, .tup (x :: r)]) rfl) (show dC (.int 0) _ S = .ok (.int 0) S from rfl) bEq_int)
          rw [decide_eq_false (by simp; omega)] at hz
          have htest := e_torF ht (e_torF hz hq)
          by_cases hxs : ∃ w, x = .str w
          · obtain ⟨w, rfl⟩ := hxs
            refine e_seq (e_iff htest rfl) ?_
            rw [termD]
            have hlp := loop61 (E := gs) hS (F := F61 n) (gs := gs) hd ?_ gs none hl.1
            · cases hf : findG gs w with
              | none =>
                rw [hf] at hlp
                obtain ⟨y, e⟩ := hlp
                exact e_seq (e_for rfl e) (e_ret rfl)
              | some g =>
                rw [hf] at hlp
                exact e_seqR (e_for rfl hlp)
            · intro d hm
              refine F61_eq hl hS n d (tup_mem hd d (List.mem_cons_of_mem _ hm)) ?_
              cases r with
              | nil => cases hm
              | cons y r =>
                rw [dpt_one] at h1
                have : decide (dpts (y :: r) ≤ dpts (y :: r)) = true := by simp
                rw [dpts_all, List.all_eq_true] at this
                have := this d hm
                simp only [decide_eq_true_eq] at this
                omega
          · have hx2 : isStr x = false := by
              cases x <;> first | rfl | exact absurd ⟨_, rfl⟩ hxs
            rw [hx2] at htest
            refine (e_seqR (e_ift htest (e_ret rfl))).trans ?_
            rw [termD]
            · intro _ h; cases h
            · intro w r' h; injection h with h; injection h with h h'; exact hxs ⟨w, h⟩
      | _ => 
        refine e_seq (e_iff hs rfl) ((e_seqR (e_ift (e_torT ht) (e_ret rfl))).trans ?_)
        rw [termD]
        · intro _ h; cases h
        · intro _ _ h; cases h
    rw [this]
    exact fin_rt hS rfl
end QB
set_option maxHeartbeats 4000000
namespace QB
open PySem PySem.Spec PySem.Calls PyProof.Rows L2
/-! ### pairs, facts, claims: both checkers -/
def pairD (p q : D → Bool) : D → Bool
  | .tup [a, b] => p a && q b
  | _ => false
def allD (p : D → Bool) : D → Bool
  | .tup xs => xs.all p
  | _ => false
abbrev isTupT : DT := tNotD (tTru (dF fIsi (aCons (dVar 1) (aCons (dC (.ty "tuple")) aNil))))
theorem pair_body {c1 c2 : DE} {δ : Sl} {S : Sto} {d : D} {p q : D → Bool} (hd : pv d = true) (hv : dVar 1 δ S = .ok d S) (h : ∀ a b, d = .tup [a, b] → c1 δ S = .ok (.bl (p a)) S ∧ c2 δ S = .ok (.bl (q b)) S) :
    (sSeq (sIf (tOrD isTupT (tBool (d2 bNe (dF fLen (aCons (dVar 1) aNil)) (dC (.int 2))))) (sRet (dC (.bl false))) sSkip) (sRet (dAnd c1 c2))) δ S = .rt (.bl (pairD p q d)) S := by
  have ht : isTupT δ S = .ok (!isTup d) S := e_tnot (e_tru (isi_t hd hv))
  cases d with
  | tup xs =>
    have hl := e_bool (e_2 (len_t hv) (show dC (.int 2) δ S = .ok (.int 2) S from rfl) (bNe_int (S := S)))
    by_cases h2 : ∃ a b, xs = [a, b]
    · obtain ⟨a, b, rfl⟩ := h2
      exact e_seq (e_iff (e_torF ht hl) rfl) (e_ret (e_and (h a b rfl).1 fun _ => (h a b rfl).2))
    · have hne : xs.length ≠ 2 := fun e => h2 (by
        match xs, e with
        | [a, b], _ => exact ⟨a, b, rfl⟩)
      rw [decide_eq_false (by omega)] at hl
      refine (e_seqR (e_ift (e_torF ht hl) (e_ret rfl))).trans ?_
      congr 2
      unfold pairD
      split
      · exact absurd ⟨_, _, by injection ‹D.tup xs = _›⟩ h2
      · rfl
  | _ => exact e_seqR (e_ift (e_torT ht) (e_ret rfl))
theorem all_body {c : DE} {x0 x2 : Option D} {r : Sl} {S : Sto} {d : D} {p : D → Bool} (hd : pv d = true) (h : ∀ xs, d = .tup xs → ∀ e ∈ xs, c [x0, some d, some e] S = .ok (.bl (p e)) S) :
    (sRet (dAnd (dF fIsi (aCons (dVar 1) (aCons (dC (.ty "tuple")) aNil))) (dF fAll (aCons (dLc (iOf (dVar 1)) (gNm 2) tYesD c [2]) aNil)))) [x0, some d, x2] S = .rt (.bl (allD p d)) S := by
  have ht : dF fIsi (aCons (dVar 1) (aCons (dC (.ty "tuple")) aNil)) [x0, some d, x2] S = .ok (.bl (isTup d)) S := isi_t hd rfl
  cases d with
  | tup xs =>
    refine e_ret (e_andT ht (e_f (e_cons (dLc_map (f := fun d => .bl (p d)) (l := xs) rfl (tup_line hd) fun d hm => ⟨_, rfl, h xs rfl d hm⟩) e_nil) ?_))
    exact fAll_map _ _ _
  | _ => exact e_ret (e_andF ht)
variable {gs : List D} {S : Sto} {d : D}
def eqnD (gs : List D) : D → Bool := pairD (termD gs) (termD gs)
def factsD (gs : List D) : D → Bool := allD (eqnD gs)
def claimD (gs : List D) : D → Bool := pairD (factsD gs) (eqnD gs)
theorem F21c {n : Nat} (hl : Lot gs) (hS : Clean S) (hd : pv d = true) (hp : dp d ≤ 100) (hn : 101 ≤ n) : F21 n [szD gs, d, .int 0] S = .ok (.bl (termD gs d)) S := by
  refine (F21_eq hl hS n d 0 hd (by omega) (by omega)).trans ?_
  have := dpt_dp d
  rw [decide_eq_true (by omega), Bool.and_true]
theorem F61c (hl : Lot gs) (hS : Clean S) (hd : pv d = true) (hp : dp d < 16) : F61 16 [.tup gs, d] S = .ok (.bl (termD gs d)) S :=
  F61_eq hl hS 16 d hd (by have := dpt_dp d; omega)
theorem ix0 {i : Nat} {δ : Sl} {a : D} {r : List D} (hv : dVar i δ S = .ok (.tup (a :: r)) S) : d2 bIx (dVar i) (dC (.int 0)) δ S = .ok a S := e_2 (y := .int 0) hv rfl (ix_tup at0)
theorem ix1 {i : Nat} {δ : Sl} {a b : D} {r : List D} (hv : dVar i δ S = .ok (.tup (a :: b :: r)) S) : d2 bIx (dVar i) (dC (.int 1)) δ S = .ok b S := e_2 (y := .int 1) hv rfl (ix_tup at1)
theorem F22_eq (hl : Lot gs) (hS : Clean S) (hd : pv d = true) (hp : dp d ≤ 100) : F22 [szD gs, d] S = .ok (.bl (eqnD gs d)) S := by
  rw [F22, dDef_eq (n := 2) rfl]
  have : t22 (slots N22 [szD gs, d]) S = .rt (.bl (eqnD gs d)) S := pair_body hd rfl (by
    rintro a b rfl
    have ha := dp_tup (xs := [a, b]) (d := a) (by simp)
    have hb := dp_tup (xs := [a, b]) (d := b) (by simp)
    exact ⟨e_callD (e_cons rfl (e_cons (ix0 rfl) e_nil)) (F21c hl hS (tup_mem hd a (by simp)) (by omega) (by omega)), e_callD (e_cons rfl (e_cons (ix1 rfl) e_nil)) (F21c hl hS (tup_mem hd b (by simp)) (by omega) (by omega))⟩)
  rw [this]
  exact fin_rt hS rfl
theorem F62_eq (hl : Lot gs) (hS : Clean S) (hd : pv d = true) (hp : dp d < 16) : F62 [.tup gs, d] S = .ok (.bl (eqnD gs d)) S := by
  rw [F62, dDef_eq (n := 2) rfl]
  have : t62 (slots N62 [.tup gs, d]) S = .rt (.bl (eqnD gs d)) S := pair_body hd rfl (by
    rintro a b rfl
    have ha := dp_tup (xs := [a, b]) (d := a) (by simp)
    have hb := dp_tup (xs := [a, b]) (d := b) (by simp)
    exact ⟨e_call (e_cons rfl (e_cons (ix0 rfl) e_nil)) (F61c hl hS (tup_mem hd a (by simp)) (by omega)), e_call (e_cons rfl (e_cons (ix1 rfl) e_nil)) (F61c hl hS (tup_mem hd b (by simp)) (by omega))⟩)
  rw [this]
  exact fin_rt hS rfl
theorem F23_eq (hl : Lot gs) (hS : Clean S) (hd : pv d = true) (hp : dp d ≤ 100) : F23 [szD gs, d] S = .ok (.bl (factsD gs d)) S := by
  rw [F23, dDef_eq (n := 2) rfl]
  have : t23 (slots N23 [szD gs, d]) S = .rt (.bl (factsD gs d)) S := all_body (r := []) hd (by
    rintro xs rfl e he
    have ha := dp_tup he
    exact e_call (e_cons rfl (e_cons rfl e_nil)) (F22_eq hl hS (tup_mem hd e he) (by omega)))
  rw [this]
  exact fin_rt hS rfl
theorem F63_eq (hl : Lot gs) (hS : Clean S) (hd : pv d = true) (hp : dp d < 16) : F63 [.tup gs, d] S = .ok (.bl (factsD gs d)) S := by
  rw [F63, dDef_eq (n := 2) rfl]
  have : t63 (slots N63 [.tup gs, d]) S = .rt (.bl (factsD gs d)) S := all_body (r := []) hd (by
    rintro xs rfl e he
    have ha := dp_tup he
    exact e_call (e_cons rfl (e_cons rfl e_nil)) (F62_eq hl hS (tup_mem hd e he) (by omega)))
  rw [this]
  exact fin_rt hS rfl
theorem F24_eq (hl : Lot gs) (hS : Clean S) (hd : pv d = true) (hp : dp d ≤ 100) : F24 [szD gs, d] S = .ok (.bl (claimD gs d)) S := by
  rw [F24, dDef_eq (n := 2) rfl]
  have : t24 (slots N24 [szD gs, d]) S = .rt (.bl (claimD gs d)) S := pair_body hd rfl (by
    rintro a b rfl
    have ha := dp_tup (xs := [a, b]) (d := a) (by simp)
    have hb := dp_tup (xs := [a, b]) (d := b) (by simp)
    exact ⟨e_call (e_cons rfl (e_cons (ix0 rfl) e_nil)) (F23_eq hl hS (tup_mem hd a (by simp)) (by omega)), e_call (e_cons rfl (e_cons (ix1 rfl) e_nil)) (F22_eq hl hS (tup_mem hd b (by simp)) (by omega))⟩)
  rw [this]
  exact fin_rt hS rfl
theorem F64_eq (hl : Lot gs) (hS : Clean S) (hd : pv d = true) (hp : dp d < 16) : F64 [.tup gs, d] S = .ok (.bl (claimD gs d)) S := by
  rw [F64, dDef_eq (n := 2) rfl]
  have : t64 (slots N64 [.tup gs, d]) S = .rt (.bl (claimD gs d)) S := pair_body hd rfl (by
    rintro a b rfl
    have ha := dp_tup (xs := [a, b]) (d := a) (by simp)
    have hb := dp_tup (xs := [a, b]) (d := b) (by simp)
    exact ⟨e_call (e_cons rfl (e_cons (ix0 rfl) e_nil)) (F63_eq hl hS (tup_mem hd a (by simp)) (by omega)), e_call (e_cons rfl (e_cons (ix1 rfl) e_nil)) (F62_eq hl hS (tup_mem hd b (by simp)) (by omega))⟩)
  rw [this]
  exact fin_rt hS rfl
theorem F35_eq (hl : Lot gs) (hS : Clean S) (hd : pv d = true) (hp : dp d ≤ 100) : F35 [.tup gs, d] S = .ok (.bl (termD gs d)) S := by
  rw [F35, dDef_eq (n := 2) rfl]
  have : t35 (slots N35 [.tup gs, d]) S = .rt (.bl (termD gs d)) S := e_ret (e_callD (e_cons (e_call (e_cons rfl e_nil) (F19_eq hS hl)) (e_cons rfl e_nil)) (F21c hl hS hd hp (by omega)))
  rw [this]
  exact fin_rt hS rfl
theorem F35_at (hl : Lot gs) (hS : Clean S) (hd : pv d = true) : F35 [.tup gs, d] S = .ok (.bl (termD gs d && decide (dpt d ≤ 100))) S := by
  rw [F35, dDef_eq (n := 2) rfl]
  have : t35 (slots N35 [.tup gs, d]) S = .rt (.bl (termD gs d && decide (dpt d ≤ 100))) S := e_ret (e_callD (e_cons (e_call (e_cons rfl e_nil) (F19_eq hS hl)) (e_cons rfl e_nil)) (F21_eq hl hS 103 d 0 hd (by omega) (by omega)))
  rw [this]
  exact fin_rt hS rfl
theorem F36_eq (hl : Lot gs) (hS : Clean S) (hd : pv d = true) (hp : dp d ≤ 100) : F36 [.tup gs, d] S = .ok (.bl (eqnD gs d)) S := by
  rw [F36, dDef_eq (n := 2) rfl]
  have : t36 (slots N36 [.tup gs, d]) S = .rt (.bl (eqnD gs d)) S := e_ret (e_call (e_cons (e_call (e_cons rfl e_nil) (F19_eq hS hl)) (e_cons rfl e_nil)) (F22_eq hl hS hd hp))
  rw [this]
  exact fin_rt hS rfl
theorem F37_eq (hl : Lot gs) (hS : Clean S) (hd : pv d = true) (hp : dp d ≤ 100) : F37 [.tup gs, d] S = .ok (.bl (factsD gs d)) S := by
  rw [F37, dDef_eq (n := 2) rfl]
  have : t37 (slots N37 [.tup gs, d]) S = .rt (.bl (factsD gs d)) S := e_ret (e_call (e_cons (e_call (e_cons rfl e_nil) (F19_eq hS hl)) (e_cons rfl e_nil)) (F23_eq hl hS hd hp))
  rw [this]
  exact fin_rt hS rfl
theorem F38_eq (hl : Lot gs) (hS : Clean S) (hd : pv d = true) (hp : dp d ≤ 100) : F38 [.tup gs, d] S = .ok (.bl (claimD gs d)) S := by
  rw [F38, dDef_eq (n := 2) rfl]
  have : t38 (slots N38 [.tup gs, d]) S = .rt (.bl (claimD gs d)) S := e_ret (e_call (e_cons (e_call (e_cons rfl e_nil) (F19_eq hS hl)) (e_cons rfl e_nil)) (F24_eq hl hS hd hp))
  rw [this]
  exact fin_rt hS rfl
end QB
set_option maxHeartbeats 4000000
namespace QB
open PySem PySem.Spec PySem.Calls PyProof.Rows L2
/-! ### local cells -/
theorem clean_add {S : Sto} {u : Ob} (h : Clean S) (hu : nrO u = true) : Clean (S ++ [u]) := fun v hv => by
  rcases List.mem_append.mp hv with h1 | h1
  · exact h v h1
  · rw [List.mem_singleton.mp h1]; exact hu
theorem cell_at {S : Sto} {u : Ob} : (S ++ [u])[S.length]? = some u := by simp
theorem cell_set {S : Sto} {u v : Ob} : (S ++ [u]).set S.length v = S ++ [v] := by simp
theorem svs_strs : ∀ seen : List Str, svs (seen.map D.str) = some (seen.map V.str)
  | [] => rfl
  | w :: seen => by rw [List.map_cons, svs, svs_strs seen]; rfl
theorem inV_strs {w : Str} : ∀ seen : List Str, inV (V.str w) (seen.map V.str) = decide (w ∈ seen)
  | [] => rfl
  | v :: seen => by
    unfold inV
    rw [List.map_cons, List.any_cons]
    have ih := inV_strs (w := w) seen
    unfold inV at ih
    rw [ih]
    by_cases h : v = w
    · subst h; simp [eqV]
    · have h2 : ¬ w = v := fun e => h e.symm
      simp [eqV, h, h2]
theorem in_cellL {S : Sto} {seen : List Str} {w : Str} {f : Bool → Bool} : bIn f (.str w) (.ref S.length) (S ++ [.lst (seen.map .str)]) = some (.bl (f (decide (w ∈ seen)))) := by
  have h1 : bInC f (.str w) (.ref S.length) (S ++ [.lst (seen.map .str)]) = none := rfl
  have h2 : bInK f (.str w) (.ref S.length) (S ++ [.lst (seen.map .str)]) = none := by unfold bInK getK; simp
  refine orB_none h1 (orB_none h2 (orB_some ?_))
  unfold bInF getQ
  simp only [cell_at, sv, svs_strs, inV_strs]
def seenK (seen : List Str) : List (Key × D) := seen.map fun w => (Sum.inr w, .bl true)
theorem valD_seen {w : Str} : ∀ seen : List Str, (valD (seenK seen) (Sum.inr w)).isSome = decide (w ∈ seen)
  | [] => rfl
  | v :: seen => by
    have ih := valD_seen (w := w) seen
    unfold valD seenK at *
    rw [List.map_cons, List.find?_cons]
    by_cases h : v = w
    · subst h; simp
    · rw [show decide ((Sum.inr v : Key) = Sum.inr w) = false from decide_eq_false (fun e => h (by injection e))]
      refine ih.trans ?_
      rw [Bool.eq_iff_iff]; simp [Ne.symm h]
theorem in_cellK {S : Sto} {seen : List Str} {w : Str} {f : Bool → Bool} : bIn f (.str w) (.ref S.length) (S ++ [.dic (seenK seen)]) = some (.bl (f (decide (w ∈ seen)))) := by
  have h1 : bInC f (.str w) (.ref S.length) (S ++ [.dic (seenK seen)]) = none := rfl
  refine orB_none h1 (orB_some ?_)
  unfold bInK getK
  simp only [cell_at, keyD, valD_seen]
theorem e_app {i : Nat} {te : DE} {δ : Sl} {S S' : Sto} {k : Nat} {ds es : List D} {y : D} (hv : dVar i δ S = .ok (.ref k) S) (hc : S[k]? = some (.lst ds)) (h : te δ S = .ok y S') (hc' : S'[k]? = some (.lst es)) (hl : es.length < sizeLine) : dAppend (dVar i) te δ S = .ok .non (S'.set k (.lst (es ++ [y]))) := by
  unfold dAppend
  rw [hv]
  simp only [evR, hc, h, hc', if_pos hl]
/-! ### puts -/
def stepP (gs : List D) (seen : List Str) : D → Option Str
  | .tup [.str w, t] => if (nameL w.cps.toList && !decide (w ∈ seen) && termD gs t) = true then some w else none
  | _ => none
def putsF (gs : List D) : List D → List Str → Bool
  | [], _ => true
  | e :: r, seen => match stepP gs seen e with
    | some w => putsF gs r (seen ++ [w])
    | none => false
def putsD (gs : List D) : D → Bool
  | .tup xs => putsF gs xs []
  | _ => false
def outP (o : Option Str) (δ : Sl) (S : Sto) (T : Str → Sto) : Out := match o with
  | some w => .nx δ (T w)
  | none => .rt (.bl false) S
theorem puts_step {c1 cin ct : DE} {fn : DS} {gs : List D} {seen : List Str} {δ : Sl} {S : Sto} {e : D} {T : Str → Sto} (hd : pv e = true) (hv : dVar 3 δ S = .ok e S) (h1 : ∀ a b, e = .tup [a, b] → c1 δ S = .ok (.bl (nameD a)) S)
    (h2 : ∀ w b, e = .tup [.str w, b] → cin δ S = .ok (.bl (decide (w ∈ seen))) S ∧ ct δ S = .ok (.bl (termD gs b)) S ∧ (w ∉ seen → fn δ S = .nx δ (T w))) :
    (sSeq (sIf (tOrD (tNotD (tTru (dF fIsi (aCons (dVar 3) (aCons (dC (.ty "tuple")) aNil))))) (tOrD (tBool (d2 bNe (dF fLen (aCons (dVar 3) aNil)) (dC (.int 2)))) (tNotD (tTru c1)))) (sRet (dC (.bl false))) sSkip) (sSeq (sIf (tOrD (tBool cin) (tNotD (tTru ct))) (sRet (dC (.bl false))) sSkip) fn)) δ S = outP (stepP gs seen e) δ S T := by
  have ht : tNotD (tTru (dF fIsi (aCons (dVar 3) (aCons (dC (.ty "tuple")) aNil)))) δ S = .ok (!isTup e) S := e_tnot (e_tru (isi_t hd hv))
  cases e with
  | tup xs =>
    have hl := e_bool (e_2 (len_t hv) (show dC (.int 2) δ S = .ok (.int 2) S from rfl) (bNe_int (S := S)))
    by_cases hx : ∃ a b, xs = [a, b]
    · obtain ⟨a, b, rfl⟩ := hx
      have ha := tup_mem hd a (by simp)
      by_cases hs : ∃ w, a = .str w
      · obtain ⟨w, rfl⟩ := hs
        obtain ⟨q1, q2, q3⟩ := h2 w b rfl
        have hn := e_tnot (e_tru (h1 _ _ rfl))
        rw [show nameD (.str w) = nameL w.cps.toList from rfl] at hn
        have hst : stepP gs seen (.tup [.str w, b]) = if (nameL w.cps.toList && !decide (w ∈ seen) && termD gs b) = true then some w else none := rfl
        rw [hst]
        cases hn1 : nameL w.cps.toList with
        | false =>
          rw [hn1] at hn
          exact e_seqR (S1 := S) (d := .bl false) (e_ift (e_torF ht (e_torF hl hn)) (e_ret rfl))
        | true =>
          rw [hn1] at hn
          refine e_seq (e_iff (e_torF ht (e_torF hl hn)) rfl) ?_
          by_cases hin : w ∈ seen
          · rw [decide_eq_true hin] at q1 ⊢
            exact e_seqR (S1 := S) (d := .bl false) (e_ift (e_torT (e_bool q1)) (e_ret rfl))
          · rw [decide_eq_false hin] at q1 ⊢
            cases htm : termD gs b with
            | false =>
              rw [htm] at q2
              exact e_seqR (S1 := S) (d := .bl false) (e_ift (e_torF (e_bool q1) (e_tnot (e_tru q2))) (e_ret rfl))
            | true =>
              rw [htm] at q2
              exact e_seq (e_iff (e_torF (e_bool q1) (e_tnot (e_tru q2))) rfl) (q3 hin)
      · have hn := e_tnot (e_tru (h1 _ _ rfl))
        have : nameD a = false := by cases a <;> first | rfl | exact absurd ⟨_, rfl⟩ hs
        rw [this] at hn
        refine (e_seqR (e_ift (e_torF ht (e_torF hl hn)) (e_ret rfl))).trans ?_
        unfold stepP
        split
        · rename_i h; injection h with h; injection h with h; exact absurd ⟨_, h⟩ hs
        · rfl
    · have hne : xs.length ≠ 2 := fun e => hx (by
        match xs, e with
        | [a, b], _ => exact ⟨a, b, rfl⟩)
      rw [decide_eq_false (by omega)] at hl
      refine (e_seqR (e_ift (e_torF ht (e_torT hl)) (e_ret rfl))).trans ?_
      unfold stepP
      split
      · rename_i h; injection h with h; exact absurd ⟨_, _, h⟩ hx
      · rfl
  | _ => exact e_seqR (e_ift (e_torT ht) (e_ret rfl))
theorem for_puts {E : List D} {b : DS} {gs : List D} {T : List Str → Sto} {x0 x1 x2 : Option D} : ∀ (xs : List D) (seen : List Str) (x3 : Option D), (∀ seen, ∀ e ∈ xs, b [x0, x1, x2, some e] (T seen) = match stepP gs seen e with
    | some w => .nx [x0, x1, x2, some e] (T (seen ++ [w]))
    | none => .rt (.bl false) (T seen)) →
    ∃ seen' y3, sForL ⟨E, none⟩ (gNm 3) b xs [x0, x1, x2, x3] (T seen) = if putsF gs xs seen = true then .nx [x0, x1, x2, y3] (T seen') else .rt (.bl false) (T seen')
  | [], seen, x3, _ => ⟨seen, x3, rfl⟩
  | e :: xs, seen, x3, h => by
    have hb := h seen e List.mem_cons_self
    rw [putsF]
    cases hs : stepP gs seen e with
    | none =>
      rw [hs] at hb
      exact ⟨seen, none, for_rt rfl hb⟩
    | some w =>
      rw [hs] at hb
      obtain ⟨s', y, e2⟩ := for_puts (E := E) xs (seen ++ [w]) (some e) (fun seen e he => h seen e (List.mem_cons_of_mem _ he))
      exact ⟨s', y, for_nx rfl hb e2⟩
variable {gs : List D} {S : Sto} {d : D}
end QB
set_option maxHeartbeats 4000000
namespace QB
open PySem PySem.Spec PySem.Calls PyProof.Rows L2
variable {gs : List D} {S : Sto} {d : D}
theorem clean_seenK (hS : Clean S) (seen : List Str) : Clean (S ++ [.dic (seenK seen)]) := clean_add hS (by
  show nrs _ = true
  refine nrs_mem.mpr fun d hd => ?_
  obtain ⟨p, hp, rfl⟩ := List.mem_map.mp hd
  obtain ⟨w, _, rfl⟩ := List.mem_map.mp hp
  rfl)
theorem clean_seenL (hS : Clean S) (seen : List Str) : Clean (S ++ [.lst (seen.map .str)]) := clean_add hS (by
  show nrs _ = true
  refine nrs_mem.mpr fun d hd => ?_
  obtain ⟨w, _, rfl⟩ := List.mem_map.mp hd
  rfl)
theorem putD_len {k : Key} {v : D} {l : List (Key × D)} : (putD l k v).length ≤ l.length + 1 := by
  unfold putD
  split <;> simp
/-- as for_puts, with a bound on what was seen -/
theorem for_puts' {E : List D} {b : DS} {gs : List D} {T : List Str → Sto} {x0 x1 x2 : Option D} {M : Nat} : ∀ (xs : List D) (seen : List Str) (x3 : Option D), seen.length + xs.length ≤ M → (∀ seen, seen.length < M → ∀ e ∈ xs, b [x0, x1, x2, some e] (T seen) = outP (stepP gs seen e) [x0, x1, x2, some e] (T seen) fun w => T (seen ++ [w])) →
    ∃ seen' y3, sForL ⟨E, none⟩ (gNm 3) b xs [x0, x1, x2, x3] (T seen) = if putsF gs xs seen = true then .nx [x0, x1, x2, y3] (T seen') else .rt (.bl false) (T seen')
  | [], seen, x3, _, _ => ⟨seen, x3, rfl⟩
  | e :: xs, seen, x3, hM, h => by
    rw [List.length_cons] at hM
    have hb := h seen (by omega) e List.mem_cons_self
    rw [putsF]
    cases hs : stepP gs seen e with
    | none =>
      rw [hs] at hb
      exact ⟨seen, none, for_rt rfl hb⟩
    | some w =>
      rw [hs] at hb
      obtain ⟨s', y, e2⟩ := for_puts' (E := E) (M := M) xs (seen ++ [w]) (some e) (by simp; omega) (fun seen hl e he => h seen hl e (List.mem_cons_of_mem _ he))
      exact ⟨s', y, for_nx rfl hb e2⟩
theorem F25_eq (hl : Lot gs) (hS : Clean S) (hd : pv d = true) (hp : dp d ≤ 100) : F25 [szD gs, d] S = .ok (.bl (putsD gs d)) S := by
  rw [F25, dDef_eq (n := 2) rfl]
  have ht : tNotD (tTru (dF fIsi (aCons (dVar 1) (aCons (dC (.ty "tuple")) aNil)))) (slots N25 [szD gs, d]) S = .ok (!isTup d) S := e_tnot (e_tru (isi_t hd rfl))
  cases d with
  | tup xs =>
    obtain ⟨s', y, e⟩ := for_puts' (E := xs) (b := L25_0) (gs := gs) (T := fun seen => S ++ [.dic (seenK seen)]) (x0 := some (szD gs)) (x1 := some (.tup xs)) (x2 := some (.ref S.length)) (M := xs.length) xs [] none (by simp) (fun seen hM e he => by
      have hde := tup_mem hd e he
      have hpe := dp_tup he
      have hC := clean_seenK hS seen
      have hq := fun h1 h2 => puts_step (c1 := dCall F13 (aCons (d2 bIx (dVar 3) (dC (.int 0))) aNil)) (cin := d2 (bIn id) (d2 bIx (dVar 3) (dC (.int 0))) (dVar 2)) (ct := dCallD (F21 103) [.int 0] (aCons (dVar 0) (aCons (d2 bIx (dVar 3) (dC (.int 1))) aNil))) (fn := sPut (dVar 2) (d2 bIx (dVar 3) (dC (.int 0))) (dC (.bl true))) (gs := gs) (seen := seen) (e := e) (δ := [some (szD gs), some (.tup xs), some (.ref S.length), some e]) (S := S ++ [.dic (seenK seen)]) (T := fun w => S ++ [.dic (seenK (seen ++ [w]))]) hde rfl h1 h2
      refine hq ?_ ?_
      · rintro a b rfl
        exact e_call (e_cons (ix0 rfl) e_nil) (F13_eq hC (tup_mem hde a (by simp)))
      · rintro w b rfl
        have hb := dp_tup (xs := [.str w, b]) (d := b) (by simp)
        refine ⟨e_2 (ix0 rfl) rfl in_cellK, e_callD (e_cons rfl (e_cons (ix1 rfl) e_nil)) (F21c hl hC (tup_mem hde b (by simp)) (by omega) (by omega)), fun hn => ?_⟩
        unfold sPut
        rw [show dC (D.bl true) [some (szD gs), some (.tup xs), some (.ref S.length), some (.tup [.str w, b])] (S ++ [.dic (seenK seen)]) = .ok (.bl true) (S ++ [.dic (seenK seen)]) from rfl]
        simp only [evO]
        rw [show dVar 2 [some (szD gs), some (.tup xs), some (.ref S.length), some (.tup [.str w, b])] (S ++ [.dic (seenK seen)]) = .ok (.ref S.length) (S ++ [.dic (seenK seen)]) from rfl]
        simp only [evO]
        rw [ix0 (i := 3) (a := .str w) (r := [b]) rfl]
        simp only [evO]
        have hput : putAtD (.ref S.length) (.str w) (.bl true) (S ++ [.dic (seenK seen)]) = some (S ++ [.dic (seenK (seen ++ [w]))]) := by
          unfold putAtD
          simp only [cell_at, keyD, Option.bind_some]
          have hlen : (seenK seen).length < sizeLine := by
            have := tup_line hd
            unfold seenK; rw [List.length_map]; omega
          rw [if_pos hlen, cell_set, putD_new]
          · unfold seenK; rw [List.map_append]; rfl
          · intro hm
            obtain ⟨p, hp, e⟩ := List.mem_map.mp hm
            obtain ⟨v, hv, rfl⟩ := List.mem_map.mp hp
            have : v = w := by injection e
            exact hn (this ▸ hv)
        rw [hput])
    have : ∃ T, t25 (slots N25 [szD gs, .tup xs]) S = .rt (.bl (putsD gs (.tup xs))) (S ++ T) := by
      rw [show putsD gs (.tup xs) = putsF gs xs [] from rfl]
      refine ⟨[.dic (seenK s')], e_seq (e_iff ht rfl) (e_seq (e_asg rfl) ?_)⟩
      cases hq : putsF gs xs [] with
      | true => rw [hq, if_pos rfl] at e; exact e_seq (e_for rfl e) (e_ret rfl)
      | false => rw [hq, if_neg Bool.false_ne_true] at e; exact e_seqR (e_for rfl e)
    obtain ⟨T, e⟩ := this
    rw [e]
    exact fin_rtT hS rfl
  | _ =>
    rw [show t25 (slots N25 [szD gs, _]) S = .rt (.bl false) S from e_seqR (e_ift ht (e_ret rfl))]
    exact fin_rt hS rfl
theorem F65_eq (hl : Lot gs) (hS : Clean S) (hd : pv d = true) (hp : dp d < 16) : F65 [.tup gs, d] S = .ok (.bl (putsD gs d)) S := by
  rw [F65, dDef_eq (n := 2) rfl]
  have ht : tNotD (tTru (dF fIsi (aCons (dVar 1) (aCons (dC (.ty "tuple")) aNil)))) (slots N65 [.tup gs, d]) S = .ok (!isTup d) S := e_tnot (e_tru (isi_t hd rfl))
  cases d with
  | tup xs =>
    obtain ⟨s', y, e⟩ := for_puts' (E := xs) (b := L65_0) (gs := gs) (T := fun seen => S ++ [.lst (seen.map .str)]) (x0 := some (.tup gs)) (x1 := some (.tup xs)) (x2 := some (.ref S.length)) (M := xs.length) xs [] none (by simp) (fun seen hM e he => by
      have hde := tup_mem hd e he
      have hpe := dp_tup he
      have hC := clean_seenL hS seen
      have hq := fun h1 h2 => puts_step (c1 := dCall F56 (aCons (d2 bIx (dVar 3) (dC (.int 0))) aNil)) (cin := d2 (bIn id) (d2 bIx (dVar 3) (dC (.int 0))) (dVar 2)) (ct := dCall (F61 16) (aCons (dVar 0) (aCons (d2 bIx (dVar 3) (dC (.int 1))) aNil))) (fn := sExpr (dAppend (dVar 2) (d2 bIx (dVar 3) (dC (.int 0))))) (gs := gs) (seen := seen) (e := e) (δ := [some (.tup gs), some (.tup xs), some (.ref S.length), some e]) (S := S ++ [.lst (seen.map .str)]) (T := fun w => S ++ [.lst ((seen ++ [w]).map .str)]) hde rfl h1 h2
      refine hq ?_ ?_
      · rintro a b rfl
        exact e_call (e_cons (ix0 rfl) e_nil) (F56_eq hC (tup_mem hde a (by simp)))
      · rintro w b rfl
        have hb := dp_tup (xs := [.str w, b]) (d := b) (by simp)
        refine ⟨e_2 (ix0 rfl) rfl in_cellL, e_call (e_cons rfl (e_cons (ix1 rfl) e_nil)) (F61c hl hC (tup_mem hde b (by simp)) (by omega)), fun hn => ?_⟩
        have hlen : (seen.map D.str).length < sizeLine := by
          have := tup_line hd
          rw [List.length_map]; omega
        refine (e_expr (e_app (k := S.length) (ds := seen.map D.str) (es := seen.map D.str) rfl cell_at (ix0 rfl) cell_at hlen)).trans ?_
        rw [cell_set, List.map_append]
        rfl)
    have : ∃ T, t65 (slots N65 [.tup gs, .tup xs]) S = .rt (.bl (putsD gs (.tup xs))) (S ++ T) := by
      rw [show putsD gs (.tup xs) = putsF gs xs [] from rfl]
      refine ⟨[.lst (s'.map .str)], e_seq (e_iff ht rfl) (e_seq (e_asg (show dLstC aNil _ S = .ok (.ref S.length) (S ++ [.lst (([] : List Str).map .str)]) from rfl)) ?_)⟩
      cases hq : putsF gs xs [] with
      | true => rw [hq, if_pos rfl] at e; exact e_seq (e_for rfl e) (e_ret rfl)
      | false => rw [hq, if_neg Bool.false_ne_true] at e; exact e_seqR (e_for rfl e)
    obtain ⟨T, e⟩ := this
    rw [e]
    exact fin_rtT hS rfl
  | _ =>
    rw [show t65 (slots N65 [.tup gs, _]) S = .rt (.bl false) S from e_seqR (e_ift ht (e_ret rfl))]
    exact fin_rt hS rfl
theorem F39_eq (hl : Lot gs) (hS : Clean S) (hd : pv d = true) (hp : dp d ≤ 100) : F39 [.tup gs, d] S = .ok (.bl (putsD gs d)) S := by
  rw [F39, dDef_eq (n := 2) rfl]
  have : t39 (slots N39 [.tup gs, d]) S = .rt (.bl (putsD gs d)) S := e_ret (e_call (e_cons (e_call (e_cons rfl e_nil) (F19_eq hS hl)) (e_cons rfl e_nil)) (F25_eq hl hS hd hp))
  rw [this]
  exact fin_rt hS rfl
end QB
set_option maxHeartbeats 4000000
namespace QB
open PySem PySem.Spec PySem.Calls PyProof.Rows L2
/-! ### comprehensions over a cell -/
theorem lcL_mapS {s : Src} {g : DG} {te : DE} {δ : Sl} {S : Sto} {f : D → D} (hs : s.ok S = true) : ∀ {l : List D}, (∀ d ∈ l, ∃ δ1, g d δ S = some δ1 ∧ te δ1 S = .ok (f d) S) → lcL s g tYesD te δ l S = .ok (l.map f) S
  | [], _ => by
    unfold lcL
    rw [if_pos hs]; rfl
  | d :: l, h => by
    obtain ⟨δ1, h1, h2⟩ := h d List.mem_cons_self
    unfold lcL
    rw [if_pos hs, h1]
    simp only [evT, evR, evO, if_true, h2, lcL_mapS hs (fun d hd => h d (List.mem_cons_of_mem _ hd)), List.map_cons]
theorem dLc_mapS {t : DI} {g : DG} {te : DE} {vs : List Nat} {δ : Sl} {S S1 : Sto} {s : Src} {f : D → D} (ht : t δ S = .ok s S1) (hs : s.ok S1 = true) (hl : s.ds.length < sizeLine) (h : ∀ d ∈ s.ds, ∃ δ1, g d (wipeD δ vs) S1 = some δ1 ∧ te δ1 S1 = .ok (f d) S1) : dLc t g tYesD te vs δ S = .ok (.lst (s.ds.map f)) S1 := by
  unfold dLc
  rw [ht]
  simp only [evR]
  rw [if_pos hl, lcL_mapS hs h]
  rfl
theorem src_ref {i k : Nat} {δ : Sl} {S : Sto} {ds : List D} (hv : dVar i δ S = .ok (.ref k) S) (hc : S[k]? = some (.lst ds)) : iOf (dVar i) δ S = .ok ⟨ds, some (k, ds)⟩ S ∧ (Src.mk ds (some (k, ds))).ok S = true := by
  constructor
  · unfold iOf
    rw [hv]
    simp only [evR, srcOf, hc, ofSrc]
  · unfold Src.ok
    simp only [hc]
    exact deqDs_refl ds
theorem e_callK {F : DFn} {r : R D} {idx : List Nat} {n m : Nat} {ts tk : DA} {xs ys : List D} {δ : Sl} {S S1 S2 : Sto} (h : ts δ S = .ok xs S1) (h2 : tk δ S1 = .ok ys S2) (h3 : xs.length = n ∧ ys.length = m) (h4 : F (pick idx (xs ++ ys)) S2 = r) : dCallK F idx n m ts tk δ S = r := by
  unfold dCallK
  rw [h]
  simp only [evR]
  rw [h2]
  simp only [evR]
  rw [if_pos h3, h4]
theorem e_lstC {ts : DA} {xs : List D} {δ : Sl} {S S1 : Sto} (h : ts δ S = .ok xs S1) (hl : xs.length ≤ sizeLine) : dLstC ts δ S = .ok (.ref S1.length) (S1 ++ [.lst xs]) := by
  unfold dLstC
  rw [h]
  simp only [evR, if_pos hl]
/-! ### rows of two equal truths -/
abbrev PP (b : Bool) : D := .tup [.bl b, .bl b]
abbrev TT (S : Sto) (bs : List Bool) : Sto := S ++ [.lst (bs.map PP)]
theorem clean_TT {S : Sto} (hS : Clean S) (bs : List Bool) : Clean (TT S bs) := clean_add hS (by
  show nrs _ = true
  refine nrs_mem.mpr fun d hd => ?_
  obtain ⟨w, _, rfl⟩ := List.mem_map.mp hd
  rfl)
theorem app_PP {i : Nat} {te : DE} {δ : Sl} {S : Sto} {bs : List Bool} {b : Bool} (hv : dVar i δ (TT S bs) = .ok (.ref S.length) (TT S bs)) (h : te δ (TT S bs) = .ok (PP b) (TT S bs)) (hl : bs.length ≤ 100) : sExpr (dAppend (dVar i) te) δ (TT S bs) = .nx δ (TT S (bs ++ [b])) := by
  refine (e_expr (e_app hv cell_at h cell_at ?_)).trans ?_
  · rw [List.length_map, sizeLine_eq]; omega
  · rw [cell_set, ← List.map_singleton (f := PP), ← List.map_append]
theorem told_all {i j : Nat} {δ : Sl} {S : Sto} {bs : List Bool} (hS : Clean S) (hv : dVar i δ (TT S bs) = .ok (.ref S.length) (TT S bs)) (hl : bs.length ≤ 100) (hj : ∀ d, ∃ δ1, gNm j d (wipeD δ [j]) (TT S bs) = some δ1 ∧ dVar j δ1 (TT S bs) = .ok d (TT S bs)) :
    dF fAll (aCons (dLc (iOf (dVar i)) (gNm j) tYesD (dCall F68 (aCons (d2 bIx (dVar j) (dC (.int 0))) (aCons (d2 bIx (dVar j) (dC (.int 1))) aNil))) [j]) aNil) δ (TT S bs) = .ok (.bl true) (TT S bs) := by
  obtain ⟨h1, h2⟩ := src_ref hv cell_at
  refine e_f (e_cons (dLc_mapS (f := fun _ => .bl true) h1 h2 ?_ ?_) e_nil) ?_
  · show (bs.map PP).length < _
    rw [List.length_map, sizeLine_eq]; omega
  · intro d hd
    obtain ⟨b, _, rfl⟩ := List.mem_map.mp (show d ∈ bs.map PP from hd)
    obtain ⟨δ1, q1, q2⟩ := hj (PP b)
    exact ⟨δ1, q1, e_call (e_cons (ix0 q2) (e_cons (ix1 q2) e_nil)) (F68_same (clean_TT hS bs))⟩
  · rw [fAll_map (fun _ => true)]
    simp
theorem clean_take {S : Sto} {bs : List Bool} {b : Bool} (hS : Clean S) : fin S.length (.rt (.bl b) (TT S bs)) = .ok (.bl b) S := fin_rtT hS rfl
variable {gs : List D} {S : Sto} {d : D}
theorem F31_eq (hS : Clean S) (hd : pv d = true) : F31 [d] S = .ok (.bl (bitD d)) S := by
  rw [F31, dDef_eq (n := 1) rfl, show t31 (slots N31 [d]) S = .rt (.bl (bitD d)) S from e_ret (e_call (e_cons rfl e_nil) (F11_eq hS hd))]
  exact fin_rt hS rfl
theorem F32_eq (hS : Clean S) (hd : pv d = true) : F32 [d] S = .ok (.bl (nameD d)) S := by
  rw [F32, dDef_eq (n := 1) rfl, show t32 (slots N32 [d]) S = .rt (.bl (nameD d)) S from e_ret (e_call (e_cons rfl e_nil) (F13_eq hS hd))]
  exact fin_rt hS rfl
theorem F33_eq (hS : Clean S) (hd : pv d = true) : F33 [d] S = .ok (.bl (wordD d)) S := by
  rw [F33, dDef_eq (n := 1) rfl, show t33 (slots N33 [d]) S = .rt (.bl (wordD d)) S from e_ret (e_call (e_cons rfl e_nil) (F14_eq hS hd))]
  exact fin_rt hS rfl
theorem F69_eq (hS : Clean S) (hd : pv d = true) : F69 [d] S = .ok (.bl true) S := by
  rw [F69, dDef_eq (n := 1) rfl]
  have : t69 (slots N69 [d]) S = .rt (.bl true) (TT S [bitD d, nameD d, wordD d]) := by
    refine e_seq (e_asg (d := .ref S.length) (S1 := TT S [bitD d, nameD d]) ?_) ?_
    · exact e_lstC (xs := [PP (bitD d), PP (nameD d)]) (e_cons (e_tup (e_cons (e_call (e_cons rfl e_nil) (F31_eq hS hd)) (e_cons (e_call (e_cons rfl e_nil) (F55_eq hS hd)) e_nil)) (sm (by simp))) (e_cons (e_tup (e_cons (e_callK e_nil (e_cons rfl e_nil) ⟨rfl, rfl⟩ (F32_eq hS hd)) (e_cons (e_call (e_cons rfl e_nil) (F56_eq hS hd)) e_nil)) (sm (by simp))) e_nil)) (sm (by simp))
    · have hC := clean_TT hS [bitD d, nameD d]
      exact e_seq (app_PP rfl (e_tup (e_cons (e_call (e_cons rfl e_nil) (F33_eq hC hd)) (e_cons (e_call (e_cons rfl e_nil) (F57_eq hC hd)) e_nil)) (sm (by simp))) (by simp)) (e_ret (told_all hS rfl (by simp) fun d => ⟨_, rfl, rfl⟩))
  rw [this]
  exact fin_rtT hS rfl
theorem F71_eq (hl : Lot gs) (hS : Clean S) (hd : pv d = true) (hp : dp d < 16) : F71 [.tup gs, d] S = .ok (.bl true) S := by
  rw [F71, dDef_eq (n := 2) rfl]
  have hp' : dp d ≤ 100 := by omega
  have : t71 (slots N71 [.tup gs, d]) S = .rt (.bl true) (TT S [termD gs d, eqnD gs d, factsD gs d, claimD gs d, putsD gs d]) := by
    refine e_seq (e_asg (d := .ref S.length) (S1 := TT S [termD gs d]) ?_) ?_
    · exact e_lstC (xs := [PP (termD gs d)]) (e_cons (e_tup (e_cons (e_call (e_cons rfl (e_cons rfl e_nil)) (F35_eq hl hS hd hp')) (e_cons (e_call (e_cons rfl (e_cons rfl e_nil)) (F61c hl hS hd hp)) e_nil)) (sm (by simp))) e_nil) (sm (by simp))
    · have hC := fun bs => clean_TT hS bs
      refine e_seq (app_PP rfl (e_tup (e_cons (e_callK e_nil (e_cons rfl (e_cons rfl e_nil)) ⟨rfl, rfl⟩ (F36_eq hl (hC _) hd hp')) (e_cons (e_call (e_cons rfl (e_cons rfl e_nil)) (F62_eq hl (hC _) hd hp)) e_nil)) (sm (by simp))) (by simp)) ?_
      refine e_seq (app_PP rfl (e_tup (e_cons (e_call (e_cons rfl (e_cons rfl e_nil)) (F37_eq hl (hC _) hd hp')) (e_cons (e_call (e_cons rfl (e_cons rfl e_nil)) (F63_eq hl (hC _) hd hp)) e_nil)) (sm (by simp))) (by simp)) ?_
      refine e_seq (app_PP rfl (e_tup (e_cons (e_callK (e_cons rfl e_nil) (e_cons rfl e_nil) ⟨rfl, rfl⟩ (F38_eq hl (hC _) hd hp')) (e_cons (e_call (e_cons rfl (e_cons rfl e_nil)) (F64_eq hl (hC _) hd hp)) e_nil)) (sm (by simp))) (by simp)) ?_
      refine e_seq (app_PP rfl (e_tup (e_cons (e_call (e_cons rfl (e_cons rfl e_nil)) (F39_eq hl (hC _) hd hp')) (e_cons (e_call (e_cons rfl (e_cons rfl e_nil)) (F65_eq hl (hC _) hd hp)) e_nil)) (sm (by simp))) (by simp)) ?_
      exact e_ret (told_all hS rfl (by simp) fun d => ⟨_, rfl, rfl⟩)
  rw [this]
  exact fin_rtT hS rfl
end QB
set_option maxHeartbeats 4000000
namespace QB
open PySem PySem.Spec PySem.Calls PyProof.Rows L2
variable {gs : List D} {S : Sto} {d g : D} {w : Str}
abbrev NU : Str := Str.ofString "NotUsable"
theorem findG_mem (h : findG gs w = some g) : g ∈ gs ∧ gname g = w := by
  unfold findG at h
  exact ⟨List.mem_of_find?_eq_some h, of_decide_eq_true (List.find?_some (p := fun g => decide (gname g = w)) h)⟩
theorem findG_of (hn : (gs.map gname).Nodup) (hg : g ∈ gs) : findG gs (gname g) = some g := by
  induction gs with
  | nil => cases hg
  | cons x gs ih =>
    have hn' := List.nodup_cons.mp hn
    unfold findG
    rw [List.find?_cons]
    rcases List.mem_cons.mp hg with rfl | hg
    · rw [decide_eq_true rfl]
    · rw [decide_eq_false (fun e => hn'.1 (by show gname x ∈ _; rw [e]; exact List.mem_map.mpr ⟨g, hg, rfl⟩))]
      exact ih hn'.2 hg
def gateBad (gs : List D) : D → Bool
  | .str w => !(findG gs w).isSome
  | _ => true
theorem test26 (hl : Lot gs) (hp : ∀ g ∈ gs, pv g = true) (hS : Clean S) (hd : pv d = true) : tOrD (tNotD (tTru (dF fIsi (aCons (dVar 1) (aCons (dC (.ty "str")) aNil))))) (tBool (d2 (bIn not) (dVar 1) (dCall F20 (aCons (dVar 0) aNil)))) (slots N26 [.tup gs, d]) S = .ok (gateBad gs d) S := by
  have hs : tNotD (tTru (dF fIsi (aCons (dVar 1) (aCons (dC (.ty "str")) aNil)))) (slots N26 [.tup gs, d]) S = .ok (!isStr d) S := e_tnot (e_tru (isi_s hd rfl))
  cases d with
  | str w =>
    refine e_torF hs (e_bool ((e_2 (show dVar 1 (slots N26 [.tup gs, .str w]) S = .ok (.str w) S from rfl) (e_call (e_cons rfl e_nil) (F20_eq hS hl hp)) bIn_dic).trans ?_))
    rw [valD_G, Option.isSome_map]
    rfl
  | _ => exact e_torT hs
theorem F26_ok (hl : Lot gs) (hp : ∀ g ∈ gs, pv g = true) (hS : Clean S) (hd : pv d = true) (hb : gateBad gs d = false) : F26 [.tup gs, d] S = .ok .non S := by
  have ht := test26 hl hp hS hd
  rw [hb] at ht
  rw [F26, dDef_eq (n := 2) rfl, show t26 (slots N26 [.tup gs, d]) S = .nx _ S from e_iff ht rfl]
  exact fin_nx hS
theorem F26_ex (hl : Lot gs) (hp : ∀ g ∈ gs, pv g = true) (hS : Clean S) (hd : pv d = true) (hb : gateBad gs d = true) : F26 [.tup gs, d] S = .ex NU (exF "gate" (-1)) S := by
  have ht := test26 hl hp hS hd
  rw [hb] at ht
  rw [F26, dDef_eq (n := 2) rfl, show t26 (slots N26 [.tup gs, d]) S = .ex NU (exF "gate" (-1)) (slots N26 [.tup gs, d]) S from e_ift ht rfl]
  exact fin_ex2 hS rfl rfl
/-! bits -/
def bitsOk (n : Nat) : D → Bool
  | .tup xs => decide (xs.length = n) && xs.all bitD
  | _ => false
theorem F12_eq {n : Nat} (hS : Clean S) (hd : pv d = true) : F12 [d, .int n] S = .ok (.bl (bitsOk n d)) S := by
  rw [F12, dDef_eq (n := 2) rfl]
  have ht : dF fIsi (aCons (dVar 0) (aCons (dC (.ty "tuple")) aNil)) (slots N12 [d, .int n]) S = .ok (.bl (isTup d)) S := isi_t hd rfl
  have : t12 (slots N12 [d, .int n]) S = .rt (.bl (bitsOk n d)) S := by
    cases d with
    | tup xs =>
      have hl := e_2 (len_t (S := S) (xs := xs) (i := 0) (δ := slots N12 [.tup xs, .int n]) rfl) (show dVar 1 (slots N12 [.tup xs, .int n]) S = .ok (.int n) S from rfl) bEq_int
      refine e_ret (e_andT ht (e_and (p := decide (xs.length = n)) (hl.trans ?_) fun _ => ?_))
      · congr 2
        rw [Bool.eq_iff_iff]; simp only [decide_eq_true_eq]; omega
      · exact all_call (i := 2) (xs := xs) rfl (tup_line hd) (by show 2 < 3; omega) fun d hm => F11_eq hS (tup_mem hd d hm)
    | _ => exact e_ret (e_andF ht)
  rw [this]
  exact fin_rt hS rfl
theorem F27_ok {n : Nat} (hS : Clean S) (hd : pv d = true) (hb : bitsOk n d = true) : F27 [d, .int n] S = .ok .non S := by
  have h := F12_eq (n := n) hS hd
  rw [hb] at h
  rw [F27, dDef_eq (n := 2) rfl, show t27 (slots N27 [d, .int n]) S = .nx _ S from e_iff (e_tnot (e_tru (e_call (e_cons rfl (e_cons rfl e_nil)) h))) rfl]
  exact fin_nx hS
theorem F27_ex {n : Nat} (hS : Clean S) (hd : pv d = true) (hb : bitsOk n d = false) : F27 [d, .int n] S = .ex NU (exF "bits" (-1)) S := by
  have h := F12_eq (n := n) hS hd
  rw [hb] at h
  rw [F27, dDef_eq (n := 2) rfl, show t27 (slots N27 [d, .int n]) S = .ex NU (exF "bits" (-1)) (slots N27 [d, .int n]) S from e_ift (e_tnot (e_tru (e_call (e_cons rfl (e_cons rfl e_nil)) h))) rfl]
  exact fin_ex2 hS rfl rfl
/-! numbers -/
def numF : Nat → List D → Nat
  | n, [] => n
  | n, .int i :: r => numF (2 * n + i.toNat) r
  | n, _ :: r => numF n r
theorem numF_lt : ∀ (xs : List D) (n : Nat), xs.all bitD = true → numF n xs < (n + 1) * 2 ^ xs.length
  | [], n, _ => by rw [numF]; simp
  | d :: xs, n, h => by
    rw [List.all_cons, Bool.and_eq_true] at h
    obtain ⟨h0, hr⟩ := h
    cases d <;> simp [bitD] at h0
    rename_i i
    have ih := numF_lt xs (2 * n + i.toNat) hr
    rw [numF, List.length_cons, Nat.pow_succ]
    have h1 : i.toNat ≤ 1 := by omega
    have h2 : (2 * n + i.toNat + 1) * 2 ^ xs.length ≤ (n + 1) * (2 ^ xs.length * 2) := by
      rw [show (n + 1) * (2 ^ xs.length * 2) = (2 * n + 2) * 2 ^ xs.length from by rw [Nat.mul_comm (2 ^ xs.length) 2, ← Nat.mul_assoc]; congr 1; omega]
      exact Nat.mul_le_mul_right _ (by omega)
    omega
theorem mul2 {a : Int} {S : Sto} : bMulX (.int 2) (.int a) S = some (.int (2 * a)) := rfl
theorem loop45 {E : List D} {x0 x1 x2 x3 : Option D} : ∀ (xs : List D) (n : Nat) (x5 : Option D), xs.all bitD = true → ∃ y5, sForL ⟨E, none⟩ (gNm 5) L45_0 xs [x0, x1, x2, x3, some (.int n), x5] S = .nx [x0, x1, x2, x3, some (.int (numF n xs : Nat)), y5] S
  | [], n, x5, _ => ⟨x5, rfl⟩
  | d :: xs, n, x5, h => by
    rw [List.all_cons, Bool.and_eq_true] at h
    cases d with
    | int i =>
      have hi : i = (i.toNat : Int) := by
        have := h.1; simp [bitD] at this; omega
      obtain ⟨y, e⟩ := loop45 (E := E) (x0 := x0) (x1 := x1) (x2 := x2) (x3 := x3) xs (2 * n + i.toNat) (some (.int i)) h.2
      refine ⟨y, for_nx rfl ((e_asg (e_2 (e_2 rfl rfl mul2) rfl (show bAdd (.int (2 * (n : Int))) (.int i) S = some (.int (2 * (n : Int) + i)) from rfl))).trans ?_) e⟩
      show Out.nx [x0, x1, x2, x3, some (.int (2 * (n : Int) + i)), some (.int i)] S = _
      rw [show (2 * (n : Int) + i) = ((2 * n + i.toNat : Nat) : Int) by omega]
    | _ => simp [bitD] at h
theorem loop81 {E : List D} {x0 : Option D} : ∀ (xs : List D) (n : Nat) (x5 : Option D), xs.all bitD = true → ∃ y5, sForL ⟨E, none⟩ (gNm 2) L81_0 xs [x0, some (.int n), x5] S = .nx [x0, some (.int (numF n xs : Nat)), y5] S
  | [], n, x5, _ => ⟨x5, rfl⟩
  | d :: xs, n, x5, h => by
    rw [List.all_cons, Bool.and_eq_true] at h
    cases d with
    | int i =>
      have hi : i = (i.toNat : Int) := by
        have := h.1; simp [bitD] at this; omega
      obtain ⟨y, e⟩ := loop81 (E := E) (x0 := x0) xs (2 * n + i.toNat) (some (.int i)) h.2
      refine ⟨y, for_nx rfl ((e_asg (e_2 (e_2 rfl rfl mul2) rfl (show bAdd (.int (2 * (n : Int))) (.int i) S = some (.int (2 * (n : Int) + i)) from rfl))).trans ?_) e⟩
      show Out.nx [x0, some (.int (2 * (n : Int) + i)), some (.int i)] S = _
      rw [show (2 * (n : Int) + i) = ((2 * n + i.toNat : Nat) : Int) by omega]
    | _ => simp [bitD] at h
theorem F81_eq {xs : List D} (hS : Clean S) (h : xs.all bitD = true) : F81 [.tup xs] S = .ok (.int (numF 0 xs : Nat)) S := by
  rw [F81, dDef_eq (n := 1) rfl]
  obtain ⟨y, e⟩ := loop81 (E := xs) (S := S) (x0 := some (.tup xs)) xs 0 none h
  rw [show t81 (slots N81 [.tup xs]) S = .rt (.int (numF 0 xs : Nat)) S from e_seq (e_asg rfl) (e_seq (e_for rfl e) (e_ret rfl))]
  exact fin_rt hS rfl
end QB
set_option maxHeartbeats 4000000
namespace QB
open PySem PySem.Spec PySem.Calls PyProof.Rows L2
section
variable {δ : Sl} {S S1 S2 : Sto} {ta tb : DE} {ts : DA} {t u : DS} {c : Str} {fs : List (Str × D)} {x : D} {xs : List D}
theorem x_expr (h : ta δ S = .ex c fs S1) : sExpr ta δ S = .ex c fs δ S1 := by simp only [evS, h, evO]
theorem x_seq {δ1 : Sl} (h : t δ S = .ex c fs δ1 S1) : sSeq t u δ S = .ex c fs δ1 S1 := by simp only [evS, h]
theorem x_ret (h : ta δ S = .ex c fs S1) : sRet ta δ S = .ex c fs δ S1 := by simp only [evS, h, evO]
theorem x_asg {g : DG} (h : ta δ S = .ex c fs S1) : sAsg ta g δ S = .ex c fs δ S1 := by simp only [evS, h, evO]
theorem x_cons (h : ta δ S = .ex c fs S1) : aCons ta ts δ S = .ex c fs S1 := by simp only [evE, h, evR]
theorem x_cons2 (h : ta δ S = .ok x S1) (h2 : ts δ S1 = .ex c fs S2) : aCons ta ts δ S = .ex c fs S2 := by simp only [evE, h, evR, h2]
theorem x_tup (h : ts δ S = .ex c fs S1) : dTup ts δ S = .ex c fs S1 := by simp only [evE, h, evR]
theorem x_2 {f : DB} (h : ta δ S = .ex c fs S1) : d2 f ta tb δ S = .ex c fs S1 := by simp only [evE, h, evR]
end
variable {gs : List D} {S : Sto} {d g : D} {w : Str}
structure Good (gs : List D) : Prop where
  lot : Lot gs
  pvs : ∀ g ∈ gs, pv g = true
theorem gg_rows (h : GG g) : isRows (gR g).length = true ∧ (gR g).all bitD = true := by
  obtain ⟨w, r, rfl, _, h2, h3⟩ := h.ex
  exact ⟨h2, h3⟩
theorem rows_at (G : Good gs) (hS : Clean S) {i : Nat} {δ : Sl} (h0 : dVar 0 δ S = .ok (.tup gs) S) (h1 : dVar 1 δ S = .ok (.str w) S) (hf : findG gs w = some g) : d2 bIx (dCall F20 (aCons (dVar 0) aNil)) (dVar 1) δ S = .ok (.tup (gR g)) S :=
  e_2 (e_call (e_cons h0 e_nil) (F20_eq hS G.lot G.pvs)) h1 (bIx_dic (by rw [valD_G, hf]; rfl))
theorem badF (hf : findG gs w = some g) : gateBad gs (.str w) = false := by
  show (!(findG gs w).isSome) = false
  rw [hf]; rfl
theorem bits_ok {n : Nat} {xs : List D} (hb : xs.all bitD = true) (hl : xs.length = n) : bitsOk n (.tup xs) = true := by
  show (decide (xs.length = n) && xs.all bitD) = true
  rw [hb, decide_eq_true hl]; rfl
theorem F43_eq (G : Good gs) (hS : Clean S) (hw : pv (.str w) = true) (hf : findG gs w = some g) : F43 [.tup gs, .str w] S = .ok (.int (inp g : Nat)) S := by
  rw [F43, dDef_eq (n := 2) rfl, show t43 (slots N43 [.tup gs, .str w]) S = .rt (.int (inp g : Nat)) S from
    e_seq (e_expr (e_call (e_cons rfl (e_cons rfl e_nil)) (F26_ok G.lot G.pvs hS hw (badF hf)))) (e_ret (e_call (e_cons (rows_at (i := 0) G hS rfl rfl hf) e_nil) (F18_eq hS (gg_rows (G.lot.1 g (findG_mem hf).1)).1)))]
  exact fin_rt hS rfl
theorem F43_ex (G : Good gs) (hS : Clean S) (hd : pv d = true) (hb : gateBad gs d = true) : F43 [.tup gs, d] S = .ex NU (exF "gate" (-1)) S := by
  rw [F43, dDef_eq (n := 2) rfl, show t43 (slots N43 [.tup gs, d]) S = .ex NU (exF "gate" (-1)) _ S from x_seq (x_expr (e_call (e_cons rfl (e_cons rfl e_nil)) (F26_ex G.lot G.pvs hS hd hb)))]
  exact fin_ex2 hS rfl rfl
theorem F44_eq (G : Good gs) (hS : Clean S) (hw : pv (.str w) = true) (hf : findG gs w = some g) : F44 [.tup gs, .str w] S = .ok (.tup (gR g)) S := by
  rw [F44, dDef_eq (n := 2) rfl, show t44 (slots N44 [.tup gs, .str w]) S = .rt (.tup (gR g)) S from
    e_seq (e_expr (e_call (e_cons rfl (e_cons rfl e_nil)) (F26_ok G.lot G.pvs hS hw (badF hf)))) (e_ret (rows_at (i := 0) G hS rfl rfl hf))]
  refine fin_rt hS ?_
  have hg := (findG_mem hf).1
  obtain ⟨w, r, rfl, _⟩ := (G.lot.1 g hg).ex
  exact pv_nr (.tup r) (tup_mem (G.pvs _ hg) (.tup r) (by simp))
theorem F44_ex (G : Good gs) (hS : Clean S) (hd : pv d = true) (hb : gateBad gs d = true) : F44 [.tup gs, d] S = .ex NU (exF "gate" (-1)) S := by
  rw [F44, dDef_eq (n := 2) rfl, show t44 (slots N44 [.tup gs, d]) S = .ex NU (exF "gate" (-1)) _ S from x_seq (x_expr (e_call (e_cons rfl (e_cons rfl e_nil)) (F26_ex G.lot G.pvs hS hd hb)))]
  exact fin_ex2 hS rfl rfl
theorem num_row (h : GG g) {xs : List D} (hb : xs.all bitD = true) (hl : xs.length = inp g) : ∃ v : Int, (gR g)[numF 0 xs]? = some (.int v) ∧ 0 ≤ v ∧ v ≤ 1 := by
  have h1 := gg_rows h
  have h2 := numF_lt xs 0 hb
  have h3 := (lg_pow h1.1).1
  rw [hl, Nat.zero_add, Nat.one_mul] at h2
  unfold inp at h2
  rw [← h3] at h2
  have hm := List.all_eq_true.mp h1.2 (gR g)[numF 0 xs] (List.getElem_mem h2)
  cases hx : (gR g)[numF 0 xs] with
  | int v =>
    rw [hx] at hm
    refine ⟨v, by rw [List.getElem?_eq_getElem h2, hx], ?_⟩
    simp [bitD] at hm
    exact hm
  | _ => rw [hx] at hm; simp [bitD] at hm
theorem F45_eq (G : Good gs) (hS : Clean S) (hw : pv (.str w) = true) (hf : findG gs w = some g) {xs : List D} (hp : pv (.tup xs) = true) (hb : xs.all bitD = true) (hl : xs.length = inp g) {v : D} (hv : (gR g)[numF 0 xs]? = some v) (hn : nr v = true) : F45 [.tup gs, .str w, .tup xs] S = .ok v S := by
  have hg := G.lot.1 g (findG_mem hf).1
  obtain ⟨y, e⟩ := loop45 (E := xs) (S := S) (x0 := some (.tup gs)) (x1 := some (.str w)) (x2 := some (.tup xs)) (x3 := some (.tup (gR g))) xs 0 none hb
  rw [F45, dDef_eq (n := 3) rfl, show t45 (slots N45 [.tup gs, .str w, .tup xs]) S = .rt v S from
    e_seq (e_expr (e_call (e_cons rfl (e_cons rfl e_nil)) (F26_ok G.lot G.pvs hS hw (badF hf)))) (e_seq (e_asg (rows_at (i := 0) G hS rfl rfl hf)) (e_seq (e_expr (e_call (e_cons rfl (e_cons (e_call (e_cons rfl e_nil) (F18_eq hS (gg_rows hg).1)) e_nil)) (F27_ok hS hp (bits_ok hb hl)))) (e_seq (e_asg rfl) (e_seq (e_for rfl e) (e_ret (e_2 rfl rfl (ix_tup (atI_nat hv))))))))]
  exact fin_rt hS hn
theorem F45_exB (G : Good gs) (hS : Clean S) (hw : pv (.str w) = true) (hf : findG gs w = some g) (hp : pv d = true) (hb : bitsOk (inp g) d = false) : F45 [.tup gs, .str w, d] S = .ex NU (exF "bits" (-1)) S := by
  have hg := G.lot.1 g (findG_mem hf).1
  rw [F45, dDef_eq (n := 3) rfl, show t45 (slots N45 [.tup gs, .str w, d]) S = .ex NU (exF "bits" (-1)) _ S from
    e_seq (e_expr (e_call (e_cons rfl (e_cons rfl e_nil)) (F26_ok G.lot G.pvs hS hw (badF hf)))) (e_seq (e_asg (rows_at (i := 0) G hS rfl rfl hf)) (x_seq (x_expr (e_call (e_cons rfl (e_cons (e_call (e_cons rfl e_nil) (F18_eq hS (gg_rows hg).1)) e_nil)) (F27_ex hS hp hb)))))]
  exact fin_ex2 hS rfl rfl
theorem F45_ex (G : Good gs) (hS : Clean S) (hd : pv d = true) (hb : gateBad gs d = true) {b : D} : F45 [.tup gs, d, b] S = .ex NU (exF "gate" (-1)) S := by
  rw [F45, dDef_eq (n := 3) rfl, show t45 (slots N45 [.tup gs, d, b]) S = .ex NU (exF "gate" (-1)) _ S from x_seq (x_expr (e_call (e_cons rfl (e_cons rfl e_nil)) (F26_ex G.lot G.pvs hS hd hb)))]
  exact fin_ex2 hS rfl rfl
end QB
set_option maxHeartbeats 4000000
namespace QB
open PySem PySem.Spec PySem.Calls PyProof.Rows L2
variable {gs : List D} {S : Sto} {d g b : D} {w : Str}
theorem mtNU : mtL [(Str.ofString "InvalidPaper", false), (Str.ofString "NotUsable", true)] NU = some true := by decide +kernel
abbrev sN (i : Nat) : Nat → Nat → Str → DS := fun a dd c => (sRet (dTup (aCons (dC (.bl false)) (aCons (dXf a dd "word" i) (aCons (dXf a dd "at" i) aNil)))))
theorem e_tryNU {i : Nat} {tb : DS} {δ δ1 : Sl} {S S1 : Sto} {v : String} {n : Int} (h : tb δ S = .ex NU (exF v n) δ1 S1) (hi : i < δ1.length) : sTryAs [("InvalidPaper", false), ("NotUsable", true)] i (sN i) tb δ S = .rt (.tup [.bl false, .str (Str.ofString v), .int n]) S1 :=
  e_tryEx h mtNU nodupWA (e_suite hi)
abbrev whichT (k : Int) : DT := tBool (d2 bEq (dVar 1) (dC (.int k)))
theorem which (k n : Int) {x0 x2 x3 x4 : Option D} : whichT k [x0, some (.int n), x2, x3, x4] S = .ok (decide (n = k)) S := e_bool (e_2 rfl rfl bEq_int)
theorem which_ne {k n : Int} (h : n ≠ k) {x0 x2 x3 x4 : Option D} : whichT k [x0, some (.int n), x2, x3, x4] S = .ok false S := by rw [which, decide_eq_false h]
theorem which_eq {k : Int} {x0 x2 x3 x4 : Option D} : whichT k [x0, some (.int k), x2, x3, x4] S = .ok true S := by rw [which, decide_eq_true rfl]
theorem F80_0 (G : Good gs) (hS : Clean S) (hw : pv (.str w) = true) (hf : findG gs w = some g) : F80 [.tup gs, .int 0, .str w, b] S = .ok (.tup [.bl true, .int (inp g : Nat)]) S := by
  rw [F80, dDef_eq (n := 4) rfl, show t80 (slots N80 [.tup gs, .int 0, .str w, b]) S = .rt (.tup [.bl true, .int (inp g : Nat)]) S from
    e_tryRt (e_seqR (e_ift which_eq (e_ret (e_tup (e_cons rfl (e_cons (e_call (e_cons rfl (e_cons rfl e_nil)) (F43_eq G hS hw hf)) e_nil)) (sm (by simp))))))]
  exact fin_rt hS rfl
theorem F80_1 (G : Good gs) (hS : Clean S) (hw : pv (.str w) = true) (hf : findG gs w = some g) : F80 [.tup gs, .int 1, .str w, b] S = .ok (.tup [.bl true, .tup (gR g)]) S := by
  rw [F80, dDef_eq (n := 4) rfl, show t80 (slots N80 [.tup gs, .int 1, .str w, b]) S = .rt (.tup [.bl true, .tup (gR g)]) S from
    e_tryRt (e_seq (e_iff (which_ne (by decide)) rfl) (e_seqR (e_ift which_eq (e_ret (e_tup (e_cons rfl (e_cons (e_callK e_nil (e_cons rfl (e_cons rfl e_nil)) ⟨rfl, rfl⟩ (F44_eq G hS hw hf)) e_nil)) (sm (by simp)))))))]
  refine fin_rt hS ?_
  have hg := (findG_mem hf).1
  obtain ⟨w, r, rfl, _⟩ := (G.lot.1 g hg).ex
  exact pv_nr (.tup [.bl true, .tup r]) (pv_tup.mpr ⟨by show 2 ≤ BIG; unfold BIG; omega, pvs_mem.mpr fun d hd => by
    simp at hd
    rcases hd with rfl | rfl
    · rfl
    · exact tup_mem (G.pvs _ hg) (.tup r) (by simp)⟩)
theorem F80_2 (G : Good gs) (hS : Clean S) (hw : pv (.str w) = true) (hf : findG gs w = some g) {xs : List D} (hp : pv (.tup xs) = true) (hb : xs.all bitD = true) (hl : xs.length = inp g) {v : Int} (hv : (gR g)[numF 0 xs]? = some (.int v)) : F80 [.tup gs, .int 2, .str w, .tup xs] S = .ok (.tup [.bl true, .int v]) S := by
  rw [F80, dDef_eq (n := 4) rfl, show t80 (slots N80 [.tup gs, .int 2, .str w, .tup xs]) S = .rt (.tup [.bl true, .int v]) S from
    e_tryRt (e_seq (e_iff (which_ne (by decide)) rfl) (e_seq (e_iff (which_ne (by decide)) rfl) (e_seqR (e_ift which_eq (e_ret (e_tup (e_cons rfl (e_cons (e_call (e_cons rfl (e_cons rfl (e_cons rfl e_nil))) (F45_eq G hS hw hf hp hb hl hv rfl)) e_nil)) (sm (by simp))))))))]
  exact fin_rt hS rfl
theorem F80_3 (G : Good gs) (hS : Clean S) (hw : pv (.str w) = true) (hf : findG gs w = some g) {xs : List D} (hp : pv (.tup xs) = true) (hb : xs.all bitD = true) (hl : xs.length = inp g) {v : Int} (hv : (gR g)[numF 0 xs]? = some (.int v)) : F80 [.tup gs, .int 3, .str w, .tup xs] S = .ok (.tup [.bl true, .int v]) S := by
  rw [F80, dDef_eq (n := 4) rfl, show t80 (slots N80 [.tup gs, .int 3, .str w, .tup xs]) S = .rt (.tup [.bl true, .int v]) S from
    e_tryRt (e_seq (e_iff (which_ne (by decide)) rfl) (e_seq (e_iff (which_ne (by decide)) rfl) (e_seq (e_iff (which_ne (by decide)) rfl) (e_ret (e_tup (e_cons rfl (e_cons (e_callK e_nil (e_cons rfl (e_cons rfl (e_cons rfl e_nil))) ⟨rfl, rfl⟩ (F45_eq G hS hw hf hp hb hl hv rfl)) e_nil)) (sm (by simp)))))))]
  exact fin_rt hS rfl
theorem F80_2x (G : Good gs) (hS : Clean S) (hw : pv (.str w) = true) (hf : findG gs w = some g) (hp : pv b = true) (hb : bitsOk (inp g) b = false) : F80 [.tup gs, .int 2, .str w, b] S = .ok (.tup [.bl false, .str (Str.ofString "bits"), .int (-1)]) S := by
  rw [F80, dDef_eq (n := 4) rfl, show t80 (slots N80 [.tup gs, .int 2, .str w, b]) S = .rt (.tup [.bl false, .str (Str.ofString "bits"), .int (-1)]) S from
    e_tryNU (e_seq (e_iff (which_ne (by decide)) rfl) (e_seq (e_iff (which_ne (by decide)) rfl) (x_seq (e_ift which_eq (x_ret (x_tup (x_cons2 rfl (x_cons (e_call (e_cons rfl (e_cons rfl (e_cons rfl e_nil))) (F45_exB G hS hw hf hp hb)))))))))) (by show 4 < 5; omega)]
  exact fin_rt hS rfl
theorem F80_x (G : Good gs) (hS : Clean S) (hd : pv d = true) (hb : gateBad gs d = true) {n : Int} (hn : 0 ≤ n ∧ n ≤ 3) : F80 [.tup gs, .int n, d, b] S = .ok (.tup [.bl false, .str (Str.ofString "gate"), .int (-1)]) S := by
  rw [F80, dDef_eq (n := 4) rfl]
  have : t80 (slots N80 [.tup gs, .int n, d, b]) S = .rt (.tup [.bl false, .str (Str.ofString "gate"), .int (-1)]) S := by
    by_cases h0 : n = 0
    · subst h0
      exact e_tryNU (x_seq (e_ift which_eq (x_ret (x_tup (x_cons2 rfl (x_cons (e_call (e_cons rfl (e_cons rfl e_nil)) (F43_ex G hS hd hb)))))))) (by show 4 < 5; omega)
    by_cases h1 : n = 1
    · subst h1
      exact e_tryNU (e_seq (e_iff (which_ne (by decide)) rfl) (x_seq (e_ift which_eq (x_ret (x_tup (x_cons2 rfl (x_cons (e_callK e_nil (e_cons rfl (e_cons rfl e_nil)) ⟨rfl, rfl⟩ (F44_ex G hS hd hb))))))))) (by show 4 < 5; omega)
    by_cases h2 : n = 2
    · subst h2
      exact e_tryNU (e_seq (e_iff (which_ne (by decide)) rfl) (e_seq (e_iff (which_ne (by decide)) rfl) (x_seq (e_ift which_eq (x_ret (x_tup (x_cons2 rfl (x_cons (e_call (e_cons rfl (e_cons rfl (e_cons rfl e_nil))) (F45_ex G hS hd hb)))))))))) (by show 4 < 5; omega)
    exact e_tryNU (e_seq (e_iff (which_ne h0) rfl) (e_seq (e_iff (which_ne h1) rfl) (e_seq (e_iff (which_ne h2) rfl) (x_ret (x_tup (x_cons2 rfl (x_cons (e_callK e_nil (e_cons rfl (e_cons rfl (e_cons rfl e_nil))) ⟨rfl, rfl⟩ (F45_ex G hS hd hb))))))))) (by show 4 < 5; omega)
  rw [this]
  exact fin_rt hS rfl
end QB
set_option maxHeartbeats 4000000
namespace QB
open PySem PySem.Spec PySem.Calls PyProof.Rows L2
/-! ### the row of draws in cell 0 -/
def Row (l : List Int) (T : Sto) : Sto := .lst (l.map .int) :: T
theorem nrs_int (l : List Int) : nrs (l.map .int) = true := nrs_mem.mpr fun d hd => by
  obtain ⟨i, _, rfl⟩ := List.mem_map.mp hd
  rfl
theorem clean_row {l : List Int} {T : Sto} (hT : Clean T) : Clean (Row l T) := fun u hu => by
  rcases List.mem_cons.mp hu with rfl | h
  · exact nrs_int l
  · exact hT u h
theorem row_app {l : List Int} {T U : Sto} : Row l T ++ U = Row l (T ++ U) := rfl
theorem row_len {l l' : List Int} {T : Sto} : (Row l T).length = (Row l' T).length := rfl
theorem finRow {l l' : List Int} {T U : Sto} {d : D} (hT : Clean T) (hd : nr d = true) : fin (Row l T).length (.rt d (Row l' T ++ U)) = .ok d (Row l' T) := fin_rtT (S := Row l' T) (clean_row hT) hd
theorem finRow0 {l l' : List Int} {T : Sto} {d : D} (hT : Clean T) (hd : nr d = true) : fin (Row l T).length (.rt d (Row l' T)) = .ok d (Row l' T) := fin_rt (S := Row l' T) (clean_row hT) hd
theorem F48_eq {l : List Int} {T : Sto} {m : Int} (hT : Clean T) (hm : 0 < m) : ∃ v l', F48 [.ref 0, .int m] (Row l T) = .ok (.int v) (Row l' T) ∧ 0 ≤ v ∧ v < m := by
  rw [F48, dDef_eq (n := 2) rfl]
  have hlen : dF fLen (aCons (dVar 0) aNil) (slots N48 [.ref 0, .int m]) (Row l T) = .ok (.int (l.length : Nat)) (Row l T) := by
    refine e_f (e_cons rfl e_nil) ?_
    show some (D.int ((l.map D.int).length : Nat)) = _
    rw [List.length_map]
  have ht := e_bool (e_2 hlen (show dC (.int 0) _ _ = .ok (.int 0) (Row l T) from rfl) (bEq_int (S := Row l T)))
  cases hl : l with
  | nil =>
    subst hl
    refine ⟨0, [], ?_, by omega, hm⟩
    rw [show t48 (slots N48 [.ref 0, .int m]) (Row [] T) = .rt (.int 0) (Row [] T) from e_seqR (e_ift ht (e_ret rfl))]
    exact finRow0 hT rfl
  | cons a r =>
    rw [← hl]
    have hne : l ≠ [] := by rw [hl]; simp
    have hn : 0 < l.length := List.length_pos_iff.mpr hne
    rw [decide_eq_false (by omega)] at ht
    have hpop : dPop (dVar 0) (slots N48 [.ref 0, .int m]) (Row l T) = .ok (.int (l.getLast hne)) (Row l.dropLast T) := by
      unfold dPop
      rw [show dVar 0 (slots N48 [.ref 0, .int m]) (Row l T) = .ok (.ref 0) (Row l T) from rfl]
      simp only [evR]
      rw [show (Row l T)[0]? = some (.lst (l.map D.int)) from rfl]
      simp only
      have : (l.map D.int)[(l.map D.int).length - 1]? = some (.int (l.getLast hne)) := by
        rw [List.length_map, List.getElem?_map, List.getElem?_eq_getElem (by omega), List.getLast_eq_getElem]
        rfl
      rw [this]
      simp only [← List.map_dropLast]
      rfl
    refine ⟨l.getLast hne % m, l.dropLast, ?_, Int.emod_nonneg _ (by omega), Int.emod_lt_of_pos _ hm⟩
    rw [show t48 (slots N48 [.ref 0, .int m]) (Row l T) = .rt (.int (l.getLast hne % m)) (Row l.dropLast T) from e_seq (e_iff ht rfl) (e_ret (e_2 (e_f (e_cons hpop e_nil) (show fInt [.int (l.getLast hne)] (Row l.dropLast T) = some (.int (l.getLast hne)) from rfl)) rfl (by
      show (if 0 < m then some (l.getLast hne % m) else none).map D.int = _
      rw [if_pos hm]; rfl)))]
    exact finRow0 hT rfl
end QB
set_option maxHeartbeats 4000000
namespace QB
open PySem PySem.Spec PySem.Calls PyProof.Rows L2
theorem app_cps (a b : Str) : (a ++ b).cps.toList = a.cps.toList ++ b.cps.toList := by
  show (a.cps ++ b.cps).toList = _
  simp
theorem join_cps : ∀ ys : List Str, (Txt.join (Str.ofString "") ys).cps.toList = (ys.map (·.cps.toList)).flatten := by
  intro ys
  show (Builtin.Str.glued (Str.ofString "") ys).cps.toList = _
  rw [StrLaws.glued_eq_join]
  have z : (Str.ofString "").cps.toList = [] := by decide
  induction ys with
  | nil => rfl
  | cons a r ih =>
    cases r with
    | nil => simp [Str.join]
    | cons b r =>
      rw [Str.join, app_cps, app_cps, ih, z]
      simp
      intro h; cases h
theorem strsOf_map {α : Type} (f : α → Str) : ∀ l : List α, strsOf (l.map fun x => .str (f x)) = some (l.map f)
  | [] => rfl
  | a :: l => by rw [List.map_cons, strsOf, strsOf_map f l]; rfl
theorem take_e {l : List Int} {T : Sto} {m : Int} {δ : Sl} {i : Nat} {tm : DE} (hT : Clean T) (hv : dVar i δ (Row l T) = .ok (.ref 0) (Row l T)) (ht : tm δ (Row l T) = .ok (.int m) (Row l T)) (hm : 0 < m) : ∃ v l', dCall F48 (aCons (dVar i) (aCons tm aNil)) δ (Row l T) = .ok (.int v) (Row l' T) ∧ 0 ≤ v ∧ v < m := by
  obtain ⟨v, l', h, h2⟩ := F48_eq (l := l) hT hm
  exact ⟨v, l', e_call (e_cons hv (e_cons ht e_nil)) h, h2⟩
def Word (w : Str) : Prop := wordL w.cps.toList = true
theorem join1 {t : DE} {δ : Sl} {S S1 : Sto} {α : Type} {f : α → Nat} {l : List α} (h : t δ S = .ok (.lst (l.map fun x => .str ⟨#[f x]⟩)) S1) (hl : l.length ≤ 1000) : ∃ w : Str, dJoin (dC (.str "")) t δ S = .ok (.str w) S1 ∧ w.cps.toList = l.map f := by
  refine ⟨Txt.join (Str.ofString "") (l.map fun x => ⟨#[f x]⟩), ?_, ?_⟩
  · unfold dJoin
    rw [show dC (.str "") δ S = .ok (.str (Str.ofString "")) S from rfl]
    simp only [evR, h, getQ, Option.bind_some, strsOf_map]
    rw [if_pos]
    have : ((l.map fun x => (⟨#[f x]⟩ : Str)).map (·.length)).sum = l.length := by
      rw [List.map_map]
      clear h hl
      induction l with
      | nil => rfl
      | cons a l ih => rw [List.map_cons, List.sum_cons, ih, List.length_cons]; show 1 + _ = _; omega
    rw [this, show (Str.ofString "").length = 0 from by decide]
    omega
  · rw [join_cps, List.map_map]
    clear h hl
    induction l with
    | nil => rfl
    | cons a l ih => rw [List.map_cons, List.flatten_cons, ih]; rfl
theorem L26_len : L26.length = 26 := by decide +kernel
theorem ix26 {i : Int} {S : Sto} (h0 : 0 ≤ i) (h1 : i < 26) : bIx (.str "abcdefghijklmnopqrstuvwxyz") (.int i) S = some (.str ⟨#[L26.getD i.toNat 0]⟩) := by
  refine ix_str (by rw [sizeLine_eq]; decide +kernel) ?_
  have hl : i.toNat < L26.length := by rw [L26_len]; omega
  have : atI L26 (i.toNat : Nat) = some (L26.getD i.toNat 0) := atI_nat (by rw [List.getD_eq_getElem?_getD, List.getElem?_eq_getElem hl]; rfl)
  rw [show ((i.toNat : Nat) : Int) = i by omega] at this
  exact this
theorem mem26 {i : Int} (h0 : 0 ≤ i) (h1 : i < 26) : L26.getD i.toNat 0 ∈ L26 := by
  have hl : i.toNat < L26.length := by rw [L26_len]; omega
  rw [List.getD_eq_getElem?_getD, List.getElem?_eq_getElem hl]
  exact List.getElem_mem hl
end QB
set_option maxHeartbeats 4000000
namespace QB
open PySem PySem.Spec PySem.Calls PyProof.Rows L2
variable {l : List Int} {T : Sto}
theorem mulI {a b : Int} {S : Sto} (h : small64 a = true ∨ small64 b = true) : bMulX (.int a) (.int b) S = some (.int (a * b)) := by
  have : bMulI (.int a) (.int b) S = some (.int (a * b)) := by
    show (if (small64 a || small64 b) = true then some (a * b) else none).map D.int = _
    rw [if_pos (by rcases h with h | h <;> simp [h])]
    rfl
  have h2 : bMul (.int a) (.int b) S = some (.int (a * b)) := by
    unfold bMul
    rw [this]
  exact orB_some h2
theorem modI {a b : Int} {S : Sto} (h : 0 < b) : bMod (.int a) (.int b) S = some (.int (a % b)) := by
  show (if 0 < b then some (a % b) else none).map D.int = _
  rw [if_pos h]; rfl
theorem addI {a b : Int} {S : Sto} : bAdd (.int a) (.int b) S = some (.int (a + b)) := rfl
theorem subI {a b : Int} {S : Sto} : bSub (.int a) (.int b) S = some (.int (a - b)) := rfl
theorem fIntI {a : Int} {S : Sto} : fInt [.int a] S = some (.int a) := rfl
def iotaD (n : Nat) : List D := (List.range n).map fun i => D.int (i : Nat)
theorem range_e {t : DE} {δ : Sl} {S S1 : Sto} {n : Nat} (h : t δ S = .ok (.int n) S1) (hn : n ≤ 100000) : iRange (aCons t aNil) δ S = .ok ⟨iotaD n, none⟩ S1 := by
  unfold iRange
  rw [e_cons h e_nil]
  simp only [evR, rngOf]
  unfold rngI
  rw [if_pos (by omega)]
  simp [ofSrc, iotaD]
theorem F50_eq (hT : Clean T) : ∃ w l', F50 [.ref 0] (Row l T) = .ok (.str w) (Row l' T) ∧ Word w := by
  rw [F50, dDef_eq (n := 1) rfl]
  obtain ⟨v1, l1, h1, a1, b1⟩ := take_e (l := l) (i := 0) (δ := slots N50 [.ref 0]) (tm := dC (.int 3)) hT rfl rfl (by omega)
  obtain ⟨v2, l2, h2, a2, b2⟩ := take_e (l := l1) (i := 0) (δ := [some (.ref 0), some (.int (2 + v1)), none, none, none, none]) (tm := dC (.int 8)) hT rfl rfl (by omega)
  have hif : ∃ n : Nat, 2 ≤ n ∧ n ≤ 12 ∧ (sIf (tBool (d2 bEq (dCall F48 (aCons (dVar 0) (aCons (dC (.int 8)) aNil))) (dC (.int 0)))) (sAsg (dC (.int 12)) (gNm 1)) sSkip) [some (.ref 0), some (.int (2 + v1)), none, none, none, none] (Row l1 T) = .nx [some (.ref 0), some (.int n), none, none, none, none] (Row l2 T) := by
    have ht := e_bool (e_2 h2 (show dC (.int 0) _ _ = .ok (.int 0) (Row l2 T) from rfl) (bEq_int (S := Row l2 T)))
    by_cases hv : v2 = 0
    · rw [decide_eq_true hv] at ht
      exact ⟨12, by omega, by omega, e_ift ht (e_asg rfl)⟩
    · rw [decide_eq_false hv] at ht
      refine ⟨(2 + v1).toNat, by omega, by omega, (e_iff ht rfl).trans ?_⟩
      rw [show (((2 + v1).toNat : Nat) : Int) = 2 + v1 by omega]
      rfl
  obtain ⟨n, hn1, hn2, hif⟩ := hif
  obtain ⟨v3, l3, h3, a3, b3⟩ := take_e (l := l2) (i := 0) (δ := [some (.ref 0), some (.int n), some (.str "abcdefghijklmnopqrstuvwxyz"), none, none, none]) (tm := dC (.int 26)) hT rfl rfl (by omega)
  obtain ⟨v4, l4, h4, a4, b4⟩ := take_e (l := l3) (i := 0) (δ := [some (.ref 0), some (.int n), some (.str "abcdefghijklmnopqrstuvwxyz"), some (.int v3), none, none]) (tm := dC (.int 25)) hT rfl rfl (by omega)
  obtain ⟨w, hj, hw⟩ := join1 (δ := [some (.ref 0), some (.int n), some (.str "abcdefghijklmnopqrstuvwxyz"), some (.int v3), some (.int v4), none]) (S := Row l4 T) (S1 := Row l4 T) (l := List.range n) (f := fun k => L26.getD ((v3 + v4 * (k : Nat)) % 26).toNat 0) (t := dLc (iRange (aCons (dVar 1) aNil)) (gNm 5) tYesD (d2 bIx (dVar 2) (d2 bMod (dF fInt (aCons (d2 bAdd (dVar 3) (d2 bMulX (dVar 4) (dVar 5))) aNil)) (dC (.int 26)))) [5]) (by
    refine (dLc_map (f := fun d => match d with | .int k => .str ⟨#[L26.getD ((v3 + v4 * k) % 26).toNat 0]⟩ | _ => .non) (range_e (n := n) rfl (by omega)) ?_ ?_).trans ?_
    · rw [iotaD, List.length_map, List.length_range, sizeLine_eq]; omega
    · intro d hd
      obtain ⟨k, hk, rfl⟩ := List.mem_map.mp hd
      refine ⟨_, rfl, e_2 rfl (e_2 (e_f (e_cons (e_2 rfl (e_2 rfl rfl (mulI (Or.inl ?_))) addI) e_nil) fIntI) rfl (modI (by omega))) (ix26 (Int.emod_nonneg _ (by omega)) (Int.emod_lt_of_pos _ (by omega)))⟩
      unfold small64
      simp
      omega
    · rw [iotaD, List.map_map]; rfl) (by rw [List.length_range]; omega)
  have : t50 (slots N50 [.ref 0]) (Row l T) = .rt (.str w) (Row l4 T) := e_seq (e_asg (e_2 rfl h1 addI)) (e_seq hif (e_seq (e_asg rfl) (e_seq (e_asg h3) (e_seq (e_asg h4) (e_ret hj)))))
  rw [this]
  refine ⟨w, l4, finRow0 hT rfl, ?_⟩
  unfold Word
  rw [hw]
  unfold wordL
  rw [List.length_map, List.length_range, decide_eq_true hn1, decide_eq_true hn2]
  simp only [Bool.true_and, List.all_eq_true]
  intro c hc
  obtain ⟨k, _, rfl⟩ := List.mem_map.mp hc
  exact decide_eq_true (mem26 (Int.emod_nonneg _ (by omega)) (Int.emod_lt_of_pos _ (by omega)))
end QB
set_option maxHeartbeats 4000000
namespace QB
open PySem PySem.Spec PySem.Calls PyProof.Rows L2
/-! ### backwards rules -/
abbrev XP := Str → List (Str × D) → Sto → Prop
def vE {α : Type} (r : R α) (Q : α → Sto → Prop) (X : XP) : Prop := match r with
  | .ok a S => Q a S
  | .ex c fs S => X c fs S
  | .stuck => False
def vS (o : Out) (N : Sl → Sto → Prop) (T : D → Sto → Prop) (B C : Sl → Sto → Prop) (X : XP) : Prop := match o with
  | .nx δ S => N δ S
  | .rt d S => T d S
  | .bk δ S => B δ S
  | .ct δ S => C δ S
  | .ex c fs δ S => X c fs S
  | .stuck => False
def vO {α : Type} (o : Option α) (Q : α → Prop) : Prop := match o with
  | some a => Q a
  | none => False
def vIf (p : Bool) (A B : Prop) : Prop := if p = true then A else B
def vB (d : D) (Q : Bool → Prop) : Prop := match d with
  | .bl b => Q b
  | _ => False
structure wE {α : Type} (r : R α) (Q : α → Sto → Prop) (X : XP) : Prop where
  h : vE r Q X
structure wS (o : Out) (N : Sl → Sto → Prop) (T : D → Sto → Prop) (B C : Sl → Sto → Prop) (X : XP) : Prop where
  h : vS o N T B C X
structure wO {α : Type} (o : Option α) (Q : α → Prop) : Prop where
  h : vO o Q
structure wIf (p : Bool) (A B : Prop) : Prop where
  h : vIf p A B
structure wB (d : D) (Q : Bool → Prop) : Prop where
  h : vB d Q
section

variable {α β : Type} {δ : Sl} {S : Sto} {ta tb tc : DE} {ts tk : DA} {t u : DT} {X : XP} {Q : D → Sto → Prop} {QA : List D → Sto → Prop} {QB : Bool → Sto → Prop}
theorem wE_ok {a : α} {Q : α → Sto → Prop} (q : Q a S) : wE (.ok a S) Q X := ⟨q⟩
theorem wE_bind {r : R α} {f : α → Sto → R β} {Q : β → Sto → Prop} (h : wE r (fun a S => wE (f a S) Q X) X) : wE (r.bind f) Q X := by
  cases r with
  | ok a S => exact h.h
  | ex c fs S => exact ⟨h.h⟩
  | stuck => exact ⟨h.h⟩
theorem wE_eq {r : R α} {a : α} {Q : α → Sto → Prop} (h : r = .ok a S) (q : Q a S) : wE r Q X := by rw [h]; exact ⟨q⟩
theorem wE_mono {r : R α} {Q Q' : α → Sto → Prop} {X' : XP} (h : wE r Q X) (q : ∀ a S, Q a S → Q' a S) (x : ∀ c f S, X c f S → X' c f S) : wE r Q' X' := by
  cases r with
  | ok a S => exact ⟨q _ _ h.h⟩
  | ex c fs S => exact ⟨x _ _ _ h.h⟩
  | stuck => exact ⟨h.h⟩
theorem wE_q {r : R α} {Q Q' : α → Sto → Prop} (h : wE r Q X) (q : ∀ a S, Q a S → Q' a S) : wE r Q' X := wE_mono h q fun _ _ _ h => h
theorem wE_get {r : R α} {Q : α → Sto → Prop} (h : wE r Q fun _ _ _ => False) : ∃ a S, r = .ok a S ∧ Q a S := by
  cases r with
  | ok a S => exact ⟨_, _, rfl, h.h⟩
  | ex c fs S => exact h.h.elim
  | stuck => exact h.h.elim
theorem wO_some {a : α} {o : Option α} {Q : α → Prop} (h : o = some a) (q : Q a) : wO o Q := by rw [h]; exact ⟨q⟩
theorem wO_get {o : Option α} {Q : α → Prop} (h : wO o Q) : ∃ a, o = some a ∧ Q a := by
  cases o with
  | some d => exact ⟨_, rfl, h.h⟩
  | none => exact h.h.elim
theorem wE_ofOpt {o : Option D} (h : wO o fun d => Q d S) : wE (ofOpt o S) Q X := by
  obtain ⟨d, rfl, q⟩ := wO_get h
  exact ⟨q⟩
theorem w_ift {A B : Prop} (h : A) : wIf true A B := ⟨h⟩
theorem w_iff {A B : Prop} (h : B) : wIf false A B := ⟨h⟩
theorem w_ifn {b : Bool} {A B : Prop} (h : wIf b B A) : wIf (!b) A B := by cases b <;> exact ⟨h.h⟩
theorem w_ifs {b : Bool} {A B : Prop} (h1 : b = true → A) (h2 : b = false → B) : wIf b A B := by
  cases b
  · exact ⟨h2 rfl⟩
  · exact ⟨h1 rfl⟩
theorem w_ifd {p : Prop} [Decidable p] {A B : Prop} (h1 : p → A) (h2 : ¬ p → B) : wIf (decide p) A B := w_ifs (fun h => h1 (of_decide_eq_true h)) fun h => h2 (of_decide_eq_false h)
theorem w_ifdT {p : Prop} [Decidable p] {A B : Prop} (hp : p) (h1 : A) : wIf (decide p) A B := w_ifd (fun _ => h1) fun h => (h hp).elim
theorem w_ifdF {p : Prop} [Decidable p] {A B : Prop} (hp : ¬ p) (h1 : B) : wIf (decide p) A B := w_ifd (fun h => (hp h).elim) fun _ => h1
theorem w_wB {b : Bool} {Q : Bool → Prop} (h : Q b) : wB (.bl b) Q := ⟨h⟩
theorem wB_get {d : D} {Q : Bool → Prop} (h : wB d Q) : ∃ b, d = .bl b ∧ Q b := by
  cases d with
  | bl b => exact ⟨_, rfl, h.h⟩
  | _ => exact h.h.elim
theorem w_nil (h : QA [] S) : wE (aNil δ S) QA X := ⟨h⟩
theorem w_cons (h : wE (ta δ S) (fun x S1 => wE (ts δ S1) (fun xs S2 => QA (x :: xs) S2) X) X) : wE (aCons ta ts δ S) QA X := wE_bind (wE_q h fun _ _ h => wE_bind (wE_q h fun _ _ h => ⟨h⟩))
theorem w_c {d : D} (h : Q d S) : wE (dC d δ S) Q X := ⟨h⟩
theorem w_var {i : Nat} {d : D} (e : δ[i]? = some (some d)) (h : Q d S) : wE (dVar i δ S) Q X := by
  unfold dVar
  rw [e]
  exact ⟨h⟩
theorem w_f {f : DF} (h : wE (ts δ S) (fun xs S1 => wO (f xs S1) fun d => Q d S1) X) : wE (dF f ts δ S) Q X := wE_bind (wE_q h fun _ _ h => wE_ofOpt h)
theorem w_2 {f : DB} (h : wE (ta δ S) (fun x S1 => wE (tb δ S1) (fun y S2 => wO (f x y S2) fun d => Q d S2) X) X) : wE (d2 f ta tb δ S) Q X :=
  wE_bind (wE_q h fun _ _ h => wE_bind (wE_q h fun _ _ h => wE_ofOpt h))
theorem w_1 {f : D → Sto → Option D} (h : wE (ta δ S) (fun x S1 => wO (f x S1) fun d => Q d S1) X) : wE (d1 f ta δ S) Q X := wE_bind (wE_q h fun _ _ h => wE_ofOpt h)
theorem w_call {F : DFn} (h : wE (ts δ S) (fun xs S1 => wE (F xs S1) Q X) X) : wE (dCall F ts δ S) Q X := wE_bind h
theorem w_callD {F : DFn} {dd : List D} (h : wE (ts δ S) (fun xs S1 => wE (F (xs ++ dd) S1) Q X) X) : wE (dCallD F dd ts δ S) Q X := wE_bind h
theorem w_callK {F : DFn} {idx : List Nat} {n m : Nat} (h : wE (ts δ S) (fun xs S1 => wE (tk δ S1) (fun ys S2 => (xs.length = n ∧ ys.length = m) ∧ wE (F (pick idx (xs ++ ys)) S2) Q X) X) X) : wE (dCallK F idx n m ts tk δ S) Q X :=
  wE_bind (wE_q h fun _ _ h => wE_bind (wE_q h fun _ _ h => by rw [if_pos h.1]; exact h.2))
theorem w_callS {F : DFn} (h : wE (ts δ S) (fun xs S1 => xs.length ≤ sizeLine ∧ wE (F xs S1) Q X) X) : wE (dCallS F ts δ S) Q X := wE_bind (wE_q h fun _ _ h => by rw [if_pos h.1]; exact h.2)
theorem w_callS0 {F : DFn} (h : wE (F [] S) Q X) : wE (dCallS0 F δ S) Q X := h
theorem w_tup (h : wE (ts δ S) (fun xs S1 => xs.length ≤ sizeLine ∧ Q (.tup xs) S1) X) : wE (dTup ts δ S) Q X := wE_bind (wE_q h fun _ _ h => by rw [if_pos h.1]; exact ⟨h.2⟩)
theorem w_lst (h : wE (ts δ S) (fun xs S1 => xs.length ≤ sizeLine ∧ Q (.lst xs) S1) X) : wE (dLst ts δ S) Q X := wE_bind (wE_q h fun _ _ h => by rw [if_pos h.1]; exact ⟨h.2⟩)
theorem w_and (h : wE (ta δ S) (fun x S1 => wO (dTru x S1) fun b => wIf b (wE (tb δ S1) Q X) (Q x S1)) X) : wE (dAnd ta tb δ S) Q X := wE_bind (wE_q h fun x S1 h => by
  obtain ⟨b, e, h⟩ := wO_get h
  simp only [e]
  cases b
  · exact ⟨h.h⟩
  · exact h.h)
theorem w_or (h : wE (ta δ S) (fun x S1 => wO (dTru x S1) fun b => wIf b (Q x S1) (wE (tb δ S1) Q X)) X) : wE (dOr ta tb δ S) Q X := wE_bind (wE_q h fun x S1 h => by
  obtain ⟨b, e, h⟩ := wO_get h
  simp only [e]
  cases b
  · exact h.h
  · exact ⟨h.h⟩)
theorem w_not (h : wE (ta δ S) (fun x S1 => wO (dTru x S1) fun b => Q (.bl (!b)) S1) X) : wE (dNot ta δ S) Q X := wE_bind (wE_q h fun x S1 h => by
  obtain ⟨b, e, h⟩ := wO_get h
  simp only [e]
  exact ⟨h⟩)
theorem w_dif (h : wE (t δ S) (fun b S1 => wIf b (wE (ta δ S1) Q X) (wE (tb δ S1) Q X)) X) : wE (dIf t ta tb δ S) Q X := wE_bind (wE_q h fun b S1 h => by cases b <;> exact h.h)
theorem w_chain {f g : DB} (h : wE (ta δ S) (fun x S1 => wE (tb δ S1) (fun y S2 => wO (f x y S2) fun d => wB d fun b => wIf b (wE (tc δ S2) (fun z S3 => wO (g y z S3) fun e => Q e S3) X) (Q (.bl false) S2)) X) X) : wE (dChain f g ta tb tc δ S) Q X :=
  wE_bind (wE_q h fun x S1 h => wE_bind (wE_q h fun y S2 h => by
    obtain ⟨d, e, h⟩ := wO_get h
    obtain ⟨b, rfl, q⟩ := wB_get h
    simp only [e]
    cases b
    · exact ⟨q.h⟩
    · exact wE_bind (wE_q q.h fun _ _ h => wE_ofOpt h)))
theorem w_tru (h : wE (ta δ S) (fun x S1 => wO (dTru x S1) fun b => QB b S1) X) : wE (tTru ta δ S) QB X := wE_bind (wE_q h fun x S1 h => by
  obtain ⟨b, e, h⟩ := wO_get h
  simp only [e]
  exact ⟨h⟩)
theorem w_bool (h : wE (ta δ S) (fun x S1 => wB x fun b => QB b S1) X) : wE (tBool ta δ S) QB X := wE_bind (wE_q h fun x S1 h => by
  obtain ⟨b, rfl, q⟩ := wB_get h
  exact ⟨q⟩)
theorem w_tnot (h : wE (t δ S) (fun b S1 => QB (!b) S1) X) : wE (tNotD t δ S) QB X := wE_bind (wE_q h fun _ _ h => ⟨h⟩)
theorem w_tand (h : wE (t δ S) (fun b S1 => wIf b (wE (u δ S1) QB X) (QB false S1)) X) : wE (tAndD t u δ S) QB X := wE_bind (wE_q h fun b S1 h => by
  cases b
  · exact ⟨h.h⟩
  · exact h.h)
theorem w_tor (h : wE (t δ S) (fun b S1 => wIf b (QB true S1) (wE (u δ S1) QB X)) X) : wE (tOrD t u δ S) QB X := wE_bind (wE_q h fun b S1 h => by
  cases b
  · exact h.h
  · exact ⟨h.h⟩)
theorem w_yes (h : QB true S) : wE (tYesD δ S) QB X := ⟨h⟩
/-! truth -/
variable {O : Bool → Prop} {P : D → Prop}
theorem o_bl {b : Bool} (h : O b) : wO (dTru (.bl b) S) O := ⟨h⟩
theorem o_non (h : O false) : wO (dTru .non S) O := ⟨h⟩
theorem o_addI {a b : Int} (h : P (.int (a + b))) : wO (bAdd (.int a) (.int b) S) P := ⟨h⟩
theorem o_subI {a b : Int} (h : P (.int (a - b))) : wO (bSub (.int a) (.int b) S) P := ⟨h⟩
theorem o_eqI {a b : Int} (h : P (.bl (decide (a = b)))) : wO (bEq (.int a) (.int b) S) P := wO_some bEq_int h
theorem o_neI {a b : Int} (h : P (.bl (!decide (a = b)))) : wO (bNe (.int a) (.int b) S) P := wO_some bNe_int h
theorem o_leI {a b : Int} (h : P (.bl (decide (a ≤ b)))) : wO (bLe (.int a) (.int b) S) P := ⟨h⟩
theorem o_ltI {a b : Int} (h : P (.bl (decide (a < b)))) : wO (bLt (.int a) (.int b) S) P := ⟨h⟩
theorem o_gtI {a b : Int} (h : P (.bl (decide (b < a)))) : wO (bGt (.int a) (.int b) S) P := ⟨h⟩
theorem o_geI {a b : Int} (h : P (.bl (decide (b ≤ a)))) : wO (bGe (.int a) (.int b) S) P := ⟨h⟩
theorem o_lenT {xs : List D} (h : P (.int (xs.length : Nat))) : wO (fLen [.tup xs] S) P := ⟨h⟩
theorem o_lenL {xs : List D} (h : P (.int (xs.length : Nat))) : wO (fLen [.lst xs] S) P := ⟨h⟩
theorem o_intI {a : Int} (h : P (.int a)) : wO (fInt [.int a] S) P := ⟨h⟩
theorem o_is1 {a : Bool} (h : P (.bl a)) : wO (bIs id (.bl a) (.bl true) S) P := by cases a <;> exact ⟨h⟩
theorem o_is0 {a : Bool} (h : P (.bl (!a))) : wO (bIs id (.bl a) (.bl false) S) P := by cases a <;> exact ⟨h⟩
theorem o_isn1 {a : Bool} (h : P (.bl (!a))) : wO (bIs not (.bl a) (.bl true) S) P := by cases a <;> exact ⟨h⟩
theorem o_isn0 {a : Bool} (h : P (.bl a)) : wO (bIs not (.bl a) (.bl false) S) P := by cases a <;> exact ⟨h⟩
theorem o_neg {a : Int} (h : P (.int (-a))) : wO (uNeg (.int a) S) P := ⟨h⟩
theorem o_tupL {xs : List D} (h : P (.tup xs)) : wO (fTuple [.lst xs] S) P := ⟨h⟩
theorem o_tupT {xs : List D} (h : P (.tup xs)) : wO (fTuple [.tup xs] S) P := ⟨h⟩
theorem o_listT {xs : List D} (h : P (.lst xs)) : wO (fListB [.tup xs] S) P := ⟨h⟩
theorem o_listL {xs : List D} (h : P (.lst xs)) : wO (fListB [.lst xs] S) P := ⟨h⟩
theorem o_gNm {i : Nat} {d : D} {G : Sl → Prop} (h : G (δ.set i (some d))) : wO (gNm i d δ S) G := ⟨h⟩
end
section

variable {δ : Sl} {S : Sto} {ta tb tc : DE} {ts tk : DA} {t u : DT} {s1 s2 : DS} {N B C : Sl → Sto → Prop} {T : D → Sto → Prop} {X : XP}
theorem wS_mono {o : Out} {N' B' C' : Sl → Sto → Prop} {T' : D → Sto → Prop} {X' : XP} (h : wS o N T B C X) (hn : ∀ δ S, N δ S → N' δ S) (ht : ∀ d S, T d S → T' d S) (hb : ∀ δ S, B δ S → B' δ S) (hc : ∀ δ S, C δ S → C' δ S) (hx : ∀ c f S, X c f S → X' c f S) : wS o N' T' B' C' X' := by
  cases o with
  | nx δ S => exact ⟨hn _ _ h.h⟩
  | rt d S => exact ⟨ht _ _ h.h⟩
  | bk δ S => exact ⟨hb _ _ h.h⟩
  | ct δ S => exact ⟨hc _ _ h.h⟩
  | ex c fs δ S => exact ⟨hx _ _ _ h.h⟩
  | stuck => exact ⟨h.h⟩
theorem wS_cut {o : Out} (P : Sl → Sto → Prop) (h : wS o P T B C X) (k : ∀ δ S, P δ S → N δ S) : wS o N T B C X := wS_mono h k (fun _ _ h => h) (fun _ _ h => h) (fun _ _ h => h) fun _ _ _ h => h
theorem wS_ofR {α : Type} {r : R α} {f : α → Sto → Out} (h : wE r (fun a S => wS (f a S) N T B C X) X) : wS (ofR δ r f) N T B C X := by
  cases r with
  | ok a S => exact h.h
  | ex c fs S => exact ⟨h.h⟩
  | stuck => exact ⟨h.h⟩
theorem w_seq (h : wS (s1 δ S) (fun δ1 S1 => wS (s2 δ1 S1) N T B C X) T B C X) : wS (sSeq s1 s2 δ S) N T B C X := by
  unfold sSeq
  cases e : s1 δ S with
  | nx δ S => rw [e] at h; exact h.h
  | rt d S => rw [e] at h; exact ⟨h.h⟩
  | bk δ S => rw [e] at h; exact ⟨h.h⟩
  | ct δ S => rw [e] at h; exact ⟨h.h⟩
  | ex c fs δ S => rw [e] at h; exact ⟨h.h⟩
  | stuck => rw [e] at h; exact ⟨h.h⟩
theorem w_skip (h : N δ S) : wS (sSkip δ S) N T B C X := ⟨h⟩
theorem w_break (h : B δ S) : wS (sBreak δ S) N T B C X := ⟨h⟩
theorem w_expr (h : wE (ta δ S) (fun _ S1 => N δ S1) X) : wS (sExpr ta δ S) N T B C X := wS_ofR (wE_q h fun _ _ h => ⟨h⟩)
theorem w_ret (h : wE (ta δ S) T X) : wS (sRet ta δ S) N T B C X := wS_ofR (wE_q h fun _ _ h => ⟨h⟩)
theorem w_sif (h : wE (t δ S) (fun b S1 => wIf b (wS (s1 δ S1) N T B C X) (wS (s2 δ S1) N T B C X)) X) : wS (sIf t s1 s2 δ S) N T B C X := wS_ofR (wE_q h fun b S1 h => by cases b <;> exact h.h)
theorem w_asg {i : Nat} (h : wE (ta δ S) (fun d S1 => N (δ.set i (some d)) S1) X) : wS (sAsg ta (gNm i) δ S) N T B C X := wS_ofR (wE_q h fun _ _ h => ⟨h⟩)
theorem w_for {ti : DI} {g : DG} {b : DS} (h : wE (ti δ S) (fun s S1 => wS (sForL s g b s.ds δ S1) N T B C X) X) : wS (sFor ti g b δ S) N T B C X := wS_ofR h
/-- for, with an invariant: the number of elements done -/
theorem w_invL {s : Src} {g : DG} {b : DS} (I : Nat → Sl → Sto → Prop) (hok : ∀ n δ S, I n δ S → s.ok S = true) : ∀ (xs : List D) (i : Nat) (δ : Sl) (S : Sto), I i δ S →
    (∀ j d, xs[j]? = some d → ∀ δ S, I (i + j) δ S → wO (g d δ S) fun δ1 => wS (b δ1 S) (I (i + j + 1)) T N (I (i + j + 1)) X) → (∀ δ S, I (i + xs.length) δ S → N δ S) → wS (sForL s g b xs δ S) N T B C X
  | [], i, δ, S, h0, _, hN => by
    unfold sForL
    rw [if_pos (hok _ _ _ h0)]
    exact ⟨hN _ _ h0⟩
  | d :: r, i, δ, S, h0, hs, hN => by
    unfold sForL
    rw [if_pos (hok _ _ _ h0)]
    have h1 := hs 0 d rfl δ S h0
    have go : ∀ δ2 S2, I (i + 1) δ2 S2 → wS (sForL s g b r δ2 S2) N T B C X := fun δ2 S2 h => by
      refine w_invL I hok r (i + 1) δ2 S2 h (fun j e hj δ3 S3 hi => ?_) fun δ3 S3 h => hN _ _ (by rw [List.length_cons]; rw [show i + 1 + r.length = i + (r.length + 1) by omega] at h; exact h)
      have := hs (j + 1) e (by simpa using hj) δ3 S3 (by rw [show i + (j + 1) = i + 1 + j by omega]; exact hi)
      rw [show i + (j + 1) = i + 1 + j by omega] at this
      exact this
    obtain ⟨δ1, eg, h1⟩ := wO_get h1
    rw [eg]
    dsimp only
    cases eb : b δ1 S with
    | nx δ2 S2 => rw [eb] at h1; exact go _ _ h1.h
    | ct δ2 S2 => rw [eb] at h1; exact go _ _ h1.h
    | bk δ2 S2 => rw [eb] at h1; exact ⟨h1.h⟩
    | rt d2 S2 => rw [eb] at h1; exact ⟨h1.h⟩
    | ex c f δ2 S2 => rw [eb] at h1; exact ⟨h1.h⟩
    | stuck => rw [eb] at h1; exact ⟨h1.h⟩
/-- the same, the list walked by nothing else, and one predicate -/
theorem w_inv {E xs : List D} {g : DG} {b : DS} (I : Nat → Sl → Sto → Prop) (h0 : I 0 δ S)
    (hs : ∀ j d, xs[j]? = some d → ∀ δ S, I j δ S → wO (g d δ S) fun δ1 => wS (b δ1 S) (I (j + 1)) T N (I (j + 1)) X) (hN : ∀ δ S, I xs.length δ S → N δ S) : wS (sForL ⟨E, none⟩ g b xs δ S) N T B C X :=
  w_invL I (fun _ _ _ _ => rfl) xs 0 δ S h0 (fun j d hd δ S hi => by rw [Nat.zero_add] at hi ⊢; exact hs j d hd δ S hi) (fun δ S h => hN _ _ (by rwa [Nat.zero_add] at h))
theorem w_inv0 {E xs : List D} {g : DG} {b : DS} (I : Sl → Sto → Prop) (h0 : I δ S)
    (hs : ∀ d ∈ xs, ∀ δ S, I δ S → wO (g d δ S) fun δ1 => wS (b δ1 S) I T N I X) (hN : ∀ δ S, I δ S → N δ S) : wS (sForL ⟨E, none⟩ g b xs δ S) N T B C X :=
  w_inv (fun _ => I) h0 (fun j d hd δ S hi => hs d (List.mem_of_getElem? hd) δ S hi) hN
/-! comprehensions -/
theorem wE_nox {α : Type} {r : R α} {Q : α → Sto → Prop} (h : wE r Q fun _ _ _ => False) : wE r.nox Q X := by
  obtain ⟨a, S, rfl, q⟩ := wE_get h
  exact ⟨q⟩
theorem w_lcL {s : Src} {g : DG} {tt : DT} {te : DE} (I : List D → Sto → Prop) (hok : ∀ acc S, I acc S → s.ok S = true) : ∀ (xs acc : List D) (S : Sto), I acc S →
    (∀ d ∈ xs, ∀ acc S, I acc S → wO (g d δ S) fun δ1 => wE (tt δ1 S) (fun b S1 => wIf b (wE (te δ1 S1) (fun y S2 => I (acc ++ [y]) S2) fun _ _ _ => False) (I acc S1)) fun _ _ _ => False) →
    wE (lcL s g tt te δ xs S) (fun ys S1 => I (acc ++ ys) S1) X
  | [], acc, S, h0, _ => by
    unfold lcL
    rw [if_pos (hok _ _ h0)]
    refine ⟨?_⟩
    show I (acc ++ []) S
    rw [List.append_nil]
    exact h0
  | d :: r, acc, S, h0, hs => by
    unfold lcL
    rw [if_pos (hok _ _ h0)]
    have h1 := hs d List.mem_cons_self acc S h0
    have ih := fun acc S h => w_lcL I hok r acc S h fun d hd => hs d (List.mem_cons_of_mem _ hd)
    obtain ⟨δ1, eg, h1⟩ := wO_get h1
    rw [eg]
    dsimp only
    refine wE_bind (wE_nox (wE_q h1 fun b S1 h => ?_))
    cases b
    · exact ih _ _ h.h
    · have h : wE (te δ1 S1) _ _ := h.h
      refine wE_bind (wE_nox (wE_q h fun y S2 h => ?_))
      exact wE_bind (wE_q (ih _ _ h) fun ys S3 h => ⟨by
        show I (acc ++ (y :: ys)) S3
        rw [List.append_assoc] at h
        exact h⟩)
theorem w_lc {ti : DI} {g : DG} {tt : DT} {te : DE} {vs : List Nat} {Q : D → Sto → Prop} (h : wE (ti δ S) (fun s S1 => s.ds.length < sizeLine ∧ wE (lcL s g tt te (wipeD δ vs) s.ds S1) (fun xs S2 => Q (.lst xs) S2) X) X) : wE (dLc ti g tt te vs δ S) Q X :=
  wE_bind (wE_q h fun s S1 h => by
    rw [if_pos h.1]
    exact wE_bind (wE_q h.2 fun _ _ h => ⟨h⟩))
theorem w_lcI {E xs : List D} {g : DG} {tt : DT} {te : DE} {Q : List D → Sto → Prop} (I : List D → Sto → Prop) (h0 : I [] S)
    (hs : ∀ d ∈ xs, ∀ acc S, I acc S → wO (g d δ S) fun δ1 => wE (tt δ1 S) (fun b S1 => wIf b (wE (te δ1 S1) (fun y S2 => I (acc ++ [y]) S2) fun _ _ _ => False) (I acc S1)) fun _ _ _ => False)
    (hQ : ∀ ys S, I ys S → Q ys S) : wE (lcL ⟨E, none⟩ g tt te δ xs S) Q X :=
  wE_q (w_lcL (δ := δ) I (fun _ _ _ => rfl) xs [] S h0 hs) fun ys S h => hQ ys S h
/-! walks -/
variable {QI : Src → Sto → Prop}
theorem wE_ofSrc {o : Option Src} (h : wO o fun s => QI s S) : wE (ofSrc o S) QI X := by
  obtain ⟨d, rfl, q⟩ := wO_get h
  exact ⟨q⟩
theorem w_iOf (h : wE (ta δ S) (fun d S1 => wO (srcOf d S1) fun s => QI s S1) X) : wE (iOf ta δ S) QI X := wE_bind (wE_q h fun d S1 h => wE_ofSrc h)
theorem w_iEnum (h : wE (ta δ S) (fun d S1 => wO (enumOf d S1) fun s => QI s S1) X) : wE (iEnumD ta δ S) QI X := wE_bind (wE_q h fun d S1 h => wE_ofSrc h)
theorem w_range {n : Nat} {tn : DE} (hn : n ≤ 100000) (h : wE (tn δ S) (fun d S1 => d = .int n ∧ QI ⟨iotaD n, none⟩ S1) fun _ _ _ => False) : wE (iRange (aCons tn aNil) δ S) QI X := by
  obtain ⟨d, S1, e, e2, q⟩ := wE_get h
  rw [e2] at e
  exact wE_eq (range_e e hn) q
theorem o_srcT {xs : List D} {P : Src → Prop} (h : P ⟨xs, none⟩) : wO (srcOf (.tup xs) S) P := ⟨h⟩
theorem o_srcL {xs : List D} {P : Src → Prop} (h : P ⟨xs, none⟩) : wO (srcOf (.lst xs) S) P := ⟨h⟩
theorem o_srcS {z : Str} {P : Src → Prop} (h : P ⟨signs z, none⟩) : wO (srcOf (.str z) S) P := ⟨h⟩
theorem o_enumT {xs : List D} {P : Src → Prop} (h : P ⟨enumF 0 xs, none⟩) : wO (enumOf (.tup xs) S) P := by
  refine ⟨?_⟩
  show P ⟨enumD xs, none⟩
  rw [enumD_eq]; exact h
theorem o_enumL {xs : List D} {P : Src → Prop} (h : P ⟨enumF 0 xs, none⟩) : wO (enumOf (.lst xs) S) P := by
  refine ⟨?_⟩
  show P ⟨enumD xs, none⟩
  rw [enumD_eq]; exact h
/-! slices -/
variable {Q : D → Sto → Prop} {QO : Option Int → Sto → Prop} {lo hi : DO}
theorem w_oN (h : QO none S) : wE (oNone δ S) QO X := ⟨h⟩
theorem w_oS (h : wE (ta δ S) (fun d S1 => ∃ i, d = .int i ∧ QO (some i) S1) X) : wE (oSome ta δ S) QO X := wE_bind (wE_q h fun d S1 h => by
  obtain ⟨i, rfl, h⟩ := h
  exact ⟨h⟩)
theorem w_sl (h : wE (ta δ S) (fun x S1 => wE (lo δ S1) (fun l S2 => wE (hi δ S2) (fun h S3 => wO (sliceD x l h S3) fun d => Q d S3) X) X) X) : wE (dSl ta lo hi δ S) Q X :=
  wE_bind (wE_q h fun _ _ h => wE_bind (wE_q h fun _ _ h => wE_bind (wE_q h fun _ _ h => wE_ofOpt h)))
theorem o_slT {xs : List D} {l h : Option Int} {P : D → Prop} (q : P (.tup (cutL xs l h))) : wO (sliceD (.tup xs) l h S) P := ⟨q⟩
theorem o_slL {xs : List D} {l h : Option Int} {P : D → Prop} (q : P (.lst (cutL xs l h))) : wO (sliceD (.lst xs) l h S) P := ⟨q⟩
/-! the end of a def -/
structure wFin (n : Nat) (d : D) (S : Sto) (Q : D → Sto → Prop) : Prop where
  h : wE (fin n (.rt d S)) Q fun _ _ _ => False

theorem w_def {Nn : List Str} {n : Nat} {tb : DS} {ds : List D} (hl : ds.length = n) (h : wS (tb (slots Nn ds) S) (fun _ S1 => wFin S.length .non S1 Q) (fun d S1 => wFin S.length d S1 Q) (fun _ _ => False) (fun _ _ => False) fun _ _ _ => False) : wE (dDef fin Nn n tb ds S) Q X := by
  rw [dDef_eq hl]
  cases e : tb (slots Nn ds) S with
  | nx δ1 S1 =>
    rw [e] at h
    have h : wFin S.length .non S1 Q := h.h
    have : fin S.length (.nx δ1 S1) = fin S.length (.rt .non S1) := by
      unfold fin
      simp only [fzD]
      cases fzS (thaw (rho S.length) S1 4) (S1.take S.length) <;> rfl
    rw [this]
    exact wE_mono h.h (fun _ _ h => h) fun _ _ _ h => h.elim
  | rt d S1 =>
    rw [e] at h
    exact wE_mono (wFin.h h.h) (fun _ _ h => h) fun _ _ _ h => h.elim
  | bk δ S => rw [e] at h; exact h.h.elim
  | ct δ S => rw [e] at h; exact h.h.elim
  | ex c f δ S => rw [e] at h; exact h.h.elim
  | stuck => rw [e] at h; exact h.h.elim
theorem w_fin {d : D} {U : Sto} (hS : Clean S) (hd : nr d = true) (q : Q d S) : wFin S.length d (S ++ U) Q := ⟨wE_eq (fin_rtT hS hd) q⟩
theorem w_fin0 {d : D} (hS : Clean S) (hd : nr d = true) (q : Q d S) : wFin S.length d S Q := ⟨wE_eq (fin_rt hS hd) q⟩
theorem w_finR {l l' : List Int} {Ts U : Sto} {d : D} (hT : Clean Ts) (hd : nr d = true) (q : Q d (Row l' Ts)) : wFin (Row l Ts).length d (Row l' (Ts ++ U)) Q := ⟨wE_eq (finRow hT hd) q⟩
theorem w_finR0 {l l' : List Int} {Ts : Sto} {d : D} (hT : Clean Ts) (hd : nr d = true) (q : Q d (Row l' Ts)) : wFin (Row l Ts).length d (Row l' Ts) Q := ⟨wE_eq (finRow0 hT hd) q⟩
/-! cells behind the row -/
theorem w_lstC (h : wE (ts δ S) (fun xs S1 => xs.length ≤ sizeLine ∧ ∃ l Ts, S1 = Row l Ts ∧ Q (.ref (Ts.length + 1)) (Row l (Ts ++ [.lst xs]))) X) : wE (dLstC ts δ S) Q X := by
  unfold dLstC
  refine wE_bind (wE_q h fun xs S1 h => ?_)
  obtain ⟨h1, l, Ts, rfl, q⟩ := h
  rw [if_pos h1]
  exact ⟨q⟩
theorem row_cell {l : List Int} {Ts : Sto} {u : Ob} : (Row l (Ts ++ [u]))[Ts.length + 1]? = some u := by
  show (Ts ++ [u])[Ts.length]? = _
  simp
theorem w_app {i : Nat} {l : List Int} {Ts : Sto} {ds : List D} (hv : δ[i]? = some (some (.ref (Ts.length + 1)))) (h : wE (ta δ (Row l (Ts ++ [.lst ds]))) (fun y S2 => ∃ l' ds', S2 = Row l' (Ts ++ [.lst ds']) ∧ ds'.length < sizeLine ∧ Q .non (Row l' (Ts ++ [.lst (ds' ++ [y])]))) X) :
    wE (dAppend (dVar i) ta δ (Row l (Ts ++ [.lst ds]))) Q X := by
  unfold dAppend
  refine wE_bind (w_var hv ?_)
  simp only [row_cell]
  refine wE_bind (wE_q h fun y S2 h => ?_)
  obtain ⟨l', ds', rfl, h1, q⟩ := h
  simp only [row_cell]
  rw [if_pos h1]
  have : (Row l' (Ts ++ [Ob.lst ds'])).set (Ts.length + 1) (.lst (ds' ++ [y])) = Row l' (Ts ++ [Ob.lst (ds' ++ [y])]) := by
    show _ :: (Ts ++ [Ob.lst ds']).set Ts.length _ = _
    simp [Row]
  rw [this]
  exact ⟨q⟩
end
/-! the draw -/
theorem take48 {l : List Int} {T : Sto} {m : Int} {Q : D → Sto → Prop} {X : XP} (hT : Clean T) (hm : 0 < m) (h : ∀ v l', 0 ≤ v → v < m → Q (.int v) (Row l' T)) : wE (F48 [.ref 0, .int m] (Row l T)) Q X := by
  obtain ⟨v, l', e, h1, h2⟩ := F48_eq (l := l) hT hm
  exact wE_eq e (h v l' h1 h2)
end QB
set_option maxHeartbeats 4000000
namespace QB
open PySem PySem.Spec PySem.Calls PyProof.Rows L2
local macro_rules | `(tactic| walk_at "wp") => `(tactic| repeat (first
  | with_reducible refine w_cons ?_ | with_reducible refine w_nil ?_
  | ((with_reducible apply w_var); (focus rfl))
  | with_reducible refine w_c ?_ | with_reducible refine w_2 ?_ | with_reducible refine w_f ?_
  | with_reducible refine w_call ?_
  | with_reducible refine w_seq ?_
  | (with_reducible refine w_asg ?_)
  | with_reducible refine w_ret ?_ | with_reducible refine w_expr ?_ | with_reducible refine w_skip ?_ | with_reducible refine w_break ?_
  | with_reducible refine w_bool ?_ | with_reducible refine w_wB ?_ | with_reducible refine w_tru ?_ | with_reducible refine w_tnot ?_ | with_reducible refine w_tand ?_ | with_reducible refine w_tor ?_ | with_reducible refine w_yes ?_
  | with_reducible refine w_ift ?_ | with_reducible refine w_iff ?_ | with_reducible refine w_ifn ?_
  | with_reducible refine w_and ?_ | with_reducible refine w_or ?_ | with_reducible refine w_not ?_ | with_reducible refine w_dif ?_ | with_reducible refine w_chain ?_
  | with_reducible refine o_bl ?_ | with_reducible refine o_non ?_ | with_reducible refine o_addI ?_ | with_reducible refine o_subI ?_ | with_reducible refine o_eqI ?_ | with_reducible refine o_neI ?_ | with_reducible refine o_leI ?_ | with_reducible refine o_ltI ?_ | with_reducible refine o_gtI ?_ | with_reducible refine o_geI ?_
  | with_reducible refine o_lenT ?_ | with_reducible refine o_lenL ?_ | with_reducible refine o_intI ?_ | with_reducible refine o_is1 ?_ | with_reducible refine o_is0 ?_ | with_reducible refine o_isn1 ?_ | with_reducible refine o_isn0 ?_ | with_reducible refine o_neg ?_
  | with_reducible refine o_tupL ?_ | with_reducible refine o_tupT ?_ | with_reducible refine o_listT ?_ | with_reducible refine o_listL ?_
  | with_reducible refine o_gNm ?_
  | with_reducible refine w_tup ?_ | with_reducible refine w_lst ?_ | with_reducible refine w_1 ?_
  | with_reducible refine w_for ?_ | with_reducible refine w_iOf ?_ | with_reducible refine w_iEnum ?_
  | with_reducible refine o_srcT ?_ | with_reducible refine o_srcL ?_ | with_reducible refine o_srcS ?_ | with_reducible refine o_enumT ?_ | with_reducible refine o_enumL ?_
  | with_reducible refine w_sl ?_ | with_reducible refine w_oN ?_ | with_reducible refine w_oS ?_ | with_reducible refine o_slT ?_ | with_reducible refine o_slL ?_
  | with_reducible refine w_lc ?_ | with_reducible refine w_callD ?_ | with_reducible refine w_callK ?_ | with_reducible refine w_callS ?_ | with_reducible refine w_callS0 ?_ | with_reducible refine w_lstC ?_
  | with_reducible refine ⟨sm (by simp), ?_⟩
  | with_reducible refine ⟨_, rfl, ?_⟩))
local macro_rules | `(tactic| walk_at "wi") => `(tactic| ((with_reducible refine w_sif ?_); walk_at "wp"))
/-! values with bounds: n the longest, k the depth -/
def vk (n : Nat) : Nat → D → Prop
  | 0, d => match d with
    | .non => True
    | .bl _ => True
    | .int _ => True
    | .str z => z.length ≤ n
    | _ => False
  | k + 1, d => match d with
    | .non => True
    | .bl _ => True
    | .int _ => True
    | .str z => z.length ≤ n
    | .tup xs => xs.length ≤ n ∧ ∀ x ∈ xs, vk n k x
    | .lst xs => xs.length ≤ n ∧ ∀ x ∈ xs, vk n k x
    | _ => False
theorem vk_mono {n n' : Nat} (hn : n ≤ n') : ∀ {k k' : Nat} {d : D}, k ≤ k' → vk n k d → vk n' k' d
  | 0, 0, d, _, h => by
    cases d <;> simp [vk] at h ⊢
    omega
  | 0, k' + 1, d, _, h => by
    cases d <;> simp [vk] at h ⊢
    omega
  | k + 1, 0, d, hk, h => by omega
  | k + 1, k' + 1, d, hk, h => by
    cases d <;> simp [vk] at h ⊢
    · omega
    · exact ⟨by omega, fun x hx => vk_mono hn (by omega) (h.2 x hx)⟩
    · exact ⟨by omega, fun x hx => vk_mono hn (by omega) (h.2 x hx)⟩
theorem vk_pv {n : Nat} (hn : n ≤ BIG) : ∀ {k : Nat} {d : D}, vk n k d → pv d = true
  | 0, d, h => by
    cases d <;> simp [vk] at h
    · rfl
    · rfl
    · rfl
    · exact pv_str.mpr (by omega)
  | k + 1, d, h => by
    cases d <;> simp [vk] at h
    · rfl
    · rfl
    · rfl
    · exact pv_str.mpr (by omega)
    · exact pv_tup.mpr ⟨by omega, pvs_mem.mpr fun x hx => vk_pv hn (h.2 x hx)⟩
    · exact pv_lst.mpr ⟨by omega, pvs_mem.mpr fun x hx => vk_pv hn (h.2 x hx)⟩
theorem dps_le {k : Nat} : ∀ {xs : List D}, (∀ x ∈ xs, dp x ≤ k) → dps xs ≤ k
  | [], _ => by rw [dps]; omega
  | d :: r, h => by
    rw [dps]
    have h1 := h d List.mem_cons_self
    have h2 := dps_le (xs := r) fun x hx => h x (List.mem_cons_of_mem _ hx)
    omega
theorem vk_dp {n : Nat} : ∀ {k : Nat} {d : D}, vk n k d → dp d ≤ k
  | 0, d, h => by
    cases d <;> simp [vk] at h <;> rw [dp] <;> first | omega | (intro _ z; cases z)
  | k + 1, d, h => by
    cases d <;> simp [vk] at h
    case tup xs =>
      rw [dp]
      have := dps_le fun x hx => vk_dp (h.2 x hx)
      omega
    case lst xs =>
      rw [dp]
      have := dps_le fun x hx => vk_dp (h.2 x hx)
      omega
    all_goals (rw [dp] <;> first | omega | (intro _ z; cases z))
theorem vk_nr {n k : Nat} {d : D} (hn : n ≤ BIG) (h : vk n k d) : nr d = true := pv_nr d (vk_pv hn h)
theorem vk_tup {n k : Nat} {xs : List D} (h1 : xs.length ≤ n) (h2 : ∀ x ∈ xs, vk n k x) : vk n (k + 1) (.tup xs) := ⟨h1, h2⟩
theorem vk_lst {n k : Nat} {xs : List D} (h1 : xs.length ≤ n) (h2 : ∀ x ∈ xs, vk n k x) : vk n (k + 1) (.lst xs) := ⟨h1, h2⟩
theorem vk_str {n k : Nat} {z : Str} (h : z.length ≤ n) : vk n k (.str z) := by cases k <;> exact h
theorem vk_int {n k : Nat} {i : Int} : vk n k (.int i) := by cases k <;> trivial
theorem vk_bl {n k : Nat} {i : Bool} : vk n k (.bl i) := by cases k <;> trivial
theorem vk_non {n k : Nat} : vk n k .non := by cases k <;> trivial
theorem vk_tupI {n k : Nat} {xs : List D} (h : vk n k (.tup xs)) : ∃ j, k = j + 1 ∧ xs.length ≤ n ∧ ∀ x ∈ xs, vk n j x := by
  cases k with
  | zero => exact h.elim
  | succ j => exact ⟨j, rfl, h⟩
theorem vk_lstI {n k : Nat} {xs : List D} (h : vk n k (.lst xs)) : ∃ j, k = j + 1 ∧ xs.length ≤ n ∧ ∀ x ∈ xs, vk n j x := by
  cases k with
  | zero => exact h.elim
  | succ j => exact ⟨j, rfl, h⟩
theorem vk_strI {n k : Nat} {z : Str} (h : vk n k (.str z)) : z.length ≤ n := by cases k <;> exact h
theorem big_le {n : Nat} (h : n ≤ 100000) : n ≤ BIG := by unfold BIG; omega
/-! an element by a drawn index -/
theorem o_ixT {xs : List D} {v : Int} {S : Sto} {P : D → Prop} (h0 : 0 ≤ v) (h1 : v < xs.length) (h : ∀ d, d ∈ xs → xs[v.toNat]? = some d → P d) : wO (bIx (.tup xs) (.int v) S) P := by
  have hl : v.toNat < xs.length := by omega
  refine wO_some (ix_tup ?_) (h xs[v.toNat] (List.getElem_mem hl) (List.getElem?_eq_getElem hl))
  have := atI_nat (xs := xs) (j := v.toNat) (List.getElem?_eq_getElem hl)
  rw [show ((v.toNat : Nat) : Int) = v by omega] at this
  exact this
theorem o_ixL {xs : List D} {v : Int} {S : Sto} {P : D → Prop} (h0 : 0 ≤ v) (h1 : v < xs.length) (h : ∀ d, d ∈ xs → xs[v.toNat]? = some d → P d) : wO (bIx (.lst xs) (.int v) S) P := by
  have hl : v.toNat < xs.length := by omega
  refine wO_some (ix_lst ?_) (h xs[v.toNat] (List.getElem_mem hl) (List.getElem?_eq_getElem hl))
  have := atI_nat (xs := xs) (j := v.toNat) (List.getElem?_eq_getElem hl)
  rw [show ((v.toNat : Nat) : Int) = v by omega] at this
  exact this
theorem o_ix26 {v : Int} {S : Sto} {P : D → Prop} (h0 : 0 ≤ v) (h1 : v < 26) (h : ∀ c, c ∈ L26 → P (.str ⟨#[c]⟩)) : wO (bIx (.str "abcdefghijklmnopqrstuvwxyz") (.int v) S) P := wO_some (ix26 h0 h1) (h _ (mem26 h0 h1))
theorem o_addS {a b : Str} {S : Sto} {P : D → Prop} (hl : a.length + b.length ≤ sizeLine) (h : P (.str (a ++ b))) : wO (bAdd (.str a) (.str b) S) P := by
  refine wO_some ?_ h
  unfold bAdd
  rw [show bAddI (.str a) (.str b) S = none from rfl]
  have : bAddS (.str a) (.str b) S = some (.str (a ++ b)) := if_pos hl
  simp only [this]
theorem o_addT {a b : List D} {S : Sto} {P : D → Prop} (hl : a.length + b.length ≤ sizeLine) (h : P (.tup (a ++ b))) : wO (bAdd (.tup a) (.tup b) S) P := by
  refine wO_some ?_ h
  have : bAddT (.tup a) (.tup b) S = some (.tup (a ++ b)) := if_pos hl
  unfold bAdd
  rw [show bAddI (.tup a) (.tup b) S = none from rfl, show bAddS (.tup a) (.tup b) S = none from rfl]
  simp only [this]
theorem o_addL {a b : List D} {S : Sto} {P : D → Prop} (hl : a.length + b.length ≤ sizeLine) (h : P (.lst (a ++ b))) : wO (bAdd (.lst a) (.lst b) S) P := by
  refine wO_some ?_ h
  have : bAddL (.lst a) (.lst b) S = some (.lst (a ++ b)) := if_pos hl
  unfold bAdd
  rw [show bAddI (.lst a) (.lst b) S = none from rfl, show bAddS (.lst a) (.lst b) S = none from rfl, show bAddT (.lst a) (.lst b) S = none from rfl]
  simp only [this]
theorem sm6 {n : Nat} (h : n ≤ 1000000) : n ≤ sizeLine := by rw [sizeLine_eq]; omega
/-! a name -/
theorem F53_w {l : List Int} {T : Sto} {Q : D → Sto → Prop} {X : XP} (hT : Clean T) (h : ∀ z l', nameL z.cps.toList = true → Q (.str z) (Row l' T)) : wE (F53 [.ref 0] (Row l T)) Q X := by
  rw [F53]
  refine w_def (by rfl) ?_
  walk_at "wp"
  refine take48 hT (by omega) fun v l1 v0 v1 => ?_
  walk_at "wp"
  refine o_ixT v0 (by simpa using v1) fun f hf _ => ?_
  walk_at "wp"
  refine take48 hT (by omega) fun v2 l2 v20 v21 => ?_
  walk_at "wp"
  refine o_ix26 v20 v21 fun c hc => ?_
  walk_at "wp"
  simp only [List.mem_cons, List.not_mem_nil, or_false] at hf
  have hn : ∀ z : Str, nameL ((⟨#[c]⟩ : Str) ++ z).cps.toList = (decide (z.cps.toList.length ≤ 3) && z.cps.toList.all fun c => decide (c ∈ L10)) := by
    intro z
    rw [app_cps]
    unfold nameL
    simp [hc]
  rcases hf with rfl | rfl | rfl | rfl | rfl | rfl | rfl <;>
  · walk_at "wp"
    refine o_addS (by rw [sizeLine_eq]; show 1 + _ ≤ _; decide +kernel) ?_
    refine w_finR0 hT rfl (h _ _ ?_)
    rw [hn]
    decide +kernel

/-! bits -/
theorem o_fdivI {a b : Int} {S : Sto} {P : D → Prop} (h0 : 0 < b) (h1 : b < 1073741824) (h : P (.int (a / b))) : wO (bFdiv (.int a) (.int b) S) P := wO_some (by
  show (if 0 < b ∧ b < 1073741824 then some (a / b) else none).map D.int = _
  rw [if_pos ⟨h0, h1⟩]; rfl) h
theorem o_mulI {a b : Int} {S : Sto} {P : D → Prop} (h0 : small64 a = true ∨ small64 b = true) (h : P (.int (a * b))) : wO (bMulX (.int a) (.int b) S) P := wO_some (mulI h0) h
theorem o_modI {a b : Int} {S : Sto} {P : D → Prop} (h0 : 0 < b) (h : P (.int (a % b))) : wO (bMod (.int a) (.int b) S) P := wO_some (modI h0) h
theorem getL_row {l : List Int} {Ts : Sto} {ds : List D} : getL (.ref (Ts.length + 1)) (Row l (Ts ++ [.lst ds])) = some ds := by
  unfold getL
  simp only [row_cell]
theorem o_slR {l : List Int} {Ts : Sto} {ds : List D} {a b : Option Int} {P : D → Prop} (h : P (.lst (cutL ds a b))) : wO (sliceD (.ref (Ts.length + 1)) a b (Row l (Ts ++ [.lst ds]))) P := wO_some (by
  unfold sliceD
  simp only [getL_row]
  rfl) h
theorem cut_to {ds : List D} {n : Nat} : cutL ds none (some n) = ds.take n := by
  have e : HT.sIx ds.length ds.length (some (n : Int)) = min n ds.length := HT.sIx_nat ds.length ds.length n
  unfold cutL
  rw [HT.sIx_none, e]
  simp only [List.drop_zero, Nat.sub_zero]
  rw [← List.take_eq_take_min]
theorem cut_from {ds : List D} {n : Nat} : cutL ds (some n) none = ds.drop n := by
  have e : HT.sIx ds.length 0 (some (n : Int)) = min n ds.length := HT.sIx_nat ds.length 0 n
  unfold cutL
  rw [HT.sIx_none, e]
  rw [List.take_of_length_le (by rw [List.length_drop]; omega)]
  by_cases h : n ≤ ds.length
  · rw [Nat.min_eq_left h]
  · rw [Nat.min_eq_right (by omega), List.drop_of_length_le (Nat.le_refl _), List.drop_of_length_le (by omega)]
theorem iota_get {n j : Nat} {d : D} (h : (iotaD n)[j]? = some d) : j < n ∧ d = .int (j : Nat) := by
  unfold iotaD at h
  rw [List.getElem?_map] at h
  by_cases hj : j < n
  · rw [List.getElem?_range hj] at h
    exact ⟨hj, by simpa using h.symm⟩
  · rw [List.getElem?_eq_none (by simpa using hj)] at h
    cases h
theorem iota_len {n : Nat} : (iotaD n).length = n := by simp [iotaD]
theorem nrs_bits {bs : List D} (h : bs.all bitD = true) : nrs bs = true := nrs_mem.mpr fun d hd => by
  have := List.all_eq_true.mp h d hd
  cases d <;> first | rfl | cases this
theorem F49_w {l : List Int} {T : Sto} {n : Nat} {Q : D → Sto → Prop} {X : XP} (hT : Clean T) (hn : n ≤ 64) (h : ∀ xs l', xs.length = n → xs.all bitD = true → Q (.tup xs) (Row l' T)) : wE (F49 [.ref 0, .int n] (Row l T)) Q X := by
  rw [F49]
  refine w_def (by rfl) ?_
  walk_at "wp"
  refine ⟨_, _, rfl, ?_⟩
  walk_at "wp"
  refine w_range (n := (n + 7) / 8) (by omega) ?_
  walk_at "wp"
  refine o_fdivI (by omega) (by omega) ?_
  refine ⟨by congr 1, ?_⟩
  refine w_inv (I := fun j δ S => ∃ l' bs x3 x4 x5, δ = [some (.ref 0), some (.int n), some (.ref (T.length + 1)), x3, x4, x5] ∧ S = Row l' (T ++ [.lst bs]) ∧ bs.length = 8 * j ∧ bs.all bitD = true) ⟨l, [], none, none, none, rfl, rfl, rfl, rfl⟩ ?_ ?_
  · intro j d hd δ S ⟨l', bs, x3, x4, x5, e1, e2, h1, h2⟩
    subst e1 e2
    obtain ⟨hj, rfl⟩ := iota_get hd
    walk_at "wp"
    refine take48 (clean_add hT (nrs_bits h2)) (by omega) fun v l2 v0 v1 => ?_
    walk_at "wp"
    refine w_inv (I := fun m δ S => ∃ bs' x5, δ = [some (.ref 0), some (.int n), some (.ref (T.length + 1)), some (.int j), some (.int v), x5] ∧ S = Row l2 (T ++ [.lst bs']) ∧ bs'.length = 8 * j + m ∧ bs'.all bitD = true) ⟨bs, _, rfl, rfl, h1, h2⟩ ?_ ?_
    · intro m p hp δ S ⟨bs', y5, e1, e2, h3, h4⟩
      subst e1 e2
      have : ∃ q : Nat, p = .int (q : Nat) ∧ 0 < q ∧ q ≤ 128 := by
        have := List.mem_of_getElem? hp
        simp only [List.mem_cons, List.not_mem_nil, or_false] at this
        rcases this with rfl | rfl | rfl | rfl | rfl | rfl | rfl | rfl
        · exact ⟨1, rfl, by omega, by omega⟩
        · exact ⟨2, rfl, by omega, by omega⟩
        · exact ⟨4, rfl, by omega, by omega⟩
        · exact ⟨8, rfl, by omega, by omega⟩
        · exact ⟨16, rfl, by omega, by omega⟩
        · exact ⟨32, rfl, by omega, by omega⟩
        · exact ⟨64, rfl, by omega, by omega⟩
        · exact ⟨128, rfl, by omega, by omega⟩
      obtain ⟨q, rfl, q0, q1⟩ := this
      have hm : m < 8 := by simpa using (List.getElem?_eq_some_iff.mp hp).1
      walk_at "wp"
      refine w_app rfl ?_
      walk_at "wp"
      refine o_fdivI (by omega) (by omega) ?_
      walk_at "wp"
      refine o_mulI (.inl (by decide)) ?_
      refine o_fdivI (by omega) (by omega) ?_
      refine o_mulI (.inl (by decide)) ?_
      walk_at "wp"
      have hbit : ∃ w : Int, (v / q - 2 * (v / (2 * q))) = w ∧ 0 ≤ w ∧ w ≤ 1 := by
        refine ⟨_, rfl, ?_⟩
        have e : v / (2 * (q : Int)) = v / q / 2 := by rw [Int.mul_comm, Int.ediv_ediv_of_nonneg (by omega)]
        rw [e]
        omega
      obtain ⟨w, e, w0, w1⟩ := hbit
      rw [e]
      refine ⟨_, _, rfl, by rw [sizeLine_eq]; omega, bs' ++ [.int w], _, rfl, rfl, by rw [List.length_append, h3]; rfl, ?_⟩
      rw [List.all_append, h4]
      simp [bitD, w0, w1]
    · intro δ S ⟨bs', y5, e1, e2, h3, h4⟩
      refine ⟨_, bs', _, _, _, e1, e2, by rw [h3]; simp; omega, h4⟩
  · intro δ S ⟨l', bs, x3, x4, x5, e1, e2, h1, h2⟩
    subst e1 e2
    walk_at "wp"
    refine o_slR ?_
    walk_at "wp"
    rw [cut_to]
    rw [iota_len] at h1
    have h3 : (bs.take n).all bitD = true := List.all_eq_true.mpr fun d hd => List.all_eq_true.mp h2 d (List.mem_of_mem_take hd)
    refine w_finR hT (nrs_bits h3) (h _ _ ?_ h3)
    rw [List.length_take]
    omega

/-! the gates -/
theorem F50_w {l : List Int} {T : Sto} {Q : D → Sto → Prop} {X : XP} (hT : Clean T) (h : ∀ w l', Word w → Q (.str w) (Row l' T)) : wE (F50 [.ref 0] (Row l T)) Q X := by
  obtain ⟨w, l', e, hw⟩ := F50_eq (l := l) hT
  exact wE_eq e (h w l' hw)
/-- a drawn lot: gates of different names -/
structure GL (gs : List D) : Prop where
  gg : ∀ g ∈ gs, GG g
  nd : (gs.map gname).Nodup
theorem GL.nil : GL [] := ⟨fun _ z => (nomatch z), List.nodup_nil⟩
theorem GG.pv {g : D} (h : GG g) : pv g = true := by
  obtain ⟨w, r, rfl, h1, h2, h3⟩ := h.ex
  refine vk_pv (n := 40) (big_le (by omega)) (k := 2) (vk_tup (by simp) fun x hx => ?_)
  simp only [List.mem_cons, List.not_mem_nil, or_false] at hx
  rcases hx with rfl | rfl
  · refine vk_str ?_
    unfold wordL at h1
    simp only [Bool.and_eq_true, decide_eq_true_eq] at h1
    have := h1.1.2
    show w.length ≤ 40
    rw [show w.length = w.cps.toList.length by simp [Str.length]]
    omega
  · refine vk_tup ?_ fun x hx => ?_
    · have := lg_pow h2
      have h3 := this.2
      rw [this.1]
      calc 2 ^ lg r.length ≤ 2 ^ 5 := Nat.pow_le_pow_right (by omega) h3
        _ ≤ 40 := by omega
    · have := List.all_eq_true.mp h3 x hx
      cases x <;> first | exact vk_int | cases this
theorem in_names {w : Str} {gs : List D} {S : Sto} {f : Bool → Bool} (hg : ∀ g ∈ gs, GG g) : bIn f (.str w) (.lst (gs.map fun g => .str (gname g))) S = some (.bl (f (decide (w ∈ gs.map gname)))) := by
  have e : gs.map (fun g => D.str (gname g)) = (gs.map gname).map D.str := by rw [List.map_map]; rfl
  have h1 : bInC f (.str w) (.lst (gs.map fun g => .str (gname g))) S = none := rfl
  have h2 : bInK f (.str w) (.lst (gs.map fun g => .str (gname g))) S = none := rfl
  refine orB_none h1 (orB_none h2 (orB_some ?_))
  rw [e]
  show bInF f (.str w) (.lst ((gs.map gname).map D.str)) S = _
  unfold bInF
  simp only [getQ, svs_strs, sv]
  rw [inV_strs]

theorem w_finL {l l' : List Int} {Ts : Sto} {ds : List D} {Q : D → Sto → Prop} (hT : Clean Ts) (hd : nrs ds = true) (q : Q (.lst ds) (Row l' Ts)) : wFin (Row l Ts).length (.ref (Ts.length + 1)) (Row l' (Ts ++ [.lst ds])) Q := by
  refine ⟨wE_eq ?_ q⟩
  have e1 : (Row l' (Ts ++ [.lst ds])).take (Row l Ts).length = Row l' Ts := by
    rw [row_len (l := l) (l' := l') (T := Ts), ← row_app, List.take_left]
  have e2 : thaw (rho (Row l Ts).length) (Row l' (Ts ++ [.lst ds])) 4 (Ts.length + 1) = some (.lst ds) := by
    unfold thaw
    have : rho (Row l Ts).length (Ts.length + 1) = none := by
      unfold rho
      rw [if_neg]
      show ¬ (Ts.length + 1 < Ts.length + 1)
      omega
    rw [this]
    simp only [row_cell]
    rw [fzL_nr _ _ hd]
    rfl
  unfold fin
  simp only [e1, fzS_clean _ (clean_row hT), fzD, e2]
theorem srcR {l : List Int} {Ts : Sto} {ds : List D} : srcOf (.ref (Ts.length + 1)) (Row l (Ts ++ [.lst ds])) = some ⟨ds, some (Ts.length + 1, ds)⟩ := by
  unfold srcOf
  simp only [row_cell]
theorem okR {l : List Int} {Ts : Sto} {ds : List D} : (Src.mk ds (some (Ts.length + 1, ds))).ok (Row l (Ts ++ [.lst ds])) = true := by
  unfold Src.ok
  simp only [row_cell]
  exact deqDs_refl ds
theorem w_lcM {s : Src} {g : DG} {te : DE} {δ : Sl} {S : Sto} {f : D → D} {xs : List D} {Q : List D → Sto → Prop} {X : XP} (hok : s.ok S = true) (hs : ∀ d ∈ xs, wO (g d δ S) fun δ1 => wE (te δ1 S) (fun y S2 => y = f d ∧ S2 = S) fun _ _ _ => False) (q : Q (xs.map f) S) : wE (lcL s g tYesD te δ xs S) Q X := by
  refine wE_eq (lcL_mapS hok fun d hd => ?_) q
  obtain ⟨δ1, e, h⟩ := wO_get (hs d hd)
  obtain ⟨y, S2, e2, rfl, rfl⟩ := wE_get h
  exact ⟨δ1, e, e2⟩
theorem GG.ix0 {g : D} (h : GG g) {S : Sto} {P : D → Prop} (q : P (.str (gname g))) : wO (bIx g (.int 0) S) P := by
  obtain ⟨w, r, rfl, h1, h2, h3⟩ := h.ex
  exact wO_some (ix_tup at0) q
theorem nrs_gg {gs : List D} (h : ∀ g ∈ gs, GG g) : nrs gs = true := nrs_mem.mpr fun g hg => pv_nr g (h g hg).pv
theorem GL.add {gs : List D} (h : GL gs) {w : Str} {rows : List D} (hw : Word w) (hr : isRows rows.length = true) (hb : rows.all bitD = true) (hn : w ∉ gs.map gname) : GL (gs ++ [.tup [.str w, .tup rows]]) := ⟨fun g hg => by
  rcases List.mem_append.mp hg with z | z
  · exact h.gg g z
  · simp only [List.mem_singleton] at z
    subst z
    exact ⟨w, rows, rfl, hw, hr, hb⟩, by
  rw [List.map_append]
  refine List.nodup_append.mpr ⟨h.nd, by simp, ?_⟩
  intro a ha b hb z
  simp only [List.map_cons, List.map_nil, List.mem_singleton] at hb
  subst z hb
  exact hn ha⟩
theorem F51_w {l : List Int} {T : Sto} {n : Nat} {Q : D → Sto → Prop} {X : XP} (hT : Clean T) (hn : n ≤ 64) (h : ∀ gs l', GL gs → gs.length ≤ n → Q (.lst gs) (Row l' T)) : wE (F51 [.ref 0, .int n] (Row l T)) Q X := by
  rw [F51]
  refine w_def (by rfl) ?_
  walk_at "wp"
  refine ⟨_, _, rfl, ?_⟩
  walk_at "wp"
  refine w_range (n := n) (by omega) ?_
  walk_at "wp"
  refine ⟨rfl, ?_⟩
  refine w_inv (I := fun j δ S => ∃ l' gs x3 x4 x5 x6 x7, δ = [some (.ref 0), some (.int n), some (.ref (T.length + 1)), x3, x4, x5, x6, x7] ∧ S = Row l' (T ++ [.lst gs]) ∧ gs.length ≤ j ∧ GL gs) ⟨l, [], none, none, none, none, none, rfl, rfl, Nat.le_refl _, GL.nil⟩ ?_ ?_
  · intro j d hd δ S ⟨l', gs, x3, x4, x5, x6, x7, e1, e2, h1, h2⟩
    subst e1 e2
    obtain ⟨hj, rfl⟩ := iota_get hd
    have hC : Clean (T ++ [.lst gs]) := clean_add hT (nrs_gg h2.gg)
    walk_at "wp"
    refine F50_w hC fun w l1 hw => ?_
    walk_at "wp"
    refine take48 hC (by omega) fun v l2 v0 v1 => ?_
    walk_at "wp"
    refine wS_cut (fun δ S => ∃ v l3, 0 ≤ v ∧ v < 6 ∧ δ = [some (.ref 0), some (.int n), some (.ref (T.length + 1)), some (.int j), some (.str w), some (.int v), x6, x7] ∧ S = Row l3 (T ++ [.lst gs])) ?_ ?_
    · walk_at "wi"
      refine take48 hC (by omega) fun v2 l3 v20 v21 => ?_
      walk_at "wp"
      refine w_ifd (fun h => ?_) fun h => ?_
      · walk_at "wp"
        refine take48 hC (by omega) fun v3 l4 v30 v31 => ?_
        walk_at "wp"
        exact ⟨_, _, by omega, by omega, rfl, rfl⟩
      · walk_at "wp"
        exact ⟨_, _, v0, by omega, rfl, rfl⟩
    intro δ S ⟨v, l3, v0, v1, e1, e2⟩
    subst e1 e2
    walk_at "wp"
    refine o_ixT v0 (by simpa using v1) fun m hm _ => ?_
    have : ∃ q : Nat, m = .int (q : Nat) ∧ isRows q = true ∧ q ≤ 64 := by
      simp only [List.mem_cons, List.not_mem_nil, or_false] at hm
      rcases hm with rfl | rfl | rfl | rfl | rfl | rfl
      · exact ⟨1, rfl, rfl, by omega⟩
      · exact ⟨2, rfl, rfl, by omega⟩
      · exact ⟨4, rfl, rfl, by omega⟩
      · exact ⟨8, rfl, rfl, by omega⟩
      · exact ⟨16, rfl, rfl, by omega⟩
      · exact ⟨32, rfl, rfl, by omega⟩
    obtain ⟨q, rfl, q0, q1⟩ := this
    walk_at "wp"
    refine F49_w hC q1 fun rows l4 r0 r1 => ?_
    walk_at "wp"
    walk_at "wi"
    refine wO_some srcR ?_
    refine ⟨by rw [sizeLine_eq]; show gs.length < _; omega, ?_⟩
    refine w_lcM (f := fun g => .str (gname g)) okR (fun g hg => ?_) ?_
    · walk_at "wp"
      exact (h2.gg g hg).ix0 ⟨rfl, rfl⟩
    refine wO_some (in_names h2.gg) ?_
    walk_at "wp"
    refine w_ifd (fun hm => ?_) fun hm => ?_
    · walk_at "wp"
      exact ⟨_, gs, _, _, _, _, _, rfl, rfl, by omega, h2⟩
    · walk_at "wp"
      refine w_app rfl ?_
      walk_at "wp"
      exact ⟨_, _, rfl, by rw [sizeLine_eq]; omega, _, _, _, _, _, _, _, rfl, rfl, by simp; omega, h2.add hw (by rw [r0]; exact q0) r1 hm⟩
  · intro δ S ⟨l', gs, x3, x4, x5, x6, x7, e1, e2, h1, h2⟩
    subst e1 e2
    walk_at "wp"
    refine w_finL hT (nrs_gg h2.gg) (h _ _ h2 ?_)
    rwa [iota_len] at h1
theorem lcL_len {s : Src} {g : DG} {te : DE} {δ : Sl} : ∀ {xs ys : List D} {S S' : Sto}, lcL s g tYesD te δ xs S = .ok ys S' → ys.length = xs.length
  | [], ys, S, S', h => by
    unfold lcL at h
    split at h
    · cases h; rfl
    · cases h
  | d :: r, ys, S, S', h => by
    unfold lcL at h
    split at h
    · split at h
      · rename_i δ1 e
        have e1 : (tYesD δ1 S).nox = .ok true S := rfl
        rw [e1] at h
        simp only [evR, if_true] at h
        cases e2 : te δ1 S with
        | ok y S2 =>
          rw [e2] at h
          simp only [R.nox, evR] at h
          cases e3 : lcL s g tYesD te δ r S2 with
          | ok zs S3 =>
            rw [e3] at h
            simp only [evR] at h
            cases h
            rw [List.length_cons, lcL_len e3, List.length_cons]
          | ex c f S3 => rw [e3] at h; cases h
          | stuck => rw [e3] at h; cases h
        | ex c f S3 => rw [e2] at h; cases h
        | stuck => rw [e2] at h; cases h
      · cases h
    · cases h
theorem w_lcYs {s : Src} {xs : List D} {g : DG} {te : DE} {δ : Sl} {S : Sto} {X : XP} {Q : List D → Sto → Prop} (I : List D → Sto → Prop) (hok : ∀ acc S, I acc S → s.ok S = true) (h0 : I [] S)
    (hs : ∀ d ∈ xs, ∀ acc S, I acc S → wO (g d δ S) fun δ1 => wE (te δ1 S) (fun y S2 => I (acc ++ [y]) S2) fun _ _ _ => False)
    (hQ : ∀ ys S, ys.length = xs.length → I ys S → Q ys S) : wE (lcL s g tYesD te δ xs S) Q X := by
  have h : wE (lcL s g tYesD te δ xs S) (fun ys S1 => I ([] ++ ys) S1) fun _ _ _ => False := w_lcL I hok xs [] S h0 fun d hd acc S hi => by
    obtain ⟨δ1, e, h⟩ := wO_get (hs d hd acc S hi)
    exact wO_some e (w_yes (w_ift h))
  obtain ⟨ys, S1, e, hi⟩ := wE_get h
  exact wE_eq e (hQ ys S1 (lcL_len e) hi)
theorem w_lcY {E xs : List D} {g : DG} {te : DE} {δ : Sl} {S : Sto} {X : XP} {Q : List D → Sto → Prop} (I : List D → Sto → Prop) (h0 : I [] S)
    (hs : ∀ d ∈ xs, ∀ acc S, I acc S → wO (g d δ S) fun δ1 => wE (te δ1 S) (fun y S2 => I (acc ++ [y]) S2) fun _ _ _ => False)
    (hQ : ∀ ys S, ys.length = xs.length → I ys S → Q ys S) : wE (lcL ⟨E, none⟩ g tYesD te δ xs S) Q X := w_lcYs I (fun _ _ _ => rfl) h0 hs hQ
end QB
set_option maxHeartbeats 4000000
namespace QB
open PySem PySem.Spec PySem.Calls PyProof.Rows L2
local macro_rules | `(tactic| walk_at "wp") => `(tactic| repeat (first
  | with_reducible refine w_cons ?_ | with_reducible refine w_nil ?_
  | ((with_reducible apply w_var); (focus rfl))
  | with_reducible refine w_c ?_ | with_reducible refine w_2 ?_ | with_reducible refine w_f ?_
  | with_reducible refine w_call ?_
  | with_reducible refine w_seq ?_
  | (with_reducible refine w_asg ?_)
  | with_reducible refine w_ret ?_ | with_reducible refine w_expr ?_ | with_reducible refine w_skip ?_ | with_reducible refine w_break ?_
  | with_reducible refine w_bool ?_ | with_reducible refine w_wB ?_ | with_reducible refine w_tru ?_ | with_reducible refine w_tnot ?_ | with_reducible refine w_tand ?_ | with_reducible refine w_tor ?_ | with_reducible refine w_yes ?_
  | with_reducible refine w_ift ?_ | with_reducible refine w_iff ?_ | with_reducible refine w_ifn ?_
  | with_reducible refine w_and ?_ | with_reducible refine w_or ?_ | with_reducible refine w_not ?_ | with_reducible refine w_dif ?_ | with_reducible refine w_chain ?_
  | with_reducible refine o_bl ?_ | with_reducible refine o_non ?_ | with_reducible refine o_addI ?_ | with_reducible refine o_subI ?_ | with_reducible refine o_eqI ?_ | with_reducible refine o_neI ?_ | with_reducible refine o_leI ?_ | with_reducible refine o_ltI ?_ | with_reducible refine o_gtI ?_ | with_reducible refine o_geI ?_
  | with_reducible refine o_lenT ?_ | with_reducible refine o_lenL ?_ | with_reducible refine o_intI ?_ | with_reducible refine o_is1 ?_ | with_reducible refine o_is0 ?_ | with_reducible refine o_isn1 ?_ | with_reducible refine o_isn0 ?_ | with_reducible refine o_neg ?_
  | with_reducible refine o_tupL ?_ | with_reducible refine o_tupT ?_ | with_reducible refine o_listT ?_ | with_reducible refine o_listL ?_
  | with_reducible refine o_gNm ?_
  | with_reducible refine w_tup ?_ | with_reducible refine w_lst ?_ | with_reducible refine w_1 ?_
  | with_reducible refine w_for ?_ | with_reducible refine w_iOf ?_ | with_reducible refine w_iEnum ?_
  | with_reducible refine o_srcT ?_ | with_reducible refine o_srcL ?_ | with_reducible refine o_srcS ?_ | with_reducible refine o_enumT ?_ | with_reducible refine o_enumL ?_
  | with_reducible refine w_sl ?_ | with_reducible refine w_oN ?_ | with_reducible refine w_oS ?_ | with_reducible refine o_slT ?_ | with_reducible refine o_slL ?_
  | with_reducible refine w_lc ?_ | with_reducible refine w_callD ?_ | with_reducible refine w_callK ?_ | with_reducible refine w_callS ?_ | with_reducible refine w_callS0 ?_ | with_reducible refine w_lstC ?_
  | with_reducible refine ⟨sm (by simp), ?_⟩
  | with_reducible refine ⟨_, rfl, ?_⟩))
local macro_rules | `(tactic| walk_at "wi") => `(tactic| ((with_reducible refine w_sif ?_); walk_at "wp"))
/-! terms -/
theorem GG.inp5 {g : D} (h : GG g) : inp g ≤ 5 := (lg_pow (gg_rows h).1).2
theorem GG.name {g : D} (h : GG g) : (gname g).length ≤ 12 := by
  obtain ⟨w, r, rfl, h1, h2, h3⟩ := h.ex
  unfold wordL at h1
  simp only [Bool.and_eq_true, decide_eq_true_eq] at h1
  have := h1.1.2
  show w.length ≤ 12
  rw [show w.length = w.cps.toList.length by simp [Str.length]]
  omega
theorem name_le {z : Str} (h : nameL z.cps.toList = true) : z.length ≤ 4 := by
  unfold nameL at h
  simp only [Bool.and_eq_true, decide_eq_true_eq] at h
  rw [show z.length = z.cps.toList.length by simp [Str.length]]
  omega
theorem vk_app {n k : Nat} {xs ys : List D} (h1 : ∀ x ∈ xs, vk n k x) (h2 : ∀ x ∈ ys, vk n k x) : ∀ x ∈ xs ++ ys, vk n k x := fun x hx => by
  rcases List.mem_append.mp hx with h | h
  · exact h1 x h
  · exact h2 x h
theorem vk_cons {n k : Nat} {d : D} {xs : List D} (h1 : vk n k d) (h2 : ∀ x ∈ xs, vk n k x) : ∀ x ∈ d :: xs, vk n k x := fun x hx => by
  rcases List.mem_cons.mp hx with h | h
  · subst h; exact h1
  · exact h2 x h
theorem vk_nilL {n k : Nat} : ∀ x ∈ ([] : List D), vk n k x := fun _ z => nomatch z
theorem F54_w {gs : List D} (hg : ∀ g ∈ gs, GG g) (hl : gs.length ≤ 100) {T : Sto} (hT : Clean T) {X : XP} : ∀ (n k : Nat) (l : List Int) (Q : D → Sto → Prop), k < n → (∀ t l', vk 20 k t → (isStr t || isTup t) = true → Q t (Row l' T)) → wE (F54 n [.ref 0, .tup gs, .int k] (Row l T)) Q X
  | 0, k, l, Q, hk, _ => by omega
  | n + 1, k, l, Q, hk, h => by
    unfold F54
    refine w_def (by rfl) ?_
    walk_at "wp"
    have go : ∀ l1, wE (F53 [.ref 0] (Row l1 T)) (fun d S1 => wFin (Row l T).length d S1 Q) fun _ _ _ => False := fun l1 => F53_w hT fun z l2 hz => w_finR0 hT rfl (h _ _ (vk_str (by have := name_le hz; omega)) rfl)
    walk_at "wi"
    refine w_ifd (fun hk0 => ?_) fun hk0 => ?_
    · walk_at "wp"
      exact go l
    walk_at "wp"
    refine w_ifd (fun hg0 => ?_) fun hg0 => ?_
    · walk_at "wp"
      exact go l
    walk_at "wp"
    refine take48 hT (by omega) fun v l1 v0 v1 => ?_
    walk_at "wp"
    refine w_ifd (fun hv => ?_) fun hv => ?_
    · walk_at "wp"
      exact go l1
    walk_at "wp"
    refine take48 hT (by omega) fun i l2 i0 i1 => ?_
    refine o_ixT i0 i1 fun g hgm _ => ?_
    walk_at "wp"
    refine (hg g hgm).ix0 ?_
    walk_at "wp"
    refine w_range (n := inp g) (by have := (hg g hgm).inp5; omega) ?_
    walk_at "wp"
    refine wE_eq (F52_eq (clean_row hT) (hg g hgm)) ?_
    refine ⟨rfl, ?_⟩
    refine ⟨by rw [iota_len, sizeLine_eq]; have := (hg g hgm).inp5; omega, ?_⟩
    refine w_lcY (fun acc S => ∃ l', S = Row l' T ∧ ∀ x ∈ acc, vk 20 (k - 1) x) ⟨l2, rfl, vk_nilL⟩ ?_ ?_
    · intro d hd acc S ⟨l', e, ha⟩
      subst e
      walk_at "wp"
      rw [show (k : Int) - 1 = ((k - 1 : Nat) : Int) by omega]
      exact F54_w hg hl hT n (k - 1) l' _ (by omega) fun t l3 ht _ => ⟨l3, rfl, vk_app ha (vk_cons ht vk_nilL)⟩
    · intro ys S hy ⟨l', e, ha⟩
      subst e
      walk_at "wp"
      have h5 := (hg g hgm).inp5
      rw [iota_len] at hy
      refine o_addT (by rw [sizeLine_eq, hy]; show 1 + _ ≤ _; omega) ?_
      have hv : vk 20 k (.tup ([.str (gname g)] ++ ys)) := by
        obtain ⟨j, rfl⟩ : ∃ j, k = j + 1 := ⟨k - 1, by omega⟩
        exact vk_tup (by rw [List.length_append, hy]; show 1 + _ ≤ _; omega) (vk_cons (vk_str (by have := (hg g hgm).name; omega)) ha)
      exact w_finR0 hT (vk_nr (big_le (by omega)) hv) (h _ _ hv rfl)
end QB
set_option maxHeartbeats 4000000
namespace QB
open PySem PySem.Spec PySem.Calls PyProof.Rows L2
local macro_rules | `(tactic| walk_at "wp") => `(tactic| repeat (first
  | with_reducible refine w_cons ?_ | with_reducible refine w_nil ?_
  | ((with_reducible apply w_var); (focus rfl))
  | with_reducible refine w_c ?_ | with_reducible refine w_2 ?_ | with_reducible refine w_f ?_
  | with_reducible refine w_call ?_
  | with_reducible refine w_seq ?_
  | (with_reducible refine w_asg ?_)
  | with_reducible refine w_ret ?_ | with_reducible refine w_expr ?_ | with_reducible refine w_skip ?_ | with_reducible refine w_break ?_
  | with_reducible refine w_bool ?_ | with_reducible refine w_wB ?_ | with_reducible refine w_tru ?_ | with_reducible refine w_tnot ?_ | with_reducible refine w_tand ?_ | with_reducible refine w_tor ?_ | with_reducible refine w_yes ?_
  | with_reducible refine w_ift ?_ | with_reducible refine w_iff ?_ | with_reducible refine w_ifn ?_
  | with_reducible refine w_and ?_ | with_reducible refine w_or ?_ | with_reducible refine w_not ?_ | with_reducible refine w_dif ?_ | with_reducible refine w_chain ?_
  | with_reducible refine o_bl ?_ | with_reducible refine o_non ?_ | with_reducible refine o_addI ?_ | with_reducible refine o_subI ?_ | with_reducible refine o_eqI ?_ | with_reducible refine o_neI ?_ | with_reducible refine o_leI ?_ | with_reducible refine o_ltI ?_ | with_reducible refine o_gtI ?_ | with_reducible refine o_geI ?_
  | with_reducible refine o_lenT ?_ | with_reducible refine o_lenL ?_ | with_reducible refine o_intI ?_ | with_reducible refine o_is1 ?_ | with_reducible refine o_is0 ?_ | with_reducible refine o_isn1 ?_ | with_reducible refine o_isn0 ?_ | with_reducible refine o_neg ?_
  | with_reducible refine o_tupL ?_ | with_reducible refine o_tupT ?_ | with_reducible refine o_listT ?_ | with_reducible refine o_listL ?_
  | with_reducible refine o_gNm ?_
  | with_reducible refine w_tup ?_ | with_reducible refine w_lst ?_ | with_reducible refine w_1 ?_
  | with_reducible refine w_for ?_ | with_reducible refine w_iOf ?_ | with_reducible refine w_iEnum ?_
  | with_reducible refine o_srcT ?_ | with_reducible refine o_srcL ?_ | with_reducible refine o_srcS ?_ | with_reducible refine o_enumT ?_ | with_reducible refine o_enumL ?_
  | with_reducible refine w_sl ?_ | with_reducible refine w_oN ?_ | with_reducible refine w_oS ?_ | with_reducible refine o_slT ?_ | with_reducible refine o_slL ?_
  | with_reducible refine w_lc ?_ | with_reducible refine w_callD ?_ | with_reducible refine w_callK ?_ | with_reducible refine w_callS ?_ | with_reducible refine w_callS0 ?_ | with_reducible refine w_lstC ?_
  | with_reducible refine ⟨sm (by simp), ?_⟩
  | with_reducible refine ⟨_, rfl, ?_⟩))
local macro_rules | `(tactic| walk_at "wi") => `(tactic| ((with_reducible refine w_sif ?_); walk_at "wp"))
/-! odd values, bent values -/
theorem o_isiT {d : D} {S : Sto} {P : D → Prop} (hd : pv d = true) (h : P (.bl (isTup d))) : wO (fIsi [d, .ty "tuple"] S) P := wO_some (fIsi_tuple hd) h
theorem o_isiS {d : D} {S : Sto} {P : D → Prop} (hd : pv d = true) (h : P (.bl (isStr d))) : wO (fIsi [d, .ty "str"] S) P := wO_some (fIsi_str hd) h
theorem o_isiST {d : D} {S : Sto} {P : D → Prop} (hd : pv d = true) (h : P (.bl (isStr d || isTup d))) : wO (fIsi [d, .tup [.ty "str", .ty "tuple"]] S) P := by
  refine wO_some ?_ h
  cases d with
  | non => show Option.map D.bl (kitAnyB "NoneType" [.ty "str", .ty "tuple"]) = _; rw [show kitAnyB "NoneType" [.ty "str", .ty "tuple"] = some false from by decide +kernel]; rfl
  | bl b => show Option.map D.bl (kitAnyB "bool" [.ty "str", .ty "tuple"]) = _; rw [show kitAnyB "bool" [.ty "str", .ty "tuple"] = some false from by decide +kernel]; rfl
  | int b => show Option.map D.bl (kitAnyB "int" [.ty "str", .ty "tuple"]) = _; rw [show kitAnyB "int" [.ty "str", .ty "tuple"] = some false from by decide +kernel]; rfl
  | str b => show Option.map D.bl (kitAnyB "str" [.ty "str", .ty "tuple"]) = _; rw [show kitAnyB "str" [.ty "str", .ty "tuple"] = some true from by decide +kernel]; rfl
  | tup b => show Option.map D.bl (kitAnyB "tuple" [.ty "str", .ty "tuple"]) = _; rw [show kitAnyB "tuple" [.ty "str", .ty "tuple"] = some true from by decide +kernel]; rfl
  | lst b => show Option.map D.bl (kitAnyB "list" [.ty "str", .ty "tuple"]) = _; rw [show kitAnyB "list" [.ty "str", .ty "tuple"] = some false from by decide +kernel]; rfl
  | _ => simp [pv] at hd
theorem isTup_get {d : D} (h : isTup d = true) : ∃ xs, d = .tup xs := by
  cases d <;> first | exact ⟨_, rfl⟩ | cases h
theorem isStr_get {d : D} (h : isStr d = true) : ∃ xs, d = .str xs := by
  cases d <;> first | exact ⟨_, rfl⟩ | cases h
theorem bit_get {d : D} (h : bitD d = true) : d = .int 0 ∨ d = .int 1 := by
  cases d <;> simp [bitD] at h
  case int i =>
    have : i = 0 ∨ i = 1 := by omega
    rcases this with rfl | rfl
    · exact .inl rfl
    · exact .inr rfl
theorem cutL_mem {α : Type} {xs : List α} {a b : Option Int} {x : α} (h : x ∈ cutL xs a b) : x ∈ xs := List.mem_of_mem_drop (List.mem_of_mem_take h)
theorem cutL_len {α : Type} {xs : List α} {a b : Option Int} : (cutL xs a b).length ≤ xs.length := by
  unfold cutL
  rw [List.length_take, List.length_drop]
  omega
theorem o_slS {z : Str} {l h : Option Int} {S : Sto} {P : D → Prop} (hz : z.length ≤ sizeLine) (q : P (.str (cutS z l h))) : wO (sliceD (.str z) l h S) P := wO_some (if_pos hz) q
theorem add_len (a b : Str) : (a ++ b).length = a.length + b.length := by
  rw [show (a ++ b).length = (a ++ b).cps.toList.length by simp [Str.length], app_cps]
  simp [Str.length]
theorem w_upper {ta : DE} {δ : Sl} {S : Sto} {Q : D → Sto → Prop} {X : XP} (h : wE (ta δ S) (fun x S1 => ∃ a, x = .str a ∧ a.length ≤ 5592405 ∧ Q (.str (Txt.upper a)) S1) X) : wE (dUpper ta δ S) Q X := by
  refine wE_bind (wE_q h fun x S1 h => ?_)
  obtain ⟨a, rfl, h1, q⟩ := h
  show wE (if a.length ≤ 5592405 then _ else _) Q X
  rw [if_pos h1]
  exact wE_ok q
theorem F66_w {l : List Int} {T : Sto} {n k : Nat} {d : D} {Q : D → Sto → Prop} {X : XP} (hT : Clean T) (hn : 20 ≤ n) (hn2 : n ≤ 10000) (hd : vk n k d) (h : ∀ r l', vk (3 * n + 4) (k + 1) r → Q r (Row l' T)) : wE (F66 [.ref 0, d] (Row l T)) Q X := by
  have hp : pv d = true := vk_pv (big_le (by omega)) hd
  have fin : ∀ {r : D} {l' : List Int}, vk (3 * n + 4) (k + 1) r → wFin (Row l T).length r (Row l' T) Q := fun hr => w_finR0 hT (vk_nr (big_le (by omega)) hr) (h _ _ hr)
  have hd1 : vk (3 * n + 4) (k + 1) d := vk_mono (by omega) (by omega) hd
  rw [F66]
  refine w_def (by rfl) ?_
  walk_at "wp"
  refine take48 hT (by omega) fun v l1 v0 v1 => ?_
  walk_at "wp"
  refine wS_cut (fun δ S => δ = [some (.ref 0), some d, some (.int v), none] ∧ S = Row l1 T) ?_ ?_
  · walk_at "wi"
    refine w_ifd (fun hv => ?_) fun hv => ?_
    · walk_at "wp"
      refine o_isiT hp ?_
      walk_at "wp"
      refine w_ifs (fun ht => ?_) fun ht => ?_
      · obtain ⟨xs, rfl⟩ := isTup_get ht
        walk_at "wp"
        obtain ⟨j, rfl, h1, h2⟩ := vk_tupI hd
        exact fin (vk_lst (by omega) fun x hx => vk_mono (by omega) (by omega) (h2 x hx))
      · walk_at "wp"
        exact ⟨rfl, rfl⟩
    · walk_at "wp"
      exact ⟨rfl, rfl⟩
  intro δ S ⟨e1, e2⟩
  subst e1 e2
  walk_at "wp"
  refine wS_cut (fun δ S => δ = [some (.ref 0), some d, some (.int v), none] ∧ S = Row l1 T) ?_ ?_
  · walk_at "wi"
    refine w_ifd (fun hv => ?_) fun hv => ?_
    · walk_at "wp"
      exact fin (vk_tup (by simp <;> omega) (vk_cons (vk_mono (by omega) (by omega) hd) vk_nilL))
    · walk_at "wp"
      exact ⟨rfl, rfl⟩
  intro δ S ⟨e1, e2⟩
  subst e1 e2
  walk_at "wp"
  refine wS_cut (fun δ S => δ = [some (.ref 0), some d, some (.int v), none] ∧ S = Row l1 T) ?_ ?_
  · walk_at "wi"
    refine w_ifd (fun hv => ?_) fun hv => ?_
    case refine_2 =>
      walk_at "wp"
      exact ⟨rfl, rfl⟩
    walk_at "wp"
    refine w_ifd (fun hv4 => ?_) fun hv4 => ?_
    case refine_2 =>
      walk_at "wp"
      exact ⟨rfl, rfl⟩
    walk_at "wp"
    refine o_isiST hp ?_
    walk_at "wp"
    refine w_ifs (fun ht => ?_) fun ht => ?_
    case refine_2 =>
      walk_at "wp"
      exact ⟨rfl, rfl⟩
    rcases Bool.or_eq_true_iff.mp ht with ht | ht
    · obtain ⟨z, rfl⟩ := isStr_get ht
      have hz := vk_strI hd
      have hzl : z.length ≤ sizeLine := sm6 (by omega)
      have c1 : ∀ a b, (cutS z a b).length ≤ z.length := cutS_length z
      walk_at "wp"
      refine wO_some (len_str hp) ?_
      walk_at "wp"
      refine w_ifd (fun h0 => ?_) fun h0 => ?_
      case refine_2 =>
        walk_at "wp"
        exact ⟨rfl, rfl⟩
      walk_at "wp"
      refine o_slS hzl ?_
      refine o_addS (sm6 (by have := c1 (some (-1)) none; omega)) ?_
      walk_at "wp"
      refine o_slS hzl ?_
      walk_at "wp"
      refine o_slS hzl ?_
      walk_at "wp"
      refine o_slS hzl ?_
      refine o_addS (sm6 (by have := c1 (some 1) none; have := c1 none (some 1); omega)) ?_
      walk_at "wp"
      refine o_ixT (by omega) (by simp <;> omega) fun r hr _ => ?_
      simp only [List.mem_cons, List.not_mem_nil, or_false] at hr
      have c2 := c1 (some (-1)) none
      have c3 := c1 (some 1) none
      have c4 := c1 none (some 1)
      have c5 := c1 none (some (-1))
      rcases hr with rfl | rfl | rfl
      · exact fin (vk_str (by rw [add_len]; omega))
      · exact fin (vk_str (by omega))
      · exact fin (vk_str (by rw [add_len]; omega))
    · obtain ⟨xs, rfl⟩ := isTup_get ht
      obtain ⟨j, rfl, h1, h2⟩ := vk_tupI hd
      have c1 : ∀ a b, (cutL xs a b).length ≤ xs.length := fun a b => cutL_len
      have c2 : ∀ a b, ∀ x ∈ cutL xs a b, vk (3 * n + 4) (j + 1) x := fun a b x hx => vk_mono (by omega) (by omega) (h2 x (cutL_mem hx))
      walk_at "wp"
      refine w_ifd (fun h0 => ?_) fun h0 => ?_
      case refine_2 =>
        walk_at "wp"
        exact ⟨rfl, rfl⟩
      walk_at "wp"
      refine o_addT (sm6 (by have := c1 (some (-1)) none; omega)) ?_
      walk_at "wp"
      refine o_addT (sm6 (by have := c1 (some 1) none; have := c1 none (some 1); omega)) ?_
      walk_at "wp"
      refine o_ixT (by omega) (by simp <;> omega) fun r hr _ => ?_
      simp only [List.mem_cons, List.not_mem_nil, or_false] at hr
      have c3 := c1 (some (-1)) none
      have c4 := c1 (some 1) none
      have c5 := c1 none (some 1)
      have c6 := c1 none (some (-1))
      rcases hr with rfl | rfl | rfl
      · exact fin (vk_tup (by rw [List.length_append]; omega) (vk_app (fun x hx => vk_mono (by omega) (by omega) (h2 x hx)) (c2 _ _)))
      · exact fin (vk_tup (by omega) (c2 _ _))
      · exact fin (vk_tup (by rw [List.length_append]; omega) (vk_app (c2 _ _) (c2 _ _)))
  intro δ S ⟨e1, e2⟩
  subst e1 e2
  walk_at "wp"
  refine wS_cut (fun δ S => δ = [some (.ref 0), some d, some (.int v), none] ∧ S = Row l1 T) ?_ ?_
  · walk_at "wi"
    refine w_ifd (fun hv => ?_) fun hv => ?_
    case refine_2 =>
      walk_at "wp"
      exact ⟨rfl, rfl⟩
    walk_at "wp"
    refine w_ifd (fun hv4 => ?_) fun hv4 => ?_
    case refine_2 =>
      walk_at "wp"
      exact ⟨rfl, rfl⟩
    walk_at "wp"
    refine wE_eq (F55_eq (clean_row hT) hp) ?_
    walk_at "wp"
    refine w_ifs (fun ht => ?_) fun ht => ?_
    case refine_2 =>
      walk_at "wp"
      exact ⟨rfl, rfl⟩
    have hs : ∃ z : Str, z.length ≤ 4 ∧ fStr [d] (Row l1 T) = some (.str z) := by
      rcases bit_get ht with rfl | rfl
      · exact ⟨Str.ofString "0", by decide +kernel, rfl⟩
      · exact ⟨Str.ofString "1", by decide +kernel, rfl⟩
    obtain ⟨z, hz, hs⟩ := hs
    have he : ∃ b, bEq d (.int 1) (Row l1 T) = some (.bl b) := by
      rcases bit_get ht with rfl | rfl
      · exact ⟨_, bEq_int⟩
      · exact ⟨_, bEq_int⟩
    obtain ⟨b, he⟩ := he
    walk_at "wp"
    refine wO_some he ?_
    walk_at "wp"
    refine wO_some hs ?_
    walk_at "wp"
    refine o_ixT (by omega) (by simp <;> omega) fun r hr _ => ?_
    simp only [List.mem_cons, List.not_mem_nil, or_false] at hr
    rcases hr with rfl | rfl
    · exact fin vk_bl
    · exact fin (vk_str (by omega))
  intro δ S ⟨e1, e2⟩
  subst e1 e2
  walk_at "wp"
  refine wS_cut (fun δ S => δ = [some (.ref 0), some d, some (.int v), none] ∧ S = Row l1 T) ?_ ?_
  · walk_at "wi"
    refine w_ifd (fun hv => ?_) fun hv => ?_
    case refine_2 =>
      walk_at "wp"
      exact ⟨rfl, rfl⟩
    walk_at "wp"
    refine o_isiS hp ?_
    walk_at "wp"
    refine w_ifs (fun ht => ?_) fun ht => ?_
    case refine_2 =>
      walk_at "wp"
      exact ⟨rfl, rfl⟩
    obtain ⟨z, rfl⟩ := isStr_get ht
    have hz := vk_strI hd
    have h4 : (Str.ofString "0000").length = 4 := by decide +kernel
    walk_at "wp"
    refine o_addS (sm6 (by omega)) ?_
    exact fin (vk_str (by rw [add_len]; omega))
  intro δ S ⟨e1, e2⟩
  subst e1 e2
  walk_at "wp"
  refine wS_cut (fun δ S => δ = [some (.ref 0), some d, some (.int v), none] ∧ S = Row l1 T) ?_ ?_
  · walk_at "wi"
    refine w_ifd (fun hv => ?_) fun hv => ?_
    case refine_2 =>
      walk_at "wp"
      exact ⟨rfl, rfl⟩
    walk_at "wp"
    refine o_isiS hp ?_
    walk_at "wp"
    refine w_ifs (fun ht => ?_) fun ht => ?_
    case refine_2 =>
      walk_at "wp"
      exact ⟨rfl, rfl⟩
    obtain ⟨z, rfl⟩ := isStr_get ht
    have hz := vk_strI hd
    walk_at "wp"
    refine w_upper ?_
    walk_at "wp"
    exact ⟨by omega, fin (vk_str (by have := PyProof.Rows.len_upper z; omega))⟩
  intro δ S ⟨e1, e2⟩
  subst e1 e2
  walk_at "wp"
  refine take48 hT (by omega) fun v2 l2 v20 v21 => ?_
  refine o_ixT (by omega) (by simpa using v21) fun r hr _ => ?_
  simp only [List.mem_cons, List.not_mem_nil, or_false] at hr
  have sl : ∀ s : String, (Str.ofString s).length ≤ 20 → vk (3 * n + 4) (k + 1) (.str (Str.ofString s)) := fun s hs => vk_str (by omega)
  rcases hr with rfl | rfl | rfl | rfl | rfl | rfl | rfl | rfl | rfl | rfl | rfl | rfl | rfl | rfl | rfl | rfl
  · exact fin vk_non
  · exact fin vk_bl
  · exact fin vk_int
  · exact fin (sl _ (by decide +kernel))
  · exact fin (sl _ (by decide +kernel))
  · exact fin (sl _ (by decide +kernel))
  · exact fin (sl _ (by decide +kernel))
  · exact fin (sl _ (by decide +kernel))
  · exact fin (sl _ (by decide +kernel))
  · exact fin (sl _ (by decide +kernel))
  · exact fin (vk_tup (by simp) vk_nilL)
  · exact fin (vk_lst (by simp) vk_nilL)
  · exact fin vk_int
  · exact fin vk_int
  · exact fin vk_int
  · exact fin (sl _ (by decide +kernel))
end QB
set_option maxHeartbeats 4000000
namespace QB
open PySem PySem.Spec PySem.Calls PyProof.Rows L2
local macro_rules | `(tactic| walk_at "wp") => `(tactic| repeat (first
  | with_reducible refine w_cons ?_ | with_reducible refine w_nil ?_
  | ((with_reducible apply w_var); (focus rfl))
  | with_reducible refine w_c ?_ | with_reducible refine w_2 ?_ | with_reducible refine w_f ?_
  | with_reducible refine w_call ?_
  | with_reducible refine w_seq ?_
  | (with_reducible refine w_asg ?_)
  | with_reducible refine w_ret ?_ | with_reducible refine w_expr ?_ | with_reducible refine w_skip ?_ | with_reducible refine w_break ?_
  | with_reducible refine w_bool ?_ | with_reducible refine w_wB ?_ | with_reducible refine w_tru ?_ | with_reducible refine w_tnot ?_ | with_reducible refine w_tand ?_ | with_reducible refine w_tor ?_ | with_reducible refine w_yes ?_
  | with_reducible refine w_ift ?_ | with_reducible refine w_iff ?_ | with_reducible refine w_ifn ?_
  | with_reducible refine w_and ?_ | with_reducible refine w_or ?_ | with_reducible refine w_not ?_ | with_reducible refine w_dif ?_ | with_reducible refine w_chain ?_
  | with_reducible refine o_bl ?_ | with_reducible refine o_non ?_ | with_reducible refine o_addI ?_ | with_reducible refine o_subI ?_ | with_reducible refine o_eqI ?_ | with_reducible refine o_neI ?_ | with_reducible refine o_leI ?_ | with_reducible refine o_ltI ?_ | with_reducible refine o_gtI ?_ | with_reducible refine o_geI ?_
  | with_reducible refine o_lenT ?_ | with_reducible refine o_lenL ?_ | with_reducible refine o_intI ?_ | with_reducible refine o_is1 ?_ | with_reducible refine o_is0 ?_ | with_reducible refine o_isn1 ?_ | with_reducible refine o_isn0 ?_ | with_reducible refine o_neg ?_
  | with_reducible refine o_tupL ?_ | with_reducible refine o_tupT ?_ | with_reducible refine o_listT ?_ | with_reducible refine o_listL ?_
  | with_reducible refine o_gNm ?_
  | with_reducible refine w_tup ?_ | with_reducible refine w_lst ?_ | with_reducible refine w_1 ?_
  | with_reducible refine w_for ?_ | with_reducible refine w_iOf ?_ | with_reducible refine w_iEnum ?_
  | with_reducible refine o_srcT ?_ | with_reducible refine o_srcL ?_ | with_reducible refine o_srcS ?_ | with_reducible refine o_enumT ?_ | with_reducible refine o_enumL ?_
  | with_reducible refine w_sl ?_ | with_reducible refine w_oN ?_ | with_reducible refine w_oS ?_ | with_reducible refine o_slT ?_ | with_reducible refine o_slL ?_
  | with_reducible refine w_lc ?_ | with_reducible refine w_callD ?_ | with_reducible refine w_callK ?_ | with_reducible refine w_callS ?_ | with_reducible refine w_callS0 ?_ | with_reducible refine w_lstC ?_
  | with_reducible refine ⟨sm (by simp), ?_⟩
  | with_reducible refine ⟨_, rfl, ?_⟩))
local macro_rules | `(tactic| walk_at "wi") => `(tactic| ((with_reducible refine w_sif ?_); walk_at "wp"))
/-! a way into a value -/
def tupGet (d : D) (i : Nat) : Option D := match d with
  | .tup xs => xs[i]?
  | _ => none
theorem tupGet_some {d e : D} {i : Nat} (h : tupGet d i = some e) : ∃ xs, d = .tup xs ∧ xs[i]? = some e := by
  unfold tupGet at h
  split at h
  · exact ⟨_, rfl, h⟩
  · cases h
def pathD : List Nat → D → Option D
  | [], d => some d
  | i :: ws, d => (tupGet d i).bind (pathD ws)
theorem path_cons {i : Nat} {ws : List Nat} {d e : D} (h : pathD (i :: ws) d = some e) : ∃ xs y, d = .tup xs ∧ xs[i]? = some y ∧ pathD ws y = some e := by
  rw [pathD] at h
  cases hx : tupGet d i with
  | none => rw [hx] at h; cases h
  | some y =>
    rw [hx] at h
    obtain ⟨xs, e1, e2⟩ := tupGet_some hx
    exact ⟨xs, y, e1, e2, h⟩
theorem path_mk {i : Nat} {ws : List Nat} {xs : List D} {y e : D} (h1 : xs[i]? = some y) (h2 : pathD ws y = some e) : pathD (i :: ws) (.tup xs) = some e := by
  rw [pathD, show tupGet (.tup xs) i = some y from h1]
  exact h2
theorem path_app : ∀ {ws us : List Nat} {d e : D}, pathD (ws ++ us) d = some e → ∃ e', pathD ws d = some e' ∧ pathD us e' = some e
  | [], us, d, e, h => ⟨d, rfl, h⟩
  | i :: ws, us, d, e, h => by
    obtain ⟨xs, y, rfl, h1, h2⟩ := path_cons h
    obtain ⟨e', h3, h4⟩ := path_app (ws := ws) h2
    exact ⟨e', path_mk h1 h3, h4⟩
theorem path_snoc : ∀ {ws : List Nat} {d e : D} {xs : List D} {i : Nat}, pathD ws d = some (.tup xs) → xs[i]? = some e → pathD (ws ++ [i]) d = some e
  | [], d, e, xs, i, h, hx => by
    cases h
    exact path_mk hx rfl
  | j :: ws, d, e, xs, i, h, hx => by
    obtain ⟨ys, y, rfl, h1, h2⟩ := path_cons h
    exact path_mk h1 (path_snoc (ws := ws) h2 hx)
theorem path_vk {n : Nat} : ∀ {ws : List Nat} {k : Nat} {d e : D}, vk n k d → pathD ws d = some e → ws.length ≤ k ∧ vk n (k - ws.length) e
  | [], k, d, e, h, hp => by
    cases hp
    exact ⟨Nat.zero_le _, h⟩
  | i :: ws, k, d, e, h, hp => by
    obtain ⟨xs, y, rfl, hx, hp⟩ := path_cons hp
    obtain ⟨j, rfl, h1, h2⟩ := vk_tupI h
    obtain ⟨h3, h4⟩ := path_vk (h2 y (List.mem_of_getElem? hx)) hp
    rw [List.length_cons]
    exact ⟨by omega, by rw [show j + 1 - (ws.length + 1) = j - ws.length by omega]; exact h4⟩
def intsD (ws : List Nat) : List D := ws.map fun (i : Nat) => D.int (i : Nat)
theorem nrs_intsD {ws : List Nat} : nrs (intsD ws) = true := nrs_mem.mpr fun d hd => by
  obtain ⟨i, _, rfl⟩ := List.mem_map.mp hd
  rfl
theorem getQ_row {l : List Int} {Ts : Sto} {ds : List D} : getQ (.ref (Ts.length + 1)) (Row l (Ts ++ [.lst ds])) = some ds := by
  unfold getQ
  simp only [row_cell]
theorem o_ixR {l : List Int} {Ts : Sto} {ds : List D} {i : Int} {d : D} {P : D → Prop} (h : atI ds i = some d) (q : P d) : wO (bIx (.ref (Ts.length + 1)) (.int i) (Row l (Ts ++ [.lst ds]))) P := by
  refine wO_some (orB_some ?_) q
  unfold bIxQ
  simp only [getQ_row]
  exact h
theorem o_lenR {l : List Int} {Ts : Sto} {ds : List D} {P : D → Prop} (q : P (.int (ds.length : Nat))) : wO (fLen [.ref (Ts.length + 1)] (Row l (Ts ++ [.lst ds]))) P := wO_some (by
  unfold fLen lenD
  simp only [getQ_row]
  rfl) q
theorem F67_w {l : List Int} {T : Sto} {n k : Nat} {d : D} {Q : D → Sto → Prop} {X : XP} (hT : Clean T) (hn : 20 ≤ n) (hn2 : n ≤ 10000) (hd : vk n k d) (h : ∀ r l', vk (3 * n + 4) (k + 1) r → Q r (Row l' T)) : wE (F67 [.ref 0, d] (Row l T)) Q X := by
  rw [F67]
  refine w_def (by rfl) ?_
  walk_at "wp"
  refine ⟨_, _, rfl, ?_⟩
  walk_at "wp"
  refine w_range (n := 6) (by omega) ?_
  walk_at "wp"
  refine ⟨rfl, ?_⟩
  refine wS_cut (fun δ S => ∃ l' ws at_ x4, δ = [some (.ref 0), some d, some (.ref (T.length + 1)), some at_, x4, none, none] ∧ S = Row l' (T ++ [.lst (intsD ws)]) ∧ pathD ws d = some at_ ∧ ws.length ≤ 6) ?_ ?_
  · refine w_inv (I := fun j δ S => ∃ l' ws at_ x4, δ = [some (.ref 0), some d, some (.ref (T.length + 1)), some at_, x4, none, none] ∧ S = Row l' (T ++ [.lst (intsD ws)]) ∧ pathD ws d = some at_ ∧ ws.length ≤ j) ⟨l, [], d, none, rfl, rfl, rfl, Nat.le_refl _⟩ ?_ ?_
    · intro j t ht δ S ⟨l', ws, at_, x4, e1, e2, h1, h2⟩
      subst e1 e2
      obtain ⟨hj, rfl⟩ := iota_get ht
      obtain ⟨h3, h4⟩ := path_vk hd h1
      have hp : pv at_ = true := vk_pv (big_le (by omega)) h4
      have hC : Clean (T ++ [.lst (intsD ws)]) := clean_add hT nrs_intsD
      walk_at "wp"
      walk_at "wi"
      refine o_isiT hp ?_
      walk_at "wp"
      refine w_ifs (fun hi => ?_) fun hi => ?_
      case refine_2 =>
        walk_at "wp"
        exact ⟨_, ws, at_, _, rfl, rfl, h1, by omega⟩
      obtain ⟨xs, rfl⟩ := isTup_get hi
      walk_at "wp"
      refine w_ifd (fun h0 => ?_) fun h0 => ?_
      · walk_at "wp"
        exact ⟨_, ws, _, _, rfl, rfl, h1, by omega⟩
      walk_at "wp"
      refine take48 hC (by omega) fun v l2 v0 v1 => ?_
      walk_at "wp"
      refine w_ifd (fun hv => ?_) fun hv => ?_
      · walk_at "wp"
        exact ⟨_, ws, _, _, rfl, rfl, h1, by omega⟩
      walk_at "wp"
      refine w_app rfl ?_
      walk_at "wp"
      refine take48 hC (by omega) fun i l3 i0 i1 => ?_
      have e : intsD ws ++ [.int i] = intsD (ws ++ [i.toNat]) := by
        unfold intsD
        rw [List.map_append, List.map_cons, List.map_nil, show ((i.toNat : Nat) : Int) = i by omega]
      refine ⟨_, _, rfl, by rw [sizeLine_eq]; unfold intsD; rw [List.length_map]; omega, ?_⟩
      walk_at "wp"
      refine o_ixR (atI_last _ _) ?_
      refine o_ixT i0 i1 fun a ha hx => ?_
      exact ⟨_, ws ++ [i.toNat], a, _, rfl, by rw [e], path_snoc h1 hx, by rw [List.length_append]; simp; omega⟩
    · intro δ S ⟨l', ws, at_, x4, e1, e2, h1, h2⟩
      exact ⟨l', ws, at_, x4, e1, e2, h1, by rw [iota_len] at h2; omega⟩
  intro δ S ⟨l', ws, at_, x4, e1, e2, h1, h2⟩
  subst e1 e2
  obtain ⟨h3, h4⟩ := path_vk hd h1
  have hC : Clean (T ++ [.lst (intsD ws)]) := clean_add hT nrs_intsD
  walk_at "wp"
  refine F66_w hC hn hn2 h4 fun r l2 hr => ?_
  walk_at "wp"
  refine w_range (n := ws.length) (by omega) ?_
  walk_at "wp"
  refine o_lenR ?_
  refine ⟨by unfold intsD; rw [List.length_map], ?_⟩
  refine w_inv (I := fun j δ S => ∃ x3 x4 x6 r, δ = [some (.ref 0), some d, some (.ref (T.length + 1)), x3, x4, some r, x6] ∧ S = Row l2 (T ++ [.lst (intsD ws)]) ∧ vk (3 * n + 4) (k + 1 - (ws.length - j)) r) ⟨_, _, _, r, rfl, rfl, by rw [show k + 1 - (ws.length - 0) = k - ws.length + 1 by omega]; exact hr⟩ ?_ ?_
  · intro j t ht δ S ⟨x3, x4, x6, r, e1, e2, hr⟩
    subst e1 e2
    obtain ⟨hj, rfl⟩ := iota_get ht
    walk_at "wp"
    refine o_lenR ?_
    walk_at "wp"
    refine o_slR ?_
    walk_at "wp"
    have el : ((intsD ws).length : Int) - 1 - (j : Int) = ((ws.length - 1 - j : Nat) : Int) := by
      unfold intsD
      rw [List.length_map]
      omega
    rw [el, cut_to]
    have hpl : ws.length - 1 - j < ws.length := by omega
    generalize hpe : ws.length - 1 - j = p at hpl
    have hsplit : ws = ws.take p ++ ws[p] :: ws.drop (p + 1) := by
      rw [List.getElem_cons_drop, List.take_append_drop]
    rw [hsplit] at h1
    obtain ⟨a2, h5, h6⟩ := path_app h1
    obtain ⟨xs, y, rfl, h7, h8⟩ := path_cons h6
    obtain ⟨h9, h10⟩ := path_vk hd h5
    rw [List.length_take, Nat.min_eq_left (by omega)] at h9 h10
    have etake : (intsD ws).take p = intsD (ws.take p) := by
      unfold intsD
      rw [List.map_take]
    rw [etake]
    refine wS_cut (fun δ S => ∃ x6, δ = [some (.ref 0), some d, some (.ref (T.length + 1)), some (.tup xs), some (.int j), some r, x6] ∧ S = Row l2 (T ++ [.lst (intsD ws)])) ?_ ?_
    · refine w_inv (I := fun m δ S => ∃ a x6, δ = [some (.ref 0), some d, some (.ref (T.length + 1)), some a, some (.int j), some r, x6] ∧ S = Row l2 (T ++ [.lst (intsD ws)]) ∧ pathD (ws.take m) d = some a) ⟨d, _, rfl, rfl, rfl⟩ ?_ ?_
      · intro m t ht δ S ⟨a, x6, e1, e2, ha⟩
        subst e1 e2
        have hm : m < p := by
          have := (List.getElem?_eq_some_iff.mp ht).1
          simp [intsD] at this
          omega
        have htm : t = .int (ws[m]'(by omega) : Nat) := by
          simp only [intsD] at ht
          rw [List.getElem?_map, List.getElem?_take_of_lt hm, List.getElem?_eq_getElem (by omega)] at ht
          simpa using ht.symm
        subst htm
        have hs2 : ws.take p = ws.take m ++ ws[m]'(by omega) :: (ws.take p).drop (m + 1) := by
          have e1 : ws.take m = (ws.take p).take m := by rw [List.take_take, Nat.min_eq_left (by omega)]
          have e2 : ws[m]'(by omega) = (ws.take p)[m]'(by rw [List.length_take]; omega) := by simp
          rw [e1, e2, List.getElem_cons_drop, List.take_append_drop]
        rw [hs2] at h5
        obtain ⟨a3, h11, h12⟩ := path_app h5
        rw [ha] at h11
        cases h11
        obtain ⟨ys, z, rfl, h13, h14⟩ := path_cons h12
        walk_at "wp"
        refine wO_some (ix_tup (atI_nat h13)) ?_
        refine ⟨z, _, rfl, rfl, ?_⟩
        rw [List.take_succ_eq_append_getElem (by omega)]
        exact path_snoc ha h13
      · intro δ S ⟨a, x6, e1, e2, ha⟩
        subst e1 e2
        have : (intsD (ws.take p)).length = p := by
          unfold intsD
          rw [List.length_map, List.length_take]
          omega
        rw [this, h5] at ha
        cases ha
        exact ⟨_, rfl, rfl⟩
    intro δ S ⟨x6, e1, e2⟩
    subst e1 e2
    walk_at "wp"
    refine o_lenR ?_
    walk_at "wp"
    rw [el, hpe]
    have hw : atI (intsD ws) (p : Nat) = some (.int (ws[p] : Nat)) := atI_nat (by
      unfold intsD
      rw [List.getElem?_map, List.getElem?_eq_getElem hpl]
      rfl)
    refine o_ixR hw ?_
    walk_at "wp"
    rw [cut_to]
    obtain ⟨q, hq, hx1, hx2⟩ := vk_tupI h10
    have hil : ws[p] < xs.length := (List.getElem?_eq_some_iff.mp h7).1
    refine o_addT (sm6 (by rw [List.length_take]; simp; omega)) ?_
    walk_at "wp"
    rw [show ((ws[p] : Nat) : Int) + 1 = ((ws[p] + 1 : Nat) : Int) by omega, cut_from]
    refine o_addT (sm6 (by rw [List.length_append, List.length_take, List.length_drop]; simp; omega)) ?_
    refine ⟨_, _, _, _, rfl, rfl, ?_⟩
    rw [show k + 1 - (ws.length - (j + 1)) = k - p + 1 by omega]
    have hr2 : vk (3 * n + 4) (k - p) r := by
      rw [show k - p = k + 1 - (ws.length - j) by omega]
      exact hr
    refine vk_tup (by rw [List.length_append, List.length_append, List.length_take, List.length_drop]; simp; omega) (vk_app (vk_app (fun x hx => vk_mono (by omega) (by omega) (hx2 x (List.mem_of_mem_take hx))) (vk_cons hr2 vk_nilL)) fun x hx => vk_mono (by omega) (by omega) (hx2 x (List.mem_of_mem_drop hx)))
  · intro δ S ⟨x3, x4, x6, r, e1, e2, hr⟩
    subst e1 e2
    walk_at "wp"
    rw [iota_len] at hr
    have hr' : vk (3 * n + 4) (k + 1) r := by
      rw [show k + 1 - (ws.length - ws.length) = k + 1 by omega] at hr
      exact hr
    exact w_finR hT (vk_nr (big_le (by omega)) hr') (h _ _ hr')
end QB
set_option maxHeartbeats 4000000
namespace QB
open PySem PySem.Spec PySem.Calls PyProof.Rows L2
local macro_rules | `(tactic| walk_at "wp") => `(tactic| repeat (first
  | with_reducible refine w_cons ?_ | with_reducible refine w_nil ?_
  | ((with_reducible apply w_var); (focus rfl))
  | with_reducible refine w_c ?_ | with_reducible refine w_2 ?_ | with_reducible refine w_f ?_
  | with_reducible refine w_call ?_
  | with_reducible refine w_seq ?_
  | (with_reducible refine w_asg ?_)
  | with_reducible refine w_ret ?_ | with_reducible refine w_expr ?_ | with_reducible refine w_skip ?_ | with_reducible refine w_break ?_
  | with_reducible refine w_bool ?_ | with_reducible refine w_wB ?_ | with_reducible refine w_tru ?_ | with_reducible refine w_tnot ?_ | with_reducible refine w_tand ?_ | with_reducible refine w_tor ?_ | with_reducible refine w_yes ?_
  | with_reducible refine w_ift ?_ | with_reducible refine w_iff ?_ | with_reducible refine w_ifn ?_
  | with_reducible refine w_and ?_ | with_reducible refine w_or ?_ | with_reducible refine w_not ?_ | with_reducible refine w_dif ?_ | with_reducible refine w_chain ?_
  | with_reducible refine o_bl ?_ | with_reducible refine o_non ?_ | with_reducible refine o_addI ?_ | with_reducible refine o_subI ?_ | with_reducible refine o_eqI ?_ | with_reducible refine o_neI ?_ | with_reducible refine o_leI ?_ | with_reducible refine o_ltI ?_ | with_reducible refine o_gtI ?_ | with_reducible refine o_geI ?_
  | with_reducible refine o_lenT ?_ | with_reducible refine o_lenL ?_ | with_reducible refine o_intI ?_ | with_reducible refine o_is1 ?_ | with_reducible refine o_is0 ?_ | with_reducible refine o_isn1 ?_ | with_reducible refine o_isn0 ?_ | with_reducible refine o_neg ?_
  | with_reducible refine o_tupL ?_ | with_reducible refine o_tupT ?_ | with_reducible refine o_listT ?_ | with_reducible refine o_listL ?_
  | with_reducible refine o_gNm ?_
  | with_reducible refine w_tup ?_ | with_reducible refine w_lst ?_ | with_reducible refine w_1 ?_
  | with_reducible refine w_for ?_ | with_reducible refine w_iOf ?_ | with_reducible refine w_iEnum ?_
  | with_reducible refine o_srcT ?_ | with_reducible refine o_srcL ?_ | with_reducible refine o_srcS ?_ | with_reducible refine o_enumT ?_ | with_reducible refine o_enumL ?_
  | with_reducible refine w_sl ?_ | with_reducible refine w_oN ?_ | with_reducible refine w_oS ?_ | with_reducible refine o_slT ?_ | with_reducible refine o_slL ?_
  | with_reducible refine w_lc ?_ | with_reducible refine w_callD ?_ | with_reducible refine w_callK ?_ | with_reducible refine w_callS ?_ | with_reducible refine w_callS0 ?_ | with_reducible refine w_lstC ?_
  | with_reducible refine ⟨sm (by simp), ?_⟩
  | with_reducible refine ⟨_, rfl, ?_⟩))
local macro_rules | `(tactic| walk_at "wi") => `(tactic| ((with_reducible refine w_sif ?_); walk_at "wp"))
/-! the draws -/
theorem w_app0 {i : Nat} {ta : DE} {δ : Sl} {l : List Int} {T : Sto} {Q : D → Sto → Prop} {X : XP} (hv : δ[i]? = some (some (.ref 0))) (h : wE (ta δ (Row l T)) (fun y S2 => ∃ v l', y = .int v ∧ S2 = Row l' T ∧ l'.length < sizeLine ∧ Q .non (Row (l' ++ [v]) T)) X) : wE (dAppend (dVar i) ta δ (Row l T)) Q X := by
  unfold dAppend
  refine wE_bind (w_var hv ?_)
  simp only [show (Row l T)[0]? = some (Ob.lst (l.map .int)) from rfl]
  refine wE_bind (wE_q h fun y S2 h => ?_)
  obtain ⟨v, l', rfl, rfl, h1, q⟩ := h
  simp only [show (Row l' T)[0]? = some (Ob.lst (l'.map .int)) from rfl]
  rw [if_pos (by rw [List.length_map]; exact h1)]
  have : (Row l' T).set 0 (.lst (l'.map .int ++ [.int v])) = Row (l' ++ [v]) T := by
    unfold Row
    rw [List.map_append]
    rfl
  rw [this]
  exact wE_ok q
theorem w_defC0 {Nn : List Str} {n : Nat} {tb : DS} {ds : List D} {Q : D → Sto → Prop} {X : XP} (hl : ds.length = n) (h : wS (tb (slots Nn ds) []) (fun _ _ => False) (fun d S1 => ∃ l l', d = .ref 1 ∧ S1 = [.lst l', .lst (l.map .int)] ∧ Q (.ref 0) (Row l [])) (fun _ _ => False) (fun _ _ => False) fun _ _ _ => False) : wE (dDef finC Nn n tb ds []) Q X := by
  rw [dDef_eq hl]
  cases e : tb (slots Nn ds) [] with
  | rt d S1 =>
    rw [e] at h
    obtain ⟨l, l', rfl, rfl, q⟩ := h.h
    refine wE_eq ?_ q
    unfold finC
    simp only [List.length_nil, Nat.zero_le, if_true, List.take_zero, fzS, List.getElem?_cons_succ, List.getElem?_cons_zero, fzO_nr _ (show nrO (Ob.lst (l.map D.int)) = true from nrs_int l)]
    rfl
  | nx δ1 S1 => rw [e] at h; exact h.h.elim
  | bk δ S => rw [e] at h; exact h.h.elim
  | ct δ S => rw [e] at h; exact h.h.elim
  | ex c f δ S => rw [e] at h; exact h.h.elim
  | stuck => rw [e] at h; exact h.h.elim
theorem w_listRevC {ta : DE} {δ : Sl} {S : Sto} {Q : D → Sto → Prop} {X : XP} (h : wE (ta δ S) (fun d S1 => wO (getL d S1) fun ds => Q (.ref S1.length) (S1 ++ [.lst ds.reverse])) X) : wE (dListRevC ta δ S) Q X := by
  refine wE_bind (wE_q h fun d S1 h => ?_)
  obtain ⟨ds, e, q⟩ := wO_get h
  simp only [e]
  exact wE_ok q
theorem o_powI {a b : Int} {S : Sto} {P : D → Prop} (h0 : 0 ≤ b) (h1 : b ≤ 1000000) (h2 : a.natAbs < 2 ^ 64) (h : P (.int (a ^ b.toNat))) : wO (bPow (.int a) (.int b) S) P := wO_some (by
  show (if 0 ≤ b ∧ b ≤ 1000000 ∧ a.natAbs < 2 ^ 64 then some (a ^ b.toNat) else none).map D.int = _
  rw [if_pos ⟨h0, h1, h2⟩]; rfl) h
theorem w_lstC00 {δ : Sl} {Q : D → Sto → Prop} {X : XP} (h : Q (.ref 0) (Row [] [])) : wE (dLstC aNil δ []) Q X := by
  refine wE_eq ?_ h
  unfold dLstC
  rw [e_nil]
  simp only [evR]
  rw [if_pos (by rw [sizeLine_eq]; simp)]
  rfl
theorem o_intB {b : Bool} {S : Sto} {P : D → Prop} (h : P (.int (if b then 1 else 0))) : wO (fInt [.bl b] S) P := ⟨h⟩
theorem o_abs {a : Int} {S : Sto} {P : D → Prop} (h : P (.int (if a < 0 then -a else a))) : wO (fAbs [.int a] S) P := ⟨h⟩
theorem o_srcF {xs : List D} {S : Sto} {P : Src → Prop} (h : P ⟨xs, none⟩) : wO (srcOf (.frz xs) S) P := ⟨h⟩
theorem F47_w {ns : List Int} {Q : D → Sto → Prop} {X : XP} (hn : ns.length ≤ 63) (h : ∀ l, Q (.ref 0) (Row l [])) : wE (F47 [.frz (ns.map .int)] []) Q X := by
  rw [F47]
  refine w_defC0 (by rfl) ?_
  refine w_seq (w_asg (w_lstC00 ?_))
  walk_at "wp"
  refine o_srcF ?_
  refine wS_cut (fun δ S => ∃ l st x3 x4 x5, δ = [some (.frz (ns.map .int)), some (.ref 0), some (.int st), x3, x4, x5] ∧ S = Row l [] ∧ l.length ≤ 4000) ?_ ?_
  · refine w_inv (I := fun j δ S => ∃ l st x3 x4 x5, δ = [some (.frz (ns.map .int)), some (.ref 0), some (.int st), x3, x4, x5] ∧ S = Row l [] ∧ l.length ≤ 50 * j) ⟨[], _, _, _, _, rfl, rfl, Nat.le_refl _⟩ ?_ ?_
    · intro j d hd δ S ⟨l, st, x3, x4, x5, e1, e2, h1⟩
      subst e1 e2
      have hj : j < ns.length := by
        have := (List.getElem?_eq_some_iff.mp hd).1
        simpa using this
      obtain ⟨c, rfl⟩ : ∃ c, d = .int c := by
        obtain ⟨c, _, e⟩ := List.mem_map.mp (List.mem_of_getElem? hd)
        exact ⟨c, e.symm⟩
      walk_at "wp"
      refine o_abs ?_
      walk_at "wp"
      generalize (if c < 0 then -c else c) = sz
      refine o_mulI (.inr (by decide)) ?_
      walk_at "wp"
      refine o_mulI (.inr (by decide)) ?_
      walk_at "wp"
      refine o_intB ?_
      walk_at "wp"
      refine o_modI (by omega) ?_
      generalize (st * 40692 + sz * 3 + (if decide (c < 0) = true then 1 else 0) + 17) % 2147483399 = st2
      walk_at "wi"
      refine o_powI (by omega) (by omega) (by decide) ?_
      walk_at "wp"
      refine w_ifs (fun hs => ?_) fun hs => ?_
      case refine_2 =>
        walk_at "wp"
        exact ⟨l, _, _, _, _, rfl, rfl, by omega⟩
      walk_at "wp"
      refine w_range (n := 50) (by omega) ?_
      walk_at "wp"
      refine ⟨rfl, ?_⟩
      refine w_inv (I := fun m δ S => ∃ l sz x5, δ = [some (.frz (ns.map .int)), some (.ref 0), some (.int st2), some (.int c), some (.int sz), x5] ∧ S = Row l [] ∧ l.length ≤ 50 * j + m) ⟨l, _, _, rfl, rfl, by omega⟩ ?_ ?_
      · intro m t ht δ S ⟨l, sz, x5, e1, e2, h2⟩
        subst e1 e2
        obtain ⟨hm, rfl⟩ := iota_get ht
        walk_at "wp"
        refine wS_cut (fun δ S => δ = [some (.frz (ns.map .int)), some (.ref 0), some (.int st2), some (.int c), some (.int sz), some (.int m)] ∧ S = Row l []) ?_ ?_
        · walk_at "wi"
          refine w_ifd (fun h0 => ?_) fun h0 => ?_
          · walk_at "wp"
            exact ⟨l, _, _, _, _, rfl, rfl, by omega⟩
          · walk_at "wp"
            exact ⟨rfl, rfl⟩
        intro δ S ⟨e1, e2⟩
        subst e1 e2
        walk_at "wp"
        refine w_app0 rfl ?_
        walk_at "wp"
        refine o_modI (by omega) ?_
        refine ⟨_, l, rfl, rfl, by rw [sizeLine_eq]; omega, ?_⟩
        walk_at "wp"
        refine o_fdivI (by omega) (by omega) ?_
        exact ⟨_, _, _, rfl, rfl, by rw [List.length_append]; simp; omega⟩
      · intro δ S ⟨l, sz, x5, e1, e2, h2⟩
        rw [iota_len] at h2
        exact ⟨l, _, _, _, _, e1, e2, by omega⟩
    · intro δ S ⟨l, st, x3, x4, x5, e1, e2, h1⟩
      rw [List.length_map] at h1
      exact ⟨l, st, x3, x4, x5, e1, e2, by omega⟩
  intro δ S ⟨l, st, x3, x4, x5, e1, e2, h1⟩
  subst e1 e2
  walk_at "wp"
  refine w_range (n := 260) (by omega) ?_
  walk_at "wp"
  refine ⟨rfl, ?_⟩
  refine w_inv (I := fun j δ S => ∃ l st x3 x4 x5, δ = [some (.frz (ns.map .int)), some (.ref 0), some (.int st), x3, x4, x5] ∧ S = Row l [] ∧ l.length ≤ 4000 + j) ⟨l, _, _, _, _, rfl, rfl, h1⟩ ?_ ?_
  · intro j d hd δ S ⟨l, st, x3, x4, x5, e1, e2, h1⟩
    subst e1 e2
    obtain ⟨hj, rfl⟩ := iota_get hd
    walk_at "wp"
    refine o_mulI (.inr (by decide)) ?_
    walk_at "wp"
    refine o_modI (by omega) ?_
    walk_at "wp"
    refine w_app0 rfl ?_
    walk_at "wp"
    refine o_fdivI (by omega) (by omega) ?_
    exact ⟨_, l, rfl, rfl, by rw [sizeLine_eq]; omega, _, _, _, _, _, rfl, rfl, by rw [List.length_append]; simp; omega⟩
  · intro δ S ⟨l, st, x3, x4, x5, e1, e2, h1⟩
    subst e1 e2
    walk_at "wp"
    refine w_listRevC ?_
    walk_at "wp"
    refine wO_some (show getL (.ref 0) (Row l []) = some (l.map .int) from rfl) ?_
    exact ⟨l.reverse, l.map .int, rfl, by rw [← List.map_reverse]; rfl, h _⟩
end QB
set_option maxHeartbeats 4000000
namespace QB
open PySem PySem.Spec PySem.Calls PyProof.Rows L2
local macro_rules | `(tactic| walk_at "wp") => `(tactic| repeat (first
  | with_reducible refine w_cons ?_ | with_reducible refine w_nil ?_
  | ((with_reducible apply w_var); (focus rfl))
  | with_reducible refine w_c ?_ | with_reducible refine w_2 ?_ | with_reducible refine w_f ?_
  | with_reducible refine w_call ?_
  | with_reducible refine w_seq ?_
  | (with_reducible refine w_asg ?_)
  | with_reducible refine w_ret ?_ | with_reducible refine w_expr ?_ | with_reducible refine w_skip ?_ | with_reducible refine w_break ?_
  | with_reducible refine w_bool ?_ | with_reducible refine w_wB ?_ | with_reducible refine w_tru ?_ | with_reducible refine w_tnot ?_ | with_reducible refine w_tand ?_ | with_reducible refine w_tor ?_ | with_reducible refine w_yes ?_
  | with_reducible refine w_ift ?_ | with_reducible refine w_iff ?_ | with_reducible refine w_ifn ?_
  | with_reducible refine w_and ?_ | with_reducible refine w_or ?_ | with_reducible refine w_not ?_ | with_reducible refine w_dif ?_ | with_reducible refine w_chain ?_
  | with_reducible refine o_bl ?_ | with_reducible refine o_non ?_ | with_reducible refine o_addI ?_ | with_reducible refine o_subI ?_ | with_reducible refine o_eqI ?_ | with_reducible refine o_neI ?_ | with_reducible refine o_leI ?_ | with_reducible refine o_ltI ?_ | with_reducible refine o_gtI ?_ | with_reducible refine o_geI ?_
  | with_reducible refine o_lenT ?_ | with_reducible refine o_lenL ?_ | with_reducible refine o_intI ?_ | with_reducible refine o_is1 ?_ | with_reducible refine o_is0 ?_ | with_reducible refine o_isn1 ?_ | with_reducible refine o_isn0 ?_ | with_reducible refine o_neg ?_
  | with_reducible refine o_tupL ?_ | with_reducible refine o_tupT ?_ | with_reducible refine o_listT ?_ | with_reducible refine o_listL ?_
  | with_reducible refine o_gNm ?_
  | with_reducible refine w_tup ?_ | with_reducible refine w_lst ?_ | with_reducible refine w_1 ?_
  | with_reducible refine w_for ?_ | with_reducible refine w_iOf ?_ | with_reducible refine w_iEnum ?_
  | with_reducible refine o_srcT ?_ | with_reducible refine o_srcL ?_ | with_reducible refine o_srcS ?_ | with_reducible refine o_enumT ?_ | with_reducible refine o_enumL ?_
  | with_reducible refine w_sl ?_ | with_reducible refine w_oN ?_ | with_reducible refine w_oS ?_ | with_reducible refine o_slT ?_ | with_reducible refine o_slL ?_
  | with_reducible refine w_lc ?_ | with_reducible refine w_callD ?_ | with_reducible refine w_callK ?_ | with_reducible refine w_callS ?_ | with_reducible refine w_callS0 ?_ | with_reducible refine w_lstC ?_
  | with_reducible refine ⟨sm (by simp), ?_⟩
  | with_reducible refine ⟨_, rfl, ?_⟩))
local macro_rules | `(tactic| walk_at "wi") => `(tactic| ((with_reducible refine w_sif ?_); walk_at "wp"))
local macro_rules | `(tactic| walk_at "vk") => `(tactic| repeat' (first | assumption | exact vk_nilL | refine vk_cons ?_ ?_ | refine vk_app ?_ ?_ | exact vk_int | exact vk_bl | exact vk_non | exact vk_str (by decide +kernel) | refine vk_tup (by simp) ?_ | refine vk_lst (by simp) ?_))
/-! singles -/
theorem vk_strs {n k : Nat} {s : String} (h : (Str.ofString s).length ≤ n) : vk n k (.str (Str.ofString s)) := vk_str h
theorem atI_range {xs : List D} {i : Int} (h0 : -(xs.length : Int) ≤ i) (h1 : i < xs.length) : ∃ d, atI xs i = some d ∧ d ∈ xs := by
  by_cases hi : 0 ≤ i
  · have hl : i.toNat < xs.length := by omega
    have := atI_nat (xs := xs) (j := i.toNat) (List.getElem?_eq_getElem hl)
    rw [show ((i.toNat : Nat) : Int) = i by omega] at this
    exact ⟨_, this, List.getElem_mem hl⟩
  · have hl : (i + xs.length).toNat < xs.length := by omega
    refine ⟨xs[(i + xs.length).toNat], ?_, List.getElem_mem hl⟩
    unfold atI ixN
    rw [if_neg hi, if_pos h0]
    show xs[(i + xs.length).toNat]? = _
    rw [List.getElem?_eq_getElem hl]
theorem o_ixLn {xs : List D} {v : Int} {S : Sto} {P : D → Prop} (h0 : -(xs.length : Int) ≤ v) (h1 : v < xs.length) (h : ∀ d, d ∈ xs → P d) : wO (bIx (.lst xs) (.int v) S) P := by
  obtain ⟨d, e, hd⟩ := atI_range h0 h1
  exact wO_some (ix_lst e) (h d hd)
theorem o_addLv {n k : Nat} {a b : List D} {S : Sto} {P : D → Prop} (ha : ∀ x ∈ a, vk n k x) (hb : ∀ x ∈ b, vk n k x) (hl : a.length + b.length ≤ 1000000) (h : ∀ xs, xs.length = a.length + b.length → (∀ x ∈ xs, vk n k x) → P (.lst xs)) : wO (bAdd (.lst a) (.lst b) S) P :=
  o_addL (sm6 hl) (h _ (by rw [List.length_append]) (vk_app ha hb))
theorem word_le {w : Str} (h : Word w) : w.length ≤ 12 := by
  unfold Word wordL at h
  simp only [Bool.and_eq_true, decide_eq_true_eq] at h
  rw [show w.length = w.cps.toList.length by simp [Str.length]]
  omega
theorem F70_w {l : List Int} {T : Sto} {Q : D → Sto → Prop} {X : XP} (hT : Clean T) (h : ∀ l', Q (.bl true) (Row l' T)) : wE (F70 [.ref 0] (Row l T)) Q X := by
  rw [F70]
  refine w_def (by rfl) ?_
  walk_at "wp"
  refine o_powI (by omega) (by omega) (by decide) ?_
  walk_at "wp"
  refine o_addLv (n := 64) (k := 2) (by walk_at "vk") (by walk_at "vk") (by simp) fun xs hx hv => ?_
  replace hx : xs.length = 29 := by rw [hx]; rfl
  walk_at "wp"
  refine F50_w hT fun w l1 hw => ?_
  walk_at "wp"
  refine F53_w hT fun z l2 hz => ?_
  walk_at "wp"
  refine w_inv (I := fun j δ S => ∃ l xs x4, δ = [some (.ref 0), some (.lst xs), some (.str w), some (.str z), x4, none, none] ∧ S = Row l T ∧ xs.length = 29 + 2 * j ∧ ∀ x ∈ xs, vk 64 2 x) ⟨l2, xs, none, rfl, rfl, hx, hv⟩ ?_ ?_
  · intro j d hd δ S ⟨l3, xs, x4, e1, e2, hx, hv⟩
    subst e1 e2
    have hj : j < 6 := by
      have := (List.getElem?_eq_some_iff.mp hd).1
      simpa using this
    have hd0 : vk 20 0 d := by
      have hm := List.mem_of_getElem? hd
      simp only [List.mem_cons, List.not_mem_nil, or_false] at hm
      have h1 := word_le hw
      have h2 := name_le hz
      rcases hm with rfl | rfl | rfl | rfl | rfl | rfl <;> first | exact vk_int | exact vk_str (by omega)
    walk_at "wp"
    refine F66_w hT (by omega) (by omega) hd0 fun r l4 hr => ?_
    walk_at "wp"
    refine o_addLv (n := 64) (k := 2) hv (vk_cons (vk_mono (by omega) (by omega) hd0) (vk_cons (vk_mono (by omega) (by omega) hr) vk_nilL)) (by simp; omega) fun ys hy hv2 => ?_
    exact ⟨l4, ys, _, rfl, rfl, by rw [hy, hx]; simp; omega, hv2⟩
  intro δ S ⟨l3, xs, x4, e1, e2, hx, hv⟩
  subst e1 e2
  replace hx : xs.length = 41 := by rw [hx]; rfl
  walk_at "wp"
  refine take48 hT (by omega) fun st l4 st0 st1 => ?_
  walk_at "wp"
  refine w_range (n := 22) (by omega) ?_
  walk_at "wp"
  refine ⟨rfl, ?_⟩
  refine w_inv (I := fun j δ S => ∃ x4 x6, δ = [some (.ref 0), some (.lst xs), some (.str w), some (.str z), x4, some (.int st), x6] ∧ S = Row l4 T) ⟨_, _, rfl, rfl⟩ ?_ ?_
  · intro j d hd δ S ⟨x4, x6, e1, e2⟩
    subst e1 e2
    obtain ⟨hj, rfl⟩ := iota_get hd
    walk_at "wp"
    refine o_ixL (by omega) (by omega) fun a ha _ => ?_
    walk_at "wp"
    refine wS_cut (fun δ S => ∃ a, a ∈ xs ∧ δ = [some (.ref 0), some (.lst xs), some (.str w), some (.str z), some a, some (.int st), some (.int j)] ∧ S = Row l4 T) ?_ ?_
    · walk_at "wi"
      refine w_ifd (fun hj => ?_) fun hj => ?_
      · walk_at "wp"
        refine o_modI (by omega) ?_
        refine o_ixL (Int.emod_nonneg _ (by omega)) (by have := Int.emod_lt_of_pos (st + j) (show (0 : Int) < 29 by omega); omega) fun b hb _ => ?_
        exact ⟨b, hb, rfl, rfl⟩
      · walk_at "wp"
        exact ⟨a, ha, rfl, rfl⟩
    intro δ S ⟨b, hb, e1, e2⟩
    subst e1 e2
    walk_at "wp"
    walk_at "wi"
    refine wE_eq (F69_eq (clean_row hT) (vk_pv (big_le (by omega)) (hv b hb))) ?_
    walk_at "wp"
    exact ⟨_, _, rfl, rfl⟩
  · intro δ S ⟨x4, x6, e1, e2⟩
    subst e1 e2
    walk_at "wp"
    exact w_finR0 hT rfl (h _)
end QB
set_option maxHeartbeats 4000000
namespace QB
open PySem PySem.Spec PySem.Calls PyProof.Rows L2
local macro_rules | `(tactic| walk_at "wp") => `(tactic| repeat (first
  | with_reducible refine w_cons ?_ | with_reducible refine w_nil ?_
  | ((with_reducible apply w_var); (focus rfl))
  | with_reducible refine w_c ?_ | with_reducible refine w_2 ?_ | with_reducible refine w_f ?_
  | with_reducible refine w_call ?_
  | with_reducible refine w_seq ?_
  | (with_reducible refine w_asg ?_)
  | with_reducible refine w_ret ?_ | with_reducible refine w_expr ?_ | with_reducible refine w_skip ?_ | with_reducible refine w_break ?_
  | with_reducible refine w_bool ?_ | with_reducible refine w_wB ?_ | with_reducible refine w_tru ?_ | with_reducible refine w_tnot ?_ | with_reducible refine w_tand ?_ | with_reducible refine w_tor ?_ | with_reducible refine w_yes ?_
  | with_reducible refine w_ift ?_ | with_reducible refine w_iff ?_ | with_reducible refine w_ifn ?_
  | with_reducible refine w_and ?_ | with_reducible refine w_or ?_ | with_reducible refine w_not ?_ | with_reducible refine w_dif ?_ | with_reducible refine w_chain ?_
  | with_reducible refine o_bl ?_ | with_reducible refine o_non ?_ | with_reducible refine o_addI ?_ | with_reducible refine o_subI ?_ | with_reducible refine o_eqI ?_ | with_reducible refine o_neI ?_ | with_reducible refine o_leI ?_ | with_reducible refine o_ltI ?_ | with_reducible refine o_gtI ?_ | with_reducible refine o_geI ?_
  | with_reducible refine o_lenT ?_ | with_reducible refine o_lenL ?_ | with_reducible refine o_intI ?_ | with_reducible refine o_is1 ?_ | with_reducible refine o_is0 ?_ | with_reducible refine o_isn1 ?_ | with_reducible refine o_isn0 ?_ | with_reducible refine o_neg ?_
  | with_reducible refine o_tupL ?_ | with_reducible refine o_tupT ?_ | with_reducible refine o_listT ?_ | with_reducible refine o_listL ?_
  | with_reducible refine o_gNm ?_
  | with_reducible refine w_tup ?_ | with_reducible refine w_lst ?_ | with_reducible refine w_1 ?_
  | with_reducible refine w_for ?_ | with_reducible refine w_iOf ?_ | with_reducible refine w_iEnum ?_
  | with_reducible refine o_srcT ?_ | with_reducible refine o_srcL ?_ | with_reducible refine o_srcS ?_ | with_reducible refine o_enumT ?_ | with_reducible refine o_enumL ?_
  | with_reducible refine w_sl ?_ | with_reducible refine w_oN ?_ | with_reducible refine w_oS ?_
  | with_reducible refine w_lc ?_ | with_reducible refine w_callD ?_ | with_reducible refine w_callK ?_ | with_reducible refine w_callS ?_ | with_reducible refine w_callS0 ?_ | with_reducible refine w_lstC ?_
  | ((with_reducible refine And.intro (sm ?_) ?_); (focus (simp [enumF]; done)))
  | with_reducible refine ⟨_, rfl, ?_⟩))
local macro_rules | `(tactic| walk_at "wi") => `(tactic| ((with_reducible refine w_sif ?_); walk_at "wp"))
local macro_rules | `(tactic| walk_at "vk") => `(tactic| repeat' (first | assumption | exact vk_nilL | refine vk_cons ?_ ?_ | refine vk_app ?_ ?_ | exact vk_int | exact vk_bl | exact vk_non | exact vk_str (by decide +kernel) | refine vk_tup (by simp) ?_ | refine vk_lst (by simp) ?_))
/-! terms, facts, claims, puts -/
theorem enum_mem : ∀ {xs : List D} {i : Nat} {d : D}, d ∈ enumF i xs → ∃ j e, d = .tup [.int (j : Nat), e] ∧ i ≤ j ∧ j < i + xs.length ∧ e ∈ xs
  | [], i, d, h => by cases h
  | x :: xs, i, d, h => by
    rw [enumF] at h
    rcases List.mem_cons.mp h with rfl | h
    · exact ⟨i, x, rfl, Nat.le_refl _, by rw [List.length_cons]; omega, List.mem_cons_self⟩
    · obtain ⟨j, e, h1, h2, h3, h4⟩ := enum_mem h
      exact ⟨j, e, h1, by omega, by rw [List.length_cons]; omega, List.mem_cons_of_mem _ h4⟩
theorem enumF_length : ∀ {xs : List D} {i : Nat}, (enumF i xs).length = xs.length
  | [], _ => rfl
  | x :: xs, i => by rw [enumF, List.length_cons, enumF_length, List.length_cons]
theorem vk_signs {n k : Nat} {z : Str} (hn : 1 ≤ n) (h : z.length ≤ n) : vk n (k + 1) (.lst (signs z)) := by
  refine vk_lst ?_ fun x hx => ?_
  · unfold signs
    rw [List.length_map]
    simpa [Str.length] using h
  · unfold signs at hx
    obtain ⟨c, _, rfl⟩ := List.mem_map.mp hx
    exact vk_str (by show 1 ≤ n; exact hn)
/-- list(x) of a text, of a tuple -/
theorem o_listV {n k : Nat} {d : D} {S : Sto} {P : D → Prop} (hn : 1 ≤ n) (hn2 : n ≤ 1000) (hd : vk n (k + 1) d) (hs : (isStr d || isTup d) = true) (h : ∀ xs, xs.length ≤ n → (∀ x ∈ xs, vk n k x) → P (.lst xs)) : wO (fListB [d] S) P := by
  rcases Bool.or_eq_true_iff.mp hs with hs | hs
  · obtain ⟨z, rfl⟩ := isStr_get hs
    have hz := vk_strI hd
    have hv : vk n (k + 1) (.lst (signs z)) := vk_signs hn hz
    refine wO_some (if_pos ?_) (h _ hv.1 hv.2)
    show z.length ≤ sizeLine
    exact sm6 (by omega)
  · obtain ⟨xs, rfl⟩ := isTup_get hs
    exact o_listT (h xs hd.1 hd.2)
theorem o_slTv {n k : Nat} {xs : List D} {l h : Option Int} {S : Sto} {P : D → Prop} (hx : ∀ x ∈ xs, vk n k x) (q : ∀ ys, ys.length ≤ xs.length → (∀ x ∈ ys, vk n k x) → P (.tup ys)) : wO (sliceD (.tup xs) l h S) P := o_slT (q _ cutL_len fun x hx2 => hx x (cutL_mem hx2))
theorem o_slLv {n k : Nat} {xs : List D} {l h : Option Int} {S : Sto} {P : D → Prop} (hx : ∀ x ∈ xs, vk n k x) (q : ∀ ys, ys.length ≤ xs.length → (∀ x ∈ ys, vk n k x) → P (.lst ys)) : wO (sliceD (.lst xs) l h S) P := o_slL (q _ cutL_len fun x hx2 => hx x (cutL_mem hx2))
theorem vk_up {n n' k k' : Nat} {xs : List D} (h : ∀ x ∈ xs, vk n k x) (hn : n ≤ n') (hk : k ≤ k') : ∀ x ∈ xs, vk n' k' x := fun x hx => vk_mono hn hk (h x hx)
theorem F72_w {l : List Int} {T : Sto} {gs : List D} {Q : D → Sto → Prop} {X : XP} (hT : Clean T) (G : Good gs) (h : ∀ l', Q (.bl true) (Row l' T)) : wE (F72 [.ref 0, .tup gs] (Row l T)) Q X := by
  have hg := G.lot.1
  have hgl := G.lot.2.2
  rw [F72]
  refine w_def (by rfl) ?_
  walk_at "wp"
  refine w_range (n := 6) (by omega) ?_
  walk_at "wp"
  refine ⟨rfl, ?_⟩
  refine ⟨by rw [iota_len, sizeLine_eq]; omega, ?_⟩
  refine w_lcY (fun acc S => ∃ l', S = Row l' T ∧ ∀ x ∈ acc, vk 20 2 x ∧ (isStr x || isTup x) = true) ⟨l, rfl, fun _ z => nomatch z⟩ ?_ ?_
  · intro d hd acc S ⟨l', e, ha⟩
    subst e
    walk_at "wp"
    refine F54_w hg hgl hT 8 2 l' _ (by omega) fun t l3 ht hs => ⟨l3, rfl, fun x hx => ?_⟩
    rcases List.mem_append.mp hx with hx | hx
    · exact ha x hx
    · rw [List.mem_singleton.mp hx]
      exact ⟨ht, hs⟩
  intro ts S hts ⟨l1, e, ha⟩
  subst e
  rw [iota_len] at hts
  have ht : ∀ x ∈ ts, vk 20 2 x := fun x hx => (ha x hx).1
  walk_at "wp"
  refine o_ixL (by omega) (by omega) fun t0 ht0 _ => ?_
  walk_at "wp"
  refine o_ixL (by omega) (by omega) fun t1 ht1 _ => ?_
  walk_at "wp"
  refine o_ixL (by omega) (by omega) fun t2 ht2 _ => ?_
  walk_at "wp"
  refine o_ixL (by omega) (by omega) fun t1' ht1' _ => ?_
  walk_at "wp"
  refine o_ixL (by omega) (by omega) fun t1'' ht1'' _ => ?_
  walk_at "wp"
  refine take48 hT (by omega) fun v1 l2 v10 v11 => ?_
  walk_at "wp"
  have q : ∀ {t k}, t ∈ ts → 2 ≤ k → vk 20 k t := fun h hk => vk_mono (by omega) hk (ht _ h)
  have sx : ∀ {s : String} {k : Nat}, (Str.ofString s).length ≤ 20 → vk 20 k (.str (Str.ofString s)) := fun h => vk_str h
  refine o_slTv (n := 20) (k := 3) (vk_cons (vk_tup (by simp) (vk_cons (q ht0 (by omega)) (vk_cons (q ht1 (by omega)) vk_nilL))) (vk_cons (vk_tup (by simp) (vk_cons (q ht2 (by omega)) (vk_cons (sx (by decide +kernel)) vk_nilL))) (vk_cons (vk_tup (by simp) (vk_cons (q ht1' (by omega)) (vk_cons (q ht1'' (by omega)) vk_nilL))) vk_nilL))) fun fs hfl hfv => ?_
  replace hfl : fs.length ≤ 3 := hfl
  walk_at "wp"
  refine F53_w hT fun z l3 hz => ?_
  walk_at "wp"
  have hz4 := name_le hz
  refine o_ixT (by omega) (by simp) fun n0 hn0 hq => ?_
  cases hq
  walk_at "wp"
  refine o_ixL (by omega) (by omega) fun t3 ht3 _ => ?_
  walk_at "wp"
  refine o_ixT (by omega) (by simp) fun n1 hn1 hq => ?_
  cases hq
  walk_at "wp"
  refine o_ixL (by omega) (by omega) fun t4 ht4 _ => ?_
  walk_at "wp"
  refine take48 hT (by omega) fun v2 l4 v20 v21 => ?_
  walk_at "wp"
  refine o_ixT (by omega) (by simp; omega) fun n2 hn2 _ => ?_
  walk_at "wp"
  refine o_ixL (by omega) (by omega) fun t0b ht0b _ => ?_
  walk_at "wp"
  have hn2 : vk 20 2 n2 := by
    simp only [List.mem_cons, List.not_mem_nil, or_false] at hn2
    rcases hn2 with rfl | rfl | rfl
    · exact vk_str (by omega)
    · exact sx (by decide +kernel)
    · exact sx (by decide +kernel)
  refine take48 hT (by omega) fun v3 l5 v30 v31 => ?_
  walk_at "wp"
  refine o_slTv (n := 20) (k := 3) (vk_cons (vk_tup (by simp) (vk_cons (vk_str (by omega)) (vk_cons (q ht3 (by omega)) vk_nilL))) (vk_cons (vk_tup (by simp) (vk_cons (sx (by decide +kernel)) (vk_cons (q ht4 (by omega)) vk_nilL))) (vk_cons (vk_tup (by simp) (vk_cons hn2 (vk_cons (q ht0b (by omega)) vk_nilL))) vk_nilL))) fun ps hpl hpv => ?_
  replace hpl : ps.length ≤ 3 := hpl
  walk_at "wp"
  refine o_ixL (by omega) (by omega) fun t5 ht5 _ => ?_
  walk_at "wp"
  refine o_ixL (by omega) (by omega) fun t3b ht3b _ => ?_
  walk_at "wp"
  refine o_ixL (by omega) (by omega) fun t4b ht4b _ => ?_
  walk_at "wp"
  refine o_ixL (by omega) (by omega) fun t5b ht5b _ => ?_
  walk_at "wp"
  refine o_ixL (by omega) (by omega) fun t2b ht2b _ => ?_
  walk_at "wp"
  have hfs : vk 20 4 (.tup fs) := vk_tup (by omega) hfv
  have hL : ∀ x ∈ [t5, .tup [t3b, t4b], .tup fs, .tup [.tup fs, .tup [t5b, t2b]], .tup ps, .tup []], vk 20 6 x :=
    vk_cons (q ht5 (by omega)) (vk_cons (vk_tup (by simp) (vk_cons (q ht3b (by omega)) (vk_cons (q ht4b (by omega)) vk_nilL))) (vk_cons (vk_mono (by omega) (by omega) hfs) (vk_cons (vk_tup (by simp) (vk_cons (vk_mono (by omega) (by omega) hfs) (vk_cons (vk_tup (by simp) (vk_cons (q ht5b (by omega)) (vk_cons (q ht2b (by omega)) vk_nilL))) vk_nilL))) (vk_cons (vk_tup (by omega) (vk_up hpv (by omega) (by omega))) (vk_cons (vk_tup (by simp) vk_nilL) vk_nilL)))))
  refine w_lcY (fun acc S => ∃ l', S = Row l' T ∧ ∀ x ∈ acc, vk 64 7 x) ⟨l5, rfl, vk_nilL⟩ ?_ ?_
  · intro d hd acc S ⟨l', e, hacc⟩
    subst e
    walk_at "wp"
    exact F67_w hT (by omega) (by omega) (hL d hd) fun r l6 hr => ⟨l6, rfl, vk_app hacc (vk_cons hr vk_nilL)⟩
  intro bs S hbl ⟨l6, e, hbv⟩
  subst e
  replace hbl : bs.length = 6 := hbl
  refine o_addLv (n := 64) (k := 7) (vk_up hL (by omega) (by omega)) hbv (by simp; omega) fun xs hxl hxv => ?_
  replace hxl : xs.length = 12 := by rw [hxl, hbl]; rfl
  walk_at "wp"
  refine o_ixL (by omega) (by omega) fun t3c ht3c _ => ?_
  walk_at "wp"
  refine o_ixL (by omega) (by omega) fun t4c ht4c _ => ?_
  walk_at "wp"
  refine o_ixL (by omega) (by omega) fun t5c ht5c _ => ?_
  walk_at "wp"
  refine o_ixL (by omega) (by omega) fun t5d ht5d _ => ?_
  walk_at "wp"
  refine o_ixL (by omega) (by omega) fun t2c ht2c _ => ?_
  walk_at "wp"
  refine o_addLv (n := 64) (k := 7) hxv (vk_cons (vk_tup (by simp) (vk_cons (vk_mono (by omega) (by omega) (ht _ ht3c)) (vk_cons (vk_mono (by omega) (by omega) (ht _ ht4c)) (vk_cons (vk_mono (by omega) (by omega) (ht _ ht5c)) vk_nilL)))) (vk_cons (vk_tup (by simp) (vk_cons (vk_tup (by simp) (vk_cons (vk_mono (by omega) (by omega) (ht _ ht5d)) (vk_cons (vk_mono (by omega) (by omega) (ht _ ht2c)) vk_nilL))) (vk_cons (vk_mono (by omega) (by omega) hfs) vk_nilL))) (vk_cons (vk_lst (by omega) (vk_up hfv (by omega) (by omega))) vk_nilL))) (by simp; omega) fun ys hyl hyv => ?_
  replace hyl : ys.length = 15 := by rw [hyl, hxl]; rfl
  walk_at "wp"
  refine o_slL ?_
  have hul : (cutL ts none (some 3)).length ≤ ts.length := cutL_len
  have hum : ∀ x ∈ cutL ts none (some 3), x ∈ ts := fun x hx => cutL_mem hx
  generalize cutL ts none (some 3) = us at hul hum ⊢
  walk_at "wp"
  refine wS_cut (fun δ S => ∃ x3 x4 x5 x6 x8 x9 x10 x11 x12 x13 ys, δ = [some (.ref 0), some (.tup gs), some (.lst ts), x3, x4, x5, x6, some (.lst ys), x8, x9, x10, x11, x12, x13] ∧ S = Row l6 T ∧ ys.length ≤ 30 ∧ ∀ x ∈ ys, vk 64 7 x) ?_ ?_
  · refine w_inv (I := fun j δ S => ∃ x3 x4 x5 x6 x8 x9 x10 x11 x12 x13 ys, δ = [some (.ref 0), some (.tup gs), some (.lst ts), x3, x4, x5, x6, some (.lst ys), x8, x9, x10, x11, x12, x13] ∧ S = Row l6 T ∧ ys.length ≤ 15 + 2 * j ∧ ∀ x ∈ ys, vk 64 7 x) ⟨_, _, _, _, _, _, _, _, _, _, ys, rfl, rfl, by omega, hyv⟩ ?_ ?_
    · intro j d hd δ S ⟨x3, x4, x5, x6, x8, x9, x10, x11, x12, x13, ys, e1, e2, h1, h2⟩
      subst e1 e2
      have hj : j < us.length := (List.getElem?_eq_some_iff.mp hd).1
      have hdm := ha d (hum d (List.mem_of_getElem? hd))
      walk_at "wp"
      refine o_listV (n := 64) (k := 6) (by omega) (by omega) (vk_mono (by omega) (by omega) hdm.1) hdm.2 fun as has hav => ?_
      walk_at "wp"
      refine o_listV (n := 64) (k := 5) (by omega) (by omega) (vk_mono (by omega) (by omega) hdm.1) hdm.2 fun bs2 hbs hbv2 => ?_
      walk_at "wp"
      refine o_addLv (n := 64) (k := 7) h2 (vk_cons (vk_lst has hav) (vk_cons (vk_tup (by simp) (vk_cons (vk_mono (by omega) (by omega) (sx (s := "x") (k := 0) (by decide +kernel))) (vk_cons (vk_lst hbs hbv2) vk_nilL))) vk_nilL)) (by simp; omega) fun zs hzl hzv => ?_
      exact ⟨x3, x4, x5, x6, x8, _, x10, x11, x12, x13, zs, rfl, rfl, by rw [hzl]; simp; omega, hzv⟩
    · intro δ S ⟨x3, x4, x5, x6, x8, x9, x10, x11, x12, x13, ys, e1, e2, h1, h2⟩
      have h1 : ys.length ≤ 15 + 2 * us.length := h1
      exact ⟨x3, x4, x5, x6, x8, x9, x10, x11, x12, x13, ys, e1, e2, by omega, h2⟩
  intro δ S ⟨x3, x4, x5, x6, x8, x9, x10, x11, x12, x13, ys, e1, e2, h1, h2⟩
  subst e1 e2
  walk_at "wp"
  refine w_lcY (fun acc S => S = Row l6 T ∧ ∀ x ∈ acc, vk 64 5 x) ⟨rfl, vk_nilL⟩ ?_ ?_
  · intro d hd acc S ⟨e, hacc⟩
    subst e
    obtain ⟨j, e, rfl, hj, hj2, he⟩ := enum_mem hd
    refine wO_some rfl ?_
    simp only [List.length_cons, List.length_nil] at hj2
    have hev : vk 64 4 e := by
      simp only [List.mem_cons, List.not_mem_nil, or_false] at he
      rcases he with rfl | rfl | rfl | rfl | rfl | rfl | rfl <;> exact vk_str (by decide +kernel)
    walk_at "wp"
    refine o_ixLn (by omega) (by omega) fun t hm => ?_
    walk_at "wp"
    exact ⟨rfl, vk_app hacc (vk_cons (vk_tup (by simp) (vk_cons hev (vk_cons (vk_mono (by omega) (by omega) (ht t hm)) vk_nilL))) vk_nilL)⟩
  intro ws S hwl ⟨e, hwv⟩
  subst e
  rw [enumF_length] at hwl
  replace hwl : ws.length = 7 := hwl
  walk_at "wp"
  refine o_slTv (n := 64) (k := 5) hwv fun w1 hw1l hw1v => ?_
  refine o_addT (sm6 (by omega)) ?_
  walk_at "wp"
  refine o_addLv (n := 64) (k := 7) h2 (vk_cons (vk_tup (by omega) (vk_up hwv (by omega) (by omega))) (vk_cons (vk_tup (by simp) (vk_cons (vk_tup (by omega) hwv) (vk_cons (vk_tup (by simp) (vk_cons (vk_str (by decide +kernel)) (vk_cons (vk_str (by decide +kernel)) vk_nilL))) vk_nilL))) (vk_cons (vk_tup (by rw [List.length_append]; omega) (vk_app (vk_up hwv (by omega) (by omega)) (vk_up hw1v (by omega) (by omega)))) vk_nilL))) (by simp; omega) fun zs hzl hzv => ?_
  replace hzl : zs.length ≤ 33 := by rw [hzl]; simp; omega
  walk_at "wp"
  refine wS_cut (fun δ S => ∃ x2 x3 x4 x5 x6 x8 x9 x10 x11 x12 x13 ys, δ = [some (.ref 0), some (.tup gs), x2, x3, x4, x5, x6, some (.lst ys), x8, x9, x10, x11, x12, x13] ∧ S = Row l6 T ∧ ys.length ≤ 1000 ∧ ∀ x ∈ ys, vk 64 7 x) ?_ ?_
  · refine w_inv (I := fun j δ S => ∃ x2 x3 x4 x5 x6 x8 x9 x10 x11 x12 x13 ys, δ = [some (.ref 0), some (.tup gs), x2, x3, x4, x5, x6, some (.lst ys), x8, x9, x10, x11, x12, x13] ∧ S = Row l6 T ∧ ys.length ≤ 33 + 2 * j ∧ ∀ x ∈ ys, vk 64 7 x) ⟨_, _, _, _, _, _, _, _, _, _, _, zs, rfl, rfl, by omega, hzv⟩ ?_ ?_
    · intro j d hd δ S ⟨x2, x3, x4, x5, x6, x8, x9, x10, x11, x12, x13, ys, e1, e2, h1, h2⟩
      subst e1 e2
      have hj : j < gs.length := (List.getElem?_eq_some_iff.mp hd).1
      have hdg := hg d (List.mem_of_getElem? hd)
      have hnm := hdg.name
      walk_at "wp"
      refine hdg.ix0 ?_
      walk_at "wp"
      refine hdg.ix0 ?_
      walk_at "wp"
      refine o_addLv (n := 64) (k := 7) h2 (vk_cons (vk_str (by omega)) (vk_cons (vk_tup (by simp) (vk_cons (vk_str (by omega)) vk_nilL)) vk_nilL)) (by simp; omega) fun zs hzl hzv => ?_
      exact ⟨_, _, _, _, _, _, _, _, _, _, _, zs, rfl, rfl, by rw [hzl]; simp; omega, hzv⟩
    · intro δ S ⟨x2, x3, x4, x5, x6, x8, x9, x10, x11, x12, x13, ys, e1, e2, h1, h2⟩
      have h1 : ys.length ≤ 33 + 2 * gs.length := h1
      exact ⟨_, _, _, _, _, _, _, _, _, _, _, ys, e1, e2, by omega, h2⟩
  intro δ S ⟨x2, x3, x4, x5, x6, x8, x9, x10, x11, x12, x13, ys, e1, e2, h1, h2⟩
  subst e1 e2
  walk_at "wp"
  refine o_slLv (n := 64) (k := 7) h2 fun y1 hy1l hy1v => ?_
  walk_at "wp"
  refine o_addLv (n := 64) (k := 7) h2 hy1v (by omega) fun zs hzl hzv => ?_
  walk_at "wp"
  refine ⟨by rw [sizeLine_eq]; show zs.length < _; omega, ?_⟩
  refine w_lcM (f := fun _ => .bl true) rfl (fun d hd => ?_) ?_
  · walk_at "wp"
    have hdv := hzv d hd
    exact wE_eq (F71_eq G.lot (clean_row hT) (vk_pv (big_le (by omega)) hdv) (by have := vk_dp hdv; omega)) ⟨rfl, rfl⟩
  walk_at "wp"
  refine wO_some (fAll_map (fun _ => true) _ _) ?_
  rw [List.all_eq_true.mpr fun _ _ => rfl]
  exact w_finR0 hT rfl (h _)
end QB
set_option maxHeartbeats 4000000
namespace QB
open PySem PySem.Spec PySem.Calls PyProof.Rows L2
local macro_rules | `(tactic| walk_at "wp") => `(tactic| repeat (first
  | with_reducible refine w_cons ?_ | with_reducible refine w_nil ?_
  | ((with_reducible apply w_var); (focus rfl))
  | with_reducible refine w_c ?_ | with_reducible refine w_2 ?_ | with_reducible refine w_f ?_
  | with_reducible refine w_call ?_
  | with_reducible refine w_seq ?_
  | (with_reducible refine w_asg ?_)
  | with_reducible refine w_ret ?_ | with_reducible refine w_expr ?_ | with_reducible refine w_skip ?_ | with_reducible refine w_break ?_
  | with_reducible refine w_bool ?_ | with_reducible refine w_wB ?_ | with_reducible refine w_tru ?_ | with_reducible refine w_tnot ?_ | with_reducible refine w_tand ?_ | with_reducible refine w_tor ?_ | with_reducible refine w_yes ?_
  | with_reducible refine w_ift ?_ | with_reducible refine w_iff ?_ | with_reducible refine w_ifn ?_
  | with_reducible refine w_and ?_ | with_reducible refine w_or ?_ | with_reducible refine w_not ?_ | with_reducible refine w_dif ?_ | with_reducible refine w_chain ?_
  | with_reducible refine o_bl ?_ | with_reducible refine o_non ?_ | with_reducible refine o_addI ?_ | with_reducible refine o_subI ?_ | with_reducible refine o_eqI ?_ | with_reducible refine o_neI ?_ | with_reducible refine o_leI ?_ | with_reducible refine o_ltI ?_ | with_reducible refine o_gtI ?_ | with_reducible refine o_geI ?_
  | with_reducible refine o_lenT ?_ | with_reducible refine o_lenL ?_ | with_reducible refine o_intI ?_ | with_reducible refine o_is1 ?_ | with_reducible refine o_is0 ?_ | with_reducible refine o_isn1 ?_ | with_reducible refine o_isn0 ?_ | with_reducible refine o_neg ?_
  | with_reducible refine o_tupL ?_ | with_reducible refine o_tupT ?_ | with_reducible refine o_listT ?_ | with_reducible refine o_listL ?_
  | with_reducible refine o_gNm ?_
  | with_reducible refine w_tup ?_ | with_reducible refine w_lst ?_ | with_reducible refine w_1 ?_
  | with_reducible refine w_for ?_ | with_reducible refine w_iOf ?_ | with_reducible refine w_iEnum ?_
  | with_reducible refine o_srcT ?_ | with_reducible refine o_srcL ?_ | with_reducible refine o_srcS ?_ | with_reducible refine o_enumT ?_ | with_reducible refine o_enumL ?_
  | with_reducible refine w_sl ?_ | with_reducible refine w_oN ?_ | with_reducible refine w_oS ?_
  | with_reducible refine w_lc ?_ | with_reducible refine w_callD ?_ | with_reducible refine w_callK ?_ | with_reducible refine w_callS ?_ | with_reducible refine w_callS0 ?_ | with_reducible refine w_lstC ?_
  | ((with_reducible refine And.intro (sm ?_) ?_); (focus (simp [enumF]; done)))
  | with_reducible refine ⟨_, rfl, ?_⟩))
local macro_rules | `(tactic| walk_at "wi") => `(tactic| ((with_reducible refine w_sif ?_); walk_at "wp"))
local macro_rules | `(tactic| walk_at "vk") => `(tactic| repeat' (first | assumption | exact vk_nilL | refine vk_cons ?_ ?_ | refine vk_app ?_ ?_ | exact vk_int | exact vk_bl | exact vk_non | exact vk_str (by decide +kernel) | refine vk_tup (by simp) ?_ | refine vk_lst (by simp) ?_))
/-! deep terms -/
theorem flat_rep {α : Type} {a : α} : ∀ k : Nat, (List.replicate k [a]).flatten = List.replicate k a
  | 0 => rfl
  | k + 1 => by rw [List.replicate_succ, List.flatten_cons, flat_rep k, List.replicate_succ]; rfl
theorem mul_tup {a : D} {k : Nat} {S : Sto} (hk : k ≤ 1000) : bMulX (.tup [a]) (.int k) S = some (.tup (List.replicate k a)) := by
  have hI : bMulI (.tup [a]) (.int k) S = none := rfl
  by_cases h2 : 2 ≤ k
  · refine orB_some ?_
    unfold bMul
    rw [hI]
    show (if [a] ≠ [] ∧ (2 : Int) ≤ k ∧ (k : Int) ≤ 1000 ∧ [a].length ≤ 1000 then some (D.tup (List.replicate (k : Int).toNat [a]).flatten) else none) = _
    rw [if_pos ⟨by simp, by omega, by omega, by simp⟩, flat_rep]
    rfl
  · have h3 : bMul (.tup [a]) (.int k) S = none := by
      unfold bMul
      rw [hI]
      show (if [a] ≠ [] ∧ (2 : Int) ≤ k ∧ (k : Int) ≤ 1000 ∧ [a].length ≤ 1000 then some (D.tup (List.replicate (k : Int).toNat [a]).flatten) else none) = _
      rw [if_neg (by omega)]
    refine orB_none h3 (orB_some ?_)
    show (if -1000 ≤ (k : Int) ∧ (k : Int) ≤ 1 then _ else none) = _
    rw [if_pos (by omega)]
    have : k = 0 ∨ k = 1 := by omega
    rcases this with rfl | rfl <;> rfl
/-- a term of the lot, t deep -/
structure TmD (gs : List D) (t : Nat) (d : D) : Prop where
  p : pv d = true
  tm : termD gs d = true
  dp : dpt d = t
theorem dpts_le {m : Nat} {xs : List D} (h : ∀ x ∈ xs, dpt x ≤ m) : dpts xs ≤ m := by
  induction xs with
  | nil => rw [dpts]; omega
  | cons x xs ih =>
    rw [dpts]
    have h1 := h x List.mem_cons_self
    have h2 := ih fun y hy => h y (List.mem_cons_of_mem _ hy)
    omega
theorem dpts_ge {xs : List D} {x : D} (h : x ∈ xs) : dpt x ≤ dpts xs := by
  induction xs with
  | nil => cases h
  | cons y xs ih =>
    rw [dpts]
    rcases List.mem_cons.mp h with rfl | h
    · omega
    · have := ih h
      omega
theorem TmD.mk' {gs : List D} {t : Nat} {g d : D} {xs : List D} (hn : (gs.map gname).Nodup) (hg : g ∈ gs) (hgg : GG g) (hl : xs.length = inp g) (hd : d ∈ xs) (ht : TmD gs t d) (ho : ∀ x ∈ xs, pv x = true ∧ termD gs x = true ∧ dpt x ≤ t) : TmD gs (t + 1) (.tup (.str (gname g) :: xs)) := by
  refine ⟨?_, ?_, ?_⟩
  · refine pv_tup.mpr ⟨?_, pvs_mem.mpr fun x hx => ?_⟩
    · have := hgg.inp5
      rw [List.length_cons, hl]
      unfold BIG; omega
    · rcases List.mem_cons.mp hx with rfl | hx
      · exact pv_str.mpr (by have := hgg.name; unfold BIG; omega)
      · exact (ho x hx).1
  · rw [termD, findG_of hn hg]
    show (decide (xs.length = inp g) && termDs gs xs) = true
    rw [decide_eq_true hl, Bool.true_and, termDs_all]
    exact List.all_eq_true.mpr fun x hx => (ho x hx).2.1
  · cases xs with
    | nil => cases hd
    | cons y ys =>
      rw [dpt_one]
      have h1 := dpts_le (m := t) fun x hx => (ho x hx).2.2
      have h2 := dpts_ge hd
      rw [ht.dp] at h2
      omega
theorem F73_w {S : Sto} {gs : List D} {g : D} {Q : D → Sto → Prop} {X : XP} (hS : Clean S) (G : Good gs) (hgm : g ∈ gs) (hi : 1 ≤ inp g) (h : Q (.bl true) S) : wE (F73 [.tup gs, g] S) Q X := by
  have hg := G.lot.1
  have hgl := G.lot.2.2
  have hgg := hg g hgm
  have hi5 := hgg.inp5
  rw [F73]
  refine w_def (by rfl) ?_
  walk_at "wp"
  refine wE_eq (F52_eq hS hgg) ?_
  walk_at "wp"
  rw [show (inp g : Int) - 1 = ((inp g - 1 : Nat) : Int) by omega]
  refine wO_some (mul_tup (by omega)) ?_
  walk_at "wp"
  refine ⟨sm6 (by show gs.length + 1 ≤ _; omega), ?_⟩
  refine w_lcI (fun acc S' => S' = S ∧ ∀ x ∈ acc, TmD gs 0 x) ⟨rfl, fun _ z => nomatch z⟩ ?_ ?_
  · intro o ho acc S' ⟨e, hacc⟩
    subst e
    have hoo := hg o ho
    walk_at "wp"
    refine wE_eq (F52_eq hS hoo) ?_
    walk_at "wp"
    refine w_ifd (fun h0 => ?_) fun h0 => ⟨rfl, hacc⟩
    walk_at "wp"
    refine hoo.ix0 ?_
    walk_at "wp"
    refine ⟨rfl, fun x hx => ?_⟩
    rcases List.mem_append.mp hx with hx | hx
    · exact hacc x hx
    · rw [List.mem_singleton.mp hx]
      refine ⟨pv_tup.mpr ⟨by simp [BIG], pvs_mem.mpr fun y hy => ?_⟩, ?_, rfl⟩
      · rw [List.mem_singleton.mp hy]
        exact pv_str.mpr (by have := hoo.name; unfold BIG; omega)
      · rw [termD, findG_of G.lot.2.1 ho]
        show (decide (0 = inp o) && termDs gs []) = true
        rw [decide_eq_true (by omega)]
        rfl
  intro zs S' ⟨e, hzs⟩
  subst e
  walk_at "wp"
  refine o_slL ?_
  have e1 : cutL zs none (some 1) = zs.take 1 := cut_to (n := 1)
  rw [e1]
  refine o_addL (sm6 (by rw [List.length_take]; simp; omega)) ?_
  have hst : ∀ x ∈ [D.str (Str.ofString "x")] ++ zs.take 1, TmD gs 0 x := fun x hx => by
    rcases List.mem_append.mp hx with hx | hx
    · rw [List.mem_singleton.mp hx]
      exact ⟨by decide +kernel, by rw [termD]; decide +kernel, rfl⟩
    · exact hzs x (List.mem_of_mem_take hx)
  generalize [D.str (Str.ofString "x")] ++ zs.take 1 = sts at hst ⊢
  generalize hrest : List.replicate (inp g - 1) (D.str (Str.ofString "y2")) = rest
  have hrl : rest.length = inp g - 1 := by rw [← hrest, List.length_replicate]
  have hro : ∀ t, ∀ x ∈ rest, pv x = true ∧ termD gs x = true ∧ dpt x ≤ t := fun t x hx => by
    rw [← hrest] at hx
    rw [List.eq_of_mem_replicate hx]
    exact ⟨by decide +kernel, by rw [termD]; decide +kernel, Nat.zero_le _⟩
  walk_at "wp"
  refine w_inv (I := fun j δ S1 => ∃ x3 x4 x5 x6 x7, δ = [some (.tup gs), some g, some (.tup rest), x3, x4, x5, x6, x7] ∧ S1 = S') ⟨_, _, _, _, _, rfl, rfl⟩ ?_ ?_
  · intro j st hst2 δ S1 ⟨x3, x4, x5, x6, x7, e1, e2⟩
    subst e1 e2
    have hs0 := hst st (List.mem_of_getElem? hst2)
    walk_at "wp"
    refine w_range (n := 101) (by omega) ?_
    walk_at "wp"
    refine ⟨rfl, ?_⟩
    refine w_inv (I := fun t δ S2 => ∃ f la x7, δ = [some (.tup gs), some g, some (.tup rest), some st, x4, some f, some la, x7] ∧ S2 = S1 ∧ TmD gs t f ∧ TmD gs t la) ⟨st, st, _, rfl, rfl, hs0, hs0⟩ ?_ ?_
    · intro t d hd δ S2 ⟨f, la, x7, e1, e2, hf, hla⟩
      subst e1 e2
      obtain ⟨ht, rfl⟩ := iota_get hd
      have k1 : F35 [.tup gs, f] S2 = .ok (.bl true) S2 := by
        rw [F35_at G.lot hS hf.p, hf.tm, hf.dp, decide_eq_true (by omega)]; rfl
      have k2 : F35 [.tup gs, la] S2 = .ok (.bl true) S2 := by
        rw [F35_at G.lot hS hla.p, hla.tm, hla.dp, decide_eq_true (by omega)]; rfl
      walk_at "wp"
      refine wS_cut (fun δ S3 => δ = [some (.tup gs), some g, some (.tup rest), some st, x4, some f, some la, some (.int t)] ∧ S3 = S2) ?_ ?_
      · walk_at "wi"
        refine w_ifd (fun h100 => ?_) fun h100 => ?_
        · walk_at "wp"
          refine wE_eq k1 ?_
          walk_at "wp"
          refine wE_eq k2 ?_
          walk_at "wp"
          exact ⟨rfl, rfl⟩
        · walk_at "wp"
          exact ⟨rfl, rfl⟩
      intro δ S3 ⟨e1, e2⟩
      subst e1 e2
      walk_at "wp"
      refine hgg.ix0 ?_
      walk_at "wp"
      refine o_addT (sm6 (by rw [hrl]; simp; omega)) ?_
      walk_at "wp"
      refine hgg.ix0 ?_
      walk_at "wp"
      refine o_addT (sm6 (by rw [hrl]; simp; omega)) ?_
      walk_at "wp"
      refine o_addT (sm6 (by rw [List.length_append, hrl]; simp; omega)) ?_
      refine ⟨_, _, _, rfl, rfl, ?_, ?_⟩
      · refine TmD.mk' (d := f) (xs := f :: rest) G.lot.2.1 hgm hgg (by rw [List.length_cons, hrl]; omega) List.mem_cons_self hf fun x hx => ?_
        rcases List.mem_cons.mp hx with rfl | hx
        · exact ⟨hf.p, hf.tm, by rw [hf.dp]; omega⟩
        · exact hro t x hx
      · refine TmD.mk' (d := la) (xs := rest ++ [la]) G.lot.2.1 hgm hgg (by rw [List.length_append, hrl]; simp; omega) (by simp) hla fun x hx => ?_
        rcases List.mem_append.mp hx with hx | hx
        · exact hro t x hx
        · rw [List.mem_singleton.mp hx]
          exact ⟨hla.p, hla.tm, by rw [hla.dp]; omega⟩
    · intro δ S2 ⟨f, la, x7, e1, e2, hf, hla⟩
      subst e1 e2
      rw [iota_len] at hf hla
      have k1 : F35 [.tup gs, f] S2 = .ok (.bl false) S2 := by
        rw [F35_at G.lot hS hf.p, hf.tm, hf.dp]; rfl
      have k2 : F35 [.tup gs, la] S2 = .ok (.bl false) S2 := by
        rw [F35_at G.lot hS hla.p, hla.tm, hla.dp]; rfl
      walk_at "wi"
      refine wE_eq k1 ?_
      walk_at "wp"
      refine wE_eq k2 ?_
      walk_at "wp"
      exact ⟨_, _, _, _, _, rfl, rfl⟩
  · intro δ S1 ⟨x3, x4, x5, x6, x7, e1, e2⟩
    subst e1 e2
    walk_at "wp"
    exact w_fin0 hS rfl h
end QB
set_option maxHeartbeats 4000000
namespace QB
open PySem PySem.Spec PySem.Calls PyProof.Rows L2
local macro_rules | `(tactic| walk_at "wp") => `(tactic| repeat (first
  | with_reducible refine w_cons ?_ | with_reducible refine w_nil ?_
  | ((with_reducible apply w_var); (focus rfl))
  | with_reducible refine w_c ?_ | with_reducible refine w_2 ?_ | with_reducible refine w_f ?_
  | with_reducible refine w_call ?_
  | with_reducible refine w_seq ?_
  | (with_reducible refine w_asg ?_)
  | with_reducible refine w_ret ?_ | with_reducible refine w_expr ?_ | with_reducible refine w_skip ?_ | with_reducible refine w_break ?_
  | with_reducible refine w_bool ?_ | with_reducible refine w_wB ?_ | with_reducible refine w_tru ?_ | with_reducible refine w_tnot ?_ | with_reducible refine w_tand ?_ | with_reducible refine w_tor ?_ | with_reducible refine w_yes ?_
  | with_reducible refine w_ift ?_ | with_reducible refine w_iff ?_ | with_reducible refine w_ifn ?_
  | with_reducible refine w_and ?_ | with_reducible refine w_or ?_ | with_reducible refine w_not ?_ | with_reducible refine w_dif ?_ | with_reducible refine w_chain ?_
  | with_reducible refine o_bl ?_ | with_reducible refine o_non ?_ | with_reducible refine o_addI ?_ | with_reducible refine o_subI ?_ | with_reducible refine o_eqI ?_ | with_reducible refine o_neI ?_ | with_reducible refine o_leI ?_ | with_reducible refine o_ltI ?_ | with_reducible refine o_gtI ?_ | with_reducible refine o_geI ?_
  | with_reducible refine o_lenT ?_ | with_reducible refine o_lenL ?_ | with_reducible refine o_intI ?_ | with_reducible refine o_is1 ?_ | with_reducible refine o_is0 ?_ | with_reducible refine o_isn1 ?_ | with_reducible refine o_isn0 ?_ | with_reducible refine o_neg ?_
  | with_reducible refine o_tupL ?_ | with_reducible refine o_tupT ?_ | with_reducible refine o_listT ?_ | with_reducible refine o_listL ?_
  | with_reducible refine o_gNm ?_
  | with_reducible refine w_tup ?_ | with_reducible refine w_lst ?_ | with_reducible refine w_1 ?_
  | with_reducible refine w_for ?_ | with_reducible refine w_iOf ?_ | with_reducible refine w_iEnum ?_
  | with_reducible refine o_srcT ?_ | with_reducible refine o_srcL ?_ | with_reducible refine o_srcS ?_ | with_reducible refine o_enumT ?_ | with_reducible refine o_enumL ?_
  | with_reducible refine w_sl ?_ | with_reducible refine w_oN ?_ | with_reducible refine w_oS ?_
  | with_reducible refine w_lc ?_ | with_reducible refine w_callD ?_ | with_reducible refine w_callK ?_ | with_reducible refine w_callS ?_ | with_reducible refine w_callS0 ?_ | with_reducible refine w_lstC ?_
  | ((with_reducible refine And.intro (sm ?_) ?_); (focus (simp [enumF]; done)))
  | with_reducible refine ⟨_, rfl, ?_⟩))
local macro_rules | `(tactic| walk_at "wi") => `(tactic| ((with_reducible refine w_sif ?_); walk_at "wp"))
local macro_rules | `(tactic| walk_at "vk") => `(tactic| repeat' (first | assumption | exact vk_nilL | refine vk_cons ?_ ?_ | refine vk_app ?_ ?_ | exact vk_int | exact vk_bl | exact vk_non | exact vk_str (by decide +kernel) | refine vk_tup (by simp) ?_ | refine vk_lst (by simp) ?_))
/-! equality of data -/
def EqOk (k : Nat) (d : D) : Prop := ∃ p, toPy d = some p ∧ p.canLay0 = true ∧ p.depth ≤ k
theorem eqOk_list {k : Nat} : ∀ {xs : List D}, (∀ x ∈ xs, EqOk k x) → ∃ ps, toPys xs = some ps ∧ PyData.canLayAll0 ps = true ∧ PyData.depthAll ps ≤ k
  | [], _ => ⟨[], rfl, rfl, by rw [PyData.depthAll]; omega⟩
  | x :: xs, h => by
    obtain ⟨p, h1, h2, h3⟩ := h x List.mem_cons_self
    obtain ⟨ps, h4, h5, h6⟩ := eqOk_list fun y hy => h y (List.mem_cons_of_mem _ hy)
    refine ⟨p :: ps, ?_, ?_, ?_⟩
    · rw [toPys, h1, h4]
    · rw [PyData.canLayAll0, h2, h5]; rfl
    · rw [PyData.depthAll]; omega
theorem eqOk_tup {k : Nat} {xs : List D} (h : ∀ x ∈ xs, EqOk k x) : EqOk (k + 1) (.tup xs) := by
  obtain ⟨ps, h1, h2, h3⟩ := eqOk_list h
  exact ⟨.tuple ps, by rw [toPy, h1]; rfl, by rw [PyData.canLay0]; exact h2, by rw [PyData.depth]; omega⟩
theorem eqOk_lst {k : Nat} {xs : List D} (h : ∀ x ∈ xs, EqOk k x) : EqOk (k + 1) (.lst xs) := by
  obtain ⟨ps, h1, h2, h3⟩ := eqOk_list h
  exact ⟨.list ps, by rw [toPy, h1]; rfl, by rw [PyData.canLay0]; exact h2, by rw [PyData.depth]; omega⟩
theorem eqOk_int {k : Nat} {i : Int} : EqOk k (.int i) := ⟨.int i, rfl, rfl, by rw [PyData.depth]; omega⟩
theorem l26_small : ∀ c ∈ L26, c < 128 := by decide +kernel
theorem eqOk_word {k : Nat} {w : Str} (h : wordL w.cps.toList = true) : EqOk k (.str w) := by
  refine ⟨.str w, rfl, ?_, by rw [PyData.depth]; omega⟩
  rw [PyData.canLay0]
  unfold PyData.strOk
  unfold wordL at h
  simp only [Bool.and_eq_true, List.all_eq_true, decide_eq_true_eq] at h
  rw [Array.all_eq_true_iff_forall_mem]
  intro c hc
  have := l26_small c (h.2 c (by simpa using hc))
  exact decide_eq_true (by omega)
theorem bEqD_self {k : Nat} {d : D} {S : Sto} {f : Bool → Bool} (h : EqOk k d) (hk : k ≤ 64) (hs : toPyS d S = toPy d) : bEqD f d d S = some (.bl (f true)) := by
  obtain ⟨p, h1, h2, h3⟩ := h
  unfold bEqD
  rw [hs, h1]
  simp only
  have : SeqAt.shaped p = true := by
    unfold SeqAt.shaped
    rw [h2, decide_eq_true (by omega)]; rfl
  rw [this, SeqAt.eqv_refl p h2]
  rfl
theorem o_eqSelfT {k : Nat} {xs : List D} {S : Sto} {P : D → Prop} (h : EqOk k (.tup xs)) (hk : k ≤ 64) (q : P (.bl true)) : wO (bEq (.tup xs) (.tup xs) S) P := wO_some (orB_none rfl (bEqD_self h hk rfl)) q
theorem o_neSelfT {k : Nat} {xs : List D} {S : Sto} {P : D → Prop} (h : EqOk k (.tup xs)) (hk : k ≤ 64) (q : P (.bl false)) : wO (bNe (.tup xs) (.tup xs) S) P := wO_some (orB_none rfl (bEqD_self h hk rfl)) q
theorem o_neSelfL {k : Nat} {xs : List D} {S : Sto} {P : D → Prop} (h : EqOk k (.lst xs)) (hk : k ≤ 64) (q : P (.bl false)) : wO (bNe (.lst xs) (.lst xs) S) P := wO_some (orB_none rfl (bEqD_self h hk rfl)) q
theorem GG.eqOk {g : D} (h : GG g) : EqOk 2 g := by
  obtain ⟨w, r, rfl, h1, h2, h3⟩ := h.ex
  refine eqOk_tup fun x hx => ?_
  simp only [List.mem_cons, List.not_mem_nil, or_false] at hx
  rcases hx with rfl | rfl
  · exact eqOk_word h1
  · refine eqOk_tup fun x hx => ?_
    have := List.all_eq_true.mp h3 x hx
    cases x <;> first | exact eqOk_int | cases this
/-! the first wrong gate -/
def madeF : List D → Nat → List Str → Option Nat
  | [], _, _ => none
  | d :: r, i, seen => match gateF d (Str.ofString "") with
    | some _ => some i
    | none => if gname d ∈ seen then some i else madeF r (i + 1) (seen ++ [gname d])
theorem gateF_gg {d : D} {a : Str} (h : gateF d a = none) : GG d := by
  obtain ⟨w, r, rfl, h1, h2, h3⟩ := gateF_none h
  cases r <;> simp [rowsD] at h3
  exact ⟨w, _, rfl, h1, h3.1, by simpa using h3.2⟩
theorem madeF_none : ∀ {gs : List D} {i : Nat} {seen : List Str}, seen.Nodup → madeF gs i seen = none → (∀ g ∈ gs, GG g) ∧ (seen ++ gs.map gname).Nodup
  | [], _, _, hn, _ => ⟨fun _ z => (nomatch z), by simpa using hn⟩
  | d :: r, i, seen, hn, h => by
    rw [madeF] at h
    split at h
    · cases h
    · rename_i hg
      split at h
      · cases h
      · rename_i hs
        have h2 : (seen ++ [gname d]).Nodup := List.nodup_append.mpr ⟨hn, by simp, by
          intro a ha b hb z
          rw [List.mem_singleton.mp hb] at z
          subst z
          exact hs ha⟩
        obtain ⟨h3, h4⟩ := madeF_none h2 h
        refine ⟨fun g hgm => ?_, by rw [List.map_cons]; simpa using h4⟩
        rcases List.mem_cons.mp hgm with rfl | hgm
        · exact gateF_gg hg
        · exact h3 g hgm
theorem madeF_GL {gs : List D} (h : madeF gs 0 [] = none) : GL gs := by
  obtain ⟨h1, h2⟩ := madeF_none List.nodup_nil h
  exact ⟨h1, by simpa using h2⟩
theorem madeF_lt : ∀ {gs : List D} {i j : Nat} {seen : List Str}, madeF gs i seen = some j → j < i + gs.length
  | [], _, _, _, h => by cases h
  | d :: r, i, j, seen, h => by
    rw [madeF] at h
    rw [List.length_cons]
    split at h
    · cases h; omega
    · split at h
      · cases h; omega
      · have := madeF_lt h
        omega
theorem enumF_get : ∀ {xs : List D} {i j : Nat} {d : D}, (enumF i xs)[j]? = some d → ∃ e, xs[j]? = some e ∧ d = .tup [.int ((i + j : Nat) : Int), e]
  | [], _, _, _, h => by rw [enumF] at h; cases h
  | x :: xs, i, 0, d, h => by
    rw [enumF] at h
    cases h
    exact ⟨x, rfl, rfl⟩
  | x :: xs, i, j + 1, d, h => by
    rw [enumF] at h
    obtain ⟨e, h1, h2⟩ := enumF_get (by simpa using h)
    exact ⟨e, by simpa using h1, by rw [h2, show i + 1 + j = i + (j + 1) by omega]⟩
/-! sorted -/
theorem key0_gg {g : D} (h : GG g) : key0 g = some (gname g) := by
  obtain ⟨w, r, rfl, _⟩ := h.ex
  rfl
theorem key0s_gg : ∀ {gs : List D}, (∀ g ∈ gs, GG g) → key0s gs = true
  | [], _ => rfl
  | g :: gs, h => by
    rw [key0s, key0_gg (h g List.mem_cons_self), key0s_gg fun x hx => h x (List.mem_cons_of_mem _ hx)]
    rfl
theorem w_sort0 {ta : DE} {δ : Sl} {S : Sto} {Q : D → Sto → Prop} {X : XP} (h : wE (ta δ S) (fun d S1 => wO (getL d S1) fun gs => (∀ g ∈ gs, GG g) ∧ gs.length ≤ 1000 ∧ Q (.lst (sort0 gs)) S1) X) : wE (dSort0 ta δ S) Q X := by
  refine wE_bind (wE_q h fun d S1 h => ?_)
  obtain ⟨gs, e, h1, h2, q⟩ := wO_get h
  simp only [e]
  rw [if_pos ⟨key0s_gg h1, sm6 (by omega)⟩]
  exact wE_ok q
theorem sort0_perm (gs : List D) : (sort0 gs).Perm gs := List.mergeSort_perm gs le0
theorem sort0_GL {gs : List D} (h : GL gs) : GL (sort0 gs) := ⟨fun g hg => h.gg g ((sort0_perm gs).mem_iff.mp hg), ((sort0_perm gs).map gname).nodup_iff.mpr h.nd⟩
theorem sort0_len (gs : List D) : (sort0 gs).length = gs.length := (sort0_perm gs).length_eq
theorem GL.good {gs : List D} (h : GL gs) (hl : gs.length ≤ 100) : Good gs := ⟨⟨h.gg, h.nd, hl⟩, fun g hg => (h.gg g hg).pv⟩
/-- sorted gates are a lot without a fault -/
theorem lotF_sorted : ∀ {gs : List D} {i : Nat} {a : Str}, (∀ g ∈ gs, GG g) → (∀ g ∈ gs, strLe (gname g) a = false) → (gs.Pairwise fun x y => strLe (gname y) (gname x) = false) → lotF gs i a = none
  | [], _, _, _, _, _ => rfl
  | g :: gs, i, a, hg, ha, hp => by
    have h1 : gateF g a = none := by
      obtain ⟨w, r, rfl, h1, h2, h3⟩ := (hg g List.mem_cons_self).ex
      have hw := ha _ List.mem_cons_self
      unfold gateF
      simp only
      rw [if_pos h1, if_neg (by rw [show strLe w a = false from hw]; simp), if_pos]
      show (isRows r.length && r.all bitD) = true
      rw [h2, h3]; rfl
    rw [lotF, h1]
    cases hp with
    | cons h2 h3 => exact lotF_sorted (fun x hx => hg x (List.mem_cons_of_mem _ hx)) h2 h3
theorem le0_gg {a b : D} (ha : GG a) (hb : GG b) : le0 a b = decide ((gname a).cps.toList ≤ (gname b).cps.toList) := by
  unfold le0 key0D
  rw [key0_gg ha, key0_gg hb]
  rfl
theorem str_ext {a b : Str} (h : a.cps.toList = b.cps.toList) : a = b := by
  cases a; cases b
  congr 1
  exact Array.toList_inj.mp h
theorem sort0_lot {gs : List D} (h : GL gs) : lotF (sort0 gs) 0 (Str.ofString "") = none := by
  have hs := sort0_GL h
  refine lotF_sorted hs.gg (fun g hg => ?_) ?_
  · obtain ⟨w, r, rfl, h1, _⟩ := (hs.gg g hg).ex
    show strLe w _ = false
    unfold strLe
    have : (Str.ofString "").cps.toList = [] := by decide
    rw [this]
    have hne : w.cps.toList ≠ [] := by
      intro z
      rw [z] at h1
      cases h1
    cases hw : w.cps.toList with
    | nil => exact (hne hw).elim
    | cons c r => simp
  · have hp : (sort0 gs).Pairwise fun x y => le0 x y = true := by
      refine List.pairwise_mergeSort (le := le0) ?_ ?_ gs
      · intro a b c h1 h2
        unfold le0 at *
        exact decide_eq_true (List.le_trans (of_decide_eq_true h1) (of_decide_eq_true h2))
      · intro a b
        unfold le0
        rcases List.le_total (key0D a).cps.toList (key0D b).cps.toList with h | h
        · rw [decide_eq_true h]; rfl
        · rw [decide_eq_true h, Bool.or_true]
    have hn := List.pairwise_map.mp hs.nd
    refine (hp.and hn).imp_of_mem fun {x y} hx hy ⟨h1, h2⟩ => ?_
    rw [le0_gg (hs.gg x hx) (hs.gg y hy)] at h1
    have h1 := of_decide_eq_true h1
    unfold strLe
    have hlt : (gname x).cps.toList < (gname y).cps.toList := by
      by_cases h : (gname x).cps.toList < (gname y).cps.toList
      · exact h
      · exact (h2 (str_ext (List.le_antisymm h1 (List.not_lt.mp h)))).elim
    rw [decide_eq_true hlt]
    rfl
end QB
set_option maxHeartbeats 4000000
namespace QB
open PySem PySem.Spec PySem.Calls PyProof.Rows L2
local macro_rules | `(tactic| walk_at "wp") => `(tactic| repeat (first
  | with_reducible refine w_cons ?_ | with_reducible refine w_nil ?_
  | ((with_reducible apply w_var); (focus rfl))
  | with_reducible refine w_c ?_ | with_reducible refine w_2 ?_ | with_reducible refine w_f ?_
  | with_reducible refine w_call ?_
  | with_reducible refine w_seq ?_
  | (with_reducible refine w_asg ?_)
  | with_reducible refine w_ret ?_ | with_reducible refine w_expr ?_ | with_reducible refine w_skip ?_ | with_reducible refine w_break ?_
  | with_reducible refine w_bool ?_ | with_reducible refine w_wB ?_ | with_reducible refine w_tru ?_ | with_reducible refine w_tnot ?_ | with_reducible refine w_tand ?_ | with_reducible refine w_tor ?_ | with_reducible refine w_yes ?_
  | with_reducible refine w_ift ?_ | with_reducible refine w_iff ?_ | with_reducible refine w_ifn ?_
  | with_reducible refine w_and ?_ | with_reducible refine w_or ?_ | with_reducible refine w_not ?_ | with_reducible refine w_dif ?_ | with_reducible refine w_chain ?_
  | with_reducible refine o_bl ?_ | with_reducible refine o_non ?_ | with_reducible refine o_addI ?_ | with_reducible refine o_subI ?_ | with_reducible refine o_eqI ?_ | with_reducible refine o_neI ?_ | with_reducible refine o_leI ?_ | with_reducible refine o_ltI ?_ | with_reducible refine o_gtI ?_ | with_reducible refine o_geI ?_
  | with_reducible refine o_lenT ?_ | with_reducible refine o_lenL ?_ | with_reducible refine o_intI ?_ | with_reducible refine o_is1 ?_ | with_reducible refine o_is0 ?_ | with_reducible refine o_isn1 ?_ | with_reducible refine o_isn0 ?_ | with_reducible refine o_neg ?_
  | with_reducible refine o_tupL ?_ | with_reducible refine o_tupT ?_ | with_reducible refine o_listT ?_ | with_reducible refine o_listL ?_
  | with_reducible refine o_gNm ?_
  | with_reducible refine w_tup ?_ | with_reducible refine w_lst ?_ | with_reducible refine w_1 ?_
  | with_reducible refine w_for ?_ | with_reducible refine w_iOf ?_ | with_reducible refine w_iEnum ?_
  | with_reducible refine o_srcT ?_ | with_reducible refine o_srcL ?_ | with_reducible refine o_srcS ?_ | with_reducible refine o_enumT ?_ | with_reducible refine o_enumL ?_
  | with_reducible refine w_sl ?_ | with_reducible refine w_oN ?_ | with_reducible refine w_oS ?_
  | with_reducible refine w_lc ?_ | with_reducible refine w_callD ?_ | with_reducible refine w_callK ?_ | with_reducible refine w_callS ?_ | with_reducible refine w_callS0 ?_ | with_reducible refine w_lstC ?_
  | ((with_reducible refine And.intro (sm ?_) ?_); (focus (simp [enumF]; done)))
  | with_reducible refine ⟨_, rfl, ?_⟩))
local macro_rules | `(tactic| walk_at "wi") => `(tactic| ((with_reducible refine w_sif ?_); walk_at "wp"))
local macro_rules | `(tactic| walk_at "vk") => `(tactic| repeat' (first | assumption | exact vk_nilL | refine vk_cons ?_ ?_ | refine vk_app ?_ ?_ | exact vk_int | exact vk_bl | exact vk_non | exact vk_str (by decide +kernel) | refine vk_tup (by simp) ?_ | refine vk_lst (by simp) ?_))
/-! gates told: what the law awaits -/
theorem o_f59 {d : D} {a : Str} {S : Sto} {Q : D → Sto → Prop} {X : XP} (hS : Clean S) (hd : pv d = true) (h : Q (ofF2 (gateF d a)) S) : wE (F59 [d, .str a] S) Q X := wE_eq (F59_eq hS hd) h
theorem in_row {l : List Int} {Ts : Sto} {seen : List Str} {w : Str} {f : Bool → Bool} : bIn f (.str w) (.ref (Ts.length + 1)) (Row l (Ts ++ [.lst (seen.map .str)])) = some (.bl (f (decide (w ∈ seen)))) := in_cellL (S := Row l Ts)
theorem pv_mem {gs : List D} {j : Nat} {e : D} (h : ∀ g ∈ gs, pv g = true) (he : gs[j]? = some e) : pv e = true := h e (List.mem_of_getElem? he)
theorem drop_get {α : Type} {xs : List α} {j : Nat} {e : α} (h : xs[j]? = some e) : xs.drop j = e :: xs.drop (j + 1) := by
  obtain ⟨hj, rfl⟩ := List.getElem?_eq_some_iff.mp h
  rw [List.getElem_cons_drop]
theorem take_get {α : Type} {xs : List α} {j : Nat} {e : α} (h : xs[j]? = some e) : xs.take (j + 1) = xs.take j ++ [e] := by
  obtain ⟨hj, rfl⟩ := List.getElem?_eq_some_iff.mp h
  exact List.take_succ_eq_append_getElem hj
def gatesX (i : Nat) : D := .tup [.bl false, .str (Str.ofString "gates"), .int (i : Nat)]
/-- a list, or the cell of one -/
def HL (x : D) (T : Sto) (gs : List D) : Prop := x = .lst gs ∨ ∃ T1 T2, T = T1 ++ Ob.lst gs :: T2 ∧ x = .ref (T1.length + 1)
section
variable {x : D} {T U : Sto} {gs : List D} {l : List Int}
theorem cell_in {T1 T2 : Sto} : (Row l ((T1 ++ Ob.lst gs :: T2) ++ U))[T1.length + 1]? = some (Ob.lst gs) := by
  show ((T1 ++ Ob.lst gs :: T2) ++ U)[T1.length]? = _
  simp
theorem HL.getL (h : HL x T gs) : QB.getL x (Row l (T ++ U)) = some gs := by
  rcases h with rfl | ⟨T1, T2, rfl, rfl⟩
  · rfl
  · unfold QB.getL
    simp only [cell_in]
theorem HL.getQ (h : HL x T gs) : QB.getQ x (Row l (T ++ U)) = some gs := by
  rcases h with rfl | ⟨T1, T2, rfl, rfl⟩
  · rfl
  · unfold QB.getQ
    simp only [cell_in]
theorem HL.len (h : HL x T gs) : fLen [x] (Row l (T ++ U)) = some (.int (gs.length : Nat)) := by
  have hq := h.getQ (l := l) (U := U)
  rcases h with rfl | ⟨T1, T2, rfl, rfl⟩
  · rfl
  · unfold fLen lenD
    simp only [hq]
    rfl
theorem HL.ix (h : HL x T gs) {i : Int} {d : D} (hd : atI gs i = some d) : bIx x (.int i) (Row l (T ++ U)) = some d := by
  refine orB_some ?_
  unfold bIxQ
  rw [h.getQ]
  exact hd
theorem HL.enum (h : HL x T gs) : ∃ gd, enumOf x (Row l (T ++ U)) = some ⟨enumF 0 gs, gd⟩ ∧ ∀ l' U', (Src.mk (enumF 0 gs) gd).ok (Row l' (T ++ U')) = true := by
  rcases h with rfl | ⟨T1, T2, rfl, rfl⟩
  · refine ⟨none, ?_, fun _ _ => rfl⟩
    show some _ = some _
    rw [enumD_eq]
  · refine ⟨some (T1.length + 1, gs), ?_, fun l' U' => ?_⟩
    · unfold enumOf
      simp only [cell_in, enumD_eq]
    · unfold Src.ok
      simp only [cell_in]
      exact deqDs_refl gs
theorem HL.add (h : HL x T gs) (V : Sto) : HL x (T ++ V) gs := by
  rcases h with rfl | ⟨T1, T2, rfl, rfl⟩
  · exact .inl rfl
  · exact .inr ⟨T1, T2 ++ V, by simp, rfl⟩
end
theorem F78_w {l : List Int} {T : Sto} {x : D} {gs : List D} {Q : D → Sto → Prop} {X : XP} (hT : Clean T) (hx : HL x T gs) (hp : ∀ g ∈ gs, pv g = true) (hl : gs.length ≤ 100) (h1 : ∀ i, madeF gs 0 [] = some i → Q (gatesX i) (Row l T)) (h2 : madeF gs 0 [] = none → Q (.tup [.bl true, .tup (sort0 gs)]) (Row l T)) : wE (F78 [x] (Row l T)) Q X := by
  rw [F78]
  refine w_def (by rfl) ?_
  walk_at "wp"
  refine ⟨_, _, rfl, ?_⟩
  walk_at "wp"
  obtain ⟨gd, he0, hok⟩ := hx.enum (l := l) (U := [.lst []])
  refine wO_some he0 ?_
  refine w_invL (I := fun j δ S => ∃ x2 x3, δ = [some x, some (.ref (T.length + 1)), x2, x3] ∧ S = Row l (T ++ [.lst (((gs.take j).map gname).map .str)]) ∧ madeF gs 0 [] = madeF (gs.drop j) j ((gs.take j).map gname) ∧ j ≤ gs.length) (fun n δ S ⟨_, _, _, e, _⟩ => by rw [e]; exact hok _ _) _ 0 _ _ ⟨none, none, rfl, rfl, rfl, Nat.zero_le _⟩ ?_ ?_
  · intro j d hd δ S ⟨x2, x3, e1, e2, hm, hj⟩
    rw [Nat.zero_add] at e2 hm hj ⊢
    subst e1 e2
    obtain ⟨e, he, rfl⟩ := enumF_get hd
    rw [Nat.zero_add]
    have hpe := pv_mem hp he
    have hC : Clean (T ++ [.lst (((gs.take j).map gname).map .str)]) := clean_seenL hT _
    refine wO_some rfl ?_
    rw [drop_get he, madeF] at hm
    walk_at "wp"
    refine wS_cut (fun δ S => δ = [some x, some (.ref (T.length + 1)), some (.int j), some e] ∧ S = Row l (T ++ [.lst (((gs.take j).map gname).map .str)]) ∧ GG e ∧ madeF gs 0 [] = madeF (gs.drop (j + 1)) (j + 1) ((gs.take j).map gname ++ [gname e])) ?_ ?_
    · walk_at "wi"
      refine o_f59 (clean_row hC) hpe ?_
      cases hg : gateF e (Str.ofString "") with
      | some w =>
        rw [hg] at hm
        show wE (dC _ _ _) _ _
        walk_at "wp"
        refine wO_some bNe_str ?_
        rw [decide_eq_false (gateF_ne hg)]
        walk_at "wp"
        exact w_finR hT rfl (h1 _ hm)
      | none =>
        rw [hg] at hm
        show wE (dC _ _ _) _ _
        have hgg := gateF_gg hg
        walk_at "wp"
        refine wO_some bNe_str ?_
        rw [decide_eq_true rfl]
        walk_at "wp"
        refine hgg.ix0 ?_
        walk_at "wp"
        refine wO_some in_row ?_
        walk_at "wp"
        refine w_ifd (fun hin => ?_) fun hin => ?_
        · walk_at "wp"
          simp only [if_pos hin] at hm
          exact w_finR hT rfl (h1 _ hm)
        · walk_at "wp"
          simp only [if_neg hin] at hm
          exact ⟨rfl, rfl, hgg, hm⟩
    intro δ S ⟨e1, e2, hgg, hm⟩
    subst e1 e2
    walk_at "wp"
    refine w_app rfl ?_
    walk_at "wp"
    refine hgg.ix0 ?_
    refine ⟨_, _, rfl, by rw [sizeLine_eq, List.length_map, List.length_map, List.length_take]; omega, ?_⟩
    have hj2 := (List.getElem?_eq_some_iff.mp he).1
    refine ⟨_, _, rfl, ?_, ?_, by omega⟩
    · rw [take_get he, List.map_append, List.map_append]; rfl
    · rw [take_get he, List.map_append]; exact hm
  · intro δ S ⟨x2, x3, e1, e2, hm, hj⟩
    rw [Nat.zero_add] at e2 hm hj
    subst e1 e2
    rw [enumF_length, List.drop_length, List.take_length] at hm
    have hm : madeF gs 0 [] = none := hm
    have hGL := madeF_GL hm
    walk_at "wp"
    refine w_sort0 ?_
    walk_at "wp"
    refine wO_some hx.getL ⟨hGL.gg, by omega, ?_⟩
    walk_at "wp"
    refine w_finR hT ?_ (h2 hm)
    have := nrs_gg (sort0_GL hGL).gg
    show (true && (nrs (sort0 gs) && true)) = true
    rw [this]; rfl
end QB
set_option maxHeartbeats 4000000
namespace QB
open PySem PySem.Spec PySem.Calls PyProof.Rows L2
local macro_rules | `(tactic| walk_at "wp") => `(tactic| repeat (first
  | with_reducible refine w_cons ?_ | with_reducible refine w_nil ?_
  | ((with_reducible apply w_var); (focus rfl))
  | with_reducible refine w_c ?_ | with_reducible refine w_2 ?_ | with_reducible refine w_f ?_
  | with_reducible refine w_call ?_
  | with_reducible refine w_seq ?_
  | (with_reducible refine w_asg ?_)
  | with_reducible refine w_ret ?_ | with_reducible refine w_expr ?_ | with_reducible refine w_skip ?_ | with_reducible refine w_break ?_
  | with_reducible refine w_bool ?_ | with_reducible refine w_wB ?_ | with_reducible refine w_tru ?_ | with_reducible refine w_tnot ?_ | with_reducible refine w_tand ?_ | with_reducible refine w_tor ?_ | with_reducible refine w_yes ?_
  | with_reducible refine w_ift ?_ | with_reducible refine w_iff ?_ | with_reducible refine w_ifn ?_
  | with_reducible refine w_and ?_ | with_reducible refine w_or ?_ | with_reducible refine w_not ?_ | with_reducible refine w_dif ?_ | with_reducible refine w_chain ?_
  | with_reducible refine o_bl ?_ | with_reducible refine o_non ?_ | with_reducible refine o_addI ?_ | with_reducible refine o_subI ?_ | with_reducible refine o_eqI ?_ | with_reducible refine o_neI ?_ | with_reducible refine o_leI ?_ | with_reducible refine o_ltI ?_ | with_reducible refine o_gtI ?_ | with_reducible refine o_geI ?_
  | with_reducible refine o_lenT ?_ | with_reducible refine o_lenL ?_ | with_reducible refine o_intI ?_ | with_reducible refine o_is1 ?_ | with_reducible refine o_is0 ?_ | with_reducible refine o_isn1 ?_ | with_reducible refine o_isn0 ?_ | with_reducible refine o_neg ?_
  | with_reducible refine o_tupL ?_ | with_reducible refine o_tupT ?_ | with_reducible refine o_listT ?_ | with_reducible refine o_listL ?_
  | with_reducible refine o_gNm ?_
  | with_reducible refine w_tup ?_ | with_reducible refine w_lst ?_ | with_reducible refine w_1 ?_
  | with_reducible refine w_for ?_ | with_reducible refine w_iOf ?_ | with_reducible refine w_iEnum ?_
  | with_reducible refine o_srcT ?_ | with_reducible refine o_srcL ?_ | with_reducible refine o_srcS ?_ | with_reducible refine o_enumT ?_ | with_reducible refine o_enumL ?_
  | with_reducible refine w_sl ?_ | with_reducible refine w_oN ?_ | with_reducible refine w_oS ?_
  | with_reducible refine w_lc ?_ | with_reducible refine w_callD ?_ | with_reducible refine w_callK ?_ | with_reducible refine w_callS ?_ | with_reducible refine w_callS0 ?_ | with_reducible refine w_lstC ?_
  | ((with_reducible refine And.intro (sm ?_) ?_); (focus (simp [enumF]; done)))
  | with_reducible refine ⟨_, rfl, ?_⟩))
local macro_rules | `(tactic| walk_at "wi") => `(tactic| ((with_reducible refine w_sif ?_); walk_at "wp"))
local macro_rules | `(tactic| walk_at "vk") => `(tactic| repeat' (first | assumption | exact vk_nilL | refine vk_cons ?_ ?_ | refine vk_app ?_ ?_ | exact vk_int | exact vk_bl | exact vk_non | exact vk_str (by decide +kernel) | refine vk_tup (by simp) ?_ | refine vk_lst (by simp) ?_))
/-! lot_of -/
theorem fin_exT {S U : Sto} {δ : Sl} {c f1 f2 : Str} {d1 d2 : D} (h : Clean S) (h1 : nr d1 = true) (h2 : nr d2 = true) : fin S.length (.ex c [(f1, d1), (f2, d2)] δ (S ++ U)) = .ex c [(f1, d1), (f2, d2)] S := by
  unfold fin
  simp only [List.take_left, fzS_clean _ h, fzF, fzD_nr _ _ h1, fzD_nr _ _ h2, Option.map_some]
theorem w_starX {Nn : List Str} {tb : DS} {ds : List D} {S : Sto} {Q : D → Sto → Prop} {X : XP} (h : wS (tb (slots Nn [.tup ds]) S) (fun _ _ => False) (fun d S1 => wFin S.length d S1 Q) (fun _ _ => False) (fun _ _ => False) fun c fs S1 => ∃ f1 f2 d1 d2 U, fs = [(f1, d1), (f2, d2)] ∧ S1 = S ++ U ∧ Clean S ∧ nr d1 = true ∧ nr d2 = true ∧ X c fs S) : wE (dStar fin Nn tb ds S) Q X := by
  unfold dStar
  cases e : tb (slots Nn [.tup ds]) S with
  | rt d S1 =>
    rw [e] at h
    exact wE_mono (wFin.h h.h) (fun _ _ h => h) fun _ _ _ h => h.elim
  | ex c fs δ S1 =>
    rw [e] at h
    obtain ⟨f1, f2, d1, d2, U, rfl, rfl, hS, h1, h2, x⟩ := h.h
    rw [fin_exT hS h1 h2]
    exact ⟨x⟩
  | nx δ S => rw [e] at h; exact h.h.elim
  | bk δ S => rw [e] at h; exact h.h.elim
  | ct δ S => rw [e] at h; exact h.h.elim
  | stuck => rw [e] at h; exact h.h.elim
theorem wE_getX {α : Type} {r : R α} {X : XP} (h : wE r (fun _ _ => False) X) : ∃ c fs S, r = .ex c fs S ∧ X c fs S := by
  cases r with
  | ok a S => exact h.h.elim
  | ex c fs S => exact ⟨_, _, _, rfl, h.h⟩
  | stuck => exact h.h.elim
theorem w_raise {c f1 f2 : Str} {ts : DA} {δ : Sl} {S : Sto} {N B C : Sl → Sto → Prop} {T : D → Sto → Prop} {X : XP} (h : wE (ts δ S) (fun xs S1 => ∃ d1 d2, xs = [d1, d2] ∧ X c [(f1, d1), (f2, d2)] S1) X) : wS (sRaise c f1 f2 ts δ S) N T B C X := by
  unfold sRaise
  cases e : ts δ S with
  | ok xs S1 =>
    rw [e] at h
    obtain ⟨d1, d2, rfl, x⟩ := h.h
    exact ⟨x⟩
  | ex c' fs S1 => rw [e] at h; exact ⟨h.h⟩
  | stuck => rw [e] at h; exact ⟨h.h⟩
theorem w_dicC {δ : Sl} {S : Sto} {Q : D → Sto → Prop} {X : XP} (h : Q (.ref S.length) (S ++ [.dic []])) : wE (dDicC δ S) Q X := ⟨h⟩
theorem w_put {to ti tv : DE} {δ : Sl} {S : Sto} {N B C : Sl → Sto → Prop} {T : D → Sto → Prop} {X : XP} (h : wE (tv δ S) (fun v S1 => wE (to δ S1) (fun o S2 => wE (ti δ S2) (fun i S3 => wO (putAtD o i v S3) fun S4 => N δ S4) X) X) X) : wS (sPut to ti tv δ S) N T B C X := by
  refine wS_ofR (wE_q h fun v S1 h => wS_ofR (wE_q h fun o S2 h => wS_ofR (wE_q h fun i S3 h => ?_)))
  obtain ⟨S4, e, q⟩ := wO_get h
  rw [e]
  exact ⟨q⟩
def kvG (gs : List D) : List (Key × D) := gs.map fun g => ((Sum.inr (gname g) : Key), D.tup (gR g))
theorem valD_kv {w : Str} : ∀ gs : List D, valD (kvG gs) (Sum.inr w) = (findG gs w).map fun g => .tup (gR g)
  | [] => rfl
  | g :: gs => by
    have ih := valD_kv (w := w) gs
    unfold valD findG kvG at *
    simp only [List.map_cons, List.find?_cons]
    by_cases h : gname g = w
    · subst h; simp
    · have h1 : decide ((Sum.inr (gname g) : Key) = Sum.inr w) = false := decide_eq_false (fun e => h (by injection e))
      rw [h1, decide_eq_false h]
      exact ih
theorem findG_some {w : Str} : ∀ {gs : List D}, (findG gs w).isSome = decide (w ∈ gs.map gname)
  | [] => rfl
  | g :: gs => by
    have ih := findG_some (w := w) (gs := gs)
    unfold findG at *
    rw [List.find?_cons]
    by_cases h : gname g = w
    · subst h; simp
    · rw [decide_eq_false h]
      simp only [ih, List.map_cons, List.mem_cons]
      exact decide_eq_decide.mpr ⟨fun z => .inr z, fun z => z.resolve_left fun e => h e.symm⟩
theorem getK_cell {S : Sto} {kvs : List (Key × D)} : getK (.ref S.length) (S ++ [.dic kvs]) = some kvs := by
  unfold getK
  simp only [cell_at]
theorem getQ_cellD {S : Sto} {kvs : List (Key × D)} : getQ (.ref S.length) (S ++ [.dic kvs]) = none := by
  unfold getQ
  simp only [cell_at]
theorem in_cellD {S : Sto} {kvs : List (Key × D)} {w : Str} {f : Bool → Bool} : bIn f (.str w) (.ref S.length) (S ++ [.dic kvs]) = some (.bl (f (valD kvs (Sum.inr w)).isSome)) := by
  have h1 : bInC f (.str w) (.ref S.length) (S ++ [.dic kvs]) = none := rfl
  refine orB_none h1 (orB_some ?_)
  unfold bInK
  rw [getK_cell]
  rfl
theorem ix_cellD {S : Sto} {kvs : List (Key × D)} {w : Str} {d : D} (h : valD kvs (Sum.inr w) = some d) : bIx (.ref S.length) (.str w) (S ++ [.dic kvs]) = some d := by
  have h1 : bIxQ (.ref S.length) (.str w) (S ++ [.dic kvs]) = none := by
    unfold bIxQ
    rw [getQ_cellD]
  refine orB_none h1 (orB_none rfl ?_)
  unfold bIxK
  rw [getK_cell]
  exact h
theorem GG.ix1 {g : D} (h : GG g) {S : Sto} {P : D → Prop} (q : P (.tup (gR g))) : wO (bIx g (.int 1) S) P := by
  obtain ⟨w, r, rfl, h1, h2, h3⟩ := h.ex
  exact wO_some (ix_tup at1) q
theorem GG.eta {g : D} (h : GG g) : g = .tup [.str (gname g), .tup (gR g)] := by
  obtain ⟨w, r, rfl, h1, h2, h3⟩ := h.ex
  rfl
theorem strs_srt {ns : List Str} {S : Sto} : fSrt [.lst (ns.map .str)] S = some (.lst ((ns.mergeSort fun a b => decide (a.cps.toList ≤ b.cps.toList)).map .str)) := by
  cases ns with
  | nil =>
    unfold fSrt
    simp [getL, intsOf]
  | cons n ns =>
    unfold fSrt
    have e1 : intsOf ((n :: ns).map D.str) = none := rfl
    have e2 : strsOf ((n :: ns).map D.str) = some (n :: ns) := by
      have := strsOf_map (fun x : Str => x) (n :: ns)
      simpa using this
    simp only [getL, e1, e2]
    rfl
def rowOf (gs : List D) : D → D
  | .str w => .tup [.str w, ((findG gs w).map fun g => .tup (gR g)).getD .non]
  | d => d
theorem sort_names {gs : List D} (h : GL gs) : (((gs.map gname).mergeSort fun a b => decide (a.cps.toList ≤ b.cps.toList)).map D.str).map (rowOf gs) = sort0 gs := by
  have e : (sort0 gs).map gname = (gs.map gname).mergeSort fun a b => decide (a.cps.toList ≤ b.cps.toList) := List.map_mergeSort fun a ha b hb => le0_gg (h.gg a ha) (h.gg b hb)
  rw [← e, List.map_map, List.map_map]
  refine (List.map_congr_left fun g hg => ?_).trans (List.map_id _)
  have hgm := (sort0_perm gs).mem_iff.mp hg
  show rowOf gs (.str (gname g)) = g
  show D.tup [.str (gname g), ((findG gs (gname g)).map fun g => D.tup (gR g)).getD .non] = g
  rw [findG_of h.nd hgm]
  exact (h.gg g hgm).eta.symm
theorem clean_kv {S : Sto} {gs : List D} (hS : Clean S) (hg : ∀ g ∈ gs, GG g) : Clean (S ++ [.dic (kvG gs)]) := clean_add hS (by
  show nrs _ = true
  refine nrs_mem.mpr fun d hd => ?_
  unfold kvG at hd
  rw [List.map_map] at hd
  obtain ⟨g, hgm, rfl⟩ := List.mem_map.mp hd
  obtain ⟨w, r, rfl, h1, h2, h3⟩ := (hg g hgm).ex
  exact nrs_bits h3)
theorem nrs_tup {xs : List D} (h : nrs xs = true) : nr (.tup xs) = true := h
theorem F41_w {S : Sto} {gs : List D} {Q : D → Sto → Prop} {X : XP} (hS : Clean S) (hp : ∀ g ∈ gs, pv g = true) (hl : gs.length ≤ 100) (h1 : ∀ i : Nat, madeF gs 0 [] = some i → X NU (exF "gates" i) S) (h2 : madeF gs 0 [] = none → Q (.tup (sort0 gs)) S) : wE (F41 gs S) Q X := by
  rw [F41]
  refine w_starX ?_
  walk_at "wp"
  refine w_dicC ?_
  walk_at "wp"
  refine w_inv (I := fun j δ S' => ∃ x2 x3, δ = [some (.tup gs), some (.ref S.length), x2, x3, none] ∧ S' = S ++ [.dic (kvG (gs.take j))] ∧ madeF gs 0 [] = madeF (gs.drop j) j ((gs.take j).map gname) ∧ (∀ g ∈ gs.take j, GG g)) ⟨none, none, rfl, rfl, rfl, fun _ z => nomatch z⟩ ?_ ?_
  · intro j d hd δ S' ⟨x2, x3, e1, e2, hm, hj⟩
    subst e1 e2
    obtain ⟨e, he, rfl⟩ := enumF_get hd
    rw [Nat.zero_add]
    have hpe := pv_mem hp he
    refine wO_some rfl ?_
    rw [drop_get he, madeF] at hm
    have hC := clean_kv hS hj
    walk_at "wp"
    refine wS_cut (fun δ S' => δ = [some (.tup gs), some (.ref S.length), some (.int j), some e, none] ∧ S' = S ++ [.dic (kvG (gs.take j))] ∧ GG e ∧ gname e ∉ (gs.take j).map gname ∧ madeF gs 0 [] = madeF (gs.drop (j + 1)) (j + 1) ((gs.take j).map gname ++ [gname e])) ?_ ?_
    · walk_at "wi"
      refine wE_eq (F16_eq hC hpe) ?_
      cases hg : gateF e (Str.ofString "") with
      | some w =>
        rw [hg] at hm
        walk_at "wp"
        refine wO_some bIs_not_non ?_
        show wB (.bl true) _
        walk_at "wp"
        refine w_raise ?_
        walk_at "wp"
        exact ⟨_, _, rfl, _, _, _, _, _, rfl, rfl, hS, rfl, rfl, h1 _ hm⟩
      | none =>
        rw [hg] at hm
        have hgg := gateF_gg hg
        walk_at "wp"
        refine wO_some bIs_not_non ?_
        show wB (.bl false) _
        walk_at "wp"
        refine hgg.ix0 ?_
        walk_at "wp"
        refine wO_some in_cellD ?_
        rw [valD_kv, Option.isSome_map, findG_some]
        walk_at "wp"
        refine w_ifd (fun hin => ?_) fun hin => ?_
        · refine w_raise ?_
          walk_at "wp"
          simp only [if_pos hin] at hm
          exact ⟨_, _, rfl, _, _, _, _, _, rfl, rfl, hS, rfl, rfl, h1 _ hm⟩
        · walk_at "wp"
          simp only [if_neg hin] at hm
          exact ⟨rfl, rfl, hgg, hin, hm⟩
    intro δ S' ⟨e1, e2, hgg, hin, hm⟩
    subst e1 e2
    have hj2 := (List.getElem?_eq_some_iff.mp he).1
    refine w_put ?_
    walk_at "wp"
    refine hgg.ix1 ?_
    walk_at "wp"
    refine hgg.ix0 ?_
    have e3 : putAtD (.ref S.length) (.str (gname e)) (.tup (gR e)) (S ++ [.dic (kvG (gs.take j))]) = some (S ++ [.dic (kvG (gs.take (j + 1)))]) := by
      unfold putAtD
      simp only [cell_at]
      show (if (kvG (gs.take j)).length < sizeLine then some ((S ++ [Ob.dic (kvG (gs.take j))]).set S.length (.dic (putD (kvG (gs.take j)) (Sum.inr (gname e)) (.tup (gR e))))) else none) = _
      have hkl : (kvG (gs.take j)).length < sizeLine := by
        unfold kvG
        rw [List.length_map, List.length_take, sizeLine_eq]
        omega
      rw [if_pos hkl, cell_set, putD_new]
      · rw [take_get he]
        unfold kvG
        rw [List.map_append]
        rfl
      · intro z
        unfold kvG at z
        rw [List.map_map] at z
        obtain ⟨g, hg1, hg2⟩ := List.mem_map.mp z
        have hg2 : (Sum.inr (gname g) : Key) = Sum.inr (gname e) := hg2
        injection hg2 with hg2
        exact hin (List.mem_map.mpr ⟨g, hg1, hg2⟩)
    refine wO_some e3 ⟨_, _, rfl, rfl, ?_, ?_⟩
    · rw [take_get he, List.map_append]; exact hm
    · rw [take_get he]
      intro g hgm
      rcases List.mem_append.mp hgm with z | z
      · exact hj g z
      · rw [List.mem_singleton.mp z]; exact hgg
  · intro δ S' ⟨x2, x3, e1, e2, hm, hj⟩
    subst e1 e2
    have hm : madeF gs 0 [] = madeF (gs.drop (enumF 0 gs).length) (enumF 0 gs).length ((gs.take (enumF 0 gs).length).map gname) := hm
    rw [enumF_length, List.drop_length, List.take_length] at hm
    have hm : madeF gs 0 [] = none := hm
    have hGL := madeF_GL hm
    have e0 : gs.take (Src.mk (enumF 0 gs) none).ds.length = gs := by
      show gs.take (enumF 0 gs).length = gs
      rw [enumF_length, List.take_length]
    rw [e0]
    walk_at "wp"
    have e4 : fListB [.ref S.length] (S ++ [.dic (kvG gs)]) = some (.lst ((gs.map gname).map .str)) := by
      unfold fListB
      simp only [getQ_cellD, getK_cell, Option.map_some]
      congr 2
      unfold kvG
      rw [List.map_map, List.map_map]
      rfl
    refine wO_some e4 ?_
    walk_at "wp"
    refine wO_some strs_srt ?_
    walk_at "wp"
    refine ⟨by rw [sizeLine_eq]; show ((((gs.map gname).mergeSort _).map D.str).length) < _; rw [List.length_map, List.length_mergeSort, List.length_map]; omega, ?_⟩
    refine w_lcM (f := rowOf gs) rfl (fun d hd => ?_) ?_
    · obtain ⟨w, hw, rfl⟩ := List.mem_map.mp hd
      have hw := (List.mergeSort_perm (gs.map gname) _).mem_iff.mp hw
      obtain ⟨g, hgm, rfl⟩ := List.mem_map.mp hw
      walk_at "wp"
      refine wO_some (ix_cellD (by rw [valD_kv, findG_of hGL.nd hgm]; rfl)) ?_
      walk_at "wp"
      refine ⟨?_, rfl⟩
      show _ = D.tup [.str (gname g), ((findG gs (gname g)).map fun g => D.tup (gR g)).getD .non]
      rw [findG_of hGL.nd hgm]
      rfl
    · rw [sort_names hGL]
      walk_at "wp"
      exact w_fin hS (nrs_tup (nrs_gg (sort0_GL hGL).gg)) (h2 hm)

theorem F41_ok {S : Sto} {gs : List D} (hS : Clean S) (hp : ∀ g ∈ gs, pv g = true) (hl : gs.length ≤ 100) (h : madeF gs 0 [] = none) : F41 gs S = .ok (.tup (sort0 gs)) S := by
  have := F41_w (Q := fun d S' => d = .tup (sort0 gs) ∧ S' = S) (X := fun _ _ _ => False) hS hp hl (fun i z => by rw [h] at z; cases z) fun _ => ⟨rfl, rfl⟩
  obtain ⟨d, S', e, rfl, rfl⟩ := wE_get this
  exact e
theorem F41_ex {S : Sto} {gs : List D} {i : Nat} (hS : Clean S) (hp : ∀ g ∈ gs, pv g = true) (hl : gs.length ≤ 100) (h : madeF gs 0 [] = some i) : F41 gs S = .ex NU (exF "gates" i) S := by
  have := F41_w (Q := fun _ _ => False) (X := fun c fs S' => c = NU ∧ fs = exF "gates" i ∧ S' = S) hS hp hl (fun j z => by rw [h] at z; cases z; exact ⟨rfl, rfl, rfl⟩) fun z => by rw [h] at z; cases z
  obtain ⟨c, fs, S', e, rfl, rfl, rfl⟩ := wE_getX this
  exact e
theorem x_ift {t : DT} {ta tb : DE} {c : Str} {fs : List (Str × D)} {δ : Sl} {S S1 S2 : Sto} (h : t δ S = .ok true S1) (h2 : ta δ S1 = .ex c fs S2) : dIf t ta tb δ S = .ex c fs S2 := by simp only [evE, h, evR, if_true, h2]
/-! what the law makes of it -/
def made77 (gs : List D) : D := match madeF gs 0 [] with
  | some i => gatesX i
  | none => .tup [.bl true, .tup (sort0 gs)]
theorem e_callS {F : DFn} {r : R D} {ts : DA} {xs : List D} {δ : Sl} {S S1 : Sto} (h : ts δ S = .ok xs S1) (hl : xs.length ≤ sizeLine) (h2 : F xs S1 = r) : dCallS F ts δ S = r := by
  unfold dCallS
  rw [h]
  simp only [evR]
  rw [if_pos hl]
  exact h2
theorem ixl {i : Nat} {δ : Sl} {S : Sto} {xs : List D} {k : Nat} {d : D} (hv : dVar i δ S = .ok (.lst xs) S) (h : xs[k]? = some d) : d2 bIx (dVar i) (dC (.int (k : Nat))) δ S = .ok d S := e_2 hv rfl (ix_lst (atI_nat h))
theorem lenl {i : Nat} {δ : Sl} {S : Sto} {xs : List D} (hv : dVar i δ S = .ok (.lst xs) S) : dF fLen (aCons (dVar i) aNil) δ S = .ok (.int (xs.length : Nat)) S := e_f (e_cons hv e_nil) rfl
theorem F77_eq {l : List Int} {T S : Sto} {x : D} {gs : List D} (eS : S = Row l T) (hS : Clean S) (hx : HL x T gs) (hp : ∀ g ∈ gs, pv g = true) (hl : gs.length ≤ 4) : F77 [x] S = .ok (made77 gs) S := by
  have hn : nr (made77 gs) = true := by
    unfold made77
    cases h : madeF gs 0 [] with
    | some i => rfl
    | none =>
      show (true && (nrs (sort0 gs) && true)) = true
      rw [nrs_gg (sort0_GL (madeF_GL h)).gg]; rfl
  rw [F77, dDef_eq (n := 1) rfl]
  have main : t77 (slots N77 [x]) S = .rt (made77 gs) S := by
    have hlen : dF fLen (aCons (dVar 0) aNil) (slots N77 [x]) S = .ok (.int (gs.length : Nat)) S := e_f (e_cons rfl e_nil) (by
      have := hx.len (l := l) (U := [])
      rw [List.append_nil, ← eS] at this
      exact this)
    have hix : ∀ (k : Nat) (d : D), gs[k]? = some d → d2 bIx (dVar 0) (dC (.int (k : Nat))) (slots N77 [x]) S = .ok d S := fun k d hd => e_2 rfl rfl (by
      have := hx.ix (l := l) (U := []) (atI_nat hd)
      rw [List.append_nil, ← eS] at this
      exact this)
    have hlt : ∀ k : Int, tBool (d2 bLt (dF fLen (aCons (dVar 0) aNil)) (dC (.int k))) (slots N77 [x]) S = .ok (decide ((gs.length : Int) < k)) S := fun k => e_bool (e_2 hlen rfl rfl)
    have heq : ∀ k : Int, tBool (d2 bEq (dF fLen (aCons (dVar 0) aNil)) (dC (.int k))) (slots N77 [x]) S = .ok (decide ((gs.length : Int) = k)) S := fun k => e_bool (e_2 hlen rfl bEq_int)
    have lt2 := hlt 2
    have eq1 := heq 1
    have eq2 := heq 2
    have eq3 := heq 3
    cases h : madeF gs 0 [] with
    | none =>
      have k := F41_ok hS hp (by omega) h
      unfold made77
      rw [h]
      match gs, hl, k, hix, lt2, eq1, eq2, eq3 with
      | [], _, k, hix, lt2, eq1, eq2, eq3 => exact e_tryRt (e_seqR (e_ift lt2 (e_ret (e_tup (e_cons rfl (e_cons (e_if eq1 (fun z => by cases z) fun _ => k) e_nil)) (sm (by simp))))))
      | [a], _, k, hix, lt2, eq1, eq2, eq3 => exact e_tryRt (e_seqR (e_ift lt2 (e_ret (e_tup (e_cons rfl (e_cons (e_if eq1 (fun _ => e_callS (e_cons (hix 0 _ rfl) e_nil) (sm (by simp)) k) fun z => by cases z) e_nil)) (sm (by simp))))))
      | [a, b], _, k, hix, lt2, eq1, eq2, eq3 => exact e_tryRt (e_seq (e_iff lt2 rfl) (e_seqR (e_ift eq2 (e_ret (e_tup (e_cons rfl (e_cons (e_callS (e_cons (hix 0 _ rfl) (e_cons (hix 1 _ rfl) e_nil)) (sm (by simp)) k) e_nil)) (sm (by simp)))))))
      | [a, b, c], _, k, hix, lt2, eq1, eq2, eq3 => exact e_tryRt (e_seq (e_iff lt2 rfl) (e_seq (e_iff eq2 rfl) (e_seqR (e_ift eq3 (e_ret (e_tup (e_cons rfl (e_cons (e_callS (e_cons (hix 0 _ rfl) (e_cons (hix 1 _ rfl) (e_cons (hix 2 _ rfl) e_nil))) (sm (by simp)) k) e_nil)) (sm (by simp))))))))
      | [a, b, c, d], _, k, hix, lt2, eq1, eq2, eq3 => exact e_tryRt (e_seq (e_iff lt2 rfl) (e_seq (e_iff eq2 rfl) (e_seq (e_iff eq3 rfl) (e_ret (e_tup (e_cons rfl (e_cons (e_callS (e_cons (hix 0 _ rfl) (e_cons (hix 1 _ rfl) (e_cons (hix 2 _ rfl) (e_cons (hix 3 _ rfl) e_nil)))) (sm (by simp)) k) e_nil)) (sm (by simp)))))))
      | _ :: _ :: _ :: _ :: _ :: _, hl, _, _, _, _, _, _ => simp at hl
    | some i =>
      have k := F41_ex hS hp (by omega) h
      unfold made77
      rw [h]
      match gs, hl, h, k, hix, lt2, eq1, eq2, eq3 with
      | [], _, h, k, hix, lt2, eq1, eq2, eq3 => cases h
      | [a], _, h, k, hix, lt2, eq1, eq2, eq3 => exact e_tryNU (x_seq (e_ift lt2 (x_ret (x_tup (x_cons2 rfl (x_cons (x_ift eq1 (e_callS (e_cons (hix 0 _ rfl) e_nil) (sm (by simp)) k)))))))) (by show 1 < 2; omega)
      | [a, b], _, h, k, hix, lt2, eq1, eq2, eq3 => exact e_tryNU (e_seq (e_iff lt2 rfl) (x_seq (e_ift eq2 (x_ret (x_tup (x_cons2 rfl (x_cons (e_callS (e_cons (hix 0 _ rfl) (e_cons (hix 1 _ rfl) e_nil)) (sm (by simp)) k)))))))) (by show 1 < 2; omega)
      | [a, b, c], _, h, k, hix, lt2, eq1, eq2, eq3 => exact e_tryNU (e_seq (e_iff lt2 rfl) (e_seq (e_iff eq2 rfl) (x_seq (e_ift eq3 (x_ret (x_tup (x_cons2 rfl (x_cons (e_callS (e_cons (hix 0 _ rfl) (e_cons (hix 1 _ rfl) (e_cons (hix 2 _ rfl) e_nil))) (sm (by simp)) k))))))))) (by show 1 < 2; omega)
      | [a, b, c, d], _, h, k, hix, lt2, eq1, eq2, eq3 => exact e_tryNU (e_seq (e_iff lt2 rfl) (e_seq (e_iff eq2 rfl) (e_seq (e_iff eq3 rfl) (x_ret (x_tup (x_cons2 rfl (x_cons (e_callS (e_cons (hix 0 _ rfl) (e_cons (hix 1 _ rfl) (e_cons (hix 2 _ rfl) (e_cons (hix 3 _ rfl) e_nil)))) (sm (by simp)) k)))))))) (by show 1 < 2; omega)
      | _ :: _ :: _ :: _ :: _ :: _, hl, _, _, _, _, _, _, _ => simp at hl
  rw [main]
  exact fin_rt hS hn
end QB
set_option maxHeartbeats 4000000
namespace QB
open PySem PySem.Spec PySem.Calls PyProof.Rows L2
local macro_rules | `(tactic| walk_at "wp") => `(tactic| repeat (first
  | with_reducible refine w_cons ?_ | with_reducible refine w_nil ?_
  | ((with_reducible apply w_var); (focus rfl))
  | with_reducible refine w_c ?_ | with_reducible refine w_2 ?_ | with_reducible refine w_f ?_
  | with_reducible refine w_call ?_
  | with_reducible refine w_seq ?_
  | (with_reducible refine w_asg ?_)
  | with_reducible refine w_ret ?_ | with_reducible refine w_expr ?_ | with_reducible refine w_skip ?_ | with_reducible refine w_break ?_
  | with_reducible refine w_bool ?_ | with_reducible refine w_wB ?_ | with_reducible refine w_tru ?_ | with_reducible refine w_tnot ?_ | with_reducible refine w_tand ?_ | with_reducible refine w_tor ?_ | with_reducible refine w_yes ?_
  | with_reducible refine w_ift ?_ | with_reducible refine w_iff ?_ | with_reducible refine w_ifn ?_
  | with_reducible refine w_and ?_ | with_reducible refine w_or ?_ | with_reducible refine w_not ?_ | with_reducible refine w_dif ?_ | with_reducible refine w_chain ?_
  | with_reducible refine o_bl ?_ | with_reducible refine o_non ?_ | with_reducible refine o_addI ?_ | with_reducible refine o_subI ?_ | with_reducible refine o_eqI ?_ | with_reducible refine o_neI ?_ | with_reducible refine o_leI ?_ | with_reducible refine o_ltI ?_ | with_reducible refine o_gtI ?_ | with_reducible refine o_geI ?_
  | with_reducible refine o_lenT ?_ | with_reducible refine o_lenL ?_ | with_reducible refine o_intI ?_ | with_reducible refine o_is1 ?_ | with_reducible refine o_is0 ?_ | with_reducible refine o_isn1 ?_ | with_reducible refine o_isn0 ?_ | with_reducible refine o_neg ?_
  | with_reducible refine o_tupL ?_ | with_reducible refine o_tupT ?_ | with_reducible refine o_listT ?_ | with_reducible refine o_listL ?_
  | with_reducible refine o_gNm ?_
  | with_reducible refine w_tup ?_ | with_reducible refine w_lst ?_ | with_reducible refine w_1 ?_
  | with_reducible refine w_for ?_ | with_reducible refine w_iOf ?_ | with_reducible refine w_iEnum ?_
  | with_reducible refine o_srcT ?_ | with_reducible refine o_srcL ?_ | with_reducible refine o_srcS ?_ | with_reducible refine o_enumT ?_ | with_reducible refine o_enumL ?_
  | with_reducible refine w_sl ?_ | with_reducible refine w_oN ?_ | with_reducible refine w_oS ?_
  | with_reducible refine w_lc ?_ | with_reducible refine w_callD ?_ | with_reducible refine w_callK ?_ | with_reducible refine w_callS ?_ | with_reducible refine w_callS0 ?_ | with_reducible refine w_lstC ?_
  | ((with_reducible refine And.intro (sm ?_) ?_); (focus (simp [enumF]; done)))
  | with_reducible refine ⟨_, rfl, ?_⟩))
local macro_rules | `(tactic| walk_at "wi") => `(tactic| ((with_reducible refine w_sif ?_); walk_at "wp"))
local macro_rules | `(tactic| walk_at "vk") => `(tactic| repeat' (first | assumption | exact vk_nilL | refine vk_cons ?_ ?_ | refine vk_app ?_ ?_ | exact vk_int | exact vk_bl | exact vk_non | exact vk_str (by decide +kernel) | refine vk_tup (by simp) ?_ | refine vk_lst (by simp) ?_))
theorem o_ix0 {x : D} {xs : List D} {S : Sto} {P : D → Prop} (q : P x) : wO (bIx (.tup (x :: xs)) (.int 0) S) P := wO_some (ix_tup at0) q
theorem o_ix1 {x y : D} {xs : List D} {S : Sto} {P : D → Prop} (q : P y) : wO (bIx (.tup (x :: y :: xs)) (.int 1) S) P := wO_some (ix_tup at1) q
theorem pv_gates {i : Nat} : pv (gatesX i) = true := by
  refine pv_tup.mpr ⟨by simp [BIG], ?_⟩
  show (true && (pv (.str (Str.ofString "gates")) && (true && true))) = true
  rw [show pv (.str (Str.ofString "gates")) = true by decide +kernel]
  rfl
theorem lotD_ok {xs : List D} (h : lotF xs 0 (Str.ofString "") = none) : lotD (.tup xs) = none := by
  show (lotF xs 0 (Str.ofString "")).map _ = none
  rw [h]; rfl
theorem due60_ok {xs : List D} (h : lotF xs 0 (Str.ofString "") = none) : due60 (.tup xs) = .tup [.bl true, .int xs.length] := by
  unfold due60
  rw [lotD_ok h]
theorem F79_w {l : List Int} {T : Sto} {x : D} {gs : List D} {Q : D → Sto → Prop} {X : XP} (hT : Clean T) (hx : HL x T gs) (hp : ∀ g ∈ gs, pv g = true) (hl : gs.length ≤ 4) (h : Q (.bl true) (Row l T)) : wE (F79 [x] (Row l T)) Q X := by
  rw [F79]
  refine w_def (by rfl) ?_
  walk_at "wp"
  refine wE_eq (F77_eq rfl (clean_row hT) hx hp hl) ?_
  walk_at "wp"
  refine F78_w hT hx hp (by omega) (fun i hi => ?_) fun hi => ?_
  · have e : made77 gs = gatesX i := by unfold made77; rw [hi]
    rw [e]
    walk_at "wp"
    walk_at "wi"
    refine o_ix0 ?_
    walk_at "wp"
    refine wE_eq (F75_refl (clean_row hT) (fun d hd => ?_) (show pv (gatesX i) = true from pv_gates)) ?_
    · simp only [List.mem_cons, List.not_mem_nil, or_false] at hd
      rcases hd with rfl | rfl <;> rfl
    exact w_finR0 hT rfl h
  · have e : made77 gs = .tup [.bl true, .tup (sort0 gs)] := by unfold made77; rw [hi]
    have hGL := madeF_GL hi
    have hs := sort0_GL hGL
    have hG := hs.good (by rw [sort0_len]; omega)
    have hpv : pv (.tup (sort0 gs)) = true := pv_tup.mpr ⟨by rw [sort0_len]; unfold BIG; omega, pvs_mem.mpr hG.pvs⟩
    rw [e]
    walk_at "wp"
    walk_at "wi"
    refine o_ix0 ?_
    walk_at "wp"
    refine o_ix0 ?_
    walk_at "wp"
    refine o_ix1 ?_
    walk_at "wp"
    refine wE_eq (F60_eq (clean_row hT) hpv) ?_
    have e2 : due60 (.tup (sort0 gs)) = .tup [.bl true, .int (sort0 gs).length] := by
      exact due60_ok (sort0_lot hGL)
    rw [e2]
    walk_at "wp"
    refine o_ix0 ?_
    walk_at "wp"
    refine o_ix1 ?_
    walk_at "wp"
    refine o_ix1 ?_
    refine o_eqSelfT (k := 3) (eqOk_tup fun g hg => (hs.gg g hg).eqOk) (by omega) ?_
    exact w_finR0 hT rfl h
theorem F42_w {S : Sto} {gs : List D} {Q : D → Sto → Prop} {X : XP} (hS : Clean S) (G : Good gs) (h : Q (.tup (gs.map fun g => .str (gname g))) S) : wE (F42 [.tup gs] S) Q X := by
  have hgl := G.lot.2.2
  rw [F42]
  refine w_def (by rfl) ?_
  walk_at "wp"
  refine ⟨sm6 (by show gs.length + 1 ≤ _; omega), ?_⟩
  refine w_lcM (f := fun g => .str (gname g)) rfl (fun g hg => ?_) ?_
  · obtain ⟨w, r, rfl, h1, h2, h3⟩ := (G.lot.1 g hg).ex
    refine wO_some rfl ?_
    walk_at "wp"
    exact ⟨rfl, rfl⟩
  walk_at "wp"
  refine w_fin0 hS (nrs_tup (nrs_mem.mpr fun d hd => ?_)) h
  obtain ⟨g, _, rfl⟩ := List.mem_map.mp hd
  rfl
theorem bits_lst {xs : List D} (h : xs.all bitD = true) : ∀ d ∈ xs, ∃ i, d = .int i := fun d hd => by
  have := List.all_eq_true.mp h d hd
  cases d <;> first | exact ⟨_, rfl⟩ | cases this
theorem bMulS_eq {z : Str} {k : Int} {S : Sto} : bMulS (.str z) (.int k) S = if -1000 ≤ k ∧ k ≤ 1000 ∧ z.length ≤ 1000 ∧ Str.length ⟨(List.replicate k.toNat z.cps).foldl (· ++ ·) #[]⟩ ≤ sizeLine then some (.str (if k < 1 then Str.empty else if (k == 1 || z.length == 0) = true then z else ⟨(List.replicate k.toNat z.cps).foldl (· ++ ·) #[]⟩)) else none := rfl
theorem mul_0 {k : Nat} {S : Sto} (hk : k ≤ 5) : ∃ z, bMulX (.str (Str.ofString "0")) (.int (k : Nat)) S = some (.str z) ∧ z.length ≤ 40 := by
  have key : ∃ z, bMulS (.str (Str.ofString "0")) (.int (k : Nat)) S = some (.str z) ∧ z.length ≤ 40 := by
    have : k = 0 ∨ k = 1 ∨ k = 2 ∨ k = 3 ∨ k = 4 ∨ k = 5 := by omega
    rcases this with rfl | rfl | rfl | rfl | rfl | rfl <;>
    · rw [bMulS_eq, if_pos (by rw [sizeLine_eq]; decide +kernel)]
      exact ⟨_, rfl, by decide +kernel⟩
  obtain ⟨z, h1, h2⟩ := key
  exact ⟨z, orB_none rfl (orB_none rfl h1), h2⟩
theorem F82_w {l : List Int} {T : Sto} {gs : List D} {g : D} {Q : D → Sto → Prop} {X : XP} (hT : Clean T) (G : Good gs) (hgm : g ∈ gs) (h : ∀ l', Q (.bl true) (Row l' T)) : wE (F82 [.ref 0, .tup gs, g] (Row l T)) Q X := by
  have hgg := G.lot.1 g hgm
  have hi5 := hgg.inp5
  have hf := findG_of G.lot.2.1 hgm
  have hw : pv (.str (gname g)) = true := pv_str.mpr (by have := hgg.name; unfold BIG; omega)
  rw [F82]
  refine w_def (by rfl) ?_
  walk_at "wp"
  refine wE_eq (F52_eq (clean_row hT) hgg) ?_
  walk_at "wp"
  refine F49_w hT (by omega) fun bs l1 hbl hbb => ?_
  walk_at "wp"
  walk_at "wi"
  refine hgg.ix0 ?_
  walk_at "wp"
  refine wE_eq (F80_0 G (clean_row hT) hw hf) ?_
  walk_at "wp"
  refine wE_eq (F75_refl (clean_row hT) (fun d hd => ?_) ?_) ?_
  · rw [List.mem_singleton.mp hd]; rfl
  · refine pv_tup.mpr ⟨by simp [BIG], rfl⟩
  walk_at "wp"
  refine hgg.ix0 ?_
  walk_at "wp"
  refine wE_eq (F80_1 G (clean_row hT) hw hf) ?_
  walk_at "wp"
  have hrows := gg_rows hgg
  have hrow2 : rowsD (.tup (gR g)) = true := by
    show (isRows (gR g).length && (gR g).all bitD) = true
    rw [hrows.1, hrows.2]; rfl
  have hpr : pv (.tup (gR g)) = true := by
    have := hgg.pv
    obtain ⟨w, r, rfl, _⟩ := hgg.ex
    exact tup_mem this (.tup r) (by simp)
  have hpb : pv (.tup bs) = true := pv_tup.mpr ⟨by rw [hbl]; unfold BIG; omega, pvs_mem.mpr fun d hd => by
    obtain ⟨i, rfl⟩ := bits_lst hbb d hd
    rfl⟩
  have heqr : EqOk 1 (.tup (gR g)) := eqOk_tup fun d hd => by
    obtain ⟨i, rfl⟩ := bits_lst hrows.2 d hd
    exact eqOk_int
  walk_at "wi"
  refine o_ix0 ?_
  walk_at "wp"
  refine o_ix1 ?_
  walk_at "wp"
  refine wE_eq (F58_eq (clean_row hT) hpr) ?_
  rw [hrow2]
  walk_at "wp"
  refine o_ix1 ?_
  walk_at "wp"
  refine hgg.ix1 ?_
  refine o_neSelfT heqr (by omega) ?_
  walk_at "wp"
  obtain ⟨v, hv, v0, v1⟩ := num_row hgg hbb hbl
  walk_at "wi"
  refine hgg.ix0 ?_
  walk_at "wp"
  refine wE_eq (F80_3 G (clean_row hT) hw hf hpb hbb hbl hv) ?_
  walk_at "wp"
  refine hgg.ix1 ?_
  walk_at "wp"
  refine wE_eq (F81_eq (clean_row hT) hbb) ?_
  refine wO_some (ix_tup (atI_nat hv)) ?_
  walk_at "wp"
  refine wE_eq (F75_refl (clean_row hT) (fun d hd => ?_) ?_) ?_
  · rw [List.mem_singleton.mp hd]; rfl
  · refine pv_tup.mpr ⟨by simp [BIG], rfl⟩
  have hbv : ∀ d ∈ bs, vk 40 1 d := fun d hd => by
    obtain ⟨i, rfl⟩ := bits_lst hbb d hd
    exact vk_int
  walk_at "wp"
  refine o_addT (sm6 (by rw [hbl]; simp; omega)) ?_
  walk_at "wp"
  refine o_slTv hbv fun b1 hb1l hb1 => ?_
  walk_at "wp"
  refine o_addT (sm6 (by simp; omega)) ?_
  walk_at "wp"
  refine o_slTv hbv fun b2 hb2l hb2 => ?_
  walk_at "wp"
  refine o_addT (sm6 (by simp; omega)) ?_
  walk_at "wp"
  obtain ⟨zz, hzz, hzl⟩ := mul_0 (S := Row l1 T) hi5
  refine wO_some hzz ?_
  walk_at "wp"
  refine o_slTv hbv fun b3 hb3l hb3 => ?_
  walk_at "wp"
  have k1 : ∀ {xs : List D}, xs.length ≤ 40 → (∀ x ∈ xs, vk 40 1 x) → vk 40 2 (.tup xs) := fun h1 h2 => vk_tup h1 h2
  refine o_addLv (n := 40) (k := 2) (vk_cons (k1 (by rw [List.length_append, hbl]; simp; omega) (vk_app hbv (vk_cons vk_int vk_nilL))) (vk_cons (vk_lst (by omega) hbv) (vk_cons vk_non (vk_cons (k1 (by rw [List.length_append]; simp; omega) (vk_app hb1 (vk_cons vk_bl vk_nilL))) (vk_cons (k1 (by rw [List.length_append]; simp; omega) (vk_app hb2 (vk_cons vk_int vk_nilL))) (vk_cons vk_int (vk_cons (vk_str (by omega)) (vk_cons (k1 (by omega) hb3) vk_nilL)))))))) (vk_cons (k1 (by omega) hbv) vk_nilL) (by simp) fun xs hxl hxv => ?_
  replace hxl : xs.length = 9 := hxl
  walk_at "wp"
  refine w_inv0 (I := fun δ S => ∃ x6 x7 x8 x9, δ = [some (.ref 0), some (.tup gs), some g, some (.int (inp g : Nat)), some (.tup bs), some (.tup [.bl true, .tup (gR g)]), x6, x7, x8, x9] ∧ S = Row l1 T) ⟨_, _, _, _, rfl, rfl⟩ ?_ ?_
  · intro d hd δ S ⟨x6, x7, x8, x9, e1, e2⟩
    subst e1 e2
    have hdv := hxv d hd
    have hdp : pv d = true := vk_pv (big_le (by omega)) hdv
    walk_at "wp"
    refine wS_cut (fun δ S => ∃ due, δ = [some (.ref 0), some (.tup gs), some g, some (.int (inp g : Nat)), some (.tup bs), some (.tup [.bl true, .tup (gR g)]), x6, some d, some due, x9] ∧ S = Row l1 T ∧ F80 [.tup gs, .int 2, .str (gname g), d] (Row l1 T) = .ok due (Row l1 T) ∧ F75 [due, due] (Row l1 T) = .ok (.bl true) (Row l1 T)) ?_ ?_
    · have dueF : bitsOk (inp g) d = false → F80 [.tup gs, .int 2, .str (gname g), d] (Row l1 T) = .ok (.tup [.bl false, .str (Str.ofString "bits"), .int (-1)]) (Row l1 T) ∧ F75 [.tup [.bl false, .str (Str.ofString "bits"), .int (-1)], .tup [.bl false, .str (Str.ofString "bits"), .int (-1)]] (Row l1 T) = .ok (.bl true) (Row l1 T) := fun hb => by
        refine ⟨F80_2x G (clean_row hT) hw hf hdp hb, F75_refl (clean_row hT) (fun d hd => ?_) (by decide +kernel)⟩
        simp only [List.mem_cons, List.not_mem_nil, or_false] at hd
        rcases hd with rfl | rfl <;> rfl
      walk_at "wi"
      refine o_isiT hdp ?_
      walk_at "wp"
      refine w_ifs (fun ht => ?_) fun ht => ?_
      case refine_2 =>
        walk_at "wp"
        refine ⟨rfl, dueF ?_⟩
        cases d <;> first | rfl | cases ht
      obtain ⟨ys, rfl⟩ := isTup_get ht
      walk_at "wp"
      refine w_ifd (fun hl => ?_) fun hl => ?_
      case refine_2 =>
        walk_at "wp"
        refine ⟨rfl, dueF ?_⟩
        show (decide (ys.length = inp g) && _) = false
        rw [decide_eq_false (by omega)]; rfl
      walk_at "wp"
      refine ⟨sm6 (by show ys.length + 1 ≤ _; omega), ?_⟩
      refine w_lcM (f := fun d => .bl (bitD d)) rfl (fun y hy => ?_) ?_
      · walk_at "wp"
        exact wE_eq (F55_eq (clean_row hT) (tup_mem hdp y hy)) ⟨rfl, rfl⟩
      walk_at "wp"
      refine wO_some (fAll_map bitD ys _) ?_
      walk_at "wp"
      refine w_ifs (fun hb => ?_) fun hb => ?_
      case refine_2 =>
        walk_at "wp"
        refine ⟨rfl, dueF ?_⟩
        show (_ && ys.all bitD) = false
        rw [hb, Bool.and_false]
      obtain ⟨v, hv, v0, v1⟩ := num_row hgg hb (by omega)
      walk_at "wp"
      refine hgg.ix1 ?_
      walk_at "wp"
      refine wE_eq (F81_eq (clean_row hT) hb) ?_
      refine wO_some (ix_tup (atI_nat hv)) ?_
      walk_at "wp"
      refine ⟨rfl, F80_2 G (clean_row hT) hw hf hdp hb (by omega) hv, F75_refl (clean_row hT) (fun d hd => ?_) ?_⟩
      · rw [List.mem_singleton.mp hd]; rfl
      · refine pv_tup.mpr ⟨by simp [BIG], rfl⟩
    intro δ S ⟨due, e1, e2, k1, k2⟩
    subst e1 e2
    walk_at "wi"
    refine hgg.ix0 ?_
    walk_at "wp"
    refine wE_eq k1 ?_
    walk_at "wp"
    refine wE_eq k2 ?_
    walk_at "wp"
    exact ⟨_, _, _, _, rfl, rfl⟩
  · intro δ S ⟨x6, x7, x8, x9, e1, e2⟩
    subst e1 e2
    walk_at "wp"
    exact w_finR0 hT rfl (h _)
end QB
set_option maxHeartbeats 4000000
namespace QB
open PySem PySem.Spec PySem.Calls PyProof.Rows L2
local macro_rules | `(tactic| walk_at "wp") => `(tactic| repeat (first
  | with_reducible refine w_cons ?_ | with_reducible refine w_nil ?_
  | ((with_reducible apply w_var); (focus rfl))
  | with_reducible refine w_c ?_ | with_reducible refine w_2 ?_ | with_reducible refine w_f ?_
  | with_reducible refine w_call ?_
  | with_reducible refine w_seq ?_
  | (with_reducible refine w_asg ?_)
  | with_reducible refine w_ret ?_ | with_reducible refine w_expr ?_ | with_reducible refine w_skip ?_ | with_reducible refine w_break ?_
  | with_reducible refine w_bool ?_ | with_reducible refine w_wB ?_ | with_reducible refine w_tru ?_ | with_reducible refine w_tnot ?_ | with_reducible refine w_tand ?_ | with_reducible refine w_tor ?_ | with_reducible refine w_yes ?_
  | with_reducible refine w_ift ?_ | with_reducible refine w_iff ?_ | with_reducible refine w_ifn ?_
  | with_reducible refine w_and ?_ | with_reducible refine w_or ?_ | with_reducible refine w_not ?_ | with_reducible refine w_dif ?_ | with_reducible refine w_chain ?_
  | with_reducible refine o_bl ?_ | with_reducible refine o_non ?_ | with_reducible refine o_addI ?_ | with_reducible refine o_subI ?_ | with_reducible refine o_eqI ?_ | with_reducible refine o_neI ?_ | with_reducible refine o_leI ?_ | with_reducible refine o_ltI ?_ | with_reducible refine o_gtI ?_ | with_reducible refine o_geI ?_
  | with_reducible refine o_lenT ?_ | with_reducible refine o_lenL ?_ | with_reducible refine o_intI ?_ | with_reducible refine o_is1 ?_ | with_reducible refine o_is0 ?_ | with_reducible refine o_isn1 ?_ | with_reducible refine o_isn0 ?_ | with_reducible refine o_neg ?_
  | with_reducible refine o_tupL ?_ | with_reducible refine o_tupT ?_ | with_reducible refine o_listT ?_ | with_reducible refine o_listL ?_
  | with_reducible refine o_gNm ?_
  | with_reducible refine w_tup ?_ | with_reducible refine w_lst ?_ | with_reducible refine w_1 ?_
  | with_reducible refine w_for ?_ | with_reducible refine w_iOf ?_ | with_reducible refine w_iEnum ?_
  | with_reducible refine o_srcT ?_ | with_reducible refine o_srcL ?_ | with_reducible refine o_srcS ?_ | with_reducible refine o_enumT ?_ | with_reducible refine o_enumL ?_
  | with_reducible refine w_sl ?_ | with_reducible refine w_oN ?_ | with_reducible refine w_oS ?_
  | with_reducible refine w_lc ?_ | with_reducible refine w_callD ?_ | with_reducible refine w_callK ?_ | with_reducible refine w_callS ?_ | with_reducible refine w_callS0 ?_ | with_reducible refine w_lstC ?_
  | ((with_reducible refine And.intro (sm ?_) ?_); (focus (simp [enumF]; done)))
  | with_reducible refine ⟨_, rfl, ?_⟩))
local macro_rules | `(tactic| walk_at "wi") => `(tactic| ((with_reducible refine w_sif ?_); walk_at "wp"))
local macro_rules | `(tactic| walk_at "vk") => `(tactic| repeat' (first | assumption | exact vk_nilL | refine vk_cons ?_ ?_ | refine vk_app ?_ ?_ | exact vk_int | exact vk_bl | exact vk_non | exact vk_str (by decide +kernel) | refine vk_tup (by simp) ?_ | refine vk_lst (by simp) ?_))
/-! the lot's checkers -/
theorem GG.vk {g : D} (h : GG g) : vk 40 2 g := by
  have hn := h.name
  have hr := gg_rows h
  rw [h.eta]
  refine vk_tup (by simp) (vk_cons (vk_str (by omega)) (vk_cons (vk_tup ?_ fun x hx => ?_) vk_nilL))
  · have := lg_pow hr.1
    have h3 := this.2
    rw [this.1]
    calc 2 ^ lg (gR g).length ≤ 2 ^ 5 := Nat.pow_le_pow_right (by omega) h3
      _ ≤ 40 := by omega
  · obtain ⟨i, rfl⟩ := bits_lst hr.2 x hx
    exact vk_int
theorem gateF_small {d : D} {a : Str} {w : String} (h : gateF d a = some w) : (Str.ofString w).length ≤ 20 := by
  have : w = "shape" ∨ w = "name" ∨ w = "sequence" ∨ w = "rows" := by
    unfold gateF at h
    split at h
    · split at h
      · split at h
        · split at h
          · cases h; simp
          · split at h
            · cases h
            · cases h; simp
        · cases h; simp
      · cases h; simp
    · cases h; simp
  rcases this with rfl | rfl | rfl | rfl <;> decide +kernel
theorem lotF_small : ∀ {xs : List D} {i : Nat} {a : Str} {w : String} {j : Nat}, lotF xs i a = some (w, j) → (Str.ofString w).length ≤ 20
  | [], _, _, _, _, h => by cases h
  | d :: r, i, a, w, j, h => by
    rw [lotF] at h
    cases hg : gateF d a with
    | some v =>
      rw [hg] at h
      simp only [Option.some.injEq, Prod.mk.injEq] at h
      rw [← h.1]
      exact gateF_small hg
    | none =>
      rw [hg] at h
      exact lotF_small h
theorem lotD_small {d : D} {w : String} {i : Int} (h : lotD d = some (w, i)) : (Str.ofString w).length ≤ 20 := by
  cases d
  case tup xs =>
    have h : (lotF xs 0 (Str.ofString "")).map (fun p => (p.1, (p.2 : Int))) = some (w, i) := h
    cases hl : lotF xs 0 (Str.ofString "") with
    | none => rw [hl] at h; cases h
    | some p =>
      rw [hl] at h
      simp only [Option.map_some, Option.some.injEq, Prod.mk.injEq] at h
      rw [← h.1]
      exact lotF_small (j := p.2) hl
  all_goals
    have h : some ("shape", (-1 : Int)) = some (w, i) := h
    simp only [Option.some.injEq, Prod.mk.injEq] at h
    rw [← h.1]
    decide +kernel
theorem due60_shape {d : D} (hd : pv d = true) : ∃ r, due60 d = .tup (.bl (lotD d).isNone :: r) ∧ (∀ x ∈ r, isItem x = true) ∧ pv (.tup (.bl (lotD d).isNone :: r)) = true := by
  cases h : lotD d with
  | some p =>
    obtain ⟨w, i⟩ := p
    refine ⟨[.str (Str.ofString w), .int i], ?_, fun x hx => ?_, ?_⟩
    · unfold due60
      rw [h]
      rfl
    · simp only [List.mem_cons, List.not_mem_nil, or_false] at hx
      rcases hx with rfl | rfl <;> rfl
    · have := lotD_small h
      refine pv_tup.mpr ⟨by simp [BIG], pvs_mem.mpr fun x hx => ?_⟩
      simp only [List.mem_cons, List.not_mem_nil, or_false] at hx
      rcases hx with rfl | rfl | rfl
      · rfl
      · exact pv_str.mpr (by unfold BIG; omega)
      · rfl
  | none =>
    obtain ⟨xs, rfl⟩ := lotD_tup h
    refine ⟨[.int xs.length], ?_, fun x hx => ?_, ?_⟩
    · unfold due60
      rw [h]
      rfl
    · rw [List.mem_singleton.mp hx]; rfl
    · exact pv_tup.mpr ⟨by simp [BIG], rfl⟩
theorem o_ixTn {xs : List D} {v : Int} {S : Sto} {P : D → Prop} (h0 : -(xs.length : Int) ≤ v) (h1 : v < xs.length) (h : ∀ d, d ∈ xs → P d) : wO (bIx (.tup xs) (.int v) S) P := by
  obtain ⟨d, e, hd⟩ := atI_range h0 h1
  exact wO_some (ix_tup e) (h d hd)
theorem F76_w {l : List Int} {T : Sto} {Q : D → Sto → Prop} {X : XP} (hT : Clean T) (h : ∀ l', Q (.bl true) (Row l' T)) : wE (F76 [.ref 0] (Row l T)) Q X := by
  rw [F76]
  refine w_def (by rfl) ?_
  walk_at "wp"
  refine w_sort0 ?_
  walk_at "wp"
  refine take48 hT (by omega) fun v l1 v0 v1 => ?_
  walk_at "wp"
  rw [show v = ((v.toNat : Nat) : Int) by omega]
  refine F51_w hT (by omega) fun gs l2 hGL hgl => ?_
  refine wO_some rfl ⟨hGL.gg, by omega, ?_⟩
  have hs := sort0_GL hGL
  have hsl : (sort0 gs).length ≤ 6 := by rw [sort0_len]; omega
  have hlot := sort0_lot hGL
  generalize sort0 gs = us at hs hsl hlot ⊢
  have hus : ∀ x ∈ us, vk 40 2 x := fun x hx => (hs.gg x hx).vk
  have hut : vk 40 3 (.tup us) := vk_tup (by omega) hus
  walk_at "wp"
  refine F67_w hT (by omega) (by omega) hut fun b1 l3 hb1 => ?_
  walk_at "wp"
  refine F67_w hT (by omega) (by omega) hb1 fun b2 l4 hb2 => ?_
  walk_at "wp"
  refine o_slTv hus fun c1 hc1l hc1 => ?_
  refine o_addT (sm6 (by omega)) ?_
  walk_at "wp"
  refine o_slTv hus fun c2 hc2l hc2 => ?_
  refine o_addT (sm6 (by omega)) ?_
  walk_at "wp"
  refine wS_cut (fun δ S => ∃ xs x2 x4 x5 x6, δ = [some (.ref 0), some (.tup us), x2, some (.lst xs), x4, x5, x6] ∧ S = Row l4 T ∧ xs.length ≤ 100 ∧ ∀ x ∈ xs, vk 400 6 x) ?_ ?_
  · have k1 : ∀ {xs : List D}, (∀ x ∈ xs, vk 40 2 x) → ∀ x ∈ xs, vk 400 5 x := fun h => vk_up h (by omega) (by omega)
    have hL : ∀ x ∈ [.tup us, b1, b2, .tup (us ++ c1), .tup (us ++ c2), .lst us], vk 400 6 x := vk_cons (vk_mono (by omega) (by omega) hut) (vk_cons (vk_mono (by omega) (by omega) hb1) (vk_cons (vk_mono (by omega) (by omega) hb2) (vk_cons (vk_tup (by rw [List.length_append]; omega) (vk_app (k1 hus) (k1 hc1))) (vk_cons (vk_tup (by rw [List.length_append]; omega) (vk_app (k1 hus) (k1 hc2))) (vk_cons (vk_lst (by omega) (k1 hus)) vk_nilL)))))
    walk_at "wi"
    refine w_ifd (fun h0 => ?_) fun h0 => ?_
    case refine_2 =>
      walk_at "wp"
      exact ⟨_, _, _, _, _, rfl, rfl, by simp, hL⟩
    walk_at "wp"
    refine o_ixTn (by omega) (by omega) fun g1 hg1 => ?_
    walk_at "wp"
    have hg1 := hs.gg g1 hg1
    refine hg1.ix0 ?_
    walk_at "wp"
    have hn1 := hg1.name
    have hbl : (Str.ofString "b").length = 1 := by decide +kernel
    refine o_addS (sm6 (by omega)) ?_
    walk_at "wp"
    refine wO_some (mul_tup (k := 64) (by omega)) ?_
    walk_at "wp"
    refine o_addT (sm6 (by simp; omega)) ?_
    walk_at "wp"
    refine o_ixTn (by omega) (by omega) fun g2 hg2 => ?_
    walk_at "wp"
    have hg2 := hs.gg g2 hg2
    refine hg2.ix0 ?_
    have hn2 := hg2.name
    walk_at "wp"
    refine o_addT (sm6 (by simp; omega)) ?_
    walk_at "wp"
    refine o_addLv (n := 400) (k := 6) hL (vk_cons (vk_tup (by rw [List.length_append]; simp; omega) (vk_app (k1 hus) (vk_cons (vk_tup (by simp) (vk_cons (vk_str (by rw [add_len]; omega)) (vk_cons (vk_tup (by simp) fun x hx => by rw [List.eq_of_mem_replicate hx]; exact vk_int) vk_nilL))) vk_nilL))) (vk_cons (vk_tup (by rw [List.length_append]; simp; omega) (vk_app (k1 hus) (vk_cons (vk_tup (by simp) (vk_cons (vk_str (by omega)) (vk_cons vk_non vk_nilL))) vk_nilL))) vk_nilL)) (by simp) fun xs hxl hxv => ?_
    replace hxl : xs.length = 8 := hxl
    walk_at "wp"
    refine o_ixTn (by omega) (by omega) fun g3 hg3 => ?_
    walk_at "wp"
    have hg3 := hs.gg g3 hg3
    have hn3 := hg3.name
    refine hg3.ix0 ?_
    walk_at "wp"
    refine w_inv (I := fun j δ S => ∃ xs x2 x4 x5 x6, δ = [some (.ref 0), some (.tup us), x2, some (.lst xs), x4, x5, x6] ∧ S = Row l4 T ∧ xs.length ≤ 8 + 2 * j ∧ ∀ x ∈ xs, vk 400 6 x) ⟨xs, _, _, _, _, rfl, rfl, by omega, hxv⟩ ?_ ?_
    · intro j d hd δ S ⟨xs, x2, x4, x5, x6, e1, e2, hxl, hxv⟩
      subst e1 e2
      have hj : j < 2 := by
        have := (List.getElem?_eq_some_iff.mp hd).1
        simpa using this
      have hdv : vk 40 0 d := by
        have hm := List.mem_of_getElem? hd
        simp only [List.mem_cons, List.not_mem_nil, or_false] at hm
        rcases hm with rfl | rfl
        · exact vk_str (by omega)
        · exact vk_str (by decide +kernel)
      walk_at "wp"
      refine o_ixTn (by omega) (by omega) fun g4 hg4 => ?_
      walk_at "wp"
      have hg4 := hs.gg g4 hg4
      have hv4 := hg4.vk
      rw [hg4.eta] at hv4
      have hr4 : vk 40 1 (.tup (gR g4)) := hv4.2 _ (by simp)
      refine hg4.ix1 ?_
      walk_at "wp"
      refine o_slTv hus fun d1 hd1l hd1 => ?_
      refine o_addT (sm6 (by simp; omega)) ?_
      walk_at "wp"
      refine o_ixTn (by omega) (by omega) fun g5 hg5 => ?_
      walk_at "wp"
      have hg5 := hs.gg g5 hg5
      have hv5 := hg5.vk
      rw [hg5.eta] at hv5
      have hr5 : vk 40 1 (.tup (gR g5)) := hv5.2 _ (by simp)
      refine hg5.ix1 ?_
      walk_at "wp"
      refine o_slTv hus fun d2 hd2l hd2 => ?_
      refine o_addT (sm6 (by simp; omega)) ?_
      walk_at "wp"
      refine o_addLv (n := 400) (k := 6) hxv (vk_cons (vk_tup (by rw [List.length_append]; simp; omega) (vk_app (vk_cons (vk_tup (by simp) (vk_cons (vk_mono (by omega) (by omega) hdv) (vk_cons (vk_lst (by have := hr4.1; omega) (vk_up hr4.2 (by omega) (Nat.zero_le _))) vk_nilL))) vk_nilL) (k1 hd1))) (vk_cons (vk_tup (by rw [List.length_append]; simp; omega) (vk_app (vk_cons (vk_tup (by simp) (vk_cons (vk_mono (by omega) (by omega) hdv) (vk_cons (vk_mono (by omega) (by omega) hr5) (vk_cons vk_int vk_nilL)))) vk_nilL) (k1 hd2))) vk_nilL)) (by simp; omega) fun zs hzl hzv => ?_
      have hzl : zs.length = xs.length + 2 := hzl
      exact ⟨zs, _, _, _, _, rfl, rfl, by omega, hzv⟩
    · intro δ S ⟨xs, x2, x4, x5, x6, e1, e2, hxl, hxv⟩
      have hxl : xs.length ≤ 12 := hxl
      exact ⟨xs, _, _, _, _, e1, e2, by omega, hxv⟩
  intro δ S ⟨xs, x2, x4, x5, x6, e1, e2, hxl, hxv⟩
  subst e1 e2
  walk_at "wp"
  refine o_addLv (n := 400) (k := 6) hxv (vk_cons (vk_mono (by omega) (by omega) hut) vk_nilL) (by simp; omega) fun ys hyl hyv => ?_
  walk_at "wp"
  have hup : pv (.tup us) = true := vk_pv (big_le (by omega)) hut
  refine w_inv0 (I := fun δ S => ∃ x2 x3 x4 x5 x6, δ = [some (.ref 0), some (.tup us), x2, x3, x4, x5, x6] ∧ S = Row l4 T) ⟨_, _, _, _, _, rfl, rfl⟩ ?_ ?_
  · intro d hd δ S ⟨x2, x3, x4, x5, x6, e1, e2⟩
    subst e1 e2
    have hdp : pv d = true := vk_pv (big_le (by omega)) (hyv d hd)
    obtain ⟨r, e, hr, hrp⟩ := due60_shape hdp
    walk_at "wp"
    refine wE_eq (F60_eq (clean_row hT) hdp) ?_
    walk_at "wp"
    walk_at "wi"
    refine wE_eq (F74_eq (clean_row hT) hdp) ?_
    walk_at "wp"
    rw [e]
    refine wE_eq (F75_refl (clean_row hT) hr hrp) ?_
    walk_at "wp"
    refine wE_eq (F34_eq (clean_row hT) hdp) ?_
    walk_at "wp"
    refine o_ix0 ?_
    walk_at "wp"
    refine wE_eq (F68_same (clean_row hT)) ?_
    walk_at "wp"
    exact ⟨_, _, _, _, _, rfl, rfl⟩
  · intro δ S ⟨x2, x3, x4, x5, x6, e1, e2⟩
    subst e1 e2
    walk_at "wp"
    refine ⟨⟨rfl, rfl⟩, ?_⟩
    refine wE_eq (show F34 [.tup us] (Row l4 T) = .ok (.bl true) (Row l4 T) by rw [F34_eq (clean_row hT) hup, lotD_ok hlot]; rfl) ?_
    walk_at "wp"
    refine ⟨⟨rfl, rfl⟩, ?_⟩
    refine wE_eq (F29_ok (clean_row hT) hup (lotD_ok hlot)) ?_
    walk_at "wp"
    rw [decide_eq_true rfl]
    exact w_finR0 hT rfl (h _)
end QB
set_option maxHeartbeats 4000000
namespace QB
open PySem PySem.Spec PySem.Calls PyProof.Rows L2
local macro_rules | `(tactic| walk_at "wp") => `(tactic| repeat (first
  | with_reducible refine w_cons ?_ | with_reducible refine w_nil ?_
  | ((with_reducible apply w_var); (focus rfl))
  | with_reducible refine w_c ?_ | with_reducible refine w_2 ?_ | with_reducible refine w_f ?_
  | with_reducible refine w_call ?_
  | with_reducible refine w_seq ?_
  | (with_reducible refine w_asg ?_)
  | with_reducible refine w_ret ?_ | with_reducible refine w_expr ?_ | with_reducible refine w_skip ?_ | with_reducible refine w_break ?_
  | with_reducible refine w_bool ?_ | with_reducible refine w_wB ?_ | with_reducible refine w_tru ?_ | with_reducible refine w_tnot ?_ | with_reducible refine w_tand ?_ | with_reducible refine w_tor ?_ | with_reducible refine w_yes ?_
  | with_reducible refine w_ift ?_ | with_reducible refine w_iff ?_ | with_reducible refine w_ifn ?_
  | with_reducible refine w_and ?_ | with_reducible refine w_or ?_ | with_reducible refine w_not ?_ | with_reducible refine w_dif ?_ | with_reducible refine w_chain ?_
  | with_reducible refine o_bl ?_ | with_reducible refine o_non ?_ | with_reducible refine o_addI ?_ | with_reducible refine o_subI ?_ | with_reducible refine o_eqI ?_ | with_reducible refine o_neI ?_ | with_reducible refine o_leI ?_ | with_reducible refine o_ltI ?_ | with_reducible refine o_gtI ?_ | with_reducible refine o_geI ?_
  | with_reducible refine o_lenT ?_ | with_reducible refine o_lenL ?_ | with_reducible refine o_intI ?_ | with_reducible refine o_is1 ?_ | with_reducible refine o_is0 ?_ | with_reducible refine o_isn1 ?_ | with_reducible refine o_isn0 ?_ | with_reducible refine o_neg ?_
  | with_reducible refine o_tupL ?_ | with_reducible refine o_tupT ?_ | with_reducible refine o_listT ?_ | with_reducible refine o_listL ?_
  | with_reducible refine o_gNm ?_
  | with_reducible refine w_tup ?_ | with_reducible refine w_lst ?_ | with_reducible refine w_1 ?_
  | with_reducible refine w_for ?_ | with_reducible refine w_iOf ?_ | with_reducible refine w_iEnum ?_
  | with_reducible refine o_srcT ?_ | with_reducible refine o_srcL ?_ | with_reducible refine o_srcS ?_ | with_reducible refine o_enumT ?_ | with_reducible refine o_enumL ?_
  | with_reducible refine w_sl ?_ | with_reducible refine w_oN ?_ | with_reducible refine w_oS ?_
  | with_reducible refine w_lc ?_ | with_reducible refine w_callD ?_ | with_reducible refine w_callK ?_ | with_reducible refine w_callS ?_ | with_reducible refine w_callS0 ?_ | with_reducible refine w_lstC ?_
  | ((with_reducible refine And.intro (sm ?_) ?_); (focus (simp [enumF]; done)))
  | with_reducible refine ⟨_, rfl, ?_⟩))
local macro_rules | `(tactic| walk_at "wi") => `(tactic| ((with_reducible refine w_sif ?_); walk_at "wp"))
local macro_rules | `(tactic| walk_at "vk") => `(tactic| repeat' (first | assumption | exact vk_nilL | refine vk_cons ?_ ?_ | refine vk_app ?_ ?_ | exact vk_int | exact vk_bl | exact vk_non | exact vk_str (by decide +kernel) | refine vk_tup (by simp) ?_ | refine vk_lst (by simp) ?_))
/-! the lots -/
theorem w_listC {t : DE} {δ : Sl} {l : List Int} {T S : Sto} {Q : D → Sto → Prop} {X : XP} (h : wE (t δ S) (fun d S1 => ∃ gs l T, d = .lst gs ∧ S1 = Row l T ∧ Q (.ref (T.length + 1)) (Row l (T ++ [.lst gs]))) X) : wE (dListC (aCons t aNil) δ S) Q X := by
  unfold dListC
  refine wE_bind (w_cons (wE_q h fun d S1 h => w_nil ?_))
  obtain ⟨gs, l, T, rfl, rfl, q⟩ := h
  exact ⟨q⟩
theorem w_listRev {ta : DE} {δ : Sl} {S : Sto} {Q : D → Sto → Prop} {X : XP} (h : wE (ta δ S) (fun d S1 => wO (getL d S1) fun ds => Q (.lst ds.reverse) S1) X) : wE (dListRev ta δ S) Q X := by
  refine wE_bind (wE_q h fun d S1 h => ?_)
  obtain ⟨ds, e, q⟩ := wO_get h
  simp only [e]
  exact wE_ok q
theorem pv_of {xs : List D} {n k : Nat} (hn : n ≤ BIG) (h : ∀ x ∈ xs, vk n k x) : ∀ x ∈ xs, pv x = true := fun x hx => vk_pv hn (h x hx)
theorem put_cell {l : List Int} {T : Sto} {ws : List D} {k : Int} {b : D} (h0 : 0 ≤ k) (h1 : k < ws.length) : putAtD (.ref (T.length + 1)) (.int k) b (Row l (T ++ [.lst ws])) = some (Row l (T ++ [.lst (ws.set k.toNat b)])) := by
  unfold putAtD
  simp only [row_cell]
  have hi : ixN ws.length k = some k.toNat := by
    unfold ixN
    rw [if_pos h0, if_pos h1]
  rw [hi]
  show some ((Row l (T ++ [Ob.lst ws])).set (T.length + 1) (.lst (ws.set k.toNat b))) = _
  show some (_ :: (T ++ [Ob.lst ws]).set T.length (.lst (ws.set k.toNat b))) = _
  simp [Row]
theorem svs_names : ∀ us : List D, svs (us.map fun g => D.str (gname g)) = some (us.map fun g => V.str (gname g))
  | [] => rfl
  | g :: us => by rw [List.map_cons, svs, svs_names us]; rfl
theorem in_scal {d : D} {v : V} {us : List D} {S : Sto} (h : sv d = some v) (h1 : bInC not d (.lst (us.map fun g => .str (gname g))) S = none) : ∃ b, bIn not d (.lst (us.map fun g => .str (gname g))) S = some (.bl b) := by
  have h2 : bInK not d (.lst (us.map fun g => .str (gname g))) S = none := rfl
  have e : bInF not d (.lst (us.map fun g => .str (gname g))) S = some (.bl (!(inV v (us.map fun g => V.str (gname g))))) := by
    unfold bInF
    simp only [getQ, h, svs_names]
  exact ⟨_, orB_none h1 (orB_none h2 (orB_some e))⟩
theorem in_data {d : D} {us : List D} {S : Sto} (hd : EqOk 1 d) (hu : EqOk 1 (.lst (us.map fun g => .str (gname g)))) (hs : sv d = none) (h1 : bInC not d (.lst (us.map fun g => .str (gname g))) S = none) (ht : toPyS d S = toPy d) : ∃ b, bIn not d (.lst (us.map fun g => .str (gname g))) S = some (.bl b) := by
  have h2 : bInK not d (.lst (us.map fun g => .str (gname g))) S = none := rfl
  have h3 : bInF not d (.lst (us.map fun g => .str (gname g))) S = none := by
    unfold bInF
    simp only [getQ, hs]
  obtain ⟨p, e1, e2, e3⟩ := hd
  obtain ⟨q, f1, f2, f3⟩ := hu
  have f1 : (toPys (us.map fun g => D.str (gname g))).map PyData.list = some q := f1
  cases hp : toPys (us.map fun g => D.str (gname g)) with
  | none => rw [hp] at f1; cases f1
  | some ps =>
    rw [hp] at f1
    cases f1
    have s1 : SeqAt.shaped p = true := by
      unfold SeqAt.shaped
      rw [e2, decide_eq_true (by omega)]; rfl
    have s2 : SeqAt.shaped (.list ps) = true := by
      unfold SeqAt.shaped
      rw [f2, decide_eq_true (by omega)]; rfl
    have e : bInD not d (.lst (us.map fun g => .str (gname g))) S = some (.bl (!(ps.any fun z => PyData.eqv z p))) := by
      unfold bInD
      rw [ht, e1]
      simp only [getL, Option.bind_some, hp, s1, s2]
      rfl
    exact ⟨_, orB_none h1 (orB_none h2 (orB_none h3 e))⟩
theorem F83_w {l : List Int} {T : Sto} {Q : D → Sto → Prop} {X : XP} (hT : Clean T) (h : ∀ l', Q (.bl true) (Row l' T)) : wE (F83 [.ref 0] (Row l T)) Q X := by
  rw [F83]
  refine w_def (by rfl) ?_
  walk_at "wp"
  refine take48 hT (by omega) fun v l1 v0 v1 => ?_
  walk_at "wp"
  rw [show v = ((v.toNat : Nat) : Int) by omega]
  refine F51_w hT (by omega) fun gs l2 hGL hgl => ?_
  replace hgl : gs.length ≤ 4 := by omega
  walk_at "wp"
  refine w_sort0 ?_
  walk_at "wp"
  refine wO_some rfl ⟨hGL.gg, by omega, ?_⟩
  have hs := sort0_GL hGL
  have hsl : (sort0 gs).length ≤ 4 := by rw [sort0_len]; omega
  generalize sort0 gs = us at hs hsl ⊢
  have G := hs.good (by omega)
  have hgv : ∀ x ∈ gs, vk 40 2 x := fun x hx => (hGL.gg x hx).vk
  have hgp : ∀ x ∈ gs, pv x = true := fun x hx => (hGL.gg x hx).pv
  walk_at "wp"
  refine w_listC (l := l2) (T := T) ?_
  walk_at "wp"
  refine ⟨gs, l2, T, rfl, rfl, ?_⟩
  walk_at "wp"
  refine wS_cut (fun δ S => ∃ l3 ws, δ = [some (.ref 0), some (.lst gs), some (.tup us), some (.ref (T.length + 1)), none, none, none, none, none, none] ∧ S = Row l3 (T ++ [.lst ws]) ∧ ws.length = gs.length ∧ ∀ x ∈ ws, vk 200 4 x) ?_ ?_
  · have hgv4 : ∀ x ∈ gs, vk 200 4 x := vk_up hgv (by omega) (by omega)
    have hC : Clean (T ++ [.lst gs]) := clean_add hT (nrs_gg hGL.gg)
    walk_at "wi"
    refine w_ifd (fun h0 => ?_) fun h0 => ?_
    case refine_2 =>
      walk_at "wp"
      exact ⟨_, gs, rfl, rfl, rfl, hgv4⟩
    refine w_put ?_
    walk_at "wp"
    refine take48 hC (by omega) fun i l3 i0 i1 => ?_
    refine o_ixL i0 i1 fun g hg _ => ?_
    walk_at "wp"
    refine F67_w hC (by omega) (by omega) (hgv g hg) fun b l4 hb => ?_
    walk_at "wp"
    refine take48 hC (by omega) fun k l5 k0 k1 => ?_
    refine wO_some (put_cell k0 k1) ?_
    refine ⟨_, _, rfl, rfl, by rw [List.length_set], fun x hx => ?_⟩
    rcases List.mem_or_eq_of_mem_set hx with hx | rfl
    · exact hgv4 x hx
    · exact vk_mono (by omega) (by omega) hb
  intro δ S ⟨l3, ws, e1, e2, hwl, hwv⟩
  subst e1 e2
  have hC : Clean (T ++ [.lst ws]) := clean_add hT (nrs_mem.mpr fun x hx => vk_nr (big_le (by omega)) (hwv x hx))
  generalize hTw : T ++ [.lst ws] = T2 at hC ⊢
  walk_at "wp"
  have c3 : cutL gs none (some 3) = gs.take 3 := cut_to (n := 3)
  have c1 : ∀ xs : List D, cutL xs none (some 1) = xs.take 1 := fun xs => cut_to (n := 1)
  have d1 : cutL gs (some 1) none = gs.drop 1 := cut_from (n := 1)
  refine o_slL ?_
  rw [c3]
  walk_at "wp"
  refine take48 hC (by omega) fun k l4 k0 k1 => ?_
  walk_at "wp"
  refine o_slL ?_
  have htm : ∀ x ∈ cutL gs (some k) none, x ∈ gs := fun x hx => cutL_mem hx
  generalize cutL gs (some k) none = ds at htm ⊢
  walk_at "wp"
  refine o_slL ?_
  rw [c1]
  refine o_addL (sm6 (by rw [List.length_take, List.length_take]; omega)) ?_
  have htwl : (gs.take 3 ++ ds.take 1).length ≤ 4 := by rw [List.length_append, List.length_take, List.length_take]; omega
  have htwp : ∀ x ∈ gs.take 3 ++ ds.take 1, pv x = true := fun x hx => by
    rcases List.mem_append.mp hx with hx | hx
    · exact hgp x (List.mem_of_mem_take hx)
    · exact hgp x (htm x (List.mem_of_mem_take hx))
  generalize gs.take 3 ++ ds.take 1 = tw at htwl htwp ⊢
  walk_at "wp"
  refine w_listRev ?_
  walk_at "wp"
  refine wO_some rfl ?_
  walk_at "wp"
  refine o_slL ?_
  rw [d1]
  walk_at "wp"
  refine o_slL ?_
  rw [c1]
  refine o_addL (sm6 (by rw [List.length_take, List.length_drop]; omega)) ?_
  have hrol : (gs.drop 1 ++ gs.take 1).length ≤ 4 := by rw [List.length_append, List.length_take, List.length_drop]; omega
  have hrop : ∀ x ∈ gs.drop 1 ++ gs.take 1, pv x = true := fun x hx => by
    rcases List.mem_append.mp hx with hx | hx
    · exact hgp x (List.mem_of_mem_drop hx)
    · exact hgp x (List.mem_of_mem_take hx)
  generalize gs.drop 1 ++ gs.take 1 = ro at hrol hrop ⊢
  walk_at "wp"
  refine w_inv0 (I := fun δ S => ∃ x1 x3 x4 x5 x6 x7 x8 x9, δ = [some (.ref 0), x1, some (.tup us), x3, x4, x5, x6, x7, x8, x9] ∧ S = Row l4 T2) ⟨_, _, _, _, _, _, _, _, rfl, rfl⟩ ?_ ?_
  · intro d hd δ S ⟨x1, x3, x4, x5, x6, x7, x8, x9, e1, e2⟩
    subst e1 e2
    have hgp' : ∀ x ∈ ws, pv x = true := pv_of (big_le (by omega)) hwv
    have hH : ∃ ls, HL d T2 ls ∧ (∀ x ∈ ls, pv x = true) ∧ ls.length ≤ 4 := by
      simp only [List.mem_cons, List.not_mem_nil, or_false] at hd
      rcases hd with rfl | rfl | rfl | rfl | rfl | rfl
      · exact ⟨gs, .inl rfl, hgp, hgl⟩
      · exact ⟨gs.reverse, .inl rfl, fun x hx => hgp x (List.mem_reverse.mp hx), by rw [List.length_reverse]; exact hgl⟩
      · exact ⟨ws, .inr ⟨T, [], hTw.symm, rfl⟩, hgp', by omega⟩
      · exact ⟨tw, .inl rfl, htwp, htwl⟩
      · exact ⟨ro, .inl rfl, hrop, hrol⟩
      · exact ⟨gs, .inl rfl, hgp, hgl⟩
    obtain ⟨ls, h1, h2, h3⟩ := hH
    walk_at "wp"
    walk_at "wi"
    refine F79_w hC h1 h2 h3 ?_
    walk_at "wp"
    exact ⟨_, _, _, _, _, _, _, _, rfl, rfl⟩
  intro δ S ⟨x1, x3, x4, x5, x6, x7, x8, x9, e1, e2⟩
  subst e1 e2
  walk_at "wp"
  refine ⟨⟨rfl, rfl⟩, ?_⟩
  refine F42_w (clean_row hC) G ?_
  walk_at "wp"
  have hnv : ∀ x ∈ us.map (fun g => D.str (gname g)), vk 40 1 x := fun x hx => by
    obtain ⟨g, hg, rfl⟩ := List.mem_map.mp hx
    exact vk_str (by have := (hs.gg g hg).name; omega)
  have hnp : pv (.tup (us.map fun g => D.str (gname g))) = true := vk_pv (n := 40) (k := 2) (big_le (by omega)) (vk_tup (by rw [List.length_map]; omega) hnv)
  have hneq : EqOk 1 (.lst (us.map fun g => D.str (gname g))) := eqOk_lst fun x hx => by
    obtain ⟨g, hg, rfl⟩ := List.mem_map.mp hx
    obtain ⟨w, r, rfl, h1, _⟩ := (hs.gg g hg).ex
    exact eqOk_word h1
  walk_at "wi"
  refine o_isiT hnp ?_
  show wO (dTru (.bl true) _) _
  walk_at "wp"
  refine ⟨sm6 (by show us.length + 1 ≤ _; omega), ?_⟩
  refine w_lcM (f := fun g => .str (gname g)) rfl (fun g hg => ?_) ?_
  · walk_at "wp"
    exact (hs.gg g hg).ix0 ⟨rfl, rfl⟩
  refine o_neSelfL hneq (by omega) ?_
  walk_at "wp"
  refine w_inv0 (I := fun δ S => ∃ x1 x3 x4 x5 x6 x7 x8 x9 l, δ = [some (.ref 0), x1, some (.tup us), x3, x4, x5, x6, x7, x8, x9] ∧ S = Row l T2) ⟨_, _, _, _, _, _, _, _, _, rfl, rfl⟩ ?_ ?_
  · intro g hg δ S ⟨x1, x3, x4, x5, x6, x7, x8, x9, l5, e1, e2⟩
    subst e1 e2
    walk_at "wp"
    walk_at "wi"
    refine F82_w hC G hg fun l6 => ?_
    walk_at "wp"
    exact ⟨_, _, _, _, _, _, _, _, _, rfl, rfl⟩
  intro δ S ⟨x1, x3, x4, x5, x6, x7, x8, x9, l5, e1, e2⟩
  subst e1 e2
  walk_at "wp"
  refine ⟨sm6 (by show us.length + 1 ≤ _; omega), ?_⟩
  refine w_lcI (fun acc S => S = Row l5 T2 ∧ ∀ x ∈ acc, x ∈ us ∧ 1 ≤ inp x) ⟨rfl, fun _ z => nomatch z⟩ ?_ ?_
  · intro g hg acc S ⟨e, hacc⟩
    subst e
    walk_at "wp"
    refine wE_eq (F52_eq (clean_row hC) (hs.gg g hg)) ?_
    walk_at "wp"
    refine w_ifd (fun h0 => ?_) fun h0 => ⟨rfl, hacc⟩
    walk_at "wp"
    refine ⟨rfl, fun x hx => ?_⟩
    rcases List.mem_append.mp hx with hx | hx
    · exact hacc x hx
    · rw [List.mem_singleton.mp hx]
      exact ⟨hg, by omega⟩
  intro os S ⟨e, hos⟩
  subst e
  walk_at "wp"
  refine o_slL ?_
  rw [c1]
  walk_at "wp"
  refine w_inv0 (I := fun δ S => ∃ x1 x3 x4 x5 x6 x7 x8 x9, δ = [some (.ref 0), x1, some (.tup us), x3, x4, x5, x6, x7, x8, x9] ∧ S = Row l5 T2) ⟨_, _, _, _, _, _, _, _, rfl, rfl⟩ ?_ ?_
  · intro g hg δ S ⟨x1, x3, x4, x5, x6, x7, x8, x9, e1, e2⟩
    subst e1 e2
    obtain ⟨h1, h2⟩ := hos g (List.mem_of_mem_take hg)
    walk_at "wp"
    walk_at "wi"
    refine F73_w (clean_row hC) G h1 h2 ?_
    walk_at "wp"
    exact ⟨_, _, _, _, _, _, _, _, rfl, rfl⟩
  intro δ S ⟨x1, x3, x4, x5, x6, x7, x8, x9, e1, e2⟩
  subst e1 e2
  walk_at "wp"
  refine ⟨sm6 (by show us.length + 1 ≤ _; omega), ?_⟩
  refine w_lcM (f := fun g => .str (gname g)) rfl (fun g hg => ?_) ?_
  · walk_at "wp"
    exact (hs.gg g hg).ix0 ⟨rfl, rfl⟩
  walk_at "wp"
  refine w_range (n := 4) (by omega) ?_
  walk_at "wp"
  refine ⟨rfl, ?_⟩
  refine w_inv (I := fun j δ S => ∃ x1 x3 x4 x5 x6 x7 x9, δ = [some (.ref 0), x1, some (.tup us), x3, x4, x5, x6, x7, some (.lst (us.map fun g => .str (gname g))), x9] ∧ S = Row l5 T2) ⟨_, _, _, _, _, _, _, rfl, rfl⟩ ?_ ?_
  · intro j t ht δ S ⟨x1, x3, x4, x5, x6, x7, x9, e1, e2⟩
    subst e1 e2
    obtain ⟨hj, rfl⟩ := iota_get ht
    walk_at "wp"
    refine w_inv0 (I := fun δ S => ∃ x1 x3 x4 x5 x6 x7, δ = [some (.ref 0), x1, some (.tup us), x3, x4, x5, x6, x7, some (.lst (us.map fun g => .str (gname g))), some (.int j)] ∧ S = Row l5 T2) ⟨_, _, _, _, _, _, rfl, rfl⟩ ?_ ?_
    · intro d hd δ S ⟨x1, x3, x4, x5, x6, x7, e1, e2⟩
      subst e1 e2
      have hdp : pv d = true := by
        simp only [List.mem_cons, List.not_mem_nil, or_false] at hd
        rcases hd with rfl | rfl | rfl | rfl | rfl | rfl | rfl | rfl | rfl <;> decide +kernel
      have hin : ∃ b, bIn not d (.lst (us.map fun g => .str (gname g))) (Row l5 T2) = some (.bl b) ∧ (b = true → gateBad us d = true) := by
        have str : ∀ w : Str, ∃ b, bIn not (.str w) (.lst (us.map fun g => .str (gname g))) (Row l5 T2) = some (.bl b) ∧ (b = true → gateBad us (.str w) = true) := fun w => by
          refine ⟨_, in_names hs.gg, fun hb => ?_⟩
          show (!(findG us w).isSome) = true
          rw [findG_some]
          exact hb
        have fl : ∀ {d : D}, (∃ b, bIn not d (.lst (us.map fun g => .str (gname g))) (Row l5 T2) = some (.bl b)) → gateBad us d = true → ∃ b, bIn not d (.lst (us.map fun g => .str (gname g))) (Row l5 T2) = some (.bl b) ∧ (b = true → gateBad us d = true) := fun ⟨b, e⟩ h => ⟨b, e, fun _ => h⟩
        have hnon : EqOk 0 (.str (Str.ofString "non")) := eqOk_word (by decide +kernel)
        have hone : ∀ x ∈ [D.str (Str.ofString "non")], EqOk 0 x := fun x hx => by rw [List.mem_singleton.mp hx]; exact hnon
        simp only [List.mem_cons, List.not_mem_nil, or_false] at hd
        rcases hd with rfl | rfl | rfl | rfl | rfl | rfl | rfl | rfl | rfl
        · exact str _
        · exact str _
        · exact fl (in_scal (v := .non) rfl rfl) rfl
        · exact fl (in_scal (v := .bl true) rfl rfl) rfl
        · exact fl (in_data (eqOk_tup hone) hneq rfl rfl rfl) rfl
        · exact fl (in_data (eqOk_lst hone) hneq rfl rfl rfl) rfl
        · exact fl (in_scal (v := .int 0) rfl rfl) rfl
        · exact str _
        · exact str _
      obtain ⟨b, hb1, hb2⟩ := hin
      walk_at "wp"
      walk_at "wi"
      refine wO_some hb1 ?_
      walk_at "wp"
      refine w_ifs (fun hb => ?_) fun hb => ?_
      case refine_2 =>
        walk_at "wp"
        exact ⟨_, _, _, _, _, _, rfl, rfl⟩
      walk_at "wp"
      refine wE_eq (F80_x G (clean_row hC) hdp (hb2 hb) ⟨by omega, by omega⟩) ?_
      walk_at "wp"
      refine wE_eq (F75_refl (clean_row hC) (fun d hd => ?_) (by decide +kernel)) ?_
      · simp only [List.mem_cons, List.not_mem_nil, or_false] at hd
        rcases hd with rfl | rfl <;> rfl
      walk_at "wp"
      exact ⟨_, _, _, _, _, _, rfl, rfl⟩
    · intro δ S ⟨x1, x3, x4, x5, x6, x7, e1, e2⟩
      exact ⟨_, _, _, _, _, _, _, e1, e2⟩
  · intro δ S ⟨x1, x3, x4, x5, x6, x7, x9, e1, e2⟩
    subst e1 e2
    walk_at "wp"
    refine F72_w hC G fun l6 => ?_
    rw [← hTw]
    exact w_finR hT rfl (h _)

theorem law_true (ns : List Int) (hn : ns.length ≤ 63) : ∃ S, F84 [.frz (ns.map D.int)] [] = .ok (.bl true) S := by
  have : wE (F84 [.frz (ns.map D.int)] []) (fun d _ => d = .bl true) fun _ _ _ => False := by
    rw [F84]
    refine w_def (by rfl) ?_
    walk_at "wp"
    refine F47_w hn fun l => ?_
    have hC : Clean [] := fun _ z => (nomatch z)
    walk_at "wp"
    refine F83_w hC fun l1 => ?_
    walk_at "wp"
    refine F76_w hC fun l2 => ?_
    walk_at "wp"
    refine F70_w hC fun l3 => ?_
    exact w_fin (S := []) (U := Row l3 []) hC rfl rfl
  obtain ⟨d, S, e, rfl⟩ := wE_get this
  exact ⟨S, e⟩
end QB
theorem PySem.Challenge.cw_quietbit_k00_kinds_and_the_lot_checker_holds : PySem.Challenge.rw_quietbit_k00_kinds_and_the_lot_checker.Holds := by
  exact QB.law_end fun ns hn _ => QB.law_true ns hn
