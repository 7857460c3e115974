import PyProof.Rows.All
import PySem.Challenge.RW_eachorder_k01_books_and_heaps_recognized
import HandS.ForMost
import HandS.Exc
import HandS.ExcOwn
import HandS.TryOnly
import HandS.TryMany
import HandS.WordsExc
import HandS.IsInst
import HandS.Lambda
import HandS.EndTab
import HandS.Zip
import HandS.TupMul
import HandS.TupAny
import HandS.Deep
import HandS.Wide
import HandS.Iter
import KE.GoesEnum
import HandS.Text
import HandS.Style
import HandS.More
import PyProof.ListStr
import HandS.ExcInit
import HandS.ExcField
import HandS.TupSets
import HandS.TupLe
import HandS.Conv
import HandS.CallLocal
import HandS.SetFor
import KE.Datum
set_option Elab.async false
set_option linter.all false
set_option maxRecDepth 100000
/-! DL: a data layer over HandS. Values are data (PyData); lists that change are cells of a store. -/
namespace DL
open PySem PySem.Spec PyProof.Rows L2

abbrev D := PyData
/-- a function (or class) value, told by its address -/
abbrev fnD (a : Addr) : D := .dict [(.none, .int (a : Nat))]

/-! ### representation -/
mutual
inductive Rep (K : PySem.W.Frag) (H : Hp) : V → D → Prop
  | non : Rep K H .non .none
  | bl (b : Bool) : Rep K H (.bl b) (.bool b)
  | int (i : Int) : Rep K H (.int i) (.int i)
  | str (x : Str) : Rep K H (.str x) (.str x)
  | lst {a : Addr} {xs : List V} {ds : List D} : H a = some (.lst xs) → RepA K H xs ds → Rep K H (.ref a) (.list ds)
  | tup {a : Addr} {xs : List V} {ds : List D} : SqT K H a xs → RepA K H xs ds → Rep K H (.ref a) (.tuple ds)
  | fn (a : Addr) : Rep K H (.ref a) (fnD a)
inductive RepA (K : PySem.W.Frag) (H : Hp) : List V → List D → Prop
  | nil : RepA K H [] []
  | cons {v : V} {vs : List V} {d : D} {ds : List D} : Rep K H v d → RepA K H vs ds → RepA K H (v :: vs) (d :: ds)
end

def NoTbl (o : HO) : Prop := ∀ ps, o ≠ .tbl ps
/-- all of H stands in H', but tables -/
def Ext (H H' : Hp) : Prop := ∀ b o, H b = some o → NoTbl o → H' b = some o
theorem noTbl_lst {xs : List V} : NoTbl (.lst xs) := fun _ z => nomatch z
theorem noTbl_tup {xs : List V} : NoTbl (.tup xs) := fun _ z => nomatch z
theorem noTbl_frz {o : Obj} {u : HO} : NoTbl (.frz o u) := fun _ z => nomatch z
theorem Ext.refl (H : Hp) : Ext H H := fun _ _ h _ => h
theorem Ext.trans {H H1 H2 : Hp} (a : Ext H H1) (b : Ext H1 H2) : Ext H H2 := fun c o h n => b c o (a c o h n) n
theorem Ext.sqT {K : PySem.W.Frag} {H H' : Hp} (e : Ext H H') {a : Addr} {xs : List V} (h : SqT K H a xs) : SqT K H' a xs := by
  rcases h with (h | ⟨o, h⟩) | h
  · exact .inl (.inl (e _ _ h noTbl_tup))
  · exact .inl (.inr ⟨o, e _ _ h noTbl_frz⟩)
  · exact .inr h
theorem Ext.sqL {K : PySem.W.Frag} {H H' : Hp} (e : Ext H H') {a : Addr} {xs : List V} (h : SqL K H a xs) : SqL K H' a xs := by
  rcases h with (h | ⟨o, h⟩) | h
  · exact .inl (.inl (e _ _ h noTbl_lst))
  · exact .inl (.inr ⟨o, e _ _ h noTbl_frz⟩)
  · exact .inr h

mutual
theorem Rep.ext {K : PySem.W.Frag} {H H' : Hp} (e : Ext H H') : ∀ {d : D} {v : V}, Rep K H v d → Rep K H' v d
  | .none, _, h => by cases h; exact .non
  | .bool b, _, h => by cases h; exact .bl b
  | .int i, _, h => by cases h; exact .int i
  | .str x, _, h => by cases h; exact .str x
  | .list ds, _, h => by
    cases h with
    | lst h1 h2 => exact .lst (e _ _ h1 noTbl_lst) (RepA.ext e h2)
  | .tuple ds, _, h => by
    cases h with
    | tup h1 h2 => exact .tup (e.sqT h1) (RepA.ext e h2)
  | .dict _, _, h => by cases h; exact .fn _
theorem RepA.ext {K : PySem.W.Frag} {H H' : Hp} (e : Ext H H') : ∀ {ds : List D} {vs : List V}, RepA K H vs ds → RepA K H' vs ds
  | [], _, h => by cases h; exact .nil
  | d :: ds, _, h => by
    cases h with
    | cons h1 h2 => exact .cons (Rep.ext e h1) (RepA.ext e h2)
end
theorem RepA.length {K : PySem.W.Frag} {H : Hp} : ∀ {ds : List D} {vs : List V}, RepA K H vs ds → vs.length = ds.length
  | [], _, h => by cases h; rfl
  | d :: ds, _, h => by
    cases h with
    | cons h1 h2 => simp [RepA.length h2]
theorem RepA.append {K : PySem.W.Frag} {H : Hp} : ∀ {ds : List D} {vs : List V} {ds' : List D} {vs' : List V}, RepA K H vs ds → RepA K H vs' ds' → RepA K H (vs ++ vs') (ds ++ ds')
  | [], _, _, _, h, h' => by cases h; exact h'
  | d :: ds, _, _, _, h, h' => by
    cases h with
    | cons h1 h2 => exact .cons h1 (RepA.append h2 h')
theorem RepA.get {K : PySem.W.Frag} {H : Hp} : ∀ {ds : List D} {vs : List V} {i : Nat} {d : D}, RepA K H vs ds → ds[i]? = some d → ∃ v, vs[i]? = some v ∧ Rep K H v d
  | [], _, _, _, h, e => by simp at e
  | d :: ds, _, 0, _, h, e => by
    cases h with
    | cons h1 h2 =>
      have e' : d = _ := Option.some.inj e
      subst e'
      exact ⟨_, rfl, h1⟩
  | d :: ds, _, i + 1, _, h, e => by
    cases h with
    | cons h1 h2 => exact RepA.get (i := i) h2 e
theorem RepA.getV {K : PySem.W.Frag} {H : Hp} : ∀ {ds : List D} {vs : List V} {i : Nat} {v : V}, RepA K H vs ds → vs[i]? = some v → ∃ d, ds[i]? = some d ∧ Rep K H v d
  | [], _, _, _, h, e => by cases h; simp at e
  | d :: ds, _, 0, _, h, e => by
    cases h with
    | cons h1 h2 =>
      have e' := Option.some.inj e
      subst e'
      exact ⟨_, rfl, h1⟩
  | d :: ds, _, i + 1, _, h, e => by
    cases h with
    | cons h1 h2 => exact RepA.getV (i := i) h2 e
theorem RepA.take {K : PySem.W.Frag} {H : Hp} : ∀ {ds : List D} {vs : List V} (n : Nat), RepA K H vs ds → RepA K H (vs.take n) (ds.take n)
  | _, _, 0, h => by simp; exact .nil
  | [], _, n + 1, h => by cases h; exact .nil
  | d :: ds, _, n + 1, h => by
    cases h with
    | cons h1 h2 => exact .cons h1 (RepA.take n h2)
theorem RepA.drop {K : PySem.W.Frag} {H : Hp} : ∀ {ds : List D} {vs : List V} (n : Nat), RepA K H vs ds → RepA K H (vs.drop n) (ds.drop n)
  | _, _, 0, h => by simpa using h
  | [], _, n + 1, h => by cases h; exact .nil
  | d :: ds, _, n + 1, h => by
    cases h with
    | cons h1 h2 => exact RepA.drop n h2
theorem RepA.ints {K : PySem.W.Frag} {H : Hp} : ∀ {ns : List Int} {vs : List V}, RepA K H vs (ns.map .int) → vs = ns.map V.int
  | [], _, h => by cases h; rfl
  | n :: ns, _, h => by
    cases h with
    | cons h1 h2 =>
      cases h1
      rw [RepA.ints h2] <;> rfl
theorem RepA.ofInts {K : PySem.W.Frag} {H : Hp} : ∀ (ns : List Int), RepA K H (ns.map V.int) (ns.map .int)
  | [] => .nil
  | n :: ns => .cons (.int n) (RepA.ofInts ns)
theorem RepA.bools {K : PySem.W.Frag} {H : Hp} : ∀ {ns : List Bool} {vs : List V}, RepA K H vs (ns.map .bool) → vs = ns.map V.bl
  | [], _, h => by cases h; rfl
  | n :: ns, _, h => by
    cases h with
    | cons h1 h2 =>
      cases h1
      rw [RepA.bools h2] <;> rfl
theorem RepA.strs {K : PySem.W.Frag} {H : Hp} : ∀ {ns : List Str} {vs : List V}, RepA K H vs (ns.map .str) → vs = ns.map V.str
  | [], _, h => by cases h; rfl
  | n :: ns, _, h => by
    cases h with
    | cons h1 h2 =>
      cases h1
      rw [RepA.strs h2] <;> rfl
theorem RepA.ofStrs {K : PySem.W.Frag} {H : Hp} : ∀ (ns : List Str), RepA K H (ns.map V.str) (ns.map .str)
  | [] => .nil
  | n :: ns => .cons (.str n) (RepA.ofStrs ns)
mutual
/-- what the deep == asks -/
theorem Rep.dp {K : PySem.W.Frag} {H : Hp} : ∀ {d : D} {v : V}, Rep K H v d → d.canLay0 = true → Dp K H v d
  | .none, _, h, _ => by cases h; exact .non
  | .bool b, _, h, _ => by cases h; exact .bl b
  | .int i, _, h, _ => by cases h; exact .int i
  | .str x, _, h, _ => by cases h; exact .str x
  | .list ds, _, h, c => by
    cases h with
    | lst h1 h2 => exact .lst (SqL.of h1) (RepA.dp h2 c)
  | .tuple ds, _, h, c => by
    cases h with
    | tup h1 h2 => exact .tup h1 (RepA.dp h2 c)
  | .dict _, _, h, c => by simp [PyData.canLay0] at c
theorem RepA.dp {K : PySem.W.Frag} {H : Hp} : ∀ {ds : List D} {vs : List V}, RepA K H vs ds → PyData.canLayAll0 ds = true → DpAll K H vs ds
  | [], _, h, _ => by cases h; exact .nil
  | d :: ds, _, h, c => by
    cases h with
    | cons h1 h2 =>
      have c' : d.canLay0 = true ∧ PyData.canLayAll0 ds = true := by
        simpa [PyData.canLayAll0] using c
      exact .cons (Rep.dp h1 c'.1) (RepA.dp h2 c'.2)
end

/-! ### the store -/
/-- a slot of the frame, or an attribute -/
inductive SV where
  | un | val (d : D) | cell (n : Nat) | scr
/-- an object that may change -/
inductive MO where
  | dead
  | lst (ds : List D)
  | ins (C : Addr) (fs : List (Str × SV))
structure S where
  env : List SV
  st : List MO
/-- an expression's value: data, a new list that nobody else has, a cell -/
inductive EV where
  | val (d : D) | fresh (ds : List D) | cell (n : Nat)
structure Er where
  cls : Str
  fs : Option (List (Str × D))
inductive R (α : Type) where
  | ok (a : α) (s : S) | err (x : Er) (s : S)
inductive RS where
  | next (s : S) | ret (e : EV) (s : S) | err (x : Er) (s : S)

structure Ctx where
  T : List (Addr × Str)
  ec : Str → Addr
  scr : Option (Addr × List Int)
  ex : List Addr → Hp → Prop := fun _ _ => True
  exm : ∀ as more H H', Ext H H' → ex as H → ex (as ++ more) H' := by intros; trivial
theorem Ctx.exk (c : Ctx) {as : List Addr} {H H' : Hp} (e : Ext H H') (h : c.ex as H) : c.ex as H' := by
  have := c.exm as [] H H' e h
  rw [List.append_nil] at this
  exact this

def live (as : List Addr) (st : List MO) (a : Addr) : Prop := ∃ n : Nat, as[n]? = some a ∧ ∃ mo, st[n]? = some mo ∧ mo ≠ .dead
open Classical in
/-- the heap without what may change -/
noncomputable def Hid (O as : List Addr) (st : List MO) (H : Hp) : Hp := fun a => if a ∈ O ∨ live as st a then none else H a
theorem hid_some {O as : List Addr} {st : List MO} {H : Hp} {a : Addr} {o : HO} (h : Hid O as st H a = some o) : a ∉ O ∧ ¬ live as st a ∧ H a = some o := by
  unfold Hid at h
  split at h
  · cases h
  · rename_i n
    exact ⟨fun z => n (.inl z), fun z => n (.inr z), h⟩
theorem hid_of {O as : List Addr} {st : List MO} {H : Hp} {a : Addr} {o : HO} (h1 : a ∉ O) (h2 : ¬ live as st a) (h : H a = some o) : Hid O as st H a = some o := by
  unfold Hid
  rw [if_neg (fun z => z.elim h1 h2)]
  exact h
theorem hid_ext {O as : List Addr} {st : List MO} {H : Hp} : Ext (Hid O as st H) H := fun _ _ h _ => (hid_some h).2.2

def SlotOk (K : PySem.W.Frag) (c : Ctx) (Hh : Hp) (as : List Addr) : SV → Option V → Prop
  | .un, _ => True
  | .val d, o => ∃ v, o = some v ∧ Rep K Hh v d
  | .cell n, o => ∃ a, as[n]? = some a ∧ o = some (.ref a)
  | .scr, o => ∃ a ns, c.scr = some (a, ns) ∧ o = some (.ref a)
def CellOk (K : PySem.W.Frag) (c : Ctx) (Hh H : Hp) (as : List Addr) (a : Addr) : MO → Prop
  | .dead => True
  | .lst ds => ∃ vs, H a = some (.lst vs) ∧ RepA K Hh vs ds
  | .ins C fs => ∃ dx fs', H a = some (.ins C dx fs') ∧ H dx = some (.own a) ∧ dx ∉ as ∧ fs'.map (·.1) = fs.map (·.1) ∧ ∀ f, SlotOk K c Hh as ((fs.lookup f).getD .un) (fs'.lookup f)
/-- the script's list: read, never written -/
def ScrAt (K : PySem.W.Frag) (O as : List Addr) (H : Hp) (a : Addr) (xs : List V) : Prop := ((∃ o, H a = some (.frz o (.lst xs))) ∨ (H a = some (.lst xs) ∧ a ∉ O ∧ a ∉ as)) ∨ ∀ H', SqL K H' a xs
theorem not_snoc {O as : List Addr} {a p : Addr} (h : a ∉ p :: O) (h2 : a ∉ as) : a ∉ O ∧ a ∉ as ++ [p] := by
  rw [List.mem_cons, not_or] at h
  refine ⟨h.2, ?_⟩
  rw [List.mem_append, List.mem_singleton, not_or]
  exact ⟨h2, h.1⟩
theorem ScrAt.sub {K : PySem.W.Frag} {O as O' as' : List Addr} {H : Hp} {a : Addr} {xs : List V} (h : ScrAt K O as H a xs) (h1 : H a = some (.lst xs) → a ∉ O → a ∉ as → a ∉ O' ∧ a ∉ as') : ScrAt K O' as' H a xs := by
  rcases h with (h | ⟨z1, z2, z3⟩) | h
  · exact .inl (.inl h)
  · obtain ⟨q1, q2⟩ := h1 z1 z2 z3
    exact .inl (.inr ⟨z1, q1, q2⟩)
  · exact .inr h
theorem ScrAt.sq {K : PySem.W.Frag} {O as : List Addr} {H : Hp} {a : Addr} {xs : List V} (h : ScrAt K O as H a xs) : SqL K H a xs := by
  rcases h with (⟨o, h⟩ | ⟨z1, z2, z3⟩) | h
  · exact .inl (.inr ⟨o, h⟩)
  · exact .inl (.inl z1)
  · exact h H
structure Good (K : PySem.W.Frag) (c : Ctx) (O as : List Addr) (s : S) (σ : L2.St) (H : Hp) : Prop where
  lenE : s.env.length = σ.length
  lenC : as.length = s.st.length
  nd : as.Nodup
  odis : ∀ a ∈ O, a ∉ as
  odom : ∀ a ∈ O, ∃ xs, H a = some (.lst xs)
  cdom : ∀ a ∈ as, ∃ o, H a = some o ∧ NoTbl o
  slots : ∀ (i : Nat) (sv : SV), s.env[i]? = some sv → SlotOk K c (Hid O as s.st H) as sv (σ[i]?.join)
  cells : ∀ (n : Nat) (a : Addr) (mo : MO), as[n]? = some a → s.st[n]? = some mo → CellOk K c (Hid O as s.st H) H as a mo
  tabs : LamX.Tabs c.T H
  scr : ∀ a ns, c.scr = some (a, ns) → ScrAt K O as H a (ns.map V.int)
  ex : c.ex as (Hid O as s.st H)
/-- nothing (but a table, maybe) stands there -/
def NoneT (H : Hp) (a : Addr) : Prop := ∀ o, H a = some o → ¬ NoTbl o
theorem NoneT.of {H : Hp} {a : Addr} (h : H a = none) : NoneT H a := fun o e => by rw [h] at e; cases e
/-- from one store and heap to a later one -/
structure Stp (as : List Addr) (st : List MO) (H : Hp) (as' : List Addr) (st' : List MO) (H' : Hp) : Prop where
  pre : ∃ more, as' = as ++ more ∧ ∀ a ∈ more, NoneT H a
  len : as.length = st.length
  dead : ∀ n : Nat, st[n]? = some .dead → st'[n]? = some .dead
  keep : ∀ b o, H b = some o → ¬ live as st b → NoTbl o → H' b = some o
  dom : ∀ b, NoneT H' b → NoneT H b

section
variable {K : PySem.W.Frag} {c : Ctx} {O as as' : List Addr} {s s' : S} {st st' : List MO} {σ : L2.St} {H H' : Hp} {a p : Addr}
theorem Stp.refl (h : as.length = st.length) : Stp as st H as st H := ⟨⟨[], by simp, by simp⟩, h, fun _ h => h, fun _ _ h _ _ => h, fun _ h => h⟩
theorem Stp.notLive (x : Stp as st H as' st' H') {b : Addr} {o : HO} (hb : H b = some o) (n : ¬ live as st b) (nt : NoTbl o) : ¬ live as' st' b := by
  rintro ⟨m, h1, mo, h2, h3⟩
  obtain ⟨more, rfl, hm⟩ := x.pre
  by_cases hlt : m < as.length
  · rw [List.getElem?_append_left hlt] at h1
    have hlt2 : m < st.length := by rw [← x.len]; exact hlt
    refine n ⟨m, h1, st[m], List.getElem?_eq_getElem hlt2, fun z => h3 ?_⟩
    have := x.dead m (by rw [List.getElem?_eq_getElem hlt2, z])
    rw [h2] at this
    exact Option.some.inj this
  · rw [List.getElem?_append_right (by omega)] at h1
    exact hm b (List.mem_of_getElem? h1) o hb nt
theorem Stp.trans {as2 : List Addr} {st2 : List MO} {H2 : Hp} (x : Stp as st H as' st' H') (y : Stp as' st' H' as2 st2 H2) : Stp as st H as2 st2 H2 := by
  obtain ⟨m1, e1, h1⟩ := x.pre
  obtain ⟨m2, e2, h2⟩ := y.pre
  refine ⟨⟨m1 ++ m2, by rw [e2, e1, List.append_assoc], fun a ha => ?_⟩, x.len, fun n h => y.dead n (x.dead n h), fun b o hb n nt => y.keep b o (x.keep b o hb n nt) (x.notLive hb n nt) nt, fun b h => x.dom b (y.dom b h)⟩
  rcases List.mem_append.mp ha with z | z
  · exact h1 a z
  · exact x.dom a (h2 a z)
theorem Stp.ext (x : Stp as st H as' st' H') : Ext (Hid O as st H) (Hid O as' st' H') := fun b o h nt => by
  obtain ⟨h1, h2, h3⟩ := hid_some h
  exact hid_of h1 (x.notLive h3 h2 nt) (x.keep b o h3 h2 nt)
theorem Stp.same (h : as.length = st.length) (e : ∀ b o, H b = some o → H' b = some o) : Stp as st H as st H' :=
  ⟨⟨[], by simp, by simp⟩, h, fun _ h => h, fun b o h _ _ => e b o h, fun b h o q => h o (e b o q)⟩
theorem ne_mono (e : ∀ b o, H b = some o → H' b = some o) {b : Addr} (h : H b ≠ none) : H' b ≠ none := fun z => by
  cases q : H b with
  | none => exact h q
  | some o => rw [e b o q] at z; cases z

/-! ### what the heap's growth leaves -/
theorem SlotOk.ext {Hh Hh' : Hp} (e : Ext Hh Hh') (hp : ∃ more, as' = as ++ more) : ∀ {sv : SV} {o : Option V}, SlotOk K c Hh as sv o → SlotOk K c Hh' as' sv o
  | .un, _, _ => trivial
  | .val d, _, ⟨v, h1, h2⟩ => ⟨v, h1, h2.ext e⟩
  | .cell n, _, ⟨a, h1, h2⟩ => by
    obtain ⟨more, rfl⟩ := hp
    exact ⟨a, by rw [List.getElem?_append_left (List.getElem?_eq_some_iff.mp h1).1]; exact h1, h2⟩
  | .scr, _, h => h
theorem live_dom (G : Good K c O as s σ H) {b : Addr} (h : live as s.st b) : H b ≠ none := by
  obtain ⟨n, h1, _⟩ := h
  obtain ⟨o, e, _⟩ := G.cdom b (List.mem_of_getElem? h1)
  rw [e]
  simp
theorem live_kind (G : Good K c O as s σ H) {b : Addr} (h : live as s.st b) : (∃ vs, H b = some (.lst vs)) ∨ ∃ C dx fs, H b = some (.ins C dx fs) := by
  obtain ⟨n, h1, mo, h2, h3⟩ := h
  have := G.cells n b mo h1 h2
  cases mo with
  | dead => exact absurd rfl h3
  | lst ds => obtain ⟨vs, e, _⟩ := this; exact .inl ⟨vs, e⟩
  | ins C fs => obtain ⟨dx, fs', e, _⟩ := this; exact .inr ⟨C, dx, fs', e⟩
theorem scr_keep (G : Good K c O as s σ H) (k : ∀ b o, H b = some o → ¬ live as s.st b → NoTbl o → H' b = some o) : ∀ a ns, c.scr = some (a, ns) → ScrAt K O as H' a (ns.map V.int) := fun a ns e => by
  rcases G.scr a ns e with (⟨o, h⟩ | ⟨h, h2, h3⟩) | h
  · refine .inl (.inl ⟨o, k a _ h (fun z => ?_) noTbl_frz⟩)
    rcases live_kind G z with ⟨vs, q⟩ | ⟨C, dx, fs, q⟩ <;> (rw [h] at q; cases q)
  · exact .inl (.inr ⟨k a _ h (fun z => h3 (by obtain ⟨n, z, _⟩ := z; exact List.mem_of_getElem? z)) noTbl_lst, h2, h3⟩)
  · exact .inr h
/-- new objects, nothing else -/
theorem Good.grow (G : Good K c O as s σ H) (e : ∀ b o, H b = some o → H' b = some o) : Good K c O as s σ H' where
  lenE := G.lenE
  lenC := G.lenC
  nd := G.nd
  odis := G.odis
  odom := fun a ha => let ⟨xs, h⟩ := G.odom a ha; ⟨xs, e _ _ h⟩
  cdom := fun a ha => let ⟨o, h, n⟩ := G.cdom a ha; ⟨o, e _ _ h, n⟩
  slots := fun i sv h => (G.slots i sv h).ext (Stp.same G.lenC e).ext ⟨[], by simp⟩
  cells := fun n a mo h1 h2 => by
    have := G.cells n a mo h1 h2
    cases mo with
    | dead => trivial
    | lst ds => obtain ⟨vs, e1, e2⟩ := this; exact ⟨vs, e _ _ e1, e2.ext (Stp.same G.lenC e).ext⟩
    | ins C fs => obtain ⟨dx, fs', e1, e2, e3, e4, e5⟩ := this; exact ⟨dx, fs', e _ _ e1, e _ _ e2, e3, e4, fun f => (e5 f).ext (Stp.same G.lenC e).ext ⟨[], by simp⟩⟩
  tabs := G.tabs.ext e
  scr := scr_keep G fun b o h _ _ => e b o h
  ex := c.exk (Stp.same G.lenC e).ext G.ex
theorem same_upd {o : HO} (h : H p = none) : ∀ b u, H b = some u → upd H p o b = some u := fun b u e => by
  rw [upd_ne (ne_of_none e h)]; exact e
theorem hid_cons {o : HO} (h : H p = none) : Ext (Hid O as st H) (Hid (p :: O) as st (upd H p o)) := fun b u e nt => by
  obtain ⟨h1, h2, h3⟩ := hid_some e
  refine hid_of (fun z => ?_) h2 (same_upd h b u h3)
  rcases List.mem_cons.mp z with z | z
  · rw [z, h] at h3; cases h3
  · exact h1 z
theorem hid_less : Ext (Hid (p :: O) as st H) (Hid O as st H) := fun b u e nt => by
  obtain ⟨h1, h2, h3⟩ := hid_some e
  exact hid_of (fun z => h1 (List.mem_cons_of_mem _ z)) h2 h3
/-- a new object, hidden -/
theorem Good.hide {xs : List V} (G : Good K c O as s σ H) (h : H p = none) : Good K c (p :: O) as s σ (upd H p (.lst xs)) where
  lenE := G.lenE
  lenC := G.lenC
  nd := G.nd
  odis := fun a ha z => by
    rcases List.mem_cons.mp ha with e | e
    · rw [e] at z; obtain ⟨o, h', _⟩ := G.cdom p z; rw [h] at h'; cases h'
    · exact G.odis a e z
  odom := fun a ha => by
    rcases List.mem_cons.mp ha with e | e
    · rw [e, upd_same]; exact ⟨xs, rfl⟩
    · obtain ⟨ys, h'⟩ := G.odom a e; exact ⟨ys, same_upd h _ _ h'⟩
  cdom := fun a ha => let ⟨o, h', n⟩ := G.cdom a ha; ⟨o, same_upd h _ _ h', n⟩
  slots := fun i sv e => (G.slots i sv e).ext (hid_cons h) ⟨[], by simp⟩
  cells := fun n a mo h1 h2 => by
    have := G.cells n a mo h1 h2
    cases mo with
    | dead => trivial
    | lst ds => obtain ⟨vs, e1, e2⟩ := this; exact ⟨vs, same_upd h _ _ e1, e2.ext (hid_cons h)⟩
    | ins C fs => obtain ⟨dx, fs', e1, e2, e3, e4, e5⟩ := this; exact ⟨dx, fs', same_upd h _ _ e1, same_upd h _ _ e2, e3, e4, fun f => (e5 f).ext (hid_cons h) ⟨[], by simp⟩⟩
  tabs := G.tabs.ext (same_upd h)
  scr := fun a ns e => by
    rcases G.scr a ns e with (⟨o, z⟩ | ⟨z, z2, z3⟩) | z
    · exact .inl (.inl ⟨o, same_upd h _ _ z⟩)
    · refine .inl (.inr ⟨same_upd h _ _ z, fun q => ?_, z3⟩)
      rcases List.mem_cons.mp q with q | q
      · rw [q, h] at z; cases z
      · exact z2 q
    · exact .inr z
  ex := c.exk (hid_cons h) G.ex
theorem Good.unhide (G : Good K c (p :: O) as s σ H) : Good K c O as s σ H where
  lenE := G.lenE
  lenC := G.lenC
  nd := G.nd
  odis := fun a ha => G.odis a (List.mem_cons_of_mem _ ha)
  odom := fun a ha => G.odom a (List.mem_cons_of_mem _ ha)
  cdom := G.cdom
  slots := fun i sv e => (G.slots i sv e).ext hid_less ⟨[], by simp⟩
  cells := fun n a mo h1 h2 => by
    have := G.cells n a mo h1 h2
    cases mo with
    | dead => trivial
    | lst ds => obtain ⟨vs, e1, e2⟩ := this; exact ⟨vs, e1, e2.ext hid_less⟩
    | ins C fs => obtain ⟨dx, fs', e1, e2, e3, e4, e5⟩ := this; exact ⟨dx, fs', e1, e2, e3, e4, fun f => (e5 f).ext hid_less ⟨[], by simp⟩⟩
  tabs := G.tabs
  scr := fun a ns e => (G.scr a ns e).sub fun _ z2 z3 => ⟨fun q => z2 (List.mem_cons_of_mem _ q), z3⟩
  ex := c.exk hid_less G.ex
/-- the hidden object becomes a cell -/
theorem live_snoc (hl : as.length = st.length) {mo : MO} (hd : mo ≠ .dead) {b : Addr} : live (as ++ [p]) (st ++ [mo]) b ↔ live as st b ∨ b = p := by
  constructor
  · rintro ⟨n, h1, m, h2, h3⟩
    by_cases hn : n < as.length
    · rw [List.getElem?_append_left hn] at h1
      rw [List.getElem?_append_left (by omega)] at h2
      exact .inl ⟨n, h1, m, h2, h3⟩
    · rw [List.getElem?_append_right (by omega)] at h1
      have hb := List.mem_of_getElem? h1
      exact .inr (by simpa using hb)
  · rintro (⟨n, h1, m, h2, h3⟩ | rfl)
    · exact ⟨n, by rw [List.getElem?_append_left (List.getElem?_eq_some_iff.mp h1).1]; exact h1, m, by rw [List.getElem?_append_left (List.getElem?_eq_some_iff.mp h2).1]; exact h2, h3⟩
    · exact ⟨as.length, by simp, mo, by rw [hl]; simp, hd⟩
theorem hid_snoc (hl : as.length = st.length) {mo : MO} (hd : mo ≠ .dead) : Hid O (as ++ [p]) (st ++ [mo]) H = Hid (p :: O) as st H := by
  funext b
  unfold Hid
  have e : (b ∈ O ∨ live (as ++ [p]) (st ++ [mo]) b) ↔ (b ∈ p :: O ∨ live as st b) := by
    rw [live_snoc hl hd, List.mem_cons]
    constructor
    · rintro (h | h | h)
      · exact .inl (.inr h)
      · exact .inr h
      · exact .inl (.inl h)
    · rintro ((h | h) | h)
      · exact .inr (.inr h)
      · exact .inl h
      · exact .inr (.inl h)
  by_cases h : b ∈ p :: O ∨ live as st b
  · rw [if_pos h, if_pos (e.mpr h)]
  · rw [if_neg h, if_neg (fun z => h (e.mp z))]
theorem Good.alloc {ds : List D} {vs : List V} (G : Good K c (p :: O) as s σ H) (h : H p = some (.lst vs)) (r : RepA K (Hid (p :: O) as s.st H) vs ds) (hO : p ∉ O) : Good K c O (as ++ [p]) { s with st := s.st ++ [.lst ds] } σ H := by
  have e : Hid O (as ++ [p]) (s.st ++ [.lst ds]) H = Hid (p :: O) as s.st H := hid_snoc G.lenC (by simp)
  have np : p ∉ as := G.odis p List.mem_cons_self
  refine ⟨G.lenE, by simp [G.lenC], ?_, fun a ha z => ?_, fun a ha => G.odom a (List.mem_cons_of_mem _ ha), fun a ha => ?_, fun i sv hi => ?_, fun n a mo h1 h2 => ?_, G.tabs, (fun a ns e => (G.scr a ns e).sub fun _ z2 z3 => not_snoc z2 z3), (show c.ex _ (Hid O (as ++ [p]) (s.st ++ [.lst ds]) H) from by rw [e]; exact c.exm _ _ _ _ (Ext.refl _) G.ex)⟩
  · rw [List.nodup_append]
    exact ⟨G.nd, by simp, fun a ha b hb => by
      have : b = p := by simpa using hb
      rw [this]
      rintro rfl
      exact np ha⟩
  · rcases List.mem_append.mp z with z | z
    · exact G.odis a (List.mem_cons_of_mem _ ha) z
    · have : a = p := by simpa using z
      rw [this] at ha
      exact hO ha
  · rcases List.mem_append.mp ha with z | z
    · exact G.cdom a z
    · have : a = p := by simpa using z
      exact ⟨_, by rw [this]; exact h, noTbl_lst⟩
  · show SlotOk K c (Hid O (as ++ [p]) (s.st ++ [.lst ds]) H) _ _ _
    rw [e]
    exact (G.slots i sv hi).ext (Ext.refl _) ⟨[p], rfl⟩
  · show CellOk K c (Hid O (as ++ [p]) (s.st ++ [.lst ds]) H) H _ _ _
    rw [e]
    by_cases hn : n < as.length
    · rw [List.getElem?_append_left hn] at h1
      have h2' : s.st[n]? = some mo := by
        have h2 : (s.st ++ [MO.lst ds])[n]? = some mo := h2
        rw [List.getElem?_append_left (by have := G.lenC; omega)] at h2
        exact h2
      have := G.cells n a mo h1 h2'
      cases mo with
      | dead => trivial
      | lst ds' => exact this
      | ins C fs =>
        obtain ⟨dx, fs', e1, e2, e3, e4, e5⟩ := this
        refine ⟨dx, fs', e1, e2, fun z => ?_, e4, fun f => (e5 f).ext (Ext.refl _) ⟨[p], rfl⟩⟩
        rcases List.mem_append.mp z with z | z
        · exact e3 z
        · have : dx = p := by simpa using z
          rw [this, h] at e2
          cases e2
    · have hl := G.lenC
      have hn2 : n = as.length := by
        have := (List.getElem?_eq_some_iff.mp h1).1
        simp at this
        omega
      subst hn2
      have ea : p = a := by simpa using h1
      have em : MO.lst ds = mo := by
        have h2 : (s.st ++ [MO.lst ds])[as.length]? = some mo := h2
        rw [hl] at h2
        simpa using h2
      subst ea em
      exact ⟨vs, h, r⟩
/-- the store ahead: an unhidden new object -/
theorem Stp.snoc {mo : MO} (hl : as.length = st.length) (h : H p = none) (k : ∀ b o, H b = some o → H' b = some o) : Stp as st H (as ++ [p]) (st ++ [mo]) H' :=
  ⟨⟨[p], rfl, fun a ha => by
    have : a = p := by simpa using ha
    rw [this]; exact .of h⟩, hl, fun n e => by rw [List.getElem?_append_left (List.getElem?_eq_some_iff.mp e).1]; exact e, fun b o e _ _ => k b o e, (Stp.same hl k).dom⟩
/-- a slot is stored -/
theorem Good.set {i : Nat} {v : V} {sv : SV} (G : Good K c O as s σ H) (h : SlotOk K c (Hid O as s.st H) as sv (some v)) : Good K c O as { s with env := s.env.set i sv } (σ.set i (some v)) H where
  lenE := by simp [G.lenE]
  lenC := G.lenC
  nd := G.nd
  odis := G.odis
  odom := G.odom
  cdom := G.cdom
  slots := fun j sv' e => by
    have e : (s.env.set i sv)[j]? = some sv' := e
    by_cases hj : i = j
    · subst hj
      have hlt : i < s.env.length := by
        have := (List.getElem?_eq_some_iff.mp e).1
        simpa using this
      rw [List.getElem?_set_self hlt] at e
      cases e
      rw [List.getElem?_set_self (by rw [← G.lenE]; exact hlt)]
      exact h
    · rw [List.getElem?_set_ne hj] at e ⊢
      exact G.slots j sv' e
  cells := G.cells
  tabs := G.tabs
  scr := G.scr
  ex := G.ex
/-- another frame over the same store -/
theorem Good.frame {env' : List SV} {σ' : L2.St} (G : Good K c O as s σ H) (hl : env'.length = σ'.length) (h : ∀ (i : Nat) (sv : SV), env'[i]? = some sv → SlotOk K c (Hid O as s.st H) as sv (σ'[i]?.join)) : Good K c O as ⟨env', s.st⟩ σ' H :=
  ⟨hl, G.lenC, G.nd, G.odis, G.odom, G.cdom, h, G.cells, G.tabs, G.scr, G.ex⟩
/-- a cell is written -/
theorem live_set {n : Nat} {mo mo' : MO} (h : st[n]? = some mo) (hd : mo ≠ .dead) (hd' : mo' ≠ .dead) {b : Addr} : live as (st.set n mo') b ↔ live as st b := by
  have hlt := (List.getElem?_eq_some_iff.mp h).1
  constructor
  · rintro ⟨m, h1, x, h2, h3⟩
    by_cases e : n = m
    · subst e; exact ⟨n, h1, mo, h, hd⟩
    · rw [List.getElem?_set_ne e] at h2; exact ⟨m, h1, x, h2, h3⟩
  · rintro ⟨m, h1, x, h2, h3⟩
    by_cases e : n = m
    · subst e; exact ⟨n, h1, mo', List.getElem?_set_self hlt, hd'⟩
    · exact ⟨m, h1, x, by rw [List.getElem?_set_ne e]; exact h2, h3⟩
theorem hid_set {n : Nat} {mo mo' : MO} {o : HO} (h : st[n]? = some mo) (hd : mo ≠ .dead) (hd' : mo' ≠ .dead) (ha : as[n]? = some a) : Hid O as (st.set n mo') (upd H a o) = Hid O as st H := by
  funext b
  unfold Hid
  rw [live_set h hd hd']
  by_cases q : b ∈ O ∨ live as st b
  · rw [if_pos q, if_pos q]
  · rw [if_neg q, if_neg q, upd_ne]
    rintro rfl
    exact q (.inr ⟨n, ha, mo, h, hd⟩)
theorem tabs_upd {T : List (Addr × Str)} {o u : HO} (t : LamX.Tabs T H) (h : H a = some u) (h1 : NoTbl u) (h2 : ∀ φ, u ≠ .ext φ) : LamX.Tabs T (upd H a o) := fun p hp => by
  obtain ⟨ps, e1, e2, e3⟩ := t p hp
  refine ⟨ps, by rw [upd_ne]; exact e1; rintro rfl; rw [h] at e1; exact h1 ps (Option.some.inj e1), e2, fun pos cv hc => ?_⟩
  obtain ⟨c', q1, q2⟩ := e3 pos cv hc
  refine ⟨c', q1, by rw [upd_ne]; exact q2; rintro rfl; rw [h] at q2; exact h2 _ (Option.some.inj q2)⟩
theorem upd_dom {o : HO} (h : H a ≠ none) (b : Addr) (hb : H b ≠ none) : upd H a o b ≠ none := by
  by_cases e : b = a
  · rw [e, upd_same]; simp
  · rw [upd_ne e]; exact hb
theorem upd_obj {xs : List V} {b : Addr} (h : ∃ o, H b = some o ∧ NoTbl o) : ∃ o, upd H a (.lst xs) b = some o ∧ NoTbl o := by
  by_cases e : b = a
  · exact ⟨_, by rw [e, upd_same], noTbl_lst⟩
  · rw [upd_ne e]; exact h
theorem nodup_at (h : as.Nodup) {i j : Nat} {x : Addr} (hi : as[i]? = some x) (hj : as[j]? = some x) : i = j := nd_ix h hi hj
theorem Stp.setCell {n : Nat} {mo mo' : MO} {o : HO} (hl : as.length = st.length) (h : st[n]? = some mo) (hd : mo ≠ .dead) (ha : as[n]? = some a) (no : NoTbl o) : Stp as st H as (st.set n mo') (upd H a o) := by
  refine ⟨⟨[], by simp, by simp⟩, hl, fun m hm => ?_, fun b u hb nl nt => ?_, fun b hb => ?_⟩
  · have e : n ≠ m := fun z => by rw [z, hm] at h; exact hd (Option.some.inj h).symm
    rw [List.getElem?_set_ne e]; exact hm
  · rw [upd_ne]; exact hb
    rintro rfl
    exact nl ⟨n, ha, mo, h, hd⟩
  · by_cases q : b = a
    · exact absurd no (hb o (by rw [q, upd_same]))
    · exact fun u hu => hb u (by rw [upd_ne q]; exact hu)
theorem Good.setList {n : Nat} {ds ds' : List D} {vs' : List V} (G : Good K c O as s σ H) (ha : as[n]? = some a) (h : s.st[n]? = some (.lst ds)) (r : RepA K (Hid O as s.st H) vs' ds') :
    Good K c O as { s with st := s.st.set n (.lst ds') } σ (upd H a (.lst vs')) := by
  have e : Hid O as (s.st.set n (.lst ds')) (upd H a (.lst vs')) = Hid O as s.st H := hid_set h (by simp) (by simp) ha
  obtain ⟨vs, hH, r0⟩ := G.cells n a _ ha h
  have hn : H a ≠ none := by rw [hH]; simp
  refine ⟨G.lenE, by simp [G.lenC], G.nd, G.odis, fun b hb => let ⟨xs, h'⟩ := G.odom b hb; ⟨xs, by rw [upd_ne (fun z => G.odis b hb (by rw [z]; exact List.mem_of_getElem? ha))]; exact h'⟩, fun b hb => upd_obj (G.cdom b hb), fun i sv hi => ?_, fun m b mo h1 h2 => ?_, tabs_upd G.tabs hH noTbl_lst (fun φ z => nomatch z), scr_keep G fun b o hb nl nt => ?_, (show c.ex _ (Hid O as (s.st.set n (.lst ds')) (upd H a (.lst vs'))) from by rw [e]; exact G.ex)⟩
  · show SlotOk K c (Hid O as (s.st.set n (.lst ds')) (upd H a (.lst vs'))) _ _ _
    rw [e]
    exact G.slots i sv hi
  · show CellOk K c (Hid O as (s.st.set n (.lst ds')) (upd H a (.lst vs'))) _ _ _ _
    rw [e]
    have h2 : (s.st.set n (.lst ds'))[m]? = some mo := h2
    by_cases q : n = m
    · subst q
      rw [List.getElem?_set_self (List.getElem?_eq_some_iff.mp h).1] at h2
      cases h2
      have : a = b := Option.some.inj (ha.symm.trans h1)
      subst this
      exact ⟨vs', upd_same, r⟩
    · rw [List.getElem?_set_ne q] at h2
      have nb : b ≠ a := fun z => q (nodup_at G.nd ha (by rw [← z]; exact h1))
      have := G.cells m b mo h1 h2
      cases mo with
      | dead => trivial
      | lst ds2 => obtain ⟨vs2, e1, e2⟩ := this; exact ⟨vs2, by rw [upd_ne nb]; exact e1, e2⟩
      | ins C fs =>
        obtain ⟨dx, fs', e1, e2, e3, e4, e5⟩ := this
        have nd : dx ≠ a := fun z => e3 (by rw [z]; exact List.mem_of_getElem? ha)
        exact ⟨dx, fs', by rw [upd_ne nb]; exact e1, by rw [upd_ne nd]; exact e2, e3, e4, e5⟩
  · rw [upd_ne]; exact hb
    rintro rfl
    exact nl ⟨n, ha, _, h, by simp⟩
/-- a cell is no longer changed -/
theorem hid_kill {n : Nat} : Ext (Hid O as st H) (Hid O as (st.set n .dead) H) := fun b o h nt => by
  obtain ⟨h1, h2, h3⟩ := hid_some h
  refine hid_of h1 (fun z => h2 ?_) h3
  obtain ⟨m, e1, mo, e2, e3⟩ := z
  by_cases e : n = m
  · subst e
    have hlt : n < st.length := by
      have := (List.getElem?_eq_some_iff.mp e2).1
      simpa using this
    rw [List.getElem?_set_self hlt] at e2
    exact absurd (Option.some.inj e2).symm e3
  · rw [List.getElem?_set_ne e] at e2
    exact ⟨m, e1, mo, e2, e3⟩
theorem Stp.kill {n : Nat} (hl : as.length = st.length) : Stp as st H as (st.set n .dead) H := by
  refine ⟨⟨[], by simp, by simp⟩, hl, fun m hm => ?_, fun b u hb nl nt => hb, fun b hb => hb⟩
  by_cases e : n = m
  · subst e; exact List.getElem?_set_self (List.getElem?_eq_some_iff.mp hm).1
  · rw [List.getElem?_set_ne e]; exact hm
theorem Good.kill {n : Nat} (G : Good K c O as s σ H) : Good K c O as { s with st := s.st.set n .dead } σ H := by
  refine ⟨G.lenE, by simp [G.lenC], G.nd, G.odis, G.odom, G.cdom, fun i sv hi => (G.slots i sv hi).ext hid_kill ⟨[], by simp⟩, fun m b mo h1 h2 => ?_, G.tabs, G.scr, c.exk hid_kill G.ex⟩
  have h2 : (s.st.set n .dead)[m]? = some mo := h2
  by_cases q : n = m
  · subst q
    have hlt : n < s.st.length := by
      have := (List.getElem?_eq_some_iff.mp h2).1
      simpa using this
    rw [List.getElem?_set_self hlt] at h2
    cases h2
    trivial
  · rw [List.getElem?_set_ne q] at h2
    have := G.cells m b mo h1 h2
    cases mo with
    | dead => trivial
    | lst ds2 => obtain ⟨vs2, e1, e2⟩ := this; exact ⟨vs2, e1, e2.ext hid_kill⟩
    | ins C fs => obtain ⟨dx, fs', e1, e2, e3, e4, e5⟩ := this; exact ⟨dx, fs', e1, e2, e3, e4, fun f => (e5 f).ext hid_kill ⟨[], by simp⟩⟩
theorem Good.killRep {n : Nat} {ds : List D} (G : Good K c O as s σ H) (ha : as[n]? = some a) (h : s.st[n]? = some (.lst ds)) : Rep K (Hid O as (s.st.set n .dead) H) (.ref a) (.list ds) := by
  obtain ⟨vs, hH, r⟩ := G.cells n a _ ha h
  refine .lst (hid_of (fun z => G.odis a z (List.mem_of_getElem? ha)) (fun z => ?_) hH) (r.ext hid_kill)
  obtain ⟨m, e1, mo, e2, e3⟩ := z
  have := nodup_at G.nd ha e1
  subst this
  rw [List.getElem?_set_self (List.getElem?_eq_some_iff.mp h).1] at e2
  exact e3 (Option.some.inj e2).symm

/-! ### the judgements -/
def EvGood (K : PySem.W.Frag) (c : Ctx) (O as : List Addr) (s : S) (σ : L2.St) (H : Hp) : EV → V → Prop
  | .val d, v => Good K c O as s σ H ∧ Rep K (Hid O as s.st H) v d
  | .cell n, v => Good K c O as s σ H ∧ ∃ a, as[n]? = some a ∧ v = .ref a
  | .fresh ds, v => ∃ a vs, v = .ref a ∧ H a = some (.lst vs) ∧ a ∉ O ∧ Good K c (a :: O) as s σ H ∧ RepA K (Hid (a :: O) as s.st H) vs ds
def ErOk (K : PySem.W.Frag) (Hh : Hp) (x : Er) (d : Option Addr) (H : Hp) : Prop := match x.fs with
  | none => d = none
  | some fs => ∃ p fs', d = some p ∧ H p = some (.xd fs') ∧ fs'.map (·.1) = fs.map (·.1) ∧ ∀ f dd, fs.lookup f = some dd → ∃ v, fs'.lookup f = some v ∧ Rep K Hh v dd
theorem EvGood.good {ev : EV} {v : V} (h : EvGood K c O as s σ H ev v) : Good K c O as s σ H := by
  cases ev with
  | val d => exact h.1
  | cell n => exact h.1
  | fresh ds => obtain ⟨a, vs, _, _, _, G, _⟩ := h; exact G.unhide
/-- a fresh list taken as data -/
def EV.frz : EV → EV
  | .fresh ds => .val (.list ds)
  | e => e
theorem EvGood.frz {ev : EV} {v : V} (h : EvGood K c O as s σ H ev v) : EvGood K c O as s σ H ev.frz v := by
  cases ev with
  | val d => exact h
  | cell n => exact h
  | fresh ds =>
    obtain ⟨a, vs, rfl, h1, h2, G, r⟩ := h
    exact ⟨G.unhide, .lst (hid_of h2 (fun z => G.odis a List.mem_cons_self (by obtain ⟨n, e, _⟩ := z; exact List.mem_of_getElem? e)) h1) (r.ext hid_less)⟩
/-- a fresh list stood not there ahead -/
def FrAt (H : Hp) (ev : EV) (v : V) : Prop := match ev with
  | .fresh _ => ∀ a, v = .ref a → NoneT H a
  | _ => True
theorem FrAt.back {ev : EV} {v : V} (h : FrAt H' ev v) (d : ∀ b, NoneT H' b → NoneT H b) : FrAt H ev v := by
  cases ev with
  | val d => trivial
  | cell n => trivial
  | fresh ds => exact fun a e => d a (h a e)
theorem FrAt.frz {ev : EV} {v : V} : FrAt H ev.frz v := by
  cases ev <;> trivial
def PostE (K : PySem.W.Frag) (c : Ctx) (O as : List Addr) (st : List MO) (H : Hp) (W : WX) (σ : L2.St) (Q : VK) : Option (R EV) → Prop
  | none => False
  | some (.ok ev s') => ∀ v H' as', EvGood K c O as' s' σ H' ev v → Stp as st H as' s'.st H' → FrAt H ev v → Q v H'
  | some (.err x s') => ∀ d H' as', Good K c O as' s' σ H' → Stp as st H as' s'.st H' → ErOk K (Hid O as' s'.st H') x d H' → W (.ref (c.ec x.cls)) d σ H'
end
/-- the reading t follows from the function f of the data state -/
def IE (K : PySem.W.Frag) (c : Ctx) (W : WX) (t : TE) (f : S → Option (R EV)) : Prop := ∀ O as s σ H Q, Good K c O as s σ H → PostE K c O as s.st H W σ Q (f s) → t σ H Q
/-- an expression, by a function of the data state -/
structure DE (c : Ctx) (X : Cx) (W : WX) (e : Expr) (t : TE) (f : S → Option (R EV)) : Prop where
  pe : PE X e t
  ok : IE X.K c W t f
end DL
namespace DL
open PySem PySem.Spec PyProof.Rows L2

/-! ### putting functions of the state together -/
def bE {α β : Type} (f : S → Option (R α)) (k : α → S → Option (R β)) : S → Option (R β) := fun s => match f s with
  | none => none
  | some (.err x s') => some (.err x s')
  | some (.ok a s') => k a s'
def fz (f : S → Option (R EV)) : S → Option (R EV) := bE f fun ev s => some (.ok ev.frz s)
/-- the data that a value is, as it stands -/
def rd (s : S) : EV → Option D
  | .val d => some d
  | .fresh ds => some (.list ds)
  | .cell n => match s.st[n]? with
    | some (.lst ds) => some (.list ds)
    | _ => none
/-- the outermost object may be a cell's -/
def RTop (K : PySem.W.Frag) (Hh H : Hp) (v : V) : D → Prop
  | .list ds => ∃ a vs, v = .ref a ∧ H a = some (.lst vs) ∧ RepA K Hh vs ds
  | d => Rep K Hh v d
def EvOk (K : PySem.W.Frag) (O as : List Addr) (st : List MO) (H : Hp) : EV → V → Prop
  | .val d, v => Rep K (Hid O as st H) v d
  | .cell n, v => ∃ a, as[n]? = some a ∧ v = .ref a
  | .fresh _, _ => False
section
variable {K : PySem.W.Frag} {c : Ctx} {O as as' : List Addr} {s s' : S} {st st' : List MO} {σ : L2.St} {H H' : Hp} {a p : Addr} {v : V} {d : D}
theorem rtop_rep {Hh : Hp} (e : Ext Hh H) (h : Rep K Hh v d) : RTop K Hh H v d := by
  cases d with
  | list ds => cases h with | lst h1 h2 => exact ⟨_, _, rfl, e _ _ h1 noTbl_lst, h2⟩
  | none => exact h
  | bool b => exact h
  | int i => exact h
  | str x => exact h
  | tuple ds => exact h
  | dict x => exact h
theorem EvGood.ok {ev : EV} (h : EvGood K c O as s σ H ev v) : EvOk K O as s.st H ev.frz v := by
  have h' := h.frz
  cases ev with
  | val d => exact h'.2
  | cell n => exact h'.2
  | fresh ds => exact h'.2
theorem EvOk.step {ev : EV} (h : EvOk K O as st H ev v) (x : Stp as st H as' st' H') : EvOk K O as' st' H' ev v := by
  cases ev with
  | val d => exact Rep.ext x.ext h
  | cell n =>
    obtain ⟨a, h1, h2⟩ := h
    obtain ⟨more, rfl, _⟩ := x.pre
    exact ⟨a, by rw [List.getElem?_append_left (List.getElem?_eq_some_iff.mp h1).1]; exact h1, h2⟩
  | fresh ds => exact h.elim
theorem EvOk.top {ev : EV} (G : Good K c O as s σ H) (h : EvOk K O as s.st H ev v) (e : rd s ev = some d) : RTop K (Hid O as s.st H) H v d := by
  cases ev with
  | val d' => cases e; exact rtop_rep hid_ext h
  | fresh ds => exact h.elim
  | cell n =>
    obtain ⟨a, h1, rfl⟩ := h
    simp only [rd] at e
    split at e
    · rename_i ds h2
      cases e
      obtain ⟨vs, e1, e2⟩ := G.cells n a _ h1 h2
      exact ⟨a, vs, rfl, e1, e2⟩
    · cases e
theorem RTop.dp {Hh : Hp} (e : Ext Hh H) (h : RTop K Hh H v d) (c : d.canLay0 = true) : Dp K H v d := by
  cases d with
  | list ds =>
    obtain ⟨a, vs, rfl, h1, h2⟩ := h
    exact .lst (SqL.of h1) (RepA.dp (RepA.ext e h2) c)
  | none => exact Rep.dp (Rep.ext e h) c
  | bool b => exact Rep.dp (Rep.ext e h) c
  | int i => exact Rep.dp (Rep.ext e h) c
  | str x => exact Rep.dp (Rep.ext e h) c
  | tuple ds => exact Rep.dp (Rep.ext e h) c
  | dict x => exact Rep.dp (Rep.ext e h) c
/-- behind a part that is done: what is wanted of the rest -/
theorem PostE.bind {W : WX} {f : S → Option (R EV)} {k : EV → S → Option (R EV)} {Q Q' : VK} (h : PostE K c O as s.st H W σ Q (bE f k s))
    (hk : ∀ ev s' v H' as', f s = some (.ok ev s') → EvGood K c O as' s' σ H' ev v → Stp as s.st H as' s'.st H' → FrAt H ev v → PostE K c O as' s'.st H' W σ Q (k ev s') → Q' v H') : PostE K c O as s.st H W σ Q' (f s) := by
  unfold bE at h
  cases e : f s with
  | none => rw [e] at h; exact h
  | some r =>
    rw [e] at h
    cases r with
    | err x s' => exact h
    | ok ev s' =>
      intro v H' as' eg st fr
      refine hk ev s' v H' as' e eg st fr ?_
      revert h
      show PostE K c O as s.st H W σ Q (k ev s') → PostE K c O as' s'.st H' W σ Q (k ev s')
      cases k ev s' with
      | none => exact id
      | some r =>
        cases r with
        | err x s2 => exact fun h d H2 as2 g x2 er => h d H2 as2 g (st.trans x2) er
        | ok ev2 s2 => exact fun h v2 H2 as2 g x2 fr => h v2 H2 as2 g (st.trans x2) (fr.back st.dom)
theorem PostE.fz {W : WX} {f : S → Option (R EV)} {Q : VK} (h : PostE K c O as s.st H W σ Q (DL.fz f s)) : PostE K c O as s.st H W σ Q (f s) := by
  refine h.bind fun ev s' v H' as' _ eg st fr h2 => h2 v H' as' eg.frz (Stp.refl eg.good.lenC) FrAt.frz
theorem PostE.mono {W : WX} {Q Q' : VK} {r : Option (R EV)} (h : PostE K c O as st H W σ Q r) (hq : ∀ v H', Q v H' → Q' v H') : PostE K c O as st H W σ Q' r := by
  cases r with
  | none => exact h
  | some r =>
    cases r with
    | err x s' => exact h
    | ok ev s' => exact fun v H' as' g x fr => hq _ _ (h v H' as' g x fr)
end

/-! ### operators on data -/
/-- what is left: a value, new things laid -/
def Fin (K : PySem.W.Frag) (c : Ctx) (O as : List Addr) (s : S) (σ : L2.St) (H : Hp) (ev : EV) (Q : VK) : Prop :=
  ∀ v H', EvGood K c O as s σ H' ev v → (∀ b o, H b = some o → H' b = some o) → FrAt H ev v → Q v H'
def Pure2 (c : Ctx) (X : Cx) (r : R2) (h : D → D → Option EV) : Prop := ∀ O as s σ H x y d e ev Q, Good X.K c O as s σ H → RTop X.K (Hid O as s.st H) H x d → RTop X.K (Hid O as s.st H) H y e → h d e = some ev → Fin X.K c O as s σ H ev Q → r x y H Q
def Pure1 (c : Ctx) (X : Cx) (r : V → Hp → VK → Prop) (h : D → Option EV) : Prop := ∀ O as s σ H x d ev Q, Good X.K c O as s σ H → RTop X.K (Hid O as s.st H) H x d → h d = some ev → Fin X.K c O as s σ H ev Q → r x H Q
def lift1 (h : D → Option EV) : EV → S → Option (R EV) := fun e1 s => match rd s e1 with
  | some d1 => (match h d1 with
    | some ev => some (.ok ev s)
    | none => none)
  | none => none
def lift2 (h : D → D → Option EV) (e1 : EV) : EV → S → Option (R EV) := fun e2 s => match rd s e1, rd s e2 with
  | some d1, some d2 => (match h d1 d2 with
    | some ev => some (.ok ev s)
    | none => none)
  | _, _ => none
def op1 (h : D → Option EV) (f : S → Option (R EV)) : S → Option (R EV) := bE (fz f) (lift1 h)
def op2 (h : D → D → Option EV) (f g : S → Option (R EV)) : S → Option (R EV) := bE (fz f) fun e1 => bE (fz g) (lift2 h e1)
section
variable {c : Ctx} {X : Cx} {W : WX} {a b : Expr} {ta tb : TE} {f g : S → Option (R EV)} {pos : Pos}
/-- an operand, read -/
theorem operand {t : TE} (ht : IE X.K c W t f) {O as : List Addr} {s : S} {σ : L2.St} {H : Hp} {Q Q' : VK} {k : EV → S → Option (R EV)} (G : Good X.K c O as s σ H)
    (h : PostE X.K c O as s.st H W σ Q (bE (fz f) k s))
    (hk : ∀ ev s' v H' as', Good X.K c O as' s' σ H' → EvOk X.K O as' s'.st H' ev v → Stp as s.st H as' s'.st H' → PostE X.K c O as' s'.st H' W σ Q (k ev s') → Q' v H') : t σ H Q' := by
  refine ht O as s σ H Q' G (PostE.fz (h.bind fun ev s' v H' as' e eg st fr h2 => ?_))
  refine hk ev s' v H' as' eg.good ?_ st h2
  have hf : ev.frz = ev := by
    unfold fz bE at e
    cases q : f s with
    | none => rw [q] at e; cases e
    | some r =>
      rw [q] at e
      cases r with
      | err x s2 => cases e
      | ok ev2 s2 =>
        have e' : ev2.frz = ev ∧ s2 = s' := by
          have e := Option.some.inj e
          injection e with e1 e2
          exact ⟨e1, e2⟩
        rw [← e'.1]
        cases ev2 <;> rfl
  rw [← hf]
  exact eg.ok
theorem lift1_post {K : PySem.W.Frag} {c : Ctx} {O as : List Addr} {s : S} {σ : L2.St} {H : Hp} {Q : VK} {W : WX} {h : D → Option EV} {e1 : EV} {x : V} (G : Good K c O as s σ H) (o1 : EvOk K O as s.st H e1 x)
    (p : PostE K c O as s.st H W σ Q (lift1 h e1 s)) : ∃ d ev, RTop K (Hid O as s.st H) H x d ∧ h d = some ev ∧ Fin K c O as s σ H ev Q := by
  unfold lift1 at p
  cases q1 : rd s e1 with
  | none => rw [q1] at p; exact p.elim
  | some d1 =>
    rw [q1] at p
    simp only at p
    cases q3 : h d1 with
    | none => rw [q3] at p; exact p.elim
    | some ev =>
      rw [q3] at p
      exact ⟨d1, ev, o1.top G q1, q3, fun v H' eg k fr => p v H' as eg (Stp.same G.lenC k) fr⟩
theorem lift2_post {K : PySem.W.Frag} {c : Ctx} {O as : List Addr} {s : S} {σ : L2.St} {H : Hp} {Q : VK} {W : WX} {h : D → D → Option EV} {e1 e2 : EV} {x y : V} (G : Good K c O as s σ H) (o1 : EvOk K O as s.st H e1 x) (o2 : EvOk K O as s.st H e2 y)
    (p : PostE K c O as s.st H W σ Q (lift2 h e1 e2 s)) : ∃ d e ev, RTop K (Hid O as s.st H) H x d ∧ RTop K (Hid O as s.st H) H y e ∧ h d e = some ev ∧ Fin K c O as s σ H ev Q := by
  unfold lift2 at p
  cases q1 : rd s e1 with
  | none => rw [q1] at p; exact p.elim
  | some d1 =>
    cases q2 : rd s e2 with
    | none => rw [q1, q2] at p; exact p.elim
    | some d2 =>
      rw [q1, q2] at p
      simp only at p
      cases q3 : h d1 d2 with
      | none => rw [q3] at p; exact p.elim
      | some ev =>
        rw [q3] at p
        exact ⟨d1, d2, ev, o1.top G q1, o2.top G q2, q3, fun v H' eg k fr => p v H' as eg (Stp.same G.lenC k) fr⟩
theorem tOp_ok {r : R2} {h : D → D → Option EV} (p : Pure2 c X r h) (ha : IE X.K c W ta f) (hb : IE X.K c W tb g) : IE X.K c W (tOp r ta tb) (op2 h f g) := by
  intro O as s σ H Q G q
  refine operand ha G q fun e1 s1 x H1 as1 G1 o1 x1 q1 => ?_
  refine operand hb G1 q1 fun e2 s2 y H2 as2 G2 o2 x2 q2 => ?_
  obtain ⟨d, e, ev, r1, r2, he, fin⟩ := lift2_post G2 (o1.step x2) o2 q2
  exact p O as2 s2 σ H2 x y d e ev Q G2 r1 r2 he fin
theorem de_bin {op : Operator} {r : R2} {h : D → D → Option EV} (ho : OpR X (binaryOp op) r) (p : Pure2 c X r h) (ha : DE c X W a ta f) (hb : DE c X W b tb g) : DE c X W (.BinOp a op b pos) (tOp r ta tb) (op2 h f g) := ⟨pe_op ho ha.pe hb.pe, tOp_ok p ha.ok hb.ok⟩
theorem de_cmp {op : CmpOp} {r : R2} {h : D → D → Option EV} (ho : OpR X (compareOp op) r) (p : Pure2 c X r h) (ha : DE c X W a ta f) (hb : DE c X W b tb g) (hm : behindInMarks op b = false) : DE c X W (.Compare a [op] [b] pos) (tOp r ta tb) (op2 h f g) := ⟨pe_cmpR ho ha.pe hb.pe hm, tOp_ok p ha.ok hb.ok⟩
theorem de_ix {r : R2} {h : D → D → Option EV} (hr : IxR X r) (p : Pure2 c X r h) (ha : DE c X W a ta f) (hb : DE c X W b tb g) (hs : PlainIx b) : DE c X W (.Subscript a b pos) (tOp r ta tb) (op2 h f g) := ⟨pe_ix hr ha.pe hb.pe hs, tOp_ok p ha.ok hb.ok⟩
theorem tUn_ok {r : V → Hp → VK → Prop} {h : D → Option EV} (p : Pure1 c X r h) (ha : IE X.K c W ta f) : IE X.K c W (tUn r ta) (op1 h f) := by
  intro O as s σ H Q G q
  refine operand ha G q fun e1 s1 x H1 as1 G1 o1 x1 q1 => ?_
  obtain ⟨d, ev, r1, he, fin⟩ := lift1_post G1 o1 q1
  exact p O as1 s1 σ H1 x d ev Q G1 r1 he fin
theorem de_un {op : UnaryOp} {r : V → Hp → VK → Prop} {h : D → Option EV} (ho : UnR X (unaryOp op) r) (p : Pure1 c X r h) (ha : DE c X W a ta f) : DE c X W (.UnaryOp op a pos) (tUn r ta) (op1 h f) := ⟨pe_un ho ha.pe, tUn_ok p ha.ok⟩

/-! ### the leaves -/
def kst (d : D) : S → Option (R EV) := fun s => some (.ok (.val d) s)
theorem de_tC {v : V} {d : D} {e : Expr} (h : PE X e (tC v)) (r : ∀ H, Rep X.K H v d) : DE c X W e (tC v) (kst d) :=
  ⟨h, fun O as s σ H Q G q => q v H as ⟨G, r _⟩ (Stp.refl G.lenC) trivial⟩
theorem de_int {i : Int} {j : Nat} : DE c X W (.Constant (.int i) j pos) (tC (.int i)) (kst (.int i)) := de_tC pe_int fun _ => .int _
theorem de_bl {i : Bool} {j : Nat} : DE c X W (.Constant (.bool i) j pos) (tC (.bl i)) (kst (.bool i)) := de_tC pe_bl fun _ => .bl _
theorem de_non {j : Nat} : DE c X W (.Constant .none j pos) (tC .non) (kst .none) := de_tC pe_non fun _ => .non
theorem de_str {x : Str} {j : Nat} : DE c X W (.Constant (.str x) j pos) (tC (.str x)) (kst (.str x)) := de_tC pe_str fun _ => .str _
/-- a name in slot i -/
def var (i : Nat) : S → Option (R EV) := fun s => match s.env[i]? with
  | some (.val d) => some (.ok (.val d) s)
  | some (.cell n) => some (.ok (.cell n) s)
  | _ => none
theorem de_var (i : Nat) {x : Str} (hN : X.N[i]? = some x := by rfl) (hv : Vis X.env.scope x := by first | exact Or.inl rfl | exact Or.inr (Or.inl rfl) | exact Or.inr (Or.inr rfl)) (hd : (x == ("__debug__" : Str)) = false := by decide)
    (hcd : (x == ("__classdict__" : Str)) = false := by decide) : DE c X W (.Name x pos) (tVar i) (var i) := by
  refine ⟨pe_var hN hv hd hcd, fun O as s σ H Q G q => ?_⟩
  unfold var at q
  cases e : s.env[i]? with
  | none => rw [e] at q; exact q.elim
  | some sv =>
    rw [e] at q
    have sl := G.slots i sv e
    cases sv with
    | un => exact q.elim
    | scr => exact q.elim
    | val d =>
      obtain ⟨v, h1, h2⟩ := sl
      have h1' : σ[i]? = some (some v) := by
        cases z : σ[i]? with
        | none => rw [z] at h1; cases h1
        | some o => rw [z] at h1; exact congrArg some h1
      exact ⟨v, h1', q v H as ⟨G, h2⟩ (Stp.refl G.lenC) trivial⟩
    | cell n =>
      obtain ⟨a, h0, h1⟩ := sl
      have h1' : σ[i]? = some (some (.ref a)) := by
        cases z : σ[i]? with
        | none => rw [z] at h1; cases h1
        | some o => rw [z] at h1; exact congrArg some h1
      exact ⟨.ref a, h1', q (.ref a) H as ⟨G, a, h0, rfl⟩ (Stp.refl G.lenC) trivial⟩
/-- a constant of the module, a function's name -/
theorem de_glob {x : Str} {v : V} {u : Value} {d : D} (hg : Gl X x) (hm : X.mg x = some u) (r : RelV v u) (hr : ∀ H, Rep X.K H v d) (hd : (x == ("__debug__" : Str)) = false := by decide) : DE c X W (.Name x pos) (tC v) (kst d) := de_tC (pe_glob hg hm r hd) hr

/-! ### arguments -/
def toSV : EV → SV
  | .val d => .val d
  | .cell n => .cell n
  | .fresh ds => .val (.list ds)
def ArgOk (K : PySem.W.Frag) (c : Ctx) (O as : List Addr) (st : List MO) (H : Hp) (sv : SV) (v : V) : Prop := SlotOk K c (Hid O as st H) as sv (some v)
theorem EvOk.arg {K : PySem.W.Frag} {c : Ctx} {O as : List Addr} {st : List MO} {H : Hp} {ev : EV} {v : V} (h : EvOk K O as st H ev v) : ArgOk K c O as st H (toSV ev) v := by
  cases ev with
  | val d => exact ⟨v, rfl, h⟩
  | cell n => obtain ⟨a, h1, h2⟩ := h; subst h2; exact ⟨a, h1, rfl⟩
  | fresh ds => exact h.elim
/-- what is wanted behind arguments -/
def PostA (K : PySem.W.Frag) (c : Ctx) (O as : List Addr) (st : List MO) (H : Hp) (W : WX) (σ : L2.St) (Q : List V → Hp → Prop) : Option (R (List SV)) → Prop
  | none => False
  | some (.ok evs s') => ∀ vs H' as', Good K c O as' s' σ H' → Paired (ArgOk K c O as' s'.st H') evs vs → Stp as st H as' s'.st H' → Q vs H'
  | some (.err x s') => ∀ d H' as', Good K c O as' s' σ H' → Stp as st H as' s'.st H' → ErOk K (Hid O as' s'.st H') x d H' → W (.ref (c.ec x.cls)) d σ H'
def IA (K : PySem.W.Frag) (c : Ctx) (W : WX) (t : TA) (f : S → Option (R (List SV))) : Prop := ∀ O as s σ H Q, Good K c O as s σ H → PostA K c O as s.st H W σ Q (f s) → t σ H Q
structure DA (c : Ctx) (X : Cx) (W : WX) (es : List Expr) (t : TA) (f : S → Option (R (List SV))) : Prop where
  pa : PA X es t
  ok : IA X.K c W t f
def aNil : S → Option (R (List SV)) := fun s => some (.ok [] s)
def aCons (f : S → Option (R EV)) (g : S → Option (R (List SV))) : S → Option (R (List SV)) := bE (fz f) fun e => bE g fun es s => some (.ok (toSV e :: es) s)
theorem paired_step {K : PySem.W.Frag} {c : Ctx} {O as as' : List Addr} {st st' : List MO} {H H' : Hp} (x : Stp as st H as' st' H') : ∀ {evs : List SV} {vs : List V}, Paired (ArgOk K c O as st H) evs vs → Paired (ArgOk K c O as' st' H') evs vs
  | _, _, .nil => .nil
  | _, _, .cons h t => .cons (SlotOk.ext x.ext (let ⟨m, e, _⟩ := x.pre; ⟨m, e⟩) h) (paired_step x t)
theorem da_nil : DA c X W [] tNil aNil := ⟨pa_nil, fun O as s σ H Q G q => q [] H as G .nil (Stp.refl G.lenC)⟩
theorem da_cons {e : Expr} {es : List Expr} {te : TE} {tr : TA} {g : S → Option (R (List SV))} (he : DE c X W e te f) (hr : DA c X W es tr g) (hs : starEach (e :: es) X.env = (false, eval e X.env) :: starEach es X.env := by rfl) : DA c X W (e :: es) (tCons te tr) (aCons f g) := by
  refine ⟨pa_cons he.pe hr.pa hs, fun O as s σ H Q G q => ?_⟩
  refine he.ok O as s σ H _ G (PostE.fz ?_)
  unfold aCons bE at q
  cases e1 : fz f s with
  | none => rw [e1] at q; exact q.elim
  | some r =>
    rw [e1] at q
    cases r with
    | err x s1 => exact q
    | ok ev s1 =>
      have hf : ev.frz = ev := by
        unfold fz bE at e1
        cases z : f s with
        | none => rw [z] at e1; cases e1
        | some r =>
          rw [z] at e1
          cases r with
          | err x s2 => cases e1
          | ok ev2 s2 =>
            have e' : ev2.frz = ev := by
              have e := Option.some.inj e1
              injection e with e1 e2
            rw [← e']
            cases ev2 <;> rfl
      intro v H1 as1 eg x1 _
      have ok1 := eg.ok
      rw [hf] at ok1
      refine hr.ok O as1 s1 σ H1 _ eg.good ?_
      simp only at q
      cases e2 : g s1 with
      | none => rw [e2] at q; exact q.elim
      | some r2 =>
        rw [e2] at q
        cases r2 with
        | err x s2 => exact fun d H2 as2 G2 x2 er => q d H2 as2 G2 (x1.trans x2) er
        | ok evs s2 => exact fun vs H2 as2 G2 pr x2 => q (v :: vs) H2 as2 G2 (.cons (EvOk.arg (ok1.step x2)) pr) (x1.trans x2)
/-- the script handed on -/
def aScr (i : Nat) (g : S → Option (R (List SV))) : S → Option (R (List SV)) := fun s => match s.env[i]? with
  | some .scr => bE g (fun es s => some (.ok (.scr :: es) s)) s
  | _ => none
theorem da_scr (i : Nat) {x : Str} {es : List Expr} {tr : TA} {g : S → Option (R (List SV))} (hr : DA c X W es tr g) (hN : X.N[i]? = some x := by rfl) (hv : Vis X.env.scope x := by first | exact Or.inl rfl | exact Or.inr (Or.inl rfl) | exact Or.inr (Or.inr rfl))
    (hs : starEach (.Name x pos :: es) X.env = (false, eval (.Name x pos) X.env) :: starEach es X.env := by rfl) (hd : (x == ("__debug__" : Str)) = false := by decide) (hcd : (x == ("__classdict__" : Str)) = false := by decide) : DA c X W (.Name x pos :: es) (tCons (tVar i) tr) (aScr i g) := by
  refine ⟨pa_cons (pe_var hN hv hd hcd) hr.pa hs, fun O as s σ H Q G q => ?_⟩
  unfold aScr at q
  cases e : s.env[i]? with
  | none => rw [e] at q; exact q.elim
  | some sv =>
    rw [e] at q
    cases sv with
    | un => exact q.elim
    | val d => exact q.elim
    | cell n => exact q.elim
    | scr =>
      obtain ⟨a, ns, h1, h2⟩ := G.slots i _ e
      have h2' : σ[i]? = some (some (.ref a)) := by
        cases z : σ[i]? with
        | none => rw [z] at h2; cases h2
        | some o => rw [z] at h2; exact congrArg some h2
      refine ⟨.ref a, h2', hr.ok O as s σ H _ G ?_⟩
      unfold bE at q
      simp only at q
      cases e2 : g s with
      | none => rw [e2] at q; exact q.elim
      | some r2 =>
        rw [e2] at q
        cases r2 with
        | err x s2 => exact q
        | ok evs s2 => exact fun vs H2 as2 G2 pr x2 => q (.ref a :: vs) H2 as2 G2 (.cons ⟨a, ns, h1, rfl⟩ pr) x2
end
end DL
namespace DL
open PySem PySem.Spec PyProof.Rows L2
section
variable {K : PySem.W.Frag} {c : Ctx} {X : Cx} {W : WX} {a b : Expr} {ta tb : TE} {f g : S → Option (R EV)} {pos : Pos}

/-! ### displays, arguments as data -/
def valsOf : List SV → Option (List D)
  | [] => some []
  | .val d :: r => match valsOf r with
    | some ds => some (d :: ds)
    | none => none
  | _ :: _ => none
theorem vals_rep {O as : List Addr} {st : List MO} {H : Hp} : ∀ {evs : List SV} {vs : List V} {ds : List D}, Paired (ArgOk K c O as st H) evs vs → valsOf evs = some ds → RepA K (Hid O as st H) vs ds
  | [], _, _, .nil, e => by cases e; exact .nil
  | .val d :: r, _, _, .cons h t, e => by
    simp only [valsOf] at e
    split at e
    · rename_i ds q
      cases e
      obtain ⟨v, e1, h⟩ := h
      cases e1
      exact .cons h (vals_rep t q)
    · cases e
  | .cell n :: r, _, _, .cons h t, e => by simp [valsOf] at e
  | .un :: r, _, _, .cons h t, e => by simp [valsOf] at e
  | .scr :: r, _, _, .cons h t, e => by simp [valsOf] at e
/-- behind arguments that are data -/
def withVals {α : Type} (k : List D → Option α) : List SV → S → Option (R α) := fun evs s => match valsOf evs with
  | some ds => (match k ds with
    | some a => some (.ok a s)
    | none => none)
  | none => none
def callV (h : List D → Option EV) (f : S → Option (R (List SV))) : S → Option (R EV) := bE f (withVals h)
def mkTup (ds : List D) : Option EV := if ds.length ≤ 1000000 then some (.val (.tuple ds)) else none
def mkLst (ds : List D) : Option EV := if ds.length ≤ 1000000 then some (.fresh ds) else none
theorem line_of {n : Nat} (h : n ≤ 1000000) : n ≤ sizeLine := by rw [sizeLine_eq]; omega
theorem fresh_notin {O as : List Addr} {s : S} {σ : L2.St} {H : Hp} {p : Addr} (G : Good K c O as s σ H) (h : H p = none) : p ∉ O ∧ ¬ live as s.st p := ⟨fun z => (by obtain ⟨xs, h'⟩ := G.odom p z; rw [h] at h'; cases h'), fun z => live_dom G z h⟩
theorem tup_new {O as : List Addr} {s : S} {σ : L2.St} {H : Hp} {p : Addr} {vs : List V} {ds : List D} (G : Good K c O as s σ H) (h : H p = none) (r : RepA K (Hid O as s.st H) vs ds) : EvGood K c O as s σ (upd H p (.tup vs)) (.val (.tuple ds)) (.ref p) := by
  obtain ⟨h1, h2⟩ := fresh_notin G h
  refine ⟨G.grow (same_upd h), .tup (.inl (.inl (hid_of h1 h2 upd_same))) (r.ext (Stp.same G.lenC (same_upd h)).ext)⟩
theorem lst_new {O as : List Addr} {s : S} {σ : L2.St} {H : Hp} {p : Addr} {vs : List V} {ds : List D} (G : Good K c O as s σ H) (h : H p = none) (r : RepA K (Hid O as s.st H) vs ds) : EvGood K c O as s σ (upd H p (.lst vs)) (.fresh ds) (.ref p) :=
  ⟨p, vs, rfl, upd_same, (fresh_notin G h).1, G.hide h, r.ext (hid_cons h)⟩
/-- a call of a rule on data arguments -/
def PureA (c : Ctx) (X : Cx) (r : List V → Hp → VK → Prop) (h : List D → Option EV) : Prop := ∀ O as s σ H vs ds ev Q, Good X.K c O as s σ H → RepA X.K (Hid O as s.st H) vs ds → h ds = some ev → Fin X.K c O as s σ H ev Q → r vs H Q
theorem PostE.args {O as : List Addr} {s : S} {σ : L2.St} {H : Hp} {Q : VK} {fa : S → Option (R (List SV))} {h : List SV → S → Option (R EV)} {Q' : List V → Hp → Prop} (G : Good K c O as s σ H) (p : PostE K c O as s.st H W σ Q (bE fa h s))
    (hk : ∀ evs s' vs H' as', Good K c O as' s' σ H' → Paired (ArgOk K c O as' s'.st H') evs vs → Stp as s.st H as' s'.st H' → PostE K c O as' s'.st H' W σ Q (h evs s') → Q' vs H') : PostA K c O as s.st H W σ Q' (fa s) := by
  unfold bE at p
  cases e : fa s with
  | none => rw [e] at p; exact p
  | some r =>
    rw [e] at p
    cases r with
    | err x s' => exact p
    | ok ev s' =>
      intro v H' as' g pr st
      refine hk ev s' v H' as' g pr st ?_
      revert p
      show PostE K c O as s.st H W σ Q (h ev s') → PostE K c O as' s'.st H' W σ Q (h ev s')
      cases h ev s' with
      | none => exact id
      | some r =>
        cases r with
        | err x s2 => exact fun h d H2 as2 g x2 er => h d H2 as2 g (st.trans x2) er
        | ok ev2 s2 => exact fun h v2 H2 as2 g x2 fr => h v2 H2 as2 g (st.trans x2) (fr.back st.dom)
theorem callV_ok {r : List V → Hp → VK → Prop} {h : List D → Option EV} {t : TA} {fa : S → Option (R (List SV))} (p : PureA c X r h) (ha : IA X.K c W t fa) : IE X.K c W (tCB r t) (callV h fa) := by
  intro O as s σ H Q G q
  refine ha O as s σ H _ G (PostE.args G q fun evs s' vs H' as' G' pr x q2 => ?_)
  unfold withVals at q2
  cases e1 : valsOf evs with
  | none => rw [e1] at q2; exact q2.elim
  | some ds =>
    rw [e1] at q2
    simp only at q2
    cases e2 : h ds with
    | none => rw [e2] at q2; exact q2.elim
    | some ev =>
      rw [e2] at q2
      exact p O as' s' σ H' vs ds ev Q G' (vals_rep pr e1) e2 fun v H2 eg k fr => q2 v H2 as' eg (Stp.same G'.lenC k) fr
theorem de_tup {es : List Expr} {t : TA} {fa : S → Option (R (List SV))} {x1 : Nat} (h : DA c X W es t fa) : DE c X W (.Tuple es x1 pos) (tTup t) (callV mkTup fa) := by
  refine ⟨pe_tup h.pa, ?_⟩
  refine callV_ok (r := fun xs H1 Q => xs.length ≤ sizeLine ∧ ∀ p, H1 p = none → Q (.ref p) (upd H1 p (.tup xs))) (fun O as s σ H vs ds ev Q G r e fin => ?_) h.ok
  unfold mkTup at e
  split at e
  · rename_i hl
    cases e
    exact ⟨by rw [r.length]; exact line_of hl, fun p hp => fin _ _ (tup_new G hp r) (same_upd hp) trivial⟩
  · cases e
theorem de_lst {es : List Expr} {t : TA} {fa : S → Option (R (List SV))} (h : DA c X W es t fa) : DE c X W (.List es pos) (tLst t) (callV mkLst fa) := by
  refine ⟨pe_lst h.pa, ?_⟩
  refine callV_ok (r := fun xs H1 Q => xs.length ≤ sizeLine ∧ ∀ p, H1 p = none → Q (.ref p) (upd H1 p (.lst xs))) (fun O as s σ H vs ds ev Q G r e fin => ?_) h.ok
  unfold mkLst at e
  split at e
  · rename_i hl
    cases e
    exact ⟨by rw [r.length]; exact line_of hl, fun p hp => fin _ _ (lst_new G hp r) (same_upd hp) (fun a e => by cases e; exact .of hp)⟩
  · cases e
/-- a name whose cell is no longer changed from now on -/
def varF (i : Nat) : S → Option (R EV) := fun s => match s.env[i]? with
  | some (.val d) => some (.ok (.val d) s)
  | some (.cell n) => (match s.st[n]? with
    | some (.lst ds) => some (.ok (.val (.list ds)) ⟨s.env.set i (.val (.list ds)), s.st.set n .dead⟩)
    | _ => none)
  | _ => none
theorem join_some {α : Type} {o : Option (Option α)} {v : α} (h : o.join = some v) : o = some (some v) := by
  cases o with
  | none => cases h
  | some x => exact congrArg some h
theorem varF_ok (i : Nat) : IE K c W (tVar i) (varF i) := by
  intro O as s σ H Q G q
  unfold varF at q
  cases e : s.env[i]? with
  | none => rw [e] at q; exact q.elim
  | some sv =>
    rw [e] at q
    have sl := G.slots i sv e
    cases sv with
    | un => exact q.elim
    | scr => exact q.elim
    | val d =>
      obtain ⟨v, h1, h2⟩ := sl
      exact ⟨v, join_some h1, q v H as ⟨G, h2⟩ (Stp.refl G.lenC) trivial⟩
    | cell n =>
      obtain ⟨p, h0, h1⟩ := sl
      simp only at q
      cases e2 : s.st[n]? with
      | none => rw [e2] at q; exact q.elim
      | some mo =>
        rw [e2] at q
        cases mo with
        | dead => exact q.elim
        | ins C fs => exact q.elim
        | lst ds =>
          have r := G.killRep h0 e2
          refine ⟨.ref p, join_some h1, q (.ref p) H as ⟨?_, r⟩ (Stp.kill G.lenC) trivial⟩
          have G2 := G.kill (n := n)
          refine G2.frame (by simp [G.lenE]) fun j sv hj => ?_
          by_cases q : i = j
          · subst q
            rw [List.getElem?_set_self (List.getElem?_eq_some_iff.mp e).1] at hj
            cases hj
            exact ⟨.ref p, h1, r⟩
          · rw [List.getElem?_set_ne q] at hj
            exact G2.slots j sv hj
theorem de_varF (i : Nat) {x : Str} (hN : X.N[i]? = some x := by rfl) (hv : Vis X.env.scope x := by first | exact Or.inl rfl | exact Or.inr (Or.inl rfl) | exact Or.inr (Or.inr rfl)) (hd : (x == ("__debug__" : Str)) = false := by decide)
    (hcd : (x == ("__classdict__" : Str)) = false := by decide) : DE c X W (.Name x pos) (tVar i) (varF i) := ⟨pe_var hN hv hd hcd, varF_ok i⟩

/-! ### tests -/
def PostT (K : PySem.W.Frag) (c : Ctx) (O as : List Addr) (st : List MO) (H : Hp) (W : WX) (σ : L2.St) (Q : Bool → Hp → Prop) : Option (R Bool) → Prop
  | none => False
  | some (.ok b s') => ∀ H' as', Good K c O as' s' σ H' → Stp as st H as' s'.st H' → Q b H'
  | some (.err x s') => ∀ d H' as', Good K c O as' s' σ H' → Stp as st H as' s'.st H' → ErOk K (Hid O as' s'.st H') x d H' → W (.ref (c.ec x.cls)) d σ H'
def IT (K : PySem.W.Frag) (c : Ctx) (W : WX) (t : TT) (f : S → Option (R Bool)) : Prop := ∀ O as s σ H Q, Good K c O as s σ H → PostT K c O as s.st H W σ Q (f s) → t σ H Q
structure DT (c : Ctx) (X : Cx) (W : WX) (e : Expr) (t : TT) (f : S → Option (R Bool)) : Prop where
  pt : PT X e t
  ok : IT X.K c W t f
structure DW (c : Ctx) (X : Cx) (W : WX) (e : Expr) (t : TT) (f : S → Option (R Bool)) : Prop where
  pw : PW X e t
  ok : IT X.K c W t f
def toB (f : S → Option (R EV)) : S → Option (R Bool) := bE f fun ev s => match ev with
  | .val (.bool b) => some (.ok b s)
  | _ => none
def ofB (f : S → Option (R Bool)) : S → Option (R EV) := bE f fun b s => some (.ok (.val (.bool b)) s)
theorem PostT.after {O as as' : List Addr} {st st' : List MO} {H H' : Hp} {σ : L2.St} {Q : Bool → Hp → Prop} {r : Option (R Bool)} (x : Stp as st H as' st' H') (h : PostT K c O as st H W σ Q r) : PostT K c O as' st' H' W σ Q r := by
  cases r with
  | none => exact h
  | some r =>
    cases r with
    | err e s2 => exact fun d H2 as2 g x2 er => h d H2 as2 g (x.trans x2) er
    | ok b s2 => exact fun H2 as2 g x2 => h H2 as2 g (x.trans x2)
theorem PostE.after {O as as' : List Addr} {st st' : List MO} {H H' : Hp} {σ : L2.St} {Q : VK} {r : Option (R EV)} (x : Stp as st H as' st' H') (h : PostE K c O as st H W σ Q r) : PostE K c O as' st' H' W σ Q r := by
  cases r with
  | none => exact h
  | some r =>
    cases r with
    | err e s2 => exact fun d H2 as2 g x2 er => h d H2 as2 g (x.trans x2) er
    | ok b s2 => exact fun v H2 as2 g x2 fr => h v H2 as2 g (x.trans x2) (fr.back x.dom)
theorem tB_ok {t : TE} (h : IE K c W t f) : IT K c W (fun σ H Q => t σ H fun x H' => ∃ k, x = .bl k ∧ Q k H') (toB f) := by
  intro O as s σ H Q G q
  refine h O as s σ H _ G ?_
  unfold toB bE at q
  cases e : f s with
  | none => rw [e] at q; exact q
  | some r =>
    rw [e] at q
    cases r with
    | err x s' => exact q
    | ok ev s' =>
      intro v H' as' eg x _
      cases ev with
      | cell n => exact q.elim
      | fresh ds => exact q.elim
      | val d =>
        cases d with
        | bool k =>
          obtain ⟨g, r⟩ := eg
          cases r
          exact ⟨k, rfl, q H' as' g x⟩
        | none => exact q.elim
        | int _ => exact q.elim
        | str _ => exact q.elim
        | list _ => exact q.elim
        | tuple _ => exact q.elim
        | dict _ => exact q.elim
theorem dt_val {e : Expr} {t : TE} (h : DE c X W e t f) (he : ∀ whole, isTrue e X.env whole = (do let v ← whole; standAt e.pos; holding [v] (truthy v)) := by intro _; rfl) : DT c X W e (tB t) (toB f) := ⟨pt_val h.pe he, tB_ok h.ok⟩
theorem dt_cmp {op : CmpOp} {r : R2} {h : D → D → Option EV} (ho : OpR X (compareOp op) r) (p : Pure2 c X r h) (ha : DE c X W a ta f) (hb : DE c X W b tb g) (hm : behindInMarks op b = false) : DT c X W (.Compare a [op] [b] pos) (tTest (tOp r ta tb)) (toB (op2 h f g)) :=
  ⟨pt_cmpR ho ha.pe hb.pe hm, tB_ok (tOp_ok p ha.ok hb.ok)⟩
def bT {α : Type} (f : S → Option (R Bool)) (k : Bool → S → Option (R α)) : S → Option (R α) := bE f k
theorem dt_not {t : TT} {f : S → Option (R Bool)} (h : DT c X W a t f) : DT c X W (.UnaryOp .Not a pos) (tNot t) (bE f fun b s => some (.ok (!b) s)) := by
  refine ⟨pt_not h.pt, fun O as s σ H Q G q => h.ok O as s σ H _ G ?_⟩
  unfold bE at q
  cases e : f s with
  | none => rw [e] at q; exact q
  | some r =>
    rw [e] at q
    cases r with
    | err x s' => exact q
    | ok b s' => exact q
theorem PostT.bind {O as : List Addr} {s : S} {σ : L2.St} {H : Hp} {Q Q' : Bool → Hp → Prop} {f : S → Option (R Bool)} {k : Bool → S → Option (R Bool)} (h : PostT K c O as s.st H W σ Q (bE f k s))
    (hk : ∀ b s' H' as', Good K c O as' s' σ H' → Stp as s.st H as' s'.st H' → PostT K c O as' s'.st H' W σ Q (k b s') → Q' b H') : PostT K c O as s.st H W σ Q' (f s) := by
  unfold bE at h
  cases e : f s with
  | none => rw [e] at h; exact h
  | some r =>
    rw [e] at h
    cases r with
    | err x s' => exact h
    | ok b s' => exact fun H' as' g x => hk b s' H' as' g x (PostT.after x h)
theorem PostT.bindE {O as : List Addr} {s : S} {σ : L2.St} {H : Hp} {Q : VK} {Q' : Bool → Hp → Prop} {f : S → Option (R Bool)} {k : Bool → S → Option (R EV)} (h : PostE K c O as s.st H W σ Q (bE f k s))
    (hk : ∀ b s' H' as', Good K c O as' s' σ H' → Stp as s.st H as' s'.st H' → PostE K c O as' s'.st H' W σ Q (k b s') → Q' b H') : PostT K c O as s.st H W σ Q' (f s) := by
  unfold bE at h
  cases e : f s with
  | none => rw [e] at h; exact h
  | some r =>
    rw [e] at h
    cases r with
    | err x s' => exact h
    | ok b s' => exact fun H' as' g x => hk b s' H' as' g x (PostE.after x h)
def andT (f g : S → Option (R Bool)) : S → Option (R Bool) := bE f fun b s => match b with
  | true => g s
  | false => some (.ok false s)
def orT (f g : S → Option (R Bool)) : S → Option (R Bool) := bE f fun b s => match b with
  | true => some (.ok true s)
  | false => g s
theorem and_ok {t u : TT} {f g : S → Option (R Bool)} (h1 : IT K c W t f) (h2 : IT K c W u g) : IT K c W (tAnd t u) (andT f g) := by
  intro O as s σ H Q G q
  refine h1 O as s σ H _ G (q.bind fun b s' H' as' g' x q2 => ?_)
  cases b with
  | true => exact h2 O as' s' σ H' Q g' q2
  | false => exact q2 H' as' g' (Stp.refl g'.lenC)
theorem or_ok {t u : TT} {f g : S → Option (R Bool)} (h1 : IT K c W t f) (h2 : IT K c W u g) : IT K c W (tOr t u) (orT f g) := by
  intro O as s σ H Q G q
  refine h1 O as s σ H _ G (q.bind fun b s' H' as' g' x q2 => ?_)
  cases b with
  | true => exact q2 H' as' g' (Stp.refl g'.lenC)
  | false => exact h2 O as' s' σ H' Q g' q2
variable {tA tB' : TT} {fT gT : S → Option (R Bool)} {rest : List Expr}
theorem dw_and1 (h : DT c X W a tA fT) : DW c X W (.BoolOp .And [a] pos) tA fT := ⟨pw_and1 h.pt, h.ok⟩
theorem dw_or1 (h : DT c X W a tA fT) : DW c X W (.BoolOp .Or [a] pos) tA fT := ⟨pw_or1 h.pt, h.ok⟩
theorem dw_and (h : DT c X W a tA fT) (h2 : DW c X W (.BoolOp .And (b :: rest) pos) tB' gT) : DW c X W (.BoolOp .And (a :: b :: rest) pos) (tAnd tA tB') (andT fT gT) := ⟨pw_and h.pt h2.pw, and_ok h.ok h2.ok⟩
theorem dw_or (h : DT c X W a tA fT) (h2 : DW c X W (.BoolOp .Or (b :: rest) pos) tB' gT) : DW c X W (.BoolOp .Or (a :: b :: rest) pos) (tOr tA tB') (orT fT gT) := ⟨pw_or h.pt h2.pw, or_ok h.ok h2.ok⟩
theorem DW.dt {e : Expr} (h : DW c X W e tA fT) : DT c X W e tA fT := ⟨h.pw.pt, h.ok⟩
/-- .. as values -/
def andV (f g : S → Option (R EV)) : S → Option (R EV) := bE (toB f) fun b s => match b with
  | true => g s
  | false => some (.ok (.val (.bool false)) s)
def orV (f g : S → Option (R EV)) : S → Option (R EV) := bE (toB f) fun b s => match b with
  | true => some (.ok (.val (.bool true)) s)
  | false => g s
theorem de_one {op : BoolOp} (h : DE c X W a ta f) : DE c X W (.BoolOp op [a] pos) ta f := ⟨pe_one h.pe, h.ok⟩
theorem de_and (h : DE c X W a ta f) (h2 : DE c X W (.BoolOp .And (b :: rest) pos) tb g) : DE c X W (.BoolOp .And (a :: b :: rest) pos) (tAndV ta tb) (andV f g) := by
  refine ⟨pe_and h.pe h2.pe, fun O as s σ H Q G q => ?_⟩
  refine tB_ok h.ok O as s σ H (fun k H1 => if k = true then tb σ H1 Q else Q (.bl false) H1) G (PostT.bindE q fun b s' H' as' g' x q2 => ?_)
  cases b with
  | true => exact h2.ok O as' s' σ H' Q g' q2
  | false => exact q2 _ H' as' ⟨g', .bl _⟩ (Stp.refl g'.lenC) trivial
theorem de_or (h : DE c X W a ta f) (h2 : DE c X W (.BoolOp .Or (b :: rest) pos) tb g) : DE c X W (.BoolOp .Or (a :: b :: rest) pos) (tOrV ta tb) (orV f g) := by
  refine ⟨pe_or h.pe h2.pe, fun O as s σ H Q G q => ?_⟩
  refine tB_ok h.ok O as s σ H (fun k H1 => if k = true then Q (.bl true) H1 else tb σ H1 Q) G (PostT.bindE q fun b s' H' as' g' x q2 => ?_)
  cases b with
  | true => exact q2 _ H' as' ⟨g', .bl _⟩ (Stp.refl g'.lenC) trivial
  | false => exact h2.ok O as' s' σ H' Q g' q2
theorem de_not (h : DE c X W a ta f) : DE c X W (.UnaryOp .Not a pos) (tNotV ta) (bE (toB f) fun b s => some (.ok (.val (.bool (!b))) s)) := by
  refine ⟨pe_not h.pe, fun O as s σ H Q G q => ?_⟩
  exact tB_ok h.ok O as s σ H (fun k H1 => Q (.bl (!k)) H1) G (PostT.bindE q fun b s' H' as' g' x q2 => q2 _ H' as' ⟨g', .bl _⟩ (Stp.refl g'.lenC) trivial)
def ifV (t : S → Option (R Bool)) (f g : S → Option (R EV)) : S → Option (R EV) := bE t fun b s => match b with
  | true => f s
  | false => g s
theorem de_ifExp {e : Expr} (h : DT c X W e tA fT) (h1 : DE c X W a ta f) (h2 : DE c X W b tb g) : DE c X W (.IfExp e a b pos) (tIf tA ta tb) (ifV fT f g) := by
  refine ⟨pe_ifExp h.pt h1.pe h2.pe, fun O as s σ H Q G q => ?_⟩
  refine h.ok O as s σ H _ G (PostT.bindE q fun b s' H' as' g' x q2 => ?_)
  cases b with
  | true => exact h1.ok O as' s' σ H' Q g' q2
  | false => exact h2.ok O as' s' σ H' Q g' q2
/-- two comparisons in a row: ints, say -/
def chain (h h' : D → D → Option EV) (f g k : S → Option (R EV)) : S → Option (R EV) := bE (fz f) fun e1 => bE (fz g) fun e2 => bE (toB (lift2 h e1 e2)) fun b s => match b with
  | true => bE (fz k) (lift2 h' e2) s
  | false => some (.ok (.val (.bool false)) s)
theorem chain_ok {r r' : R2} {h h' : D → D → Option EV} {tc : TE} {k : S → Option (R EV)} (p : Pure2 c X r h) (p' : Pure2 c X r' h') (ha : IE X.K c W ta f) (hb : IE X.K c W tb g) (hc : IE X.K c W tc k) : IE X.K c W (tChain r r' ta tb tc) (chain h h' f g k) := by
  intro O as s σ H Q G q
  refine operand ha G q fun e1 s1 x H1 as1 G1 o1 x1 q1 => ?_
  refine operand hb G1 q1 fun e2 s2 y H2 as2 G2 o2 x2 q2 => ?_
  have o1 := o1.step x2
  unfold bE toB bE lift2 at q2
  cases z1 : rd s2 e1 with
  | none => rw [z1] at q2; exact q2.elim
  | some d1 =>
    cases z2 : rd s2 e2 with
    | none => rw [z1, z2] at q2; exact q2.elim
    | some d2 =>
      rw [z1, z2] at q2
      simp only at q2
      cases z3 : h d1 d2 with
      | none => rw [z3] at q2; exact q2.elim
      | some ev =>
        rw [z3] at q2
        simp only at q2
        cases ev with
        | cell n => exact q2.elim
        | fresh ds => exact q2.elim
        | val d =>
          cases d with
          | bool b =>
            simp only at q2
            refine p O as2 s2 σ H2 x y d1 d2 _ _ G2 (o1.top G2 z1) (o2.top G2 z2) z3 fun v H3 eg ke _ => ?_
            obtain ⟨G3, r3⟩ := eg
            cases r3
            refine ⟨b, rfl, ?_⟩
            have x3 : Stp as2 s2.st H2 as2 s2.st H3 := Stp.same G2.lenC ke
            cases b with
            | false => exact q2 _ H3 as2 ⟨G3, .bl _⟩ x3 trivial
            | true =>
              have q3 := PostE.after x3 q2
              refine operand hc G3 q3 fun e3 s4 w' H4 as4 G4 o4 x4 q4 => ?_
              obtain ⟨d, e, ev, r1, r2, he, fin⟩ := lift2_post G4 ((o2.step x3).step x4) o4 q4
              exact p' O as4 s4 σ H4 y w' d e ev Q G4 r1 r2 he fin
          | none => exact q2.elim
          | int _ => exact q2.elim
          | str _ => exact q2.elim
          | list _ => exact q2.elim
          | tuple _ => exact q2.elim
          | dict _ => exact q2.elim
theorem de_chain {op op' : CmpOp} {r r' : R2} {h h' : D → D → Option EV} {e : Expr} {tc : TE} {k : S → Option (R EV)} (ho : OpR X (compareOp op) r) (p : Pure2 c X r h) (ho' : OpR X (compareOp op') r') (p' : Pure2 c X r' h') (ha : DE c X W a ta f) (hb : DE c X W b tb g) (hc : DE c X W e tc k)
    (hm : lastMarks [op, op'] [b, e] = false := by with_unfolding_all rfl) : DE c X W (.Compare a [op, op'] [b, e] pos) (tChain r r' ta tb tc) (chain h h' f g k) := ⟨pe_chain ho ho' ha.pe hb.pe hc.pe hm, chain_ok p p' ha.ok hb.ok hc.ok⟩
theorem dt_chain {op op' : CmpOp} {r r' : R2} {h h' : D → D → Option EV} {e : Expr} {tc : TE} {k : S → Option (R EV)} (ho : OpR X (compareOp op) r) (p : Pure2 c X r h) (ho' : OpR X (compareOp op') r') (p' : Pure2 c X r' h') (ha : DE c X W a ta f) (hb : DE c X W b tb g) (hc : DE c X W e tc k)
    (hm : lastMarks [op, op'] [b, e] = false := by with_unfolding_all rfl) : DT c X W (.Compare a [op, op'] [b, e] pos) (tTest (tChain r r' ta tb tc)) (toB (chain h h' f g k)) := ⟨pt_chain ho ho' ha.pe hb.pe hc.pe hm, tB_ok (chain_ok p p' ha.ok hb.ok hc.ok)⟩
end
end DL
namespace DL
open PySem PySem.Spec PyProof.Rows L2
/-! ### statements -/
def PostS (K : PySem.W.Frag) (c : Ctx) (O as : List Addr) (st : List MO) (H : Hp) (W : WX) (B : Ends) : Option RS → Prop
  | none => False
  | some (.next s') => ∀ σ' H' as', Good K c O as' s' σ' H' → Stp as st H as' s'.st H' → B.nx σ' H'
  | some (.ret ev s') => ∀ v σ' H' as', EvGood K c O as' s' σ' H' ev v → Stp as st H as' s'.st H' → FrAt H ev v → B.rt v H'
  | some (.err x s') => ∀ d σ' H' as', Good K c O as' s' σ' H' → Stp as st H as' s'.st H' → ErOk K (Hid O as' s'.st H') x d H' → W (.ref (c.ec x.cls)) d σ' H'
def IS (K : PySem.W.Frag) (c : Ctx) (W : WX) (t : TS) (g : S → Option RS) : Prop := ∀ O as s σ H B, Good K c O as s σ H → PostS K c O as s.st H W B (g s) → t B σ H
structure DS (c : Ctx) (X : Cx) (W : WX) (st : Stmt) (t : TS) (g : S → Option RS) : Prop where
  ps : PS X st t
  ok : IS X.K c W t g
structure DB (c : Ctx) (X : Cx) (W : WX) (st : List Stmt) (t : TS) (g : S → Option RS) : Prop where
  pss : PSs X st t
  ok : IS X.K c W t g
section
variable {K : PySem.W.Frag} {c : Ctx} {X : Cx} {W : WX} {O as as' : List Addr} {s s' : S} {st st' : List MO} {σ : L2.St} {H H' : Hp} {B : Ends}
theorem PostS.after {r : Option RS} (x : Stp as st H as' st' H') (h : PostS K c O as st H W B r) : PostS K c O as' st' H' W B r := by
  cases r with
  | none => exact h
  | some r =>
    cases r with
    | next s2 => exact fun σ2 H2 as2 g x2 => h σ2 H2 as2 g (x.trans x2)
    | ret ev s2 => exact fun v σ2 H2 as2 g x2 fr => h v σ2 H2 as2 g (x.trans x2) (fr.back x.dom)
    | err e s2 => exact fun d σ2 H2 as2 g x2 er => h d σ2 H2 as2 g (x.trans x2) er
theorem PostS.imp {B' : Ends} {r : Option RS} (h : PostS K c O as st H W B r) (hn : ∀ σ H, B.nx σ H → B'.nx σ H) (hr : ∀ v H, B.rt v H → B'.rt v H) : PostS K c O as st H W B' r := by
  cases r with
  | none => exact h
  | some r =>
    cases r with
    | next s2 => exact fun σ2 H2 as2 g x2 => hn _ _ (h σ2 H2 as2 g x2)
    | ret ev s2 => exact fun v σ2 H2 as2 g x2 fr => hr _ _ (h v σ2 H2 as2 g x2 fr)
    | err e s2 => exact h
def seqS (f g : S → Option RS) : S → Option RS := fun s => match f s with
  | some (.next s') => g s'
  | r => r
def skip : S → Option RS := fun s => some (.next s)
theorem db_nil : DB c X W [] tNext skip := ⟨pss_nil, fun O as s σ H B G q => q σ H as G (Stp.refl G.lenC)⟩
theorem seq_ok {t u : TS} {f g : S → Option RS} (h1 : IS K c W t f) (h2 : IS K c W u g) : IS K c W (tSeq t u) (seqS f g) := by
  intro O as s σ H B G q
  refine h1 O as s σ H _ G ?_
  unfold seqS at q
  cases e : f s with
  | none => rw [e] at q; exact q
  | some r =>
    rw [e] at q
    cases r with
    | next s' => exact fun σ' H' as' g' x => h2 O as' s' σ' H' B g' (PostS.after x q)
    | ret ev s' => exact q
    | err x s' => exact q
variable {stm : Stmt} {rest : List Stmt} {t u : TS} {f g : S → Option RS}
theorem db_cons (h1 : DS c X W stm t f) (h2 : DB c X W rest u g) : DB c X W (stm :: rest) (tSeq t u) (seqS f g) := ⟨pss_cons h1.ps h2.pss, seq_ok h1.ok h2.ok⟩
theorem db_one (h1 : DS c X W stm t f) : DB c X W [stm] t f := ⟨pss_one h1.ps, h1.ok⟩
variable {e : Expr} {te : TE} {fe : S → Option (R EV)} {pos : Pos}
/-- an expression, then a statement's end -/
def bS {α : Type} (f : S → Option (R α)) (k : α → S → Option RS) : S → Option RS := fun s => match f s with
  | none => none
  | some (.err x s') => some (.err x s')
  | some (.ok a s') => k a s'
theorem PostS.bind {f : S → Option (R EV)} {k : EV → S → Option RS} {Q : VK} (h : PostS K c O as s.st H W B (bS f k s))
    (hk : ∀ ev s' v H' as', EvGood K c O as' s' σ H' ev v → Stp as s.st H as' s'.st H' → FrAt H ev v → PostS K c O as s.st H W B (k ev s') → Q v H') : PostE K c O as s.st H W σ Q (f s) := by
  unfold bS at h
  cases e : f s with
  | none => rw [e] at h; exact h
  | some r =>
    rw [e] at h
    cases r with
    | err x s' => exact fun d H' as' g x' er => h d σ H' as' g x' er
    | ok ev s' => exact fun v H' as' eg x fr => hk ev s' v H' as' eg x fr h
theorem PostS.bindT {f : S → Option (R Bool)} {k : Bool → S → Option RS} {Q : Bool → Hp → Prop} (h : PostS K c O as s.st H W B (bS f k s))
    (hk : ∀ b s' H' as', Good K c O as' s' σ H' → Stp as s.st H as' s'.st H' → PostS K c O as' s'.st H' W B (k b s') → Q b H') : PostT K c O as s.st H W σ Q (f s) := by
  unfold bS at h
  cases e : f s with
  | none => rw [e] at h; exact h
  | some r =>
    rw [e] at h
    cases r with
    | err x s' => exact fun d H' as' g x' er => h d σ H' as' g x' er
    | ok ev s' => exact fun H' as' eg x => hk ev s' H' as' eg x (PostS.after x h)
def retS (f : S → Option (R EV)) : S → Option RS := bS f fun ev s => some (.ret ev s)
theorem ds_ret (h : DE c X W e te fe) : DS c X W (.Return (some e) pos) (tRet te) (retS fe) :=
  ⟨ps_ret h.pe, fun O as s σ H B G q => h.ok O as s σ H B.rt G (q.bind fun ev s' v H' as' eg x fr q2 => q2 v σ H' as' eg x fr)⟩
theorem ds_retN : DS c X W (.Return none pos) tRetN (fun s => some (.ret (.val .none) s)) :=
  ⟨ps_retN, fun O as s σ H B G q => q .non σ H as ⟨G, .non⟩ (Stp.refl G.lenC) trivial⟩
theorem ds_pass : DS c X W (.Pass pos) tNext skip := ⟨ps_pass, fun O as s σ H B G q => q σ H as G (Stp.refl G.lenC)⟩
def exprS (f : S → Option (R EV)) : S → Option RS := bS f fun _ s => some (.next s)
theorem ds_expr (h : DE c X W e te fe) (hs : swapsWith e none pos.line X.env = pure false := by rfl) : DS c X W (.Expr e pos) (tDrop te) (exprS fe) :=
  ⟨ps_expr h.pe hs, fun O as s σ H B G q => h.ok O as s σ H _ G (q.bind fun ev s' v H' as' eg x fr q2 => q2 σ H' as' eg.good x)⟩
/-- x = e -/
def storeF (i : Nat) : EV → S → S
  | .val d, s => { s with env := s.env.set i (.val d) }
  | .fresh ds, s => { s with env := s.env.set i (.val (.list ds)) }
  | .cell n, s => { s with env := s.env.set i (.cell n) }
/-- a new list gets a cell -/
def storeC (i : Nat) : EV → S → S
  | .val d, s => { s with env := s.env.set i (.val d) }
  | .fresh ds, s => ⟨s.env.set i (.cell s.st.length), s.st ++ [.lst ds]⟩
  | .cell n, s => { s with env := s.env.set i (.cell n) }
theorem storeF_ok {i : Nat} {ev : EV} {v : V} (h : EvGood K c O as s σ H ev v) : Good K c O as (storeF i ev s) (σ.set i (some v)) H ∧ Stp as s.st H as (storeF i ev s).st H := by
  have hf := h.frz
  cases ev with
  | val d => exact ⟨hf.1.set ⟨v, rfl, hf.2⟩, Stp.refl hf.1.lenC⟩
  | fresh ds => exact ⟨hf.1.set (sv := .val (.list ds)) ⟨v, rfl, hf.2⟩, Stp.refl hf.1.lenC⟩
  | cell n =>
    obtain ⟨G, a, h1, h2⟩ := hf
    subst h2
    exact ⟨G.set (sv := .cell n) ⟨a, h1, rfl⟩, Stp.refl G.lenC⟩
theorem storeC_ok {as0 : List Addr} {st0 : List MO} {H0 : Hp} {i : Nat} {ev : EV} {v : V} (h : EvGood K c O as s σ H ev v) (h0 : Stp as0 st0 H0 as s.st H) (hn : FrAt H0 ev v) : ∃ as', Good K c O as' (storeC i ev s) (σ.set i (some v)) H ∧ Stp as0 st0 H0 as' (storeC i ev s).st H := by
  cases ev with
  | val d => exact ⟨as, h.1.set ⟨v, rfl, h.2⟩, h0⟩
  | cell n =>
    obtain ⟨G, a, h1, h2⟩ := h
    subst h2
    exact ⟨as, G.set (sv := .cell n) ⟨a, h1, rfl⟩, h0⟩
  | fresh ds =>
    obtain ⟨a, vs, rfl, h1, h2, G, r⟩ := h
    have G2 := G.alloc h1 r h2
    refine ⟨as ++ [a], G2.set (sv := .cell s.st.length) ⟨a, by rw [← G.lenC]; simp, rfl⟩, ?_⟩
    obtain ⟨more, e, hm⟩ := h0.pre
    refine ⟨⟨more ++ [a], by rw [e, List.append_assoc], fun b hb => ?_⟩, h0.len, fun n hd => ?_, h0.keep, h0.dom⟩
    · rcases List.mem_append.mp hb with z | z
      · exact hm b z
      · have : b = a := by simpa using z
        rw [this]
        exact hn a rfl
    · show (s.st ++ [MO.lst ds])[n]? = some .dead
      have := h0.dead n hd
      rw [List.getElem?_append_left (List.getElem?_eq_some_iff.mp this).1]
      exact this
def setF (i : Nat) (f : S → Option (R EV)) : S → Option RS := bS f fun ev s => some (.next (storeF i ev s))
def setC (i : Nat) (f : S → Option (R EV)) : S → Option RS := bS f fun ev s => some (.next (storeC i ev s))
theorem setF_ok (i : Nat) (h : IE K c W te fe) : IS K c W (tAsg te (gName i)) (setF i fe) := fun O as s σ H B G q => h O as s σ H _ G (q.bind fun ev s' v H' as' eg x fr q2 => by
  obtain ⟨g, y⟩ := storeF_ok (i := i) eg
  exact q2 _ H' as' g (x.trans y))
theorem setC_ok (i : Nat) (h : IE K c W te fe) : IS K c W (tAsg te (gName i)) (setC i fe) := fun O as s σ H B G q => h O as s σ H _ G (q.bind fun ev s' v H' as' eg x fr q2 => by
  obtain ⟨as2, g, y⟩ := storeC_ok (i := i) eg x fr
  exact q2 _ H' as2 g y)
section
variable {i : Nat} {x : Str} {pos' : Pos}
theorem ds_setF (hN : X.N.Nodup) (hi : X.N[i]? = some x) (hx : Loc X.env.scope x) (h : DE c X W e te fe) (hs : swapsWith e (some (.Name x pos')) pos.line X.env = pure false := by rfl) (hf : X.fn x = true ∨ X.env.scope.names.lookup x = some .local := by first | exact .inl rfl | exact .inr rfl | assumption) :
    DS c X W (.Assign [.Name x pos'] e pos) (tAsg te (gName i)) (setF i fe) := ⟨ps_set hN hi hx h.pe hs hf, setF_ok i h.ok⟩
theorem ds_setC (hN : X.N.Nodup) (hi : X.N[i]? = some x) (hx : Loc X.env.scope x) (h : DE c X W e te fe) (hs : swapsWith e (some (.Name x pos')) pos.line X.env = pure false := by rfl) (hf : X.fn x = true ∨ X.env.scope.names.lookup x = some .local := by first | exact .inl rfl | exact .inr rfl | assumption) :
    DS c X W (.Assign [.Name x pos'] e pos) (tAsg te (gName i)) (setC i fe) := ⟨ps_set hN hi hx h.pe hs hf, setC_ok i h.ok⟩
end
/-! ### if -/
def ifS (t : S → Option (R Bool)) (f g : S → Option RS) : S → Option RS := bS t fun b s => match b with
  | true => f s
  | false => g s
theorem ds_if {a b : List Stmt} {tc : TT} {fc : S → Option (R Bool)} (hc : DT c X W e tc fc) (ha : DB c X W a t f) (hb : DB c X W b u g) : DS c X W (.If e a b pos) (tIfS tc t u) (ifS fc f g) := by
  refine ⟨ps_if hc.pt ha.pss hb.pss, fun O as s σ H B G q => hc.ok O as s σ H _ G (q.bindT fun k s' H' as' g' x q2 => ?_)⟩
  cases k with
  | true => exact ha.ok O as' s' σ H' B g' q2
  | false => exact hb.ok O as' s' σ H' B g' q2

/-! ### targets -/
def IG (K : PySem.W.Frag) (c : Ctx) (is : List Nat) (t : TG) (b : D → List SV → Option (List SV)) : Prop := ∀ O as s σ H v d (Q : L2.St → Hp → Prop), Good K c O as s σ H → Rep K (Hid O as s.st H) v d →
  (match b d s.env with
    | none => False
    | some env' => ∀ σ', Good K c O as ⟨env', s.st⟩ σ' H → (∀ vs : List Nat, (∀ i ∈ is, i ∈ vs) → wipe σ' vs = wipe σ vs) → Q σ' H) → t v σ H Q
def IGs (K : PySem.W.Frag) (c : Ctx) (is : List Nat) (t : TGs) (b : List D → List SV → Option (List SV)) : Prop := ∀ O as s σ H vs ds (Q : L2.St → Hp → Prop), Good K c O as s σ H → RepA K (Hid O as s.st H) vs ds →
  (match b ds s.env with
    | none => False
    | some env' => ∀ σ', Good K c O as ⟨env', s.st⟩ σ' H → (∀ vs : List Nat, (∀ i ∈ is, i ∈ vs) → wipe σ' vs = wipe σ vs) → Q σ' H) → t vs σ H Q
structure DG (c : Ctx) (X : Cx) (tg : Expr) (is : List Nat) (t : TG) (b : D → List SV → Option (List SV)) : Prop where
  pg : PG X tg t
  ok : IG X.K c is t b
structure DGs (c : Ctx) (X : Cx) (tgs : List Expr) (is : List Nat) (t : TGs) (b : List D → List SV → Option (List SV)) : Prop where
  pgs : PGs X tgs t
  ok : IGs X.K c is t b
theorem wipe_set {σ : L2.St} {i : Nat} {o : Option V} : ∀ {vs : List Nat}, i ∈ vs → wipe (σ.set i o) vs = wipe σ vs
  | v :: vs, h => by
    show (wipe (σ.set i o) vs).set v none = (wipe σ vs).set v none
    by_cases hv : i ∈ vs
    · rw [wipe_set hv]
    · have : i = v := (List.mem_cons.mp h).resolve_right hv
      subst this
      have aux : ∀ {ws : List Nat}, i ∉ ws → wipe (σ.set i o) ws = (wipe σ ws).set i o := by
        intro ws
        induction ws with
        | nil => intro _; rfl
        | cons w ws ih =>
          intro hn
          show (wipe (σ.set i o) ws).set w none = ((wipe σ ws).set w none).set i o
          rw [ih (fun z => hn (List.mem_cons_of_mem _ z)), List.set_comm]
          rintro rfl
          exact hn List.mem_cons_self
      rw [aux hv, List.set_set]
def bName (i : Nat) : D → List SV → Option (List SV) := fun d env => some (env.set i (.val d))
theorem dg_name {i : Nat} {x : Str} {pos : Pos} (hN : X.N.Nodup) (hi : X.N[i]? = some x) (hx : Loc X.env.scope x) (hf : X.fn x = true ∨ X.env.scope.names.lookup x = some .local := by first | exact .inl rfl | exact .inr rfl | assumption) : DG c X (.Name x pos) [i] (gName i) (bName i) :=
  ⟨pg_name hN hi hx hf, fun O as s σ H v d Q G r q => q _ (G.set (sv := .val d) ⟨v, rfl, r⟩) fun vs h => wipe_set (h i (by simp))⟩
def bNil : List D → List SV → Option (List SV)
  | [], env => some env
  | _ :: _, _ => none
def bCons (b : D → List SV → Option (List SV)) (r : List D → List SV → Option (List SV)) : List D → List SV → Option (List SV)
  | [], _ => none
  | d :: ds, env => match b d env with
    | none => none
    | some env' => r ds env'
theorem dgs_nil : DGs c X [] [] gNil bNil := ⟨pgs_nil, fun O as s σ H vs ds Q G r q => by
  cases ds with
  | cons d ds => exact q.elim
  | nil =>
    cases r
    exact ⟨rfl, q σ G fun _ _ => rfl⟩⟩
theorem dgs_cons {e : Expr} {es : List Expr} {is js : List Nat} {t : TG} {u : TGs} {b : D → List SV → Option (List SV)} {r : List D → List SV → Option (List SV)} (h1 : DG c X e is t b) (h2 : DGs c X es js u r)
    (hs : (assignEach (e :: es) X.env).map (·.2) = assign e X.env :: (assignEach es X.env).map (·.2) := by rfl) : DGs c X (e :: es) (is ++ js) (gCons t u) (bCons b r) := by
  refine ⟨pgs_cons h1.pg h2.pgs hs, fun O as s σ H vs ds Q G rr q => ?_⟩
  cases ds with
  | nil => exact q.elim
  | cons d ds =>
    cases rr with
    | cons r1 r2 =>
      simp only [bCons] at q
      cases e1 : b d s.env with
      | none => rw [e1] at q; exact q.elim
      | some env1 =>
        rw [e1] at q
        refine ⟨_, _, rfl, h1.ok O as s σ H _ d _ G r1 ?_⟩
        rw [e1]
        intro σ1 G1 w1
        refine h2.ok O as ⟨env1, s.st⟩ σ1 H _ ds _ G1 r2 ?_
        show match r ds env1 with
          | none => False
          | some env' => _
        simp only at q
        cases e2 : r ds env1 with
        | none => rw [e2] at q; exact q
        | some env2 =>
          rw [e2] at q
          exact fun σ2 G2 w2 => q σ2 G2 fun ws hw => (w2 ws fun i hi => hw i (List.mem_append_right _ hi)).trans (w1 ws fun i hi => hw i (List.mem_append_left _ hi))
def bTup (n : Nat) (r : List D → List SV → Option (List SV)) : D → List SV → Option (List SV)
  | .tuple ds, env => if ds.length = n then r ds env else none
  | _, _ => none
theorem dg_tup {es : List Expr} {k : Nat} {is : List Nat} {t : TGs} {r : List D → List SV → Option (List SV)} {n : Nat} {pos : Pos} (hc : X.calm = true) (h : DGs c X es is t r)
    (hn : (assignEach es X.env).length = n := by rfl) (hst : (assignEach es X.env).findIdx? (·.1) = none := by rfl) : DG c X (.Tuple es k pos) is (gTup X.K n t) (bTup n r) := by
  refine ⟨pg_tup hc h.pgs hn hst, fun O as s σ H v d Q G rr q => ?_⟩
  cases d with
  | tuple ds =>
    cases rr with
    | tup h1 h2 =>
      simp only [bTup] at q
      by_cases hl : ds.length = n
      · rw [if_pos hl] at q
        exact ⟨_, _, rfl, hid_ext.sqT h1, by rw [h2.length]; exact hl, h.ok O as s σ H _ ds Q G h2 q⟩
      · rw [if_neg hl] at q
        exact q.elim
  | none => exact q.elim
  | bool _ => exact q.elim
  | int _ => exact q.elim
  | str _ => exact q.elim
  | list _ => exact q.elim
  | dict _ => exact q.elim
/-- target = e -/
def asgS (b : D → List SV → Option (List SV)) (f : S → Option (R EV)) : S → Option RS := bS f fun ev s => match ev.frz with
  | .val d => (match b d s.env with
    | some env' => some (.next ⟨env', s.st⟩)
    | none => none)
  | _ => none
theorem ds_asg {tg : Expr} {is : List Nat} {g : TG} {b : D → List SV → Option (List SV)} (he : DE c X W e te fe) (hg : DG c X tg is g b) (hs : swapsWithSole [tg] e pos.line X.env = pure false := by rfl) (hw : swappedStores [tg] e X.env = pure none := by rfl)
    (h1 : (assignEach [tg] X.env).map (·.2) = [assign tg X.env] := by rfl) : DS c X W (.Assign [tg] e pos) (tAsg te g) (asgS b fe) := by
  refine ⟨ps_asg he.pe hg.pg hs hw h1, fun O as s σ H B G q => he.ok O as s σ H _ G (q.bind fun ev s' v H' as' eg x fr q2 => ?_)⟩
  have ef := eg.frz
  cases z : ev.frz with
  | cell n => rw [z] at q2; exact q2.elim
  | fresh n => rw [z] at q2; exact q2.elim
  | val d =>
    rw [z] at q2 ef
    refine hg.ok O as' s' σ H' v d _ ef.1 ef.2 ?_
    simp only at q2
    cases e2 : b d s'.env with
    | none => rw [e2] at q2; exact q2
    | some env' =>
      rw [e2] at q2
      exact fun σ2 G2 _ => q2 σ2 H' as' G2 x
/-- a, b = x, y: the second one may be a new list with a cell -/
def parS (i j : Nat) (f g : S → Option (R EV)) : S → Option RS := bS (fz f) fun e1 => bS g fun e2 s => match storeF i e1 s with
  | s1 => some (.next (storeC j e2 s1))
theorem par_ok {i j : Nat} {t1 t2 : TE} {f1 f2 : S → Option (R EV)} (hij : i ≠ j) (h1 : IE K c W t1 f1) (h2 : IE K c W t2 f2) : IS K c W (tPar i j (tCons t1 (tCons t2 tNil))) (parS i j f1 f2) := by
  intro O as s σ H B G q
  have q : PostS K c O as s.st H W B (bS (fz f1) (fun e1 => bS f2 fun e2 s => some (.next (storeC j e2 (storeF i e1 s)))) s) := q
  refine h1 O as s σ H _ G (PostE.fz (PostS.bind q fun e1 s1 v1 H1 as1 eg1 x1 fr1 q1 => ?_))
  have q1 := PostS.after x1 q1
  refine h2 O as1 s1 σ H1 _ eg1.good (PostS.bind q1 fun e2 s2 v2 H2 as2 eg2 x2 fr2 q2 => ?_)
  refine ⟨v1, v2, rfl, ?_⟩
  have o1 : EvOk K O as1 s1.st H1 e1.frz v1 := eg1.ok
  have o1 := o1.step x2
  -- the first name's store, under what e2 keeps hidden
  have key : ∃ as', Good K c O as' (storeC j e2 (storeF i e1 s2)) ((σ.set i (some v1)).set j (some v2)) H2 ∧ Stp as1 s1.st H1 as' (storeC j e2 (storeF i e1 s2)).st H2 := by
    refine storeC_ok (s := storeF i e1 s2) (as := as2) ?_ (by cases e1 <;> exact x2) fr2
    cases e2 with
    | val d =>
      refine ⟨?_, ?_⟩
      · cases e1 with
        | val d1 => exact eg2.1.set ⟨v1, rfl, o1⟩
        | fresh ds => exact eg2.1.set (sv := .val (.list ds)) ⟨v1, rfl, o1⟩
        | cell n => obtain ⟨a, z1, z2⟩ := o1; subst z2; exact eg2.1.set (sv := .cell n) ⟨a, z1, rfl⟩
      · cases e1 <;> exact eg2.2
    | cell m =>
      refine ⟨?_, ?_⟩
      · cases e1 with
        | val d1 => exact eg2.1.set ⟨v1, rfl, o1⟩
        | fresh ds => exact eg2.1.set (sv := .val (.list ds)) ⟨v1, rfl, o1⟩
        | cell n => obtain ⟨a, z1, z2⟩ := o1; subst z2; exact eg2.1.set (sv := .cell n) ⟨a, z1, rfl⟩
      · cases e1 <;> exact eg2.2
    | fresh ds2 =>
      obtain ⟨a, vs, e, hH, hO, G2, r⟩ := eg2
      -- under the new list hidden, too
      have x3 : Ext (Hid O as1 s1.st H1) (Hid (a :: O) as2 s2.st H2) := fun b o hb nt => by
        obtain ⟨z1, z2, z3⟩ := hid_some hb
        refine hid_of (fun z => ?_) (x2.notLive z3 z2 nt) (x2.keep b o z3 z2 nt)
        rcases List.mem_cons.mp z with z | z
        · exact fr2 a e o (by rw [← z]; exact z3) nt
        · exact z1 z
      refine ⟨a, vs, e, hH, hO, ?_, ?_⟩
      · have o0 := eg1.ok
        cases e1 with
        | val d1 => exact G2.set ⟨v1, rfl, Rep.ext x3 o0⟩
        | fresh ds => exact G2.set (sv := .val (.list ds)) ⟨v1, rfl, Rep.ext x3 o0⟩
        | cell n => obtain ⟨a', z1, z2⟩ := o1; subst z2; exact G2.set (sv := .cell n) ⟨a', z1, rfl⟩
      · cases e1 <;> exact r
  obtain ⟨as', G', x'⟩ := key
  exact q2 _ H2 as' G' x'
theorem ds_par {i j : Nat} {x y : Str} {a b : Expr} {t1 t2 : TE} {f1 f2 : S → Option (R EV)} {px py pt : Pos} {kt k2 : Nat} {pt2 : Pos} (hc : X.calm = true) (hN : X.N.Nodup) (hi : X.N[i]? = some x) (hj : X.N[j]? = some y) (hij : i ≠ j)
    (hx : X.env.scope.names.lookup x = some .local) (hy : X.env.scope.names.lookup y = some .local) (h1 : DE c X W a t1 f1) (h2 : DE c X W b t2 f2)
    (hw : swappedStores [.Tuple [.Name x px, .Name y py] kt pt] (.Tuple [a, b] k2 pt2) X.env = pure (some [x, y]))
    (hs : swapsWithSole [.Tuple [.Name x px, .Name y py] kt pt] (.Tuple [a, b] k2 pt2) pos.line X.env = pure false := by rfl)
    (hs1 : starEach [a, b] X.env = (false, eval a X.env) :: starEach [b] X.env := by rfl) (hs2 : starEach [b] X.env = (false, eval b X.env) :: starEach [] X.env := by rfl) :
    DS c X W (.Assign [.Tuple [.Name x px, .Name y py] kt pt] (.Tuple [a, b] k2 pt2) pos) (tPar i j (tCons t1 (tCons t2 tNil))) (parS i j f1 f2) :=
  ⟨ps_par hc hN hi hj hij hx hy (pa_cons h1.pe (pa_cons h2.pe pa_nil hs2) hs1) hw hs, par_ok hij h1.ok h2.ok⟩
end
end DL
/-! DLE: enumerate and zip over lists and tuples in any mix -/
namespace DL
open PySem PySem.Spec PyProof.Rows L2
/-- a list (true) or a tuple (false) that is read -/
def SqK (K : PySem.W.Frag) (H : Hp) : Bool → Addr → List V → Prop
  | true => SqL K H
  | false => SqT K H
def IterAt (h : Heap) : Bool → Addr → Addr → Nat → Prop
  | true => h.IsListIter
  | false => h.IsTupleIter
def SeqAtK (h : Heap) : Bool → Addr → Array Value → Prop
  | true => h.IsList
  | false => h.IsTuple
def iterO : Bool → Addr → Obj
  | true, a => { cls := .type "list_iterator", data := .fields #[.ref a, .int 0 0] }
  | false, a => { cls := .type "tuple_iterator", data := .fields #[.ref a, .int 0 0] }
theorem draws_k {prog : Program} {w : World} {A : Around} (hh : A.handled = none) (it a : Addr) (hne : a ≠ it) (items : Array Value) : ∀ k, Draws prog w A it [it, a] items.size (fun i v => items[i]? = some v) (fun i h => IterAt h k it a i ∧ SeqAtK h k a items)
  | true => .list hh it a hne items
  | false => .tuple hh it a hne items
theorem begins_k (a : Addr) (items : Array Value) : ∀ k, Begins (.ref a) (iterO k a) fun h => SeqAtK h k a items
  | true => begins_list a items
  | false => begins_tuple a items
theorem iterAt_new {h : Heap} {it a : Addr} : ∀ {k}, h.get? it = some (iterO k a) → IterAt h k it a 0
  | true, e => ⟨_, e, rfl, rfl⟩
  | false, e => ⟨_, e, rfl, rfl⟩
theorem IterAt.obj {h : Heap} {it a : Addr} {i : Nat} : ∀ {k}, IterAt h k it a i → ∃ o, h.get? it = some o ∧ ∀ v, o.data ≠ .cell v
  | true, ⟨o, e, c, d⟩ => ⟨o, e, fun v z => by rw [d] at z; cases z⟩
  | false, ⟨o, e, c, d⟩ => ⟨o, e, fun v z => by rw [d] at z; cases z⟩
theorem IterAt.at' {h h' : Heap} {it a : Addr} {i : Nat} : ∀ {k}, IterAt h k it a i → (∀ o, h.get? it = some o → h'.get? it = some o) → IterAt h' k it a i
  | true, st, e => Heap.IsListIter.at st e
  | false, st, e => Heap.IsTupleIter.at st e
section
variable {X : Cx} {pins : List (Addr × Obj)} {σ : L2.St} {H : Hp} {s : Shared} {a : Addr} {xs ys : List V}
theorem sqk_get (I : Inv X pins σ H s) : ∀ {k}, SqK X.K H k a xs → ∃ its : List Value, Vals xs its ∧ SeqAtK s.heap k a its.toArray ∧ xs.length ≤ sizeLine
  | true, h => by obtain ⟨its, r, p, z⟩ := I.list h; exact ⟨its, r, p.isList, z⟩
  | false, h => by obtain ⟨its, r, p, z⟩ := I.tuple h; exact ⟨its, r, p, z⟩
theorem sqk_inj (I : Inv X pins σ H s) : ∀ {k}, SqK X.K H k a xs → SqK X.K H k a ys → xs = ys
  | true, h, h' => I.list_inj h h'
  | false, h, h' => I.tuple_inj h h'
theorem sqk_lt {h : Heap} {its : Array Value} : ∀ {k}, SeqAtK h k a its → a < h.objs.size
  | true, ⟨_, e, _⟩ => Heap.lt_size e
  | false, ⟨_, e, _⟩ => Heap.lt_size e
end
/-- a turn from the library's walk -/
theorem turn_walk {P : Program} {w : World} {K : PySem.W.Frag} {elts : List Expr} {kk : Nat} {tpos : Pos} {it : Addr} {fp : List Addr} {J : It} {tn : Nat → Heap → Prop} (mem : it ∈ fp)
    (obj : ∀ i h, tn i h → ∀ b ∈ fp, ∃ o, h.get? b = some o ∧ ∀ v, o.data ≠ .cell v) (keep : ∀ i h h', tn i h → (∀ b ∈ fp, ∀ o, h.get? b = some o → h'.get? b = some o) → tn i h')
    (self : ∀ (A : Around) (i : Nat) (s : Shared) (Q : Value → Shared → Prop) (E : Value → Shared → Prop), tn i s.heap → Q (.ref it) s → wpAny (model P w) A (pyIter (.ref it)) Q E s)
    (item : ∀ (X : Cx), X.prog = P → X.w = w → X.K = K → X.A.handled = none → ∀ (i : Nat) (pins : List (Addr × Obj)) (s : Shared) (σ : L2.St) (H : Hp), Inv X pins σ H s → tn i s.heap → J.go i H →
      ∃ (n : Nat) (fpw wr : List Addr) (Pt : Nat → Array Value → Prop) (St : Nat → Heap → Prop) (Mid : Nat → Addr → Heap → Prop), WalksT P w X.A it fpw wr n Pt St Mid ∧ i < n ∧ St i s.heap ∧ (∀ b ∈ wr, b ∈ fp) ∧ (∀ h', St (i + 1) h' → tn (i + 1) h') ∧
        ∀ vals, Pt i vals → vals.size ≤ sizeLine ∧ ∃ vs, Vals vs vals.toList ∧ ∀ T, H T = none → J.yld i H (.ref T) (upd H T (.tup vs)))
    (done : ∀ (X : Cx), X.prog = P → X.w = w → X.K = K → X.A.handled = none → ∀ (i : Nat) (pins : List (Addr × Obj)) (s : Shared) (σ : L2.St) (H : Hp), Inv X pins σ H s → tn i s.heap → J.stop i H →
      ∃ (fpw wr : List Addr) (Pt : Nat → Array Value → Prop) (St : Nat → Heap → Prop) (Mid : Nat → Addr → Heap → Prop), WalksT P w X.A it fpw wr i Pt St Mid ∧ St i s.heap ∧ (∀ b ∈ wr, b ∈ fp)) :
    Turn P w K (.Tuple elts kk tpos) J fp it tn where
  mem := mem
  obj := obj
  keep := keep
  self := self
  done := by
    intro X hP hw hK hc i pins s σ H E I hf st hg
    obtain ⟨fpw, wr, Pt, St, Mid, W, st0, hwr⟩ := done X hP hw hK (I.ok.hd hc) i pins s σ H I st hg
    exact W.done s _ E st0 fun h' tk hk => ⟨rfl, I.turnedL (ch := fp) (fun b o hb e => hk b o (fun z => hb (hwr b z)) e) hf⟩
  item := by
    intro X hP hw hK hc i pins s σ H E I hf st hg
    obtain ⟨n, fpw, wr, Pt, St, Mid, W, hi, st0, hwr, hst, hv⟩ := item X hP hw hK (I.ok.hd hc) i pins s σ H I st hg
    subst hP hw hK
    refine W.item i s _ E hi st0 fun T vals h' tk pv hT hTup mid hk => ?_
    refine ⟨_, rfl, W.go _ _ _ i T { s with heap := h', toks := tk } _ E mid fun h'' st2 hk2 => ?_⟩
    obtain ⟨hz, vs, rv, hy⟩ := hv vals pv
    have hnT : T ∉ wr := W.apart i T h' mid
    have hTup2 : h''.IsTuple T vals := hTup.at fun o e => hk2 T o hnT e
    have nT : H T = none := I.hok.fresh hT
    have new : ObjOk X.prog X.w (upd H T (.tup vs)) h'' T (.tup vs) := ⟨by rw [rv.length]; simpa using hz, vals.toList, rv, hTup2⟩
    have I1 : Inv X pins σ (upd H T (.tup vs)) { s with heap := h'', toks := tk } := I.turnedNew (ch := fp) (fun b o hb e => hk2 b o (fun z => hb (hwr b z)) (hk b o (fun z => hb (hwr b z)) e)) hf hT new
    refine ⟨.ref T, _, I1, rfl, hy T nT, hst h'' st2, fun b hb => ?_⟩
    have hlt : b < s.heap.objs.size := by
      obtain ⟨o, e, _⟩ := obj i s.heap st b hb
      exact Heap.lt_size e
    rw [upd_ne (Nat.ne_of_lt (Nat.lt_of_lt_of_le hlt hT))]
    exact (hf b hb).1
/-! ### enumerate -/
def IteK (K : PySem.W.Frag) (k : Bool) (a : Addr) : It :=
  ⟨fun i H => ∃ (xs : List V) (x : V), SqK K H k a xs ∧ xs[i]? = some x,
    fun i H v H' => ∃ T x, v = .ref T ∧ H T = none ∧ H' = upd H T (.tup [.int (i : Nat), x]) ∧ ∀ xs, SqK K H k a xs → xs[i]? = some x, fun i H => ∃ xs : List V, SqK K H k a xs ∧ xs.length = i⟩
theorem turn_enumK {P : Program} {w : World} {K : PySem.W.Frag} {elts : List Expr} {kk : Nat} {tpos : Pos} (k : Bool) (a e it : Addr) (hne : e ≠ it) (h1 : a ≠ it) (h2 : a ≠ e) :
    Turn P w K (.Tuple elts kk tpos) (IteK K k a) [e, it] e (fun i h => (∃ old, IsEnum h e it ((0 : Int) + (i : Nat)) old) ∧ IterAt h k it a i) := by
  refine turn_walk (by simp) (fun i h st b hb => ?_) (fun i h h' st kp => ?_) (fun A i s Q E st h => ?_) (fun X hP hw hK hh i pins s σ H I st hg => ?_) (fun X hP hw hK hh i pins s σ H I st hg => ?_)
  · obtain ⟨⟨old, he⟩, hit⟩ := st
    have e' : b = e ∨ b = it := by simpa using hb
    rcases e' with z | z
    · rw [z]; exact ⟨_, he, fun v q => nomatch q⟩
    · rw [z]; exact hit.obj
  · obtain ⟨⟨old, he⟩, hi⟩ := st
    exact ⟨⟨old, kp e (by simp) _ he⟩, hi.at' fun o q => kp it (by simp) o q⟩
  · obtain ⟨⟨_, he⟩, _⟩ := st
    exact wpAny_pyIter_enum he h
  · obtain ⟨xs, x, hq, hx⟩ := hg
    rw [← hK] at hq
    obtain ⟨its, rv, p, hz⟩ := sqk_get I hq
    obtain ⟨hlt, _⟩ := List.getElem?_eq_some_iff.mp hx
    have hl := rv.length
    have D : Draws P w X.A.in1 it [it, a] its.toArray.size (fun i v => its.toArray[i]? = some v) (fun i h => IterAt h k it a i ∧ SeqAtK h k a its.toArray) := draws_k (A := X.A.in1) hh it a h1 its.toArray k
    refine ⟨_, _, _, _, _, _, WalksT.enumFrom 0 D e hne (by simp; exact ⟨hne, Ne.symm h2⟩) (by simp), by simp; omega, ⟨st.1, st.2, p⟩, fun b hb => by simpa using hb, fun h' st' => ⟨st'.1, st'.2.1⟩, fun vals pv => ?_⟩
    obtain ⟨t, u, hu, rfl⟩ := pv
    refine ⟨by show 2 ≤ sizeLine; decide, [.int ((i : Nat) : Int), x], ?_, fun T hT => ⟨T, x, rfl, hT, rfl, fun ys hy => ?_⟩⟩
    · obtain ⟨u', e1, e2⟩ := rv.get hx
      have : u = u' := by
        have hu : its[i]? = some u := by simpa using hu
        rw [e1] at hu
        exact (Option.some.inj hu).symm
      subst this
      exact .cons ⟨t, by rw [Int.zero_add]⟩ (.cons e2 .nil)
    · rw [← hK] at hy
      rw [sqk_inj I hy hq]; exact hx
  · obtain ⟨xs, hq, hx⟩ := hg
    rw [← hK] at hq
    obtain ⟨its, rv, p, hz⟩ := sqk_get I hq
    have hl := rv.length
    have D : Draws P w X.A.in1 it [it, a] its.toArray.size (fun i v => its.toArray[i]? = some v) (fun i h => IterAt h k it a i ∧ SeqAtK h k a its.toArray) := draws_k (A := X.A.in1) hh it a h1 its.toArray k
    have W := WalksT.enumFrom 0 D e hne (by simp; exact ⟨hne, Ne.symm h2⟩) (by simp)
    have hi : its.toArray.size = i := by simp; omega
    rw [hi] at W
    exact ⟨_, _, _, _, _, W, ⟨st.1, st.2, p⟩, fun b hb => by simpa using hb⟩
theorem meets_enumerate_new1 {v : Value} {o : Obj} {H : Heap → Prop} (B : Begins v o H) :
    Meets (Builtin.«enumerate.__new__» ⟨[.type "enumerate", v], []⟩) (fun _ R s => H s.heap ∧
      R (.ok (.ret (.ref (s.heap.push o).objs.size))) { s with heap := (s.heap.push o).push { cls := .type "enumerate", data := .fields #[.none, .bool false, .ref s.heap.objs.size, rawInt 0, .none, .none] } }) :=
  .of_wp fun prog w A R s h => by
    obtain ⟨hp, g, d, tk, os⟩ := s; obtain ⟨h1, h⟩ := h
    have hsub := sub_enumerate
    have q1 : ∀ {A' : Around} {E : Value → Shared → Prop} {Q : Value → Shared → Prop}, Q (.ref hp.objs.size) ⟨hp.push o, g, d, tk, os⟩ → wpAny (model prog w) A' (pyIter v) Q E ⟨hp, g, d, tk, os⟩ :=
      fun q => B.iter prog w _ _ ⟨hp, g, d, tk, os⟩ _ h1 q
    wp_walk using q1
    refine wpAny_stack_any fun st => wpAny_pure ?_
    split
    · rename_i c _ _ _ _ _
      cases (c == Value.type "enumerate")
      · wp_walk using q1
        exact ⟨_, rfl, h⟩
      · wp_walk using q1
        exact ⟨_, rfl, h⟩
    · wp_walk using q1
      exact ⟨_, rfl, h⟩
theorem enum_begins1 {prog : Program} {w : World} {A : Around} {E : Value → Shared → Prop} {s : Shared} {v : Value} {o : Obj} {H : Heap → Prop} {Q : Value → Shared → Prop} (B : Begins v o H) (h1 : H s.heap)
    (h : ∀ h', IsEnum h' (s.heap.objs.size + 1) s.heap.objs.size 0 .none → h'.get? s.heap.objs.size = some o → h'.objs.size = s.heap.objs.size + 2 →
      (∀ b o, s.heap.get? b = some o → h'.get? b = some o) → Q (.ref (s.heap.objs.size + 1)) { s with heap := h' }) :
    wpAny (model prog w) A (call (.type "enumerate") [v]) Q E s := by
  refine callType_new F.called_enumerate (by decide) (F.typeCall_enumerate_1 _) (F.newCall_enumerate_1 _) (fun obj => F.args_object_init_2 obj _) F.entry_enumerate_new
    (meets_enumerate_new1 B) ⟨h1, ?_⟩
  have hz : (s.heap.push o).objs.size = s.heap.objs.size + 1 := Heap.size_push ..
  show _ ∧ _
  rw [hz]
  have he : IsEnum ((s.heap.push o).push { cls := .type "enumerate", data := .fields #[.none, .bool false, .ref s.heap.objs.size, rawInt 0, .none, .none] }) (s.heap.objs.size + 1) s.heap.objs.size 0 .none := by
    have := Heap.get?_push_size (s.heap.push o) (o := { cls := .type "enumerate", data := .fields #[.none, .bool false, .ref s.heap.objs.size, rawInt 0, .none, .none] }) rfl
    rw [hz] at this; exact this
  refine ⟨⟨_, he, rfl⟩, h _ he (Heap.get?_push_of_some _ (Heap.get?_push_size _ B.free)) (by rw [Heap.size_push, hz]) fun b o x => Heap.get?_push_of_some _ (Heap.get?_push_of_some _ x)⟩
def iEnumK (K : PySem.W.Frag) (ta : TA) : TI := fun σ H R => ta σ H fun vs H1 => ∃ k a xs, vs = [.ref a] ∧ SqK K H1 k a xs ∧ R (IteK K k a) H1
theorem pi_enumK {X : Cx} {e : Expr} {ta : TA} {p pos tpos : Pos} {elts : List Expr} {kk : Nat} (hg : Gl X "enumerate") (hm : X.mg "enumerate" = none) (ha : PA X [e] ta) (hs : starEach [e] X.env = [(false, eval e X.env)] := by rfl) :
    PI X (.Tuple elts kk tpos) (.Call (.Name "enumerate" p) [e] [] pos) (iEnumK X.K ta) := by
  refine ⟨fun pins s σ H R I h => ?_⟩
  refine Call_ (ld_blt I hg hm boot_enumerate (PyProof.Rows.callWith_type1 (thn (ha.run pos pins s σ H _ I h) fun us s1 ⟨vs, H1, I1, r1, q1⟩ => ?_) hs rfl))
  obtain ⟨k, a, xs, ex, hq, q⟩ := q1
  subst ex
  cases r1 with
  | cons r rr =>
    cases rr
    cases r
    obtain ⟨its, rv, p', hz⟩ := sqk_get I1 hq
    have hlt := sqk_lt p'
    refine enum_begins1 (begins_k a its.toArray k) p' fun h' he hit hsz hk => wpAny_pyIter_enum he ?_
    have I2 : Inv X pins σ H1 { s1 with heap := h' } := I1.kept (t' := s1.toks) hk
    refine ⟨s1.heap.objs.size + 1, [s1.heap.objs.size + 1, s1.heap.objs.size], _, _, H1, rfl, I2, turn_enumK k a (s1.heap.objs.size + 1) s1.heap.objs.size (Nat.succ_ne_self _) (Nat.ne_of_lt hlt) (Nat.ne_of_lt (Nat.lt_succ_of_lt hlt)), ⟨⟨.none, he⟩, iterAt_new hit⟩, fun b hb => ?_, q⟩
    have e' : b = s1.heap.objs.size + 1 ∨ b = s1.heap.objs.size := by simpa using hb
    have hle : s1.heap.objs.size ≤ b := by
      rcases e' with z | z
      · rw [z]; exact Nat.le_add_right _ _
      · rw [z]; exact Nat.le_refl _
    exact I1.fpOk hle (I1.hok.fresh hle)

/-! ### zip -/
def ItzK (K : PySem.W.Frag) (k k2 : Bool) (a b : Addr) : It :=
  ⟨fun i H => ∃ (xs ys : List V) (x y : V), SqK K H k a xs ∧ SqK K H k2 b ys ∧ xs[i]? = some x ∧ ys[i]? = some y,
    fun i H v H' => ∃ T x y, v = .ref T ∧ H T = none ∧ H' = upd H T (.tup [x, y]) ∧ (∀ xs, SqK K H k a xs → xs[i]? = some x) ∧ ∀ ys, SqK K H k2 b ys → ys[i]? = some y,
    fun i H => ∃ xs ys : List V, SqK K H k a xs ∧ SqK K H k2 b ys ∧ min xs.length ys.length = i⟩
theorem turn_zipK {P : Program} {w : World} {K : PySem.W.Frag} {elts : List Expr} {kk : Nat} {tpos : Pos} (k k2 : Bool) {a b N : Addr} (ha : a < N) (hb : b < N) :
    Turn P w K (.Tuple elts kk tpos) (ItzK K k k2 a b) [N + 4, N + 2, N + 3, N, N + 1] (N + 4) (fun i h => IsZip h (N + 4) (N + 2) (N + 3) .none ∧ IsTupOf2 h (N + 2) (.ref N) (.ref (N + 1)) ∧ (∃ x y, IsTupOf2 h (N + 3) x y) ∧ IterAt h k N a i ∧ IterAt h k2 (N + 1) b i) := by
  have sep : ZipSep2 (N + 4) (N + 2) (N + 3) N (N + 1) [N, a] [N + 1, b] := zip_sep2 (fp1 := [a]) (fp2 := [b]) (by intro c hc; have : c = a := by simpa using hc
                                                                                                                   rw [this]; exact ha) (by intro c hc; have : c = b := by simpa using hc
                                                                                                                                            rw [this]; exact hb)
  refine turn_walk (by simp) (fun i h st c hc => ?_) (fun i h h' st kp => ?_) (fun A i s Q E st h => ?_) (fun X hP hw hK hh i pins s σ H I st hg => ?_) (fun X hP hw hK hh i pins s σ H I st hg => ?_)
  · obtain ⟨hz, hTI, ⟨x, y, hTO⟩, hi1, hi2⟩ := st
    have e' : c = N + 4 ∨ c = N + 2 ∨ c = N + 3 ∨ c = N ∨ c = N + 1 := by simpa using hc
    rcases e' with q | q | q | q | q
    · rw [q]; exact ⟨_, hz, fun v q => nomatch q⟩
    · rw [q]; exact ⟨_, hTI, fun v q => nomatch q⟩
    · rw [q]; exact ⟨_, hTO, fun v q => nomatch q⟩
    · rw [q]; exact hi1.obj
    · rw [q]; exact hi2.obj
  · obtain ⟨hz, hTI, ⟨x, y, hTO⟩, hi1, hi2⟩ := st
    exact ⟨kp (N + 4) (by simp) _ hz, kp (N + 2) (by simp) _ hTI, ⟨x, y, kp (N + 3) (by simp) _ hTO⟩, hi1.at' fun o q => kp N (by simp) o q, hi2.at' fun o q => kp (N + 1) (by simp) o q⟩
  · exact wpAny_pyIter_zip st.1 h
  · obtain ⟨xs, ys, x, y, hq1, hq2, hx, hy⟩ := hg
    rw [← hK] at hq1 hq2
    obtain ⟨its, rv, p, hz⟩ := sqk_get I hq1
    obtain ⟨its2, rv2, p2, hz2⟩ := sqk_get I hq2
    obtain ⟨hlt, _⟩ := List.getElem?_eq_some_iff.mp hx
    obtain ⟨hlt2, _⟩ := List.getElem?_eq_some_iff.mp hy
    have hl := rv.length
    have hl2 := rv2.length
    have D1 : Draws P w X.A.in1 N [N, a] its.toArray.size (fun i v => its.toArray[i]? = some v) (fun i h => IterAt h k N a i ∧ SeqAtK h k a its.toArray) := draws_k (A := X.A.in1) hh N a (Nat.ne_of_lt ha) its.toArray k
    have D2 : Draws P w X.A.in1 (N + 1) [N + 1, b] its2.toArray.size (fun i v => its2.toArray[i]? = some v) (fun i h => IterAt h k2 (N + 1) b i ∧ SeqAtK h k2 b its2.toArray) := draws_k (A := X.A.in1) hh (N + 1) b (Nat.ne_of_lt (Nat.lt_succ_of_lt hb)) its2.toArray k2
    obtain ⟨hz, hTI, hTO, hi1, hi2⟩ := st
    refine ⟨_, _, _, _, _, _, WalksT.zipD2 sep D1 D2, by simp; omega, ⟨hz, hTI, hTO, ⟨hi1, p⟩, ⟨hi2, p2⟩⟩, fun c hc => ?_, fun h' st' => ⟨st'.1, st'.2.1, st'.2.2.1, st'.2.2.2.1.1, st'.2.2.2.2.1⟩, fun vals pv => ?_⟩
    · have e' : c = N + 4 ∨ c = N + 3 ∨ c = N ∨ c = N + 1 := by simpa using hc
      rcases e' with q | q | q | q <;> (rw [q]; simp)
    · obtain ⟨u, u2, hu, hu2, rfl⟩ := pv
      refine ⟨by show 2 ≤ sizeLine; decide, [x, y], ?_, fun T hT => ⟨T, x, y, rfl, hT, rfl, fun zs hz => ?_, fun zs hz => ?_⟩⟩
      · obtain ⟨u', e1, e2⟩ := rv.get hx
        obtain ⟨u2', e3, e4⟩ := rv2.get hy
        have z1 : u = u' := by
          have hu : its[i]? = some u := by simpa using hu
          rw [e1] at hu
          exact (Option.some.inj hu).symm
        have z2 : u2 = u2' := by
          have hu2 : its2[i]? = some u2 := by simpa using hu2
          rw [e3] at hu2
          exact (Option.some.inj hu2).symm
        subst z1 z2
        exact .cons e2 (.cons e4 .nil)
      · rw [← hK] at hz
        rw [sqk_inj I hz hq1]; exact hx
      · rw [← hK] at hz
        rw [sqk_inj I hz hq2]; exact hy
  · obtain ⟨xs, ys, hq1, hq2, hmin⟩ := hg
    rw [← hK] at hq1 hq2
    obtain ⟨its, rv, p, hz⟩ := sqk_get I hq1
    obtain ⟨its2, rv2, p2, hz2⟩ := sqk_get I hq2
    have hl := rv.length
    have hl2 := rv2.length
    have D1 : Draws P w X.A.in1 N [N, a] its.toArray.size (fun i v => its.toArray[i]? = some v) (fun i h => IterAt h k N a i ∧ SeqAtK h k a its.toArray) := draws_k (A := X.A.in1) hh N a (Nat.ne_of_lt ha) its.toArray k
    have D2 : Draws P w X.A.in1 (N + 1) [N + 1, b] its2.toArray.size (fun i v => its2.toArray[i]? = some v) (fun i h => IterAt h k2 (N + 1) b i ∧ SeqAtK h k2 b its2.toArray) := draws_k (A := X.A.in1) hh (N + 1) b (Nat.ne_of_lt (Nat.lt_succ_of_lt hb)) its2.toArray k2
    have W := WalksT.zipD2 sep D1 D2
    have hi : min its.toArray.size its2.toArray.size = i := by simp; omega
    rw [hi] at W
    obtain ⟨hz, hTI, hTO, hi1, hi2⟩ := st
    refine ⟨_, _, _, _, _, W, ⟨hz, hTI, hTO, ⟨hi1, p⟩, ⟨hi2, p2⟩⟩, fun c hc => ?_⟩
    have e' : c = N + 4 ∨ c = N + 3 ∨ c = N ∨ c = N + 1 := by simpa using hc
    rcases e' with q | q | q | q <;> (rw [q]; simp)
def iZipK (K : PySem.W.Frag) (ta : TA) : TI := fun σ H R => ta σ H fun vs H1 => ∃ k k2 a b xs ys, vs = [.ref a, .ref b] ∧ SqK K H1 k a xs ∧ SqK K H1 k2 b ys ∧ R (ItzK K k k2 a b) H1
theorem pi_zipK {X : Cx} {e e2 : Expr} {ta : TA} {p pos tpos : Pos} {elts : List Expr} {kk : Nat} (hg : Gl X "zip") (hm : X.mg "zip" = none) (ha : PA X [e, e2] ta)
    (hs : starEach [e, e2] X.env = (false, eval e X.env) :: starEach [e2] X.env := by rfl) (hpl : (backTo pos (starEach [e2] X.env)).any (·.1) = false := by rfl) :
    PI X (.Tuple elts kk tpos) (.Call (.Name "zip" p) [e, e2] [] pos) (iZipK X.K ta) := by
  refine ⟨fun pins s σ H R I h => ?_⟩
  refine Call_ (ld_blt I hg hm PyProof.Rows.boot_zip (PyProof.Rows.callWith_type1 (thn (ha.run pos pins s σ H _ I h) fun us s1 ⟨vs, H1, I1, r1, q1⟩ => ?_) hs hpl))
  obtain ⟨k, k2, a, b, xs, ys, ex, hq1, hq2, q⟩ := q1
  subst ex
  cases r1 with
  | cons r rr =>
    cases rr with
    | cons r' rr =>
      cases rr
      cases r
      cases r'
      obtain ⟨its, rv, p1, _⟩ := sqk_get I1 hq1
      obtain ⟨its2, rv2, p2, _⟩ := sqk_get I1 hq2
      refine zip_begins2 (begins_k a its.toArray k) (begins_k b its2.toArray k2) p1 p2 fun h' hz hTI hTO h1 h2 hsz hk => wpAny_pyIter_zip hz ?_
      have I2 : Inv X pins σ H1 { s1 with heap := h' } := I1.kept (t' := s1.toks) hk
      refine ⟨s1.heap.objs.size + 4, [s1.heap.objs.size + 4, s1.heap.objs.size + 2, s1.heap.objs.size + 3, s1.heap.objs.size, s1.heap.objs.size + 1], _, _, H1, rfl, I2, turn_zipK k k2 (sqk_lt p1) (sqk_lt p2), ⟨hz, hTI, ⟨_, _, hTO⟩, iterAt_new h1, iterAt_new h2⟩, fun c hc => ?_, q⟩
      have e' : c = s1.heap.objs.size + 4 ∨ c = s1.heap.objs.size + 2 ∨ c = s1.heap.objs.size + 3 ∨ c = s1.heap.objs.size ∨ c = s1.heap.objs.size + 1 := by simpa using hc
      have hle : s1.heap.objs.size ≤ c := by
        rcases e' with z | z | z | z | z <;> (rw [z]; simp)
      exact I1.fpOk hle (I1.hok.fresh hle)
end DL
namespace DL
open PySem PySem.Spec PyProof.Rows L2
/-! ### what is walked -/
/-- the walk J gives the data ds, whatever is laid meanwhile -/
def Walk (K : PySem.W.Frag) (c : Ctx) (O as : List Addr) (st : List MO) (H : Hp) (ds : List D) (J : It) : Prop :=
  ∀ O2 as2 s2 σ2 H2, Good K c O2 as2 s2 σ2 H2 → Ext (Hid O as st H) (Hid O2 as2 s2.st H2) →
    J.stop ds.length H2 ∧ ∀ (i : Nat) (d : D), ds[i]? = some d → J.go i H2 ∧ ∀ x H3, J.yld i H2 x H3 → (∀ b o, H2 b = some o → H3 b = some o) ∧ Rep K (Hid O2 as2 s2.st H3) x d
def PostI (K : PySem.W.Frag) (c : Ctx) (O as : List Addr) (st : List MO) (H : Hp) (W : WX) (σ : L2.St) (R' : It → Hp → Prop) : Option (R (List D)) → Prop
  | none => False
  | some (.ok ds s') => ∀ J H' as', Good K c O as' s' σ H' → Stp as st H as' s'.st H' → Walk K c O as' s'.st H' ds J → R' J H'
  | some (.err x s') => ∀ d H' as', Good K c O as' s' σ H' → Stp as st H as' s'.st H' → ErOk K (Hid O as' s'.st H') x d H' → W (.ref (c.ec x.cls)) d σ H'
def II (K : PySem.W.Frag) (c : Ctx) (W : WX) (wi : TI) (f : S → Option (R (List D))) : Prop := ∀ O as s σ H R', Good K c O as s σ H → PostI K c O as s.st H W σ R' (f s) → wi σ H R'
structure DI (c : Ctx) (X : Cx) (W : WX) (tg iter : Expr) (wi : TI) (f : S → Option (R (List D))) : Prop where
  pi : PI X tg iter wi
  ok : II X.K c W wi f
section
variable {K : PySem.W.Frag} {c : Ctx} {X : Cx} {W : WX} {tg e e2 : Expr} {te : TE} {ta : TA} {fe : S → Option (R EV)} {fa : S → Option (R (List SV))} {pos p tpos : Pos}
/-- a value taken as data -/
def asD {α : Type} (k : D → Option α) : EV → S → Option (R α) := fun ev s => match ev with
  | .val d => (match k d with
    | some a => some (.ok a s)
    | none => none)
  | _ => none
theorem asD_post {α : Type} {k : D → Option α} {ev : EV} {s s' : S} {a : α} (h : asD k ev s = some (.ok a s')) : ∃ d, ev = .val d ∧ k d = some a ∧ s' = s := by
  cases ev with
  | cell n => cases h
  | fresh n => cases h
  | val d =>
    simp only [asD] at h
    cases e : k d with
    | none => rw [e] at h; cases h
    | some b =>
      rw [e] at h
      have h := Option.some.inj h
      injection h with h1 h2
      subst h1
      exact ⟨d, rfl, e, h2.symm⟩
theorem asD_noerr {α : Type} {k : D → Option α} {ev : EV} {s s' : S} {x : Er} (h : asD k ev s = some (.err x s')) : False := by
  cases ev with
  | cell n => cases h
  | fresh n => cases h
  | val d =>
    simp only [asD] at h
    cases e : k d with
    | none => rw [e] at h; cases h
    | some b => rw [e] at h; cases h
theorem PostI.bind {O as : List Addr} {s : S} {σ : L2.St} {H : Hp} {Q : VK} {R' : It → Hp → Prop} {f : S → Option (R EV)} {k : EV → S → Option (R (List D))} (h : PostI K c O as s.st H W σ R' (bE f k s))
    (hk : ∀ ev s' v H' as', EvGood K c O as' s' σ H' ev v → Stp as s.st H as' s'.st H' → PostI K c O as s.st H W σ R' (k ev s') → Q v H') : PostE K c O as s.st H W σ Q (f s) := by
  unfold bE at h
  cases e : f s with
  | none => rw [e] at h; exact h
  | some r =>
    rw [e] at h
    cases r with
    | err x s' => exact h
    | ok ev s' => exact fun v H' as' g x fr => hk ev s' v H' as' g x h
theorem PostI.bindA {O as : List Addr} {s : S} {σ : L2.St} {H : Hp} {Q : List V → Hp → Prop} {R' : It → Hp → Prop} {f : S → Option (R (List SV))} {k : List SV → S → Option (R (List D))} (h : PostI K c O as s.st H W σ R' (bE f k s))
    (hk : ∀ evs s' vs H' as', Good K c O as' s' σ H' → Paired (ArgOk K c O as' s'.st H') evs vs → Stp as s.st H as' s'.st H' → PostI K c O as s.st H W σ R' (k evs s') → Q vs H') : PostA K c O as s.st H W σ Q (f s) := by
  unfold bE at h
  cases e : f s with
  | none => rw [e] at h; exact h
  | some r =>
    rw [e] at h
    cases r with
    | err x s' => exact h
    | ok ev s' => exact fun v H' as' g pr x => hk ev s' v H' as' g pr x h
def listD : D → Option (List D)
  | .list ds => some ds
  | _ => none
def tupD : D → Option (List D)
  | .tuple ds => some ds
  | _ => none
theorem walk_list {O as : List Addr} {st : List MO} {H : Hp} {a : Addr} {vs : List V} {ds : List D} (h : Hid O as st H a = some (.lst vs)) (r : RepA K (Hid O as st H) vs ds) : Walk K c O as st H ds (Itl K a) := by
  intro O2 as2 s2 σ2 H2 G2 e2
  have h2 : SqL K H2 a vs := SqL.of (hid_ext _ _ (e2 _ _ h noTbl_lst) noTbl_lst)
  have r2 := r.ext e2
  refine ⟨⟨vs, h2, by rw [r.length]; exact Nat.le_refl _⟩, fun i d hd => ?_⟩
  obtain ⟨v, hv, rv⟩ := r2.get hd
  refine ⟨⟨vs, v, h2, hv⟩, fun x H3 hy => ?_⟩
  obtain ⟨e3, hy⟩ := hy
  subst e3
  refine ⟨fun _ _ q => q, ?_⟩
  have := hy vs h2
  rw [hv] at this
  cases this
  exact rv
theorem walk_tup {O as : List Addr} {st : List MO} {H : Hp} {a : Addr} {vs : List V} {ds : List D} (h : SqT K (Hid O as st H) a vs) (r : RepA K (Hid O as st H) vs ds) : Walk K c O as st H ds (Itt K a) := by
  intro O2 as2 s2 σ2 H2 G2 e2
  have h2 : SqT K H2 a vs := hid_ext.sqT (e2.sqT h)
  have r2 := r.ext e2
  refine ⟨⟨vs, h2, by rw [r.length]; exact Nat.le_refl _⟩, fun i d hd => ?_⟩
  obtain ⟨v, hv, rv⟩ := r2.get hd
  refine ⟨⟨vs, v, h2, hv⟩, fun x H3 hy => ?_⟩
  obtain ⟨e3, hy⟩ := hy
  subst e3
  refine ⟨fun _ _ q => q, ?_⟩
  have := hy vs h2
  rw [hv] at this
  cases this
  exact rv
theorem di_list (h : DE c X W e te fe) : DI c X W tg e (iList X.K te) (bE (fz fe) (asD listD)) := by
  refine ⟨pi_list h.pe, fun O as s σ H R' G q => h.ok O as s σ H _ G (PostE.fz (PostI.bind q fun ev s' v H' as' eg x q2 => ?_))⟩
  cases z : asD listD ev s' with
  | none => rw [z] at q2; exact q2.elim
  | some r =>
    cases r with
    | err y s2 => exact (asD_noerr z).elim
    | ok ds s2 =>
      rw [z] at q2
      obtain ⟨d, rfl, hd, rfl⟩ := asD_post z
      obtain ⟨G', r⟩ := eg
      cases d with
      | list ds' =>
        cases hd
        cases r with
        | lst h1 h2 => exact ⟨_, rfl, ⟨_, SqL.of (hid_ext _ _ h1 noTbl_lst)⟩, q2 _ H' as' G' x (walk_list h1 h2)⟩
      | _ => cases hd
theorem di_tup (h : DE c X W e te fe) : DI c X W tg e (iTup X.K te) (bE (fz fe) (asD tupD)) := by
  refine ⟨pi_tup h.pe, fun O as s σ H R' G q => h.ok O as s σ H _ G (PostE.fz (PostI.bind q fun ev s' v H' as' eg x q2 => ?_))⟩
  cases z : asD tupD ev s' with
  | none => rw [z] at q2; exact q2.elim
  | some r =>
    cases r with
    | err y s2 => exact (asD_noerr z).elim
    | ok ds s2 =>
      rw [z] at q2
      obtain ⟨d, rfl, hd, rfl⟩ := asD_post z
      obtain ⟨G', r⟩ := eg
      cases d with
      | tuple ds' =>
        cases hd
        cases r with
        | tup h1 h2 => exact ⟨_, rfl, ⟨_, hid_ext.sqT h1⟩, q2 _ H' as' G' x (walk_tup h1 h2)⟩
      | _ => cases hd
/-- range -/
def range1D : List D → Option (List D)
  | [.int j] => if -(2 ^ 62) ≤ j ∧ j < 2 ^ 62 then some ((List.range j.toNat).map fun i => .int ((i : Nat) : Int)) else none
  | _ => none
def range2D : List D → Option (List D)
  | [.int i, .int j] => if -(2 ^ 62) ≤ i ∧ i < 2 ^ 62 ∧ -(2 ^ 62) ≤ j ∧ j < 2 ^ 62 then some ((List.range (j - i).toNat).map fun k => .int (i + ((k : Nat) : Int))) else none
  | _ => none
def seqD : D → Option (List D)
  | .list ds => some ds
  | .tuple ds => some ds
  | _ => none
def enumFrom (n : Nat) : List D → List D
  | [] => []
  | d :: r => .tuple [.int (n : Nat), d] :: enumFrom (n + 1) r
def enumD : List D → Option (List D)
  | [d] => (seqD d).map (enumFrom 0)
  | _ => none
def zipT : List D → List D → List D
  | d :: r, e :: r' => .tuple [d, e] :: zipT r r'
  | _, _ => []
def zipD : List D → Option (List D)
  | [d, e] => match seqD d, seqD e with
    | some ds, some es => some (zipT ds es)
    | _, _ => none
  | _ => none
theorem walk_range {O as : List Addr} {st : List MO} {H : Hp} {lo : Int} {n : Nat} : Walk K c O as st H ((List.range n).map fun i => .int (lo + ((i : Nat) : Int))) (Itr lo n) := by
  intro O2 as2 s2 σ2 H2 G2 e2
  refine ⟨by simp [Itr], fun i d hd => ?_⟩
  have hlt : i < n := by
    have := (List.getElem?_eq_some_iff.mp hd).1
    simpa using this
  have e : d = .int (lo + ((i : Nat) : Int)) := by
    rw [List.getElem?_map, List.getElem?_range hlt] at hd
    exact (Option.some.inj hd).symm
  subst e
  exact ⟨hlt, fun x H3 ⟨h1, h2⟩ => ⟨fun b o q => by rw [h1]; exact q, by rw [h2]; exact .int _⟩⟩
theorem vals_of1 {O as : List Addr} {st : List MO} {H : Hp} {evs : List SV} {vs : List V} {ds : List D} (pr : Paired (ArgOk K c O as st H) evs vs) (e : valsOf evs = some ds) : RepA K (Hid O as st H) vs ds := vals_rep pr e
theorem withVals_post {α : Type} {k : List D → Option α} {evs : List SV} {s s' : S} {a : α} (h : withVals k evs s = some (.ok a s')) : ∃ ds, valsOf evs = some ds ∧ k ds = some a ∧ s' = s := by
  unfold withVals at h
  cases e : valsOf evs with
  | none => rw [e] at h; cases h
  | some ds =>
    rw [e] at h
    simp only at h
    cases e2 : k ds with
    | none => rw [e2] at h; cases h
    | some b =>
      rw [e2] at h
      have h := Option.some.inj h
      injection h with h1 h2
      subst h1
      exact ⟨ds, rfl, e2, h2.symm⟩
theorem withVals_noerr {α : Type} {k : List D → Option α} {evs : List SV} {s s' : S} {x : Er} (h : withVals k evs s = some (.err x s')) : False := by
  unfold withVals at h
  cases e : valsOf evs with
  | none => rw [e] at h; cases h
  | some ds =>
    rw [e] at h
    simp only at h
    cases e2 : k ds with
    | none => rw [e2] at h; cases h
    | some b => rw [e2] at h; cases h
theorem iterA_ok {k : List D → Option (List D)} {t : TA} {r : List V → Hp → (It → Hp → Prop) → Prop} (ha : IA K c W t fa)
    (hr : ∀ O as s σ H vs ds ls R', Good K c O as s σ H → RepA K (Hid O as s.st H) vs ds → k ds = some ls → (∀ J, Walk K c O as s.st H ls J → R' J H) → r vs H R') : II K c W (fun σ H R' => t σ H fun vs H1 => r vs H1 R') (bE fa (withVals k)) := by
  intro O as s σ H R' G q
  refine ha O as s σ H _ G (PostI.bindA q fun evs s' vs H' as' G' pr x q2 => ?_)
  cases z : withVals k evs s' with
  | none => rw [z] at q2; exact q2.elim
  | some r2 =>
    cases r2 with
    | err y s2 => exact (withVals_noerr z).elim
    | ok ls s2 =>
      rw [z] at q2
      obtain ⟨ds, e1, e2, rfl⟩ := withVals_post z
      exact hr O as' s2 σ H' vs ds ls R' G' (vals_rep pr e1) e2 fun J w => q2 J H' as' G' x w
theorem di_range1 (hg : Gl X "range") (hm : X.mg "range" = none) (ha : DA c X W [e] ta fa) (hs : starEach [e] X.env = [(false, eval e X.env)] := by rfl) : DI c X W tg (.Call (.Name "range" p) [e] [] pos) (iRng1 ta) (bE fa (withVals range1D)) := by
  refine ⟨pi_range1 hg hm ha.pa hs, iterA_ok (r := fun vs H1 R' => ∃ j : Int, vs = [.int j] ∧ -(2 ^ 62) ≤ j ∧ j < 2 ^ 62 ∧ R' (Itr 0 j.toNat) H1) ha.ok fun O as s σ H vs ds ls R' G r e1 w => ?_⟩
  unfold range1D at e1
  split at e1
  · rename_i j
    split at e1
    · rename_i hj
      cases e1
      cases r with
      | cons r1 r2 =>
        cases r2
        cases r1
        refine ⟨j, rfl, hj.1, hj.2, w _ ?_⟩
        have := walk_range (K := X.K) (c := c) (O := O) (as := as) (st := s.st) (H := H) (lo := 0) (n := j.toNat)
        simpa using this
    · cases e1
  · cases e1
theorem di_range2 {e' : Expr} (hg : Gl X "range") (hm : X.mg "range" = none) (ha : DA c X W [e, e'] ta fa) (hs : starEach [e, e'] X.env = [(false, eval e X.env), (false, eval e' X.env)] := by rfl) (hs2 : starEach [e'] X.env = [(false, eval e' X.env)] := by rfl) :
    DI c X W tg (.Call (.Name "range" p) [e, e'] [] pos) (iRng2 ta) (bE fa (withVals range2D)) := by
  refine ⟨pi_range2 hg hm ha.pa hs hs2, iterA_ok (r := fun vs H1 R' => ∃ i j : Int, vs = [.int i, .int j] ∧ (-(2 ^ 62) ≤ i ∧ i < 2 ^ 62 ∧ -(2 ^ 62) ≤ j ∧ j < 2 ^ 62) ∧ R' (Itr i (j - i).toNat) H1) ha.ok fun O as s σ H vs ds ls R' G r e1 w => ?_⟩
  unfold range2D at e1
  split at e1
  · rename_i i j
    split at e1
    · rename_i hj
      cases e1
      cases r with
      | cons r1 r2 =>
        cases r2 with
        | cons r2 r3 =>
          cases r3
          cases r1
          cases r2
          exact ⟨i, j, rfl, hj, w _ walk_range⟩
    · cases e1
  · cases e1
theorem seq_rep {Hh H : Hp} {v : V} {d : D} {ds : List D} (ex : Ext Hh H) (r : Rep K Hh v d) (h : seqD d = some ds) : ∃ k a vs, v = .ref a ∧ SqK K Hh k a vs ∧ RepA K Hh vs ds := by
  cases d with
  | list ds' => cases h; cases r with | lst h1 h2 => exact ⟨true, _, _, rfl, SqL.of h1, h2⟩
  | tuple ds' => cases h; cases r with | tup h1 h2 => exact ⟨false, _, _, rfl, h1, h2⟩
  | _ => cases h
theorem Ext.sqK {Hh H : Hp} (e : Ext Hh H) {a : Addr} {xs : List V} : ∀ {k}, SqK K Hh k a xs → SqK K H k a xs
  | true, h => e.sqL h
  | false, h => e.sqT h
theorem enumFrom_get : ∀ (ds : List D) (n i : Nat), (enumFrom n ds)[i]? = (ds[i]?).map fun d => .tuple [.int ((n + i : Nat) : Int), d]
  | [], _, _ => by simp [enumFrom]
  | d :: r, n, 0 => by simp [enumFrom]
  | d :: r, n, i + 1 => by
    simp only [enumFrom, List.getElem?_cons_succ]
    rw [enumFrom_get r (n + 1) i]
    have : n + 1 + i = n + (i + 1) := by omega
    rw [this]
theorem enumFrom_length : ∀ (ds : List D) (n : Nat), (enumFrom n ds).length = ds.length
  | [], _ => rfl
  | d :: r, n => by simp [enumFrom, enumFrom_length r (n + 1)]
theorem zipT_get : ∀ (ds es : List D) (i : Nat), (zipT ds es)[i]? = match ds[i]?, es[i]? with
    | some d, some e => some (.tuple [d, e])
    | _, _ => none
  | [], es, i => by simp [zipT]
  | d :: r, [], i => by
    simp only [zipT, List.getElem?_nil]
    cases (d :: r)[i]? <;> rfl
  | d :: r, e :: r', 0 => by simp [zipT]
  | d :: r, e :: r', i + 1 => by simpa [zipT] using zipT_get r r' i
theorem zipT_length : ∀ (ds es : List D), (zipT ds es).length = min ds.length es.length
  | [], es => by simp [zipT]
  | d :: r, [] => by simp [zipT]
  | d :: r, e :: r' => by simp [zipT, zipT_length r r']
theorem pair_rep {O2 as2 : List Addr} {s2 : S} {σ2 : L2.St} {H2 : Hp} {T : Addr} {x y : V} {d e : D} (G2 : Good K c O2 as2 s2 σ2 H2) (hT : H2 T = none) (r1 : Rep K (Hid O2 as2 s2.st H2) x d) (r2 : Rep K (Hid O2 as2 s2.st H2) y e) :
    (∀ b o, H2 b = some o → upd H2 T (.tup [x, y]) b = some o) ∧ Rep K (Hid O2 as2 s2.st (upd H2 T (.tup [x, y]))) (.ref T) (.tuple [d, e]) :=
  ⟨same_upd hT, (tup_new G2 hT (.cons r1 (.cons r2 .nil))).2⟩
theorem di_enum {elts : List Expr} {kk : Nat} (hg : Gl X "enumerate") (hm : X.mg "enumerate" = none) (ha : DA c X W [e] ta fa) (hs : starEach [e] X.env = [(false, eval e X.env)] := by rfl) :
    DI c X W (.Tuple elts kk tpos) (.Call (.Name "enumerate" p) [e] [] pos) (iEnumK X.K ta) (bE fa (withVals enumD)) := by
  refine ⟨pi_enumK hg hm ha.pa hs, iterA_ok (r := fun vs H1 R' => ∃ k a xs, vs = [.ref a] ∧ SqK X.K H1 k a xs ∧ R' (IteK X.K k a) H1) ha.ok fun O as s σ H vs ds ls R' G r e1 w => ?_⟩
  unfold enumD at e1
  split at e1
  · rename_i d
    cases z : seqD d with
    | none => rw [z] at e1; cases e1
    | some es =>
      rw [z] at e1
      cases e1
      cases r with
      | cons r1 r2 =>
        cases r2
        obtain ⟨k, a, xs, rfl, h1, h2⟩ := seq_rep hid_ext r1 z
        refine ⟨k, a, xs, rfl, hid_ext.sqK h1, w _ ?_⟩
        intro O2 as2 s2 σ2 H2 G2 e2
        have q1 : SqK X.K H2 k a xs := hid_ext.sqK (e2.sqK h1)
        have q2 := h2.ext e2
        refine ⟨⟨xs, q1, by rw [enumFrom_length]; exact h2.length⟩, fun i d' hd => ?_⟩
        rw [enumFrom_get] at hd
        cases z2 : es[i]? with
        | none => rw [z2] at hd; cases hd
        | some d2 =>
          rw [z2] at hd
          have hd : PyData.tuple [.int ((0 + i : Nat) : Int), d2] = d' := Option.some.inj hd
          subst hd
          obtain ⟨v, hv, rv⟩ := q2.get z2
          refine ⟨⟨xs, v, q1, hv⟩, fun x H3 hy => ?_⟩
          obtain ⟨T, x', rfl, hT, rfl, f⟩ := hy
          have := f xs q1
          rw [hv] at this
          cases this
          rw [Nat.zero_add]
          exact pair_rep G2 hT (.int _) rv
  · cases e1
theorem di_zip {e' : Expr} {elts : List Expr} {kk : Nat} (hg : Gl X "zip") (hm : X.mg "zip" = none) (ha : DA c X W [e, e'] ta fa)
    (hs : starEach [e, e'] X.env = (false, eval e X.env) :: starEach [e'] X.env := by rfl) (hpl : (backTo pos (starEach [e'] X.env)).any (·.1) = false := by rfl) :
    DI c X W (.Tuple elts kk tpos) (.Call (.Name "zip" p) [e, e'] [] pos) (iZipK X.K ta) (bE fa (withVals zipD)) := by
  refine ⟨pi_zipK hg hm ha.pa hs hpl, iterA_ok (r := fun vs H1 R' => ∃ k k2 a b xs ys, vs = [.ref a, .ref b] ∧ SqK X.K H1 k a xs ∧ SqK X.K H1 k2 b ys ∧ R' (ItzK X.K k k2 a b) H1) ha.ok fun O as s σ H vs ds ls R' G r e1 w => ?_⟩
  unfold zipD at e1
  split at e1
  · rename_i d1 d2
    cases z1 : seqD d1 with
    | none => rw [z1] at e1; cases e1
    | some es1 =>
      cases z2 : seqD d2 with
      | none => rw [z1, z2] at e1; cases e1
      | some es2 =>
        rw [z1, z2] at e1
        cases e1
        cases r with
        | cons r1 r2 =>
          cases r2 with
          | cons r2 r3 =>
            cases r3
            obtain ⟨k, a, xs, rfl, h1, h2⟩ := seq_rep hid_ext r1 z1
            obtain ⟨k2, b, ys, rfl, h3, h4⟩ := seq_rep hid_ext r2 z2
            refine ⟨k, k2, a, b, xs, ys, rfl, hid_ext.sqK h1, hid_ext.sqK h3, w _ ?_⟩
            intro O2 as2 s2 σ2 H2 G2 e2
            have q1 : SqK X.K H2 k a xs := hid_ext.sqK (e2.sqK h1)
            have q2 := h2.ext e2
            have q3 : SqK X.K H2 k2 b ys := hid_ext.sqK (e2.sqK h3)
            have q4 := h4.ext e2
            refine ⟨⟨xs, ys, q1, q3, by rw [zipT_length, h2.length, h4.length]⟩, fun i d' hd => ?_⟩
            rw [zipT_get] at hd
            cases y1 : es1[i]? with
            | none => rw [y1] at hd; cases hd
            | some c1 =>
              cases y2 : es2[i]? with
              | none => rw [y1, y2] at hd; cases hd
              | some c2 =>
                rw [y1, y2] at hd
                have hd : PyData.tuple [c1, c2] = d' := Option.some.inj hd
                subst hd
                obtain ⟨v, hv, rv⟩ := q2.get y1
                obtain ⟨v2, hv2, rv2⟩ := q4.get y2
                refine ⟨⟨xs, ys, v, v2, q1, q3, hv, hv2⟩, fun x H3 hy => ?_⟩
                obtain ⟨T, x', y', rfl, hT, rfl, f1, f2⟩ := hy
                have := f1 xs q1
                rw [hv] at this
                cases this
                have := f2 ys q3
                rw [hv2] at this
                cases this
                exact pair_rep G2 hT rv rv2
  · cases e1

/-! ### for -/
def forL (b : D → List SV → Option (List SV)) (body : S → Option RS) : List D → S → Option RS
  | [], s => some (.next s)
  | d :: r, s => match b d s.env with
    | none => none
    | some env' => match body ⟨env', s.st⟩ with
      | some (.next s2) => forL b body r s2
      | o => o
def forS (f : S → Option (R (List D))) (b : D → List SV → Option (List SV)) (body : S → Option RS) : S → Option RS := bS f fun ds s => forL b body ds s
theorem for_ok {wi : TI} {g : TG} {tb : TS} {is : List Nat} {f : S → Option (R (List D))} {b : D → List SV → Option (List SV)} {body : S → Option RS} (h1 : II K c W wi f) (h2 : IG K c is g b) (h3 : IS K c W tb body) : IS K c W (tFor wi g tb) (forS f b body) := by
  intro O as s σ H B G q
  refine h1 O as s σ H _ G ?_
  unfold forS bS at q
  cases e : f s with
  | none => rw [e] at q; exact q
  | some r =>
    rw [e] at q
    cases r with
    | err x s' => exact fun d H' as' g x' er => q d σ H' as' g x' er
    | ok ds s1 =>
      intro J H1 as1 G1 x1 wk
      have q : PostS K c O as1 s1.st H1 W B (forL b body ds s1) := PostS.after x1 q
      refine ⟨fun i m σ' H' => m = ds.length - i ∧ i ≤ ds.length ∧ ∃ as' s', Good K c O as' s' σ' H' ∧ Stp as1 s1.st H1 as' s'.st H' ∧ PostS K c O as1 s1.st H1 W B (forL b body (ds.drop i) s'), ⟨ds.length, rfl, Nat.zero_le _, as1, s1, G1, Stp.refl G1.lenC, by simpa using q⟩, fun i m σ' H' hW => ?_⟩
      obtain ⟨rfl, hi, as', s', G', x', q'⟩ := hW
      have hw := wk O as' s' σ' H' G' x'.ext
      by_cases hlt : i < ds.length
      · have hd : ds[i]? = some ds[i] := List.getElem?_eq_getElem hlt
        obtain ⟨hgo, hy⟩ := hw.2 i ds[i] hd
        have hdrop : ds.drop i = ds[i] :: ds.drop (i + 1) := List.drop_eq_getElem_cons hlt
        rw [hdrop] at q'
        simp only [forL] at q'
        refine .inr ⟨hgo, fun σ2 H2 => ∃ as2 s2, Good K c O as2 s2 σ2 H2 ∧ Stp as1 s1.st H1 as2 s2.st H2 ∧ PostS K c O as1 s1.st H1 W B (forL b body (ds.drop (i + 1)) s2), fun σ2 H2 hN => ⟨ds.length - (i + 1), by omega, rfl, hlt, hN⟩, fun x H3 hyld => ?_⟩
        obtain ⟨hk, rx⟩ := hy x H3 hyld
        have G3 := G'.grow hk
        have x3 : Stp as' s'.st H' as' s'.st H3 := Stp.same G'.lenC hk
        refine h2 O as' s' σ' H3 x ds[i] _ G3 rx ?_
        cases e2 : b ds[i] s'.env with
        | none => rw [e2] at q'; exact q'
        | some env' =>
          rw [e2] at q'
          intro σ4 G4 _
          refine h3 O as' ⟨env', s'.st⟩ σ4 H3 _ G4 ?_
          simp only at q'
          cases e3 : body ⟨env', s'.st⟩ with
          | none => rw [e3] at q'; exact q'
          | some r3 =>
            rw [e3] at q'
            cases r3 with
            | next s5 => exact fun σ5 H5 as5 G5 x5 => ⟨as5, s5, G5, x'.trans (x3.trans x5), q'⟩
            | ret ev s5 => exact fun v σ5 H5 as5 eg x5 fr => q' v σ5 H5 as5 eg (x'.trans (x3.trans x5)) ((fr.back x3.dom).back x'.dom)
            | err y s5 => exact fun d σ5 H5 as5 G5 x5 er => q' d σ5 H5 as5 G5 (x'.trans (x3.trans x5)) er
      · have e : i = ds.length := by omega
        subst e
        refine .inl ⟨hw.1, ?_⟩
        rw [List.drop_length] at q'
        exact q' σ' H' as' G' x'
theorem ds_for {body : List Stmt} {wi : TI} {g : TG} {tb : TS} {is : List Nat} {f : S → Option (R (List D))} {b : D → List SV → Option (List SV)} {fb : S → Option RS} (hp : PassesOwn (model X.prog X.w) X.A X.env X.xe) (hc : X.calm = true) (hi : DI c X W tg e wi f) (hg : DG c X tg is g b) (hb : DB c X W body tb fb)
    (hs : ∀ x, foldedSetIterable e X.env x = pure x := by intro _; rfl) : DS c X W (.For tg e body [] pos) (tFor wi g tb) (forS f b fb) := ⟨ps_for hp hc hi.pi hg.pg hb.pss hs, for_ok hi.ok hg.ok hb.ok⟩

/-! ### while -/
def whN (t : S → Option (R Bool)) (body : S → Option RS) : Nat → S → Option RS
  | 0, _ => none
  | n + 1, s => match t s with
    | none => none
    | some (.err x s') => some (.err x s')
    | some (.ok false s') => some (.next s')
    | some (.ok true s') => match body s' with
      | some (.next s2) => whN t body n s2
      | o => o
open Classical in
noncomputable def whS (t : S → Option (R Bool)) (body : S → Option RS) (s : S) : Option RS := if h : ∃ n r, whN t body n s = some r then some h.choose_spec.choose else none
theorem whN_mono {t : S → Option (R Bool)} {body : S → Option RS} : ∀ {n m : Nat} {s : S} {r : RS}, n ≤ m → whN t body n s = some r → whN t body m s = some r
  | 0, _, _, _, _, h => by cases h
  | n + 1, 0, _, _, hl, _ => by omega
  | n + 1, m + 1, s, r, hl, h => by
    simp only [whN] at h ⊢
    cases e : t s with
    | none => rw [e] at h; cases h
    | some r1 =>
      rw [e] at h
      cases r1 with
      | err x s' => exact h
      | ok k s' =>
        cases k with
        | false => exact h
        | true =>
          simp only at h ⊢
          cases e2 : body s' with
          | none => rw [e2] at h; cases h
          | some r2 =>
            rw [e2] at h
            cases r2 with
            | next s2 => exact whN_mono (by omega) h
            | ret ev s2 => exact h
            | err x s2 => exact h
theorem whS_of {t : S → Option (R Bool)} {body : S → Option RS} {n : Nat} {s : S} {r : RS} (h : whN t body n s = some r) : whS t body s = some r := by
  have hex : ∃ n r, whN t body n s = some r := ⟨n, r, h⟩
  unfold whS
  rw [dif_pos hex]
  have h2 := hex.choose_spec.choose_spec
  have h3 := whN_mono (Nat.le_max_left n hex.choose) h
  have h4 := whN_mono (Nat.le_max_right n hex.choose) h2
  rw [h3] at h4
  exact h4.symm
theorem whS_some {t : S → Option (R Bool)} {body : S → Option RS} {s : S} {r : RS} (h : whS t body s = some r) : ∃ n, whN t body n s = some r := by
  unfold whS at h
  split at h
  · rename_i hex
    cases h
    exact ⟨_, hex.choose_spec.choose_spec⟩
  · cases h
theorem while_ok {tc : TT} {tb : TS} {t : S → Option (R Bool)} {body : S → Option RS} (h1 : IT K c W tc t) (h2 : IS K c W tb body) : IS K c W (tWhile tc tb) (whS t body) := by
  intro O as s σ H B G q
  cases e : whS t body s with
  | none => rw [e] at q; exact q.elim
  | some r =>
    rw [e] at q
    obtain ⟨n, hn⟩ := whS_some e
    have q : PostS K c O as s.st H W B (whN t body n s) := by rw [hn]; exact q
    refine ⟨fun m σ' H' => ∃ as' s', Good K c O as' s' σ' H' ∧ Stp as s.st H as' s'.st H' ∧ PostS K c O as s.st H W B (whN t body m s'), ⟨n, as, s, G, Stp.refl G.lenC, q⟩, fun m σ' H' hW => ?_⟩
    obtain ⟨as', s', G', x', q'⟩ := hW
    cases m with
    | zero => exact q'.elim
    | succ m =>
      simp only [whN] at q'
      refine h1 O as' s' σ' H' _ G' ?_
      cases e1 : t s' with
      | none => rw [e1] at q'; exact q'
      | some r1 =>
        rw [e1] at q'
        cases r1 with
        | err y s2 => exact fun d H2 as2 G2 x2 er => q' d σ' H2 as2 G2 (x'.trans x2) er
        | ok k s2 =>
          intro H2 as2 G2 x2
          cases k with
          | false => exact q' σ' H2 as2 G2 (x'.trans x2)
          | true =>
            refine ⟨fun σ3 H3 => ∃ as3 s3, Good K c O as3 s3 σ3 H3 ∧ Stp as s.st H as3 s3.st H3 ∧ PostS K c O as s.st H W B (whN t body m s3), fun σ3 H3 hN => ⟨m, Nat.lt_succ_self m, hN⟩, ?_⟩
            refine h2 O as2 s2 σ' H2 _ G2 ?_
            simp only at q'
            cases e3 : body s2 with
            | none => rw [e3] at q'; exact q'
            | some r3 =>
              rw [e3] at q'
              have xx := x'.trans x2
              cases r3 with
              | next s5 => exact fun σ5 H5 as5 G5 x5 => ⟨as5, s5, G5, xx.trans x5, q'⟩
              | ret ev s5 => exact fun v σ5 H5 as5 eg x5 fr => q' v σ5 H5 as5 eg (xx.trans x5) (fr.back xx.dom)
              | err y s5 => exact fun d σ5 H5 as5 G5 x5 er => q' d σ5 H5 as5 G5 (xx.trans x5) er
theorem ds_while {body : List Stmt} {tc : TT} {tb : TS} {t : S → Option (R Bool)} {fb : S → Option RS} (hp : PassesOwn (model X.prog X.w) X.A X.env X.xe) (hc : DT c X W e tc t) (hb : DB c X W body tb fb) : DS c X W (.While e body [] pos) (tWhile tc tb) (whS t fb) :=
  ⟨ps_while hp hc.pt hb.pss, while_ok hc.ok hb.ok⟩
end
end DL
namespace DL
open PySem PySem.Spec PyProof.Rows L2
/-! ### zip of three -/
def Itz3 (K : PySem.W.Frag) (k k2 k3 : Bool) (a b d : Addr) : It :=
  ⟨fun i H => ∃ (xs ys zs : List V) (x y z : V), SqK K H k a xs ∧ SqK K H k2 b ys ∧ SqK K H k3 d zs ∧ xs[i]? = some x ∧ ys[i]? = some y ∧ zs[i]? = some z,
    fun i H v H' => ∃ T x y z, v = .ref T ∧ H T = none ∧ H' = upd H T (.tup [x, y, z]) ∧ (∀ xs, SqK K H k a xs → xs[i]? = some x) ∧ (∀ ys, SqK K H k2 b ys → ys[i]? = some y) ∧ ∀ zs, SqK K H k3 d zs → zs[i]? = some z,
    fun i H => ∃ xs ys zs : List V, SqK K H k a xs ∧ SqK K H k2 b ys ∧ SqK K H k3 d zs ∧ min (min xs.length ys.length) zs.length = i⟩
theorem turn_zip3 {P : Program} {w : World} {K : PySem.W.Frag} {elts : List Expr} {kk : Nat} {tpos : Pos} (k k2 k3 : Bool) {a b d N : Addr} (ha : a < N) (hb : b < N) (hd : d < N) :
    Turn P w K (.Tuple elts kk tpos) (Itz3 K k k2 k3 a b d) [N + 5, N + 3, N + 4, N, N + 1, N + 2] (N + 5) (fun i h => IsZip h (N + 5) (N + 3) (N + 4) .none ∧ IsTupOf3 h (N + 3) (.ref N) (.ref (N + 1)) (.ref (N + 2)) ∧ (∃ x y z, IsTupOf3 h (N + 4) x y z) ∧ IterAt h k N a i ∧ IterAt h k2 (N + 1) b i ∧ IterAt h k3 (N + 2) d i) := by
  have one : ∀ {e : Addr}, e < N → ∀ c ∈ [e], c < N := fun {e} he c hc => by
    have : c = e := by simpa using hc
    rw [this]; exact he
  have sep : ZipSep3 (N + 5) (N + 3) (N + 4) N (N + 1) (N + 2) [N, a] [N + 1, b] [N + 2, d] := zip_sep3 (fp1 := [a]) (fp2 := [b]) (fp3 := [d]) (one ha) (one hb) (one hd)
  refine turn_walk (by simp) (fun i h st c hc => ?_) (fun i h h' st kp => ?_) (fun A i s Q E st h => ?_) (fun X hP hw hK hh i pins s σ H I st hg => ?_) (fun X hP hw hK hh i pins s σ H I st hg => ?_)
  · obtain ⟨hz, hTI, ⟨x, y, z, hTO⟩, hi1, hi2, hi3⟩ := st
    have e' : c = N + 5 ∨ c = N + 3 ∨ c = N + 4 ∨ c = N ∨ c = N + 1 ∨ c = N + 2 := by simpa using hc
    rcases e' with q | q | q | q | q | q
    · rw [q]; exact ⟨_, hz, fun v q => nomatch q⟩
    · rw [q]; exact ⟨_, hTI, fun v q => nomatch q⟩
    · rw [q]; exact ⟨_, hTO, fun v q => nomatch q⟩
    · rw [q]; exact hi1.obj
    · rw [q]; exact hi2.obj
    · rw [q]; exact hi3.obj
  · obtain ⟨hz, hTI, ⟨x, y, z, hTO⟩, hi1, hi2, hi3⟩ := st
    exact ⟨kp (N + 5) (by simp) _ hz, kp (N + 3) (by simp) _ hTI, ⟨x, y, z, kp (N + 4) (by simp) _ hTO⟩, hi1.at' fun o q => kp N (by simp) o q, hi2.at' fun o q => kp (N + 1) (by simp) o q, hi3.at' fun o q => kp (N + 2) (by simp) o q⟩
  · exact wpAny_pyIter_zip st.1 h
  · obtain ⟨xs, ys, zs, x, y, z, hq1, hq2, hq3, hx, hy, hz0⟩ := hg
    rw [← hK] at hq1 hq2 hq3
    obtain ⟨its, rv, p, _⟩ := sqk_get I hq1
    obtain ⟨its2, rv2, p2, _⟩ := sqk_get I hq2
    obtain ⟨its3, rv3, p3, _⟩ := sqk_get I hq3
    obtain ⟨hlt, _⟩ := List.getElem?_eq_some_iff.mp hx
    obtain ⟨hlt2, _⟩ := List.getElem?_eq_some_iff.mp hy
    obtain ⟨hlt3, _⟩ := List.getElem?_eq_some_iff.mp hz0
    have hl := rv.length
    have hl2 := rv2.length
    have hl3 := rv3.length
    have D1 : Draws P w X.A.in1 N [N, a] its.toArray.size (fun i v => its.toArray[i]? = some v) (fun i h => IterAt h k N a i ∧ SeqAtK h k a its.toArray) := draws_k (A := X.A.in1) hh N a (Nat.ne_of_lt ha) its.toArray k
    have D2 : Draws P w X.A.in1 (N + 1) [N + 1, b] its2.toArray.size (fun i v => its2.toArray[i]? = some v) (fun i h => IterAt h k2 (N + 1) b i ∧ SeqAtK h k2 b its2.toArray) := draws_k (A := X.A.in1) hh (N + 1) b (Nat.ne_of_lt (Nat.lt_succ_of_lt hb)) its2.toArray k2
    have D3 : Draws P w X.A.in1 (N + 2) [N + 2, d] its3.toArray.size (fun i v => its3.toArray[i]? = some v) (fun i h => IterAt h k3 (N + 2) d i ∧ SeqAtK h k3 d its3.toArray) := draws_k (A := X.A.in1) hh (N + 2) d (Nat.ne_of_lt (Nat.lt_succ_of_lt (Nat.lt_succ_of_lt hd))) its3.toArray k3
    obtain ⟨hz, hTI, hTO, hi1, hi2, hi3⟩ := st
    refine ⟨_, _, _, _, _, _, WalksT.zipD3 sep D1 D2 D3, by simp; omega, ⟨hz, hTI, hTO, ⟨hi1, p⟩, ⟨hi2, p2⟩, ⟨hi3, p3⟩⟩, fun c hc => ?_, fun h' st' => ⟨st'.1, st'.2.1, st'.2.2.1, st'.2.2.2.1.1, st'.2.2.2.2.1.1, st'.2.2.2.2.2.1⟩, fun vals pv => ?_⟩
    · have e' : c = N + 5 ∨ c = N + 4 ∨ c = N ∨ c = N + 1 ∨ c = N + 2 := by simpa using hc
      rcases e' with q | q | q | q | q <;> (rw [q]; simp)
    · obtain ⟨u, u2, u3, hu, hu2, hu3, rfl⟩ := pv
      refine ⟨by show 3 ≤ sizeLine; decide, [x, y, z], ?_, fun T hT => ⟨T, x, y, z, rfl, hT, rfl, fun zs hz => ?_, fun zs hz => ?_, fun zs hz => ?_⟩⟩
      · obtain ⟨u', e1, e2⟩ := rv.get hx
        obtain ⟨u2', e3, e4⟩ := rv2.get hy
        obtain ⟨u3', e5, e6⟩ := rv3.get hz0
        have z1 : u = u' := by
          have hu : its[i]? = some u := by simpa using hu
          rw [e1] at hu
          exact (Option.some.inj hu).symm
        have z2 : u2 = u2' := by
          have hu2 : its2[i]? = some u2 := by simpa using hu2
          rw [e3] at hu2
          exact (Option.some.inj hu2).symm
        have z3 : u3 = u3' := by
          have hu3 : its3[i]? = some u3 := by simpa using hu3
          rw [e5] at hu3
          exact (Option.some.inj hu3).symm
        subst z1 z2 z3
        exact .cons e2 (.cons e4 (.cons e6 .nil))
      · rw [← hK] at hz
        rw [sqk_inj I hz hq1]; exact hx
      · rw [← hK] at hz
        rw [sqk_inj I hz hq2]; exact hy
      · rw [← hK] at hz
        rw [sqk_inj I hz hq3]; exact hz0
  · obtain ⟨xs, ys, zs, hq1, hq2, hq3, hmin⟩ := hg
    rw [← hK] at hq1 hq2 hq3
    obtain ⟨its, rv, p, _⟩ := sqk_get I hq1
    obtain ⟨its2, rv2, p2, _⟩ := sqk_get I hq2
    obtain ⟨its3, rv3, p3, _⟩ := sqk_get I hq3
    have hl := rv.length
    have hl2 := rv2.length
    have hl3 := rv3.length
    have D1 : Draws P w X.A.in1 N [N, a] its.toArray.size (fun i v => its.toArray[i]? = some v) (fun i h => IterAt h k N a i ∧ SeqAtK h k a its.toArray) := draws_k (A := X.A.in1) hh N a (Nat.ne_of_lt ha) its.toArray k
    have D2 : Draws P w X.A.in1 (N + 1) [N + 1, b] its2.toArray.size (fun i v => its2.toArray[i]? = some v) (fun i h => IterAt h k2 (N + 1) b i ∧ SeqAtK h k2 b its2.toArray) := draws_k (A := X.A.in1) hh (N + 1) b (Nat.ne_of_lt (Nat.lt_succ_of_lt hb)) its2.toArray k2
    have D3 : Draws P w X.A.in1 (N + 2) [N + 2, d] its3.toArray.size (fun i v => its3.toArray[i]? = some v) (fun i h => IterAt h k3 (N + 2) d i ∧ SeqAtK h k3 d its3.toArray) := draws_k (A := X.A.in1) hh (N + 2) d (Nat.ne_of_lt (Nat.lt_succ_of_lt (Nat.lt_succ_of_lt hd))) its3.toArray k3
    have W := WalksT.zipD3 sep D1 D2 D3
    have hi : min (min its.toArray.size its2.toArray.size) its3.toArray.size = i := by simp; omega
    rw [hi] at W
    obtain ⟨hz, hTI, hTO, hi1, hi2, hi3⟩ := st
    refine ⟨_, _, _, _, _, W, ⟨hz, hTI, hTO, ⟨hi1, p⟩, ⟨hi2, p2⟩, ⟨hi3, p3⟩⟩, fun c hc => ?_⟩
    have e' : c = N + 5 ∨ c = N + 4 ∨ c = N ∨ c = N + 1 ∨ c = N + 2 := by simpa using hc
    rcases e' with q | q | q | q | q <;> (rw [q]; simp)
def iZip3 (K : PySem.W.Frag) (ta : TA) : TI := fun σ H R => ta σ H fun vs H1 => ∃ k k2 k3 a b d xs ys zs, vs = [.ref a, .ref b, .ref d] ∧ SqK K H1 k a xs ∧ SqK K H1 k2 b ys ∧ SqK K H1 k3 d zs ∧ R (Itz3 K k k2 k3 a b d) H1
theorem pi_zip3 {X : Cx} {e e2 e3 : Expr} {ta : TA} {p pos tpos : Pos} {elts : List Expr} {kk : Nat} (hg : Gl X "zip") (hm : X.mg "zip" = none) (ha : PA X [e, e2, e3] ta)
    (hs : starEach [e, e2, e3] X.env = (false, eval e X.env) :: starEach [e2, e3] X.env := by rfl) (hpl : (backTo pos (starEach [e2, e3] X.env)).any (·.1) = false := by rfl) :
    PI X (.Tuple elts kk tpos) (.Call (.Name "zip" p) [e, e2, e3] [] pos) (iZip3 X.K ta) := by
  refine ⟨fun pins s σ H R I h => ?_⟩
  refine Call_ (ld_blt I hg hm PyProof.Rows.boot_zip (PyProof.Rows.callWith_type1 (thn (ha.run pos pins s σ H _ I h) fun us s1 ⟨vs, H1, I1, r1, q1⟩ => ?_) hs hpl))
  obtain ⟨k, k2, k3, a, b, d, xs, ys, zs, ex, hq1, hq2, hq3, q⟩ := q1
  subst ex
  cases r1 with
  | cons r rr =>
    cases rr with
    | cons r' rr =>
      cases rr with
      | cons r'' rr =>
      cases rr
      cases r
      cases r'
      cases r''
      obtain ⟨its, rv, p1, _⟩ := sqk_get I1 hq1
      obtain ⟨its2, rv2, p2, _⟩ := sqk_get I1 hq2
      obtain ⟨its3, rv3, p3, _⟩ := sqk_get I1 hq3
      refine zip_begins3 (begins_k a its.toArray k) (begins_k b its2.toArray k2) (begins_k d its3.toArray k3) p1 p2 p3 fun h' hz hTI hTO h1 h2 h3 hsz hk => wpAny_pyIter_zip hz ?_
      have I2 : Inv X pins σ H1 { s1 with heap := h' } := I1.kept (t' := s1.toks) hk
      refine ⟨s1.heap.objs.size + 5, [s1.heap.objs.size + 5, s1.heap.objs.size + 3, s1.heap.objs.size + 4, s1.heap.objs.size, s1.heap.objs.size + 1, s1.heap.objs.size + 2], _, _, H1, rfl, I2, turn_zip3 k k2 k3 (sqk_lt p1) (sqk_lt p2) (sqk_lt p3), ⟨hz, hTI, ⟨_, _, _, hTO⟩, iterAt_new h1, iterAt_new h2, iterAt_new h3⟩, fun c hc => ?_, q⟩
      have e' : c = s1.heap.objs.size + 5 ∨ c = s1.heap.objs.size + 3 ∨ c = s1.heap.objs.size + 4 ∨ c = s1.heap.objs.size ∨ c = s1.heap.objs.size + 1 ∨ c = s1.heap.objs.size + 2 := by simpa using hc
      have hle : s1.heap.objs.size ≤ c := by
        rcases e' with z | z | z | z | z | z <;> (rw [z]; simp)
      exact I1.fpOk hle (I1.hok.fresh hle)
/-! ### .. on data -/
def zipT3 : List D → List D → List D → List D
  | d :: r, e :: r', f :: r'' => .tuple [d, e, f] :: zipT3 r r' r''
  | _, _, _ => []
theorem zipT3_get : ∀ (ds es fs : List D) (i : Nat), (zipT3 ds es fs)[i]? = match ds[i]?, es[i]?, fs[i]? with
    | some d, some e, some f => some (.tuple [d, e, f])
    | _, _, _ => none
  | [], es, fs, i => by simp [zipT3]
  | d :: r, [], fs, i => by
    simp only [zipT3, List.getElem?_nil]
    cases (d :: r)[i]? <;> rfl
  | d :: r, e :: r', [], i => by
    simp only [zipT3, List.getElem?_nil]
    cases (d :: r)[i]? <;> cases (e :: r')[i]? <;> rfl
  | d :: r, e :: r', f :: r'', 0 => by simp [zipT3]
  | d :: r, e :: r', f :: r'', i + 1 => by simpa [zipT3] using zipT3_get r r' r'' i
theorem zipT3_length : ∀ (ds es fs : List D), (zipT3 ds es fs).length = min (min ds.length es.length) fs.length
  | [], es, fs => by simp [zipT3]
  | d :: r, [], fs => by simp [zipT3]
  | d :: r, e :: r', [] => by simp [zipT3]
  | d :: r, e :: r', f :: r'' => by simp [zipT3, zipT3_length r r' r'']
def zip3D : List D → Option (List D)
  | [d, e, f] => match seqD d, seqD e, seqD f with
    | some ds, some es, some fs => some (zipT3 ds es fs)
    | _, _, _ => none
  | _ => none
section
variable {K : PySem.W.Frag} {c : Ctx} {X : Cx} {W : WX} {ta : TA} {fa : S → Option (R (List SV))} {pos p tpos : Pos}
theorem trip_rep {O2 as2 : List Addr} {s2 : S} {σ2 : L2.St} {H2 : Hp} {T : Addr} {x y z : V} {d e f : D} (G2 : Good K c O2 as2 s2 σ2 H2) (hT : H2 T = none) (r1 : Rep K (Hid O2 as2 s2.st H2) x d) (r2 : Rep K (Hid O2 as2 s2.st H2) y e) (r3 : Rep K (Hid O2 as2 s2.st H2) z f) :
    (∀ b o, H2 b = some o → upd H2 T (.tup [x, y, z]) b = some o) ∧ Rep K (Hid O2 as2 s2.st (upd H2 T (.tup [x, y, z]))) (.ref T) (.tuple [d, e, f]) :=
  ⟨same_upd hT, (tup_new G2 hT (.cons r1 (.cons r2 (.cons r3 .nil)))).2⟩
theorem di_zip3 {e e' e'' : Expr} {elts : List Expr} {kk : Nat} (hg : Gl X "zip") (hm : X.mg "zip" = none) (ha : DA c X W [e, e', e''] ta fa)
    (hs : starEach [e, e', e''] X.env = (false, eval e X.env) :: starEach [e', e''] X.env := by rfl) (hpl : (backTo pos (starEach [e', e''] X.env)).any (·.1) = false := by rfl) :
    DI c X W (.Tuple elts kk tpos) (.Call (.Name "zip" p) [e, e', e''] [] pos) (iZip3 X.K ta) (bE fa (withVals zip3D)) := by
  refine ⟨pi_zip3 hg hm ha.pa hs hpl, iterA_ok (r := fun vs H1 R' => ∃ k k2 k3 a b d xs ys zs, vs = [.ref a, .ref b, .ref d] ∧ SqK X.K H1 k a xs ∧ SqK X.K H1 k2 b ys ∧ SqK X.K H1 k3 d zs ∧ R' (Itz3 X.K k k2 k3 a b d) H1) ha.ok fun O as s σ H vs ds ls R' G r e1 w => ?_⟩
  unfold zip3D at e1
  split at e1
  · rename_i d1 d2 d3
    cases z1 : seqD d1 with
    | none => rw [z1] at e1; cases e1
    | some es1 =>
      cases z2 : seqD d2 with
      | none => rw [z1, z2] at e1; cases e1
      | some es2 =>
      cases z3 : seqD d3 with
      | none => rw [z1, z2, z3] at e1; cases e1
      | some es3 =>
        rw [z1, z2, z3] at e1
        cases e1
        cases r with
        | cons r1 r2 =>
          cases r2 with
          | cons r2 r3 =>
            cases r3 with
            | cons r3 r4 =>
            cases r4
            obtain ⟨k, a, xs, rfl, h1, h2⟩ := seq_rep hid_ext r1 z1
            obtain ⟨k2, b, ys, rfl, h3, h4⟩ := seq_rep hid_ext r2 z2
            obtain ⟨k3, d, zs, rfl, h5, h6⟩ := seq_rep hid_ext r3 z3
            refine ⟨k, k2, k3, a, b, d, xs, ys, zs, rfl, hid_ext.sqK h1, hid_ext.sqK h3, hid_ext.sqK h5, w _ ?_⟩
            intro O2 as2 s2 σ2 H2 G2 e2
            have q1 : SqK X.K H2 k a xs := hid_ext.sqK (e2.sqK h1)
            have q2 := h2.ext e2
            have q3 : SqK X.K H2 k2 b ys := hid_ext.sqK (e2.sqK h3)
            have q4 := h4.ext e2
            have q5 : SqK X.K H2 k3 d zs := hid_ext.sqK (e2.sqK h5)
            have q6 := h6.ext e2
            refine ⟨⟨xs, ys, zs, q1, q3, q5, by rw [zipT3_length, h2.length, h4.length, h6.length]⟩, fun i d' hd => ?_⟩
            rw [zipT3_get] at hd
            cases y1 : es1[i]? with
            | none => rw [y1] at hd; cases hd
            | some c1 =>
              cases y2 : es2[i]? with
              | none => rw [y1, y2] at hd; cases hd
              | some c2 =>
              cases y3 : es3[i]? with
              | none => rw [y1, y2, y3] at hd; cases hd
              | some c3 =>
                rw [y1, y2, y3] at hd
                have hd : PyData.tuple [c1, c2, c3] = d' := Option.some.inj hd
                subst hd
                obtain ⟨v, hv, rv⟩ := q2.get y1
                obtain ⟨v2, hv2, rv2⟩ := q4.get y2
                obtain ⟨v3, hv3, rv3⟩ := q6.get y3
                refine ⟨⟨xs, ys, zs, v, v2, v3, q1, q3, q5, hv, hv2, hv3⟩, fun x H3 hy => ?_⟩
                obtain ⟨T, x', y', z', rfl, hT, rfl, f1, f2, f3⟩ := hy
                have := f1 xs q1
                rw [hv] at this
                cases this
                have := f2 ys q3
                rw [hv2] at this
                cases this
                have := f3 zs q5
                rw [hv3] at this
                cases this
                exact trip_rep G2 hT rv rv2 rv3
  · cases e1
end
end DL
namespace DL
open PySem PySem.Spec PyProof.Rows L2
section
variable {K : PySem.W.Frag} {c : Ctx} {X : Cx} {W : WX} {O as as' : List Addr} {s s' : S} {st st' : List MO} {σ σ' : L2.St} {H H' H1 H2 : Hp} {env : List SV}
/-- the frame ahead, over the later store -/
theorem Good.reframe (G1 : Good K c O as ⟨env, st⟩ σ H) (x : Stp as st H as' s'.st H') (G2 : Good K c O as' s' σ' H') : Good K c O as' ⟨env, s'.st⟩ σ H' :=
  G2.frame G1.lenE fun i sv h => (G1.slots i sv h).ext x.ext (let ⟨m, e, _⟩ := x.pre; ⟨m, e⟩)
/-- .. while a new object is hidden -/
theorem ext_hide {a : Addr} (x : Stp as st H as' st' H') (h : NoneT H a) : Ext (Hid O as st H) (Hid (a :: O) as' st' H') := fun b o hb nt => by
  obtain ⟨z1, z2, z3⟩ := hid_some hb
  refine hid_of (fun z => ?_) (x.notLive z3 z2 nt) (x.keep b o z3 z2 nt)
  rcases List.mem_cons.mp z with z | z
  · exact h o (by rw [← z]; exact z3) nt
  · exact z1 z
theorem EvGood.reframe {ev : EV} {v : V} (G1 : Good K c O as ⟨env, st⟩ σ H) (x : Stp as st H as' s'.st H') (h : EvGood K c O as' s' σ' H' ev v) (fr : FrAt H ev v) : EvGood K c O as' ⟨env, s'.st⟩ σ H' ev v := by
  cases ev with
  | val d => exact ⟨G1.reframe x h.1, h.2⟩
  | cell n => exact ⟨G1.reframe x h.1, h.2⟩
  | fresh ds =>
    obtain ⟨a, vs, e, h1, h2, G, r⟩ := h
    refine ⟨a, vs, e, h1, h2, G.frame G1.lenE fun i sv h => (G1.slots i sv h).ext (ext_hide x (fr a e)) (let ⟨m, e, _⟩ := x.pre; ⟨m, e⟩), r⟩
/-- a hidden list grows -/
theorem hid_upd_hidden {a : Addr} {o : HO} (ha : a ∈ O) : Hid O as st (upd H a o) = Hid O as st H := by
  funext b
  unfold Hid
  by_cases q : b ∈ O ∨ live as st b
  · rw [if_pos q, if_pos q]
  · rw [if_neg q, if_neg q, upd_ne]
    rintro rfl
    exact q (.inl ha)
theorem Good.updHidden {a : Addr} {xs ys : List V} (G : Good K c O as s σ H) (ha : a ∈ O) (h : H a = some (.lst xs)) : Good K c O as s σ (upd H a (.lst ys)) := by
  have e : Hid O as s.st (upd H a (.lst ys)) = Hid O as s.st H := hid_upd_hidden ha
  have hn : H a ≠ none := by rw [h]; simp
  have na : ∀ b ∈ as, b ≠ a := fun b hb z => G.odis a ha (by rw [← z]; exact hb)
  refine ⟨G.lenE, G.lenC, G.nd, G.odis, fun b hb => (by by_cases q : b = a; (exact ⟨ys, by rw [q, upd_same]⟩); (obtain ⟨zs, h'⟩ := G.odom b hb; exact ⟨zs, by rw [upd_ne q]; exact h'⟩)), fun b hb => upd_obj (G.cdom b hb), fun i sv hi => by rw [e]; exact G.slots i sv hi, fun m b mo h1 h2 => ?_, tabs_upd G.tabs h noTbl_lst (fun φ z => nomatch z), fun a' ns e' => ?_, by rw [e]; exact G.ex⟩
  · rw [e]
    have nb := na b (List.mem_of_getElem? h1)
    have := G.cells m b mo h1 h2
    cases mo with
    | dead => trivial
    | lst ds2 => obtain ⟨vs2, e1, e2⟩ := this; exact ⟨vs2, by rw [upd_ne nb]; exact e1, e2⟩
    | ins C fs =>
      obtain ⟨dx, fs', e1, e2, e3, e4, e5⟩ := this
      have nd : dx ≠ a := fun z => by rw [z, h] at e2; cases e2
      exact ⟨dx, fs', by rw [upd_ne nb]; exact e1, by rw [upd_ne nd]; exact e2, e3, e4, e5⟩
  · rcases G.scr a' ns e' with (⟨o, h'⟩ | ⟨h', z2, z3⟩) | h'
    · refine .inl (.inl ⟨o, ?_⟩)
      rw [upd_ne]; exact h'
      rintro rfl
      rw [h] at h'
      cases h'
    · refine .inl (.inr ⟨?_, z2, z3⟩)
      rw [upd_ne]; exact h'
      rintro rfl
      exact z2 ha
    · exact .inr h'
theorem Stp.updNew {a : Addr} {o : HO} (x : Stp as st H as' st' H') (h : H a = none) : Stp as st H as' st' (upd H' a o) :=
  ⟨x.pre, x.len, x.dead, fun b u hb nl nt => by rw [upd_ne (ne_of_none hb h)]; exact x.keep b u hb nl nt, fun b hb => by
    by_cases q : b = a
    · rw [q]; exact .of h
    · exact x.dom b fun u hu => hb u (by rw [upd_ne q]; exact hu)⟩

/-! ### comprehensions -/
def wipeE (env : List SV) : List Nat → List SV
  | [] => env
  | v :: vs => (wipeE env vs).set v .un
theorem wipeE_length : ∀ vs : List Nat, (wipeE env vs).length = env.length
  | [] => rfl
  | v :: vs => by simp [wipeE, wipeE_length vs]
theorem Good.wipe (G : Good K c O as s σ H) : ∀ vs : List Nat, Good K c O as ⟨wipeE s.env vs, s.st⟩ (L2.wipe σ vs) H
  | [] => G
  | v :: vs => by
    have G' := G.wipe vs
    refine G'.frame (by simp [wipeE, L2.wipe, wipeE_length, L2.wipe_length, G.lenE]) fun i sv h => ?_
    have h : ((wipeE s.env vs).set v .un)[i]? = some sv := h
    by_cases q : v = i
    · subst q
      have hlt : v < (wipeE s.env vs).length := by
        have := (List.getElem?_eq_some_iff.mp h).1
        simpa using this
      rw [List.getElem?_set_self hlt] at h
      cases h
      trivial
    · rw [List.getElem?_set_ne q] at h
      have := G'.slots i sv h
      show SlotOk K c _ _ sv (((L2.wipe σ vs).set v none)[i]?.join)
      rw [List.getElem?_set_ne q]
      exact this
theorem wipe_wipe : ∀ (vs ws : List Nat), (∀ i ∈ vs, i ∈ ws) → wipe (wipe σ vs) ws = wipe σ ws
  | [], _, _ => rfl
  | v :: vs, ws, h => by
    show wipe ((wipe σ vs).set v none) ws = wipe σ ws
    rw [wipe_set (h v (by simp)), wipe_wipe vs ws fun i hi => h i (List.mem_cons_of_mem _ hi)]
def lcL (vs : List Nat) (b : D → List SV → Option (List SV)) (t : S → Option (R Bool)) (f : S → Option (R EV)) : List D → List D → S → Option (R EV)
  | [], acc, s => some (.ok (.fresh acc) s)
  | d :: r, acc, s => match b d (wipeE s.env vs) with
    | none => none
    | some env' => match t ⟨env', s.st⟩ with
      | some (.ok false s2) => lcL vs b t f r acc ⟨s.env, s2.st⟩
      | some (.ok true s2) => (match fz f s2 with
        | some (.ok (.val d') s3) => if acc.length < 1000000 then lcL vs b t f r (acc ++ [d']) ⟨s.env, s3.st⟩ else none
        | _ => none)
      | _ => none
def lcE (vs : List Nat) (it : S → Option (R (List D))) (b : D → List SV → Option (List SV)) (t : S → Option (R Bool)) (f : S → Option (R EV)) : S → Option (R EV) := bE it fun ds s => lcL vs b t f ds [] s
abbrev W0 : WX := fun _ _ _ _ => False
theorem lcL_fresh {vs : List Nat} {b : D → List SV → Option (List SV)} {t : S → Option (R Bool)} {f : S → Option (R EV)} : ∀ {ds acc : List D} {s : S} {r : R EV}, lcL vs b t f ds acc s = some r → ∃ out s', r = .ok (.fresh out) s'
  | [], acc, s, r, h => by
    simp only [lcL] at h
    cases h
    exact ⟨_, _, rfl⟩
  | d :: ds, acc, s, r, h => by
    simp only [lcL] at h
    cases e : b d (wipeE s.env vs) with
    | none => rw [e] at h; cases h
    | some env' =>
      rw [e] at h
      simp only at h
      cases e2 : t ⟨env', s.st⟩ with
      | none => rw [e2] at h; cases h
      | some r2 =>
        rw [e2] at h
        cases r2 with
        | err x s2 => cases h
        | ok k s2 =>
          cases k with
          | false => exact lcL_fresh h
          | true =>
            simp only at h
            cases e3 : fz f s2 with
            | none => rw [e3] at h; cases h
            | some r3 =>
              rw [e3] at h
              cases r3 with
              | err x s3 => cases h
              | ok ev s3 =>
                cases ev with
                | cell n => cases h
                | fresh n => cases h
                | val d' =>
                  simp only at h
                  split at h
                  · exact lcL_fresh h
                  · cases h
theorem lc_ok {wi : TI} {g : TG} {tt : TT} {te : TE} {vs is : List Nat} {it : S → Option (R (List D))} {b : D → List SV → Option (List SV)} {t : S → Option (R Bool)} {f : S → Option (R EV)} (his : ∀ i ∈ is, i ∈ vs)
    (h1 : II K c W wi it) (h2 : IG K c is g b) (h3 : IT K c W0 tt t) (h4 : IE K c W0 te f) : IE K c W (tLc wi g tt te vs) (lcE vs it b t f) := by
  intro O as s σ H Q G q
  refine h1 O as s σ H _ G ?_
  unfold lcE bE at q
  cases e : it s with
  | none => rw [e] at q; exact q
  | some r =>
    rw [e] at q
    cases r with
    | err x s' => exact q
    | ok ds s1 =>
      intro J H1 as1 G1 x1 wk Da hDa
      have hDa0 : NoneT H Da := x1.dom Da (.of hDa)
      have nO : Da ∉ O := (fresh_notin G1 hDa).1
      simp only at q
      refine ⟨fun i m H' => m = ds.length - i ∧ i ≤ ds.length ∧ ∃ as' st' acc xs, Good K c (Da :: O) as' ⟨s1.env, st'⟩ σ H' ∧ Stp as1 s1.st H1 as' st' H' ∧ H' Da = some (.lst xs) ∧ RepA K (Hid (Da :: O) as' st' H') xs acc ∧
          PostE K c O as s.st H W σ Q (lcL vs b t f (ds.drop i) acc ⟨s1.env, st'⟩),
        ⟨ds.length, rfl, Nat.zero_le _, as1, s1.st, [], [], G1.hide hDa, Stp.same G1.lenC (same_upd hDa), upd_same, .nil, by simpa using q⟩, fun i m H' hW => ?_⟩
      obtain ⟨rfl, hi, as', st', acc, xs, G', x', hD, ra, q'⟩ := hW
      have hw := wk (Da :: O) as' ⟨s1.env, st'⟩ σ H' G' (ext_hide x' (.of hDa))
      by_cases hlt : i < ds.length
      · have hd : ds[i]? = some ds[i] := List.getElem?_eq_getElem hlt
        obtain ⟨hgo, hy⟩ := hw.2 i ds[i] hd
        have hdrop : ds.drop i = ds[i] :: ds.drop (i + 1) := List.drop_eq_getElem_cons hlt
        rw [hdrop] at q'
        simp only [lcL] at q'
        refine .inr ⟨hgo, fun H2 => ∃ as2 st2 acc2 xs2, Good K c (Da :: O) as2 ⟨s1.env, st2⟩ σ H2 ∧ Stp as1 s1.st H1 as2 st2 H2 ∧ H2 Da = some (.lst xs2) ∧ RepA K (Hid (Da :: O) as2 st2 H2) xs2 acc2 ∧
          PostE K c O as s.st H W σ Q (lcL vs b t f (ds.drop (i + 1)) acc2 ⟨s1.env, st2⟩), fun H2 hN => ⟨ds.length - (i + 1), by omega, rfl, hlt, hN⟩, fun x H3 hyld => ?_⟩
        obtain ⟨hk, rx⟩ := hy x H3 hyld
        have G3 := G'.grow hk
        have x3 : Stp as' st' H' as' st' H3 := Stp.same G'.lenC hk
        have hD3 := hk _ _ hD
        have ra3 := ra.ext (x3.ext (O := Da :: O))
        refine h2 (Da :: O) as' ⟨wipeE s1.env vs, st'⟩ (wipe σ vs) H3 x ds[i] _ (G3.wipe vs) rx ?_
        show match b ds[i] (wipeE s1.env vs) with
          | none => False
          | some env' => _
        cases e2 : b ds[i] (wipeE s1.env vs) with
        | none => rw [e2] at q'; exact q'
        | some env' =>
          rw [e2] at q'
          intro σ4 G4 w4
          refine ⟨(w4 vs his).trans (wipe_wipe vs vs fun _ h => h), ?_⟩
          refine h3 (Da :: O) as' ⟨env', st'⟩ σ4 H3 _ G4 ?_
          simp only at q'
          cases e3 : t ⟨env', st'⟩ with
          | none => rw [e3] at q'; exact q'
          | some r3 =>
            rw [e3] at q'
            cases r3 with
            | err y s5 => exact q'.elim
            | ok k s5 =>
              intro H5 as5 G5 x5
              have nl3 : ¬ live as' st' Da := fun z => G'.odis Da List.mem_cons_self (by obtain ⟨n, z, _⟩ := z; exact List.mem_of_getElem? z)
              have nl5 : ¬ live as5 s5.st Da := fun z => G5.odis Da List.mem_cons_self (by obtain ⟨n, z, _⟩ := z; exact List.mem_of_getElem? z)
              have hD5 : H5 Da = some (.lst xs) := x5.keep Da _ hD3 nl3 noTbl_lst
              have ra5 := ra3.ext (x5.ext (O := Da :: O))
              have Gb := G3.reframe x5 G5
              cases k with
              | false => exact ⟨as5, s5.st, acc, xs, Gb, x'.trans (x3.trans x5), hD5, ra5, q'⟩
              | true =>
                simp only at q'
                refine h4 (Da :: O) as5 s5 σ4 H5 _ G5 (PostE.fz ?_)
                cases e4 : fz f s5 with
                | none => rw [e4] at q'; exact q'
                | some r6 =>
                  rw [e4] at q'
                  cases r6 with
                  | err y s6 => exact q'.elim
                  | ok ev s6 =>
                    cases ev with
                    | cell n => exact q'.elim
                    | fresh n => exact q'.elim
                    | val d' =>
                      simp only at q'
                      split at q'
                      · rename_i hlen
                        intro v6 H6 as6 eg x6 _
                        obtain ⟨G6, r6⟩ := eg
                        have hD6 : H6 Da = some (.lst xs) := x6.keep Da _ hD5 nl5 noTbl_lst
                        have ra6 := ra5.ext (x6.ext (O := Da :: O))
                        have Gc := Gb.reframe x6 G6
                        have hne : H6 Da ≠ none := by rw [hD6]; simp
                        refine ⟨xs, hD6, ?_, as6, s6.st, acc ++ [d'], xs ++ [v6], Gc.updHidden List.mem_cons_self hD6, ((x'.trans (x3.trans x5)).trans x6).updNew hDa, upd_same, ?_, q'⟩
                        · rw [ra6.length, sizeLine_eq]; omega
                        · rw [hid_upd_hidden List.mem_cons_self]
                          exact ra6.append (.cons r6 .nil)
                      · exact q'.elim
      · have e : i = ds.length := by omega
        subst e
        refine .inl ⟨hw.1, ?_⟩
        rw [List.drop_length] at q'
        exact q' (.ref Da) H' as' ⟨Da, xs, rfl, hD, nO, G', ra⟩ (x1.trans x') (fun a ea => by cases ea; exact hDa0)
end
section
variable {c : Ctx} {X : Cx} {W : WX}
structure DTs (c : Ctx) (X : Cx) (W : WX) (ifs : List Expr) (tt : TT) (t : S → Option (R Bool)) : Prop where
  pts : PTs X ifs tt
  ok : IT X.K c W tt t
def yesT : S → Option (R Bool) := fun s => some (.ok true s)
theorem dts_nil : DTs c X W [] tYes yesT := ⟨pts_nil, fun O as s σ H Q G q => q H as G (Stp.refl G.lenC)⟩
theorem dts_one {e : Expr} {tt : TT} {t : S → Option (R Bool)} (h : DT c X W e tt t) : DTs c X W [e] tt t := ⟨pts_one h.pt, h.ok⟩
section
variable {elt tg iter : Expr} {ifs : List Expr} {scope : Scope} {own : List (Str × Nat)} {pos spos : Pos} {wi : TI} {g : TG} {tt : TT} {te : TE} {is : List Nat} {it : S → Option (R (List D))} {b : D → List SV → Option (List SV)} {t : S → Option (R Bool)} {f : S → Option (R EV)}
theorem lc_ie (his : ∀ i ∈ is, i ∈ own.map (·.2)) (hi : DI c X W tg iter wi it)
    (hg : ∀ (s : Shared) (H : Hp) (C : Addr) (cl : List (Str × Addr)) (fp : List Addr), DG c (X.blk s H scope (compEnvC scope cl C X.env) fp) tg is g b)
    (ht : ∀ (s : Shared) (H : Hp) (C : Addr) (cl : List (Str × Addr)) (fp : List Addr), DTs c (X.blk s H scope (compEnvC scope cl C X.env) fp) W0 ifs tt t)
    (he : ∀ (s : Shared) (H : Hp) (C : Addr) (cl : List (Str × Addr)) (fp : List Addr), DE c (X.blk s H scope (compEnvC scope cl C X.env) fp) W0 elt te f) : IE X.K c W (tLc wi g tt te (own.map (·.2))) (lcE (own.map (·.2)) it b t f) :=
  lc_ok his hi.ok (fun O as s σ H v d Q => (hg ({} : Shared) (fun _ => none) 0 [] []).ok O as s σ H v d Q) (fun O as s σ H Q => (ht ({} : Shared) (fun _ => none) 0 [] []).ok O as s σ H Q) (fun O as s σ H Q => (he ({} : Shared) (fun _ => none) 0 [] []).ok O as s σ H Q)
theorem de_lc (hc : X.calm = true) (hN : X.N.Nodup) (his : ∀ i ∈ is, i ∈ own.map (·.2)) (hi : DI c X W tg iter wi it) (ok : BlkOk X.N X.env.scope scope own)
    (hg : ∀ (s : Shared) (H : Hp) (C : Addr) (cl : List (Str × Addr)) (fp : List Addr), DG c (X.blk s H scope (compEnvC scope cl C X.env) fp) tg is g b)
    (ht : ∀ (s : Shared) (H : Hp) (C : Addr) (cl : List (Str × Addr)) (fp : List Addr), DTs c (X.blk s H scope (compEnvC scope cl C X.env) fp) W0 ifs tt t)
    (he : ∀ (s : Shared) (H : Hp) (C : Addr) (cl : List (Str × Addr)) (fp : List Addr), DE c (X.blk s H scope (compEnvC scope cl C X.env) fp) W0 elt te f) (hs : ∀ x, foldedSetIterable iter X.env x = pure x := by intro _; rfl) :
    DE c X W (.ListComp elt [⟨tg, iter, ifs, 0⟩] scope pos) (tLc wi g tt te (own.map (·.2))) (lcE (own.map (·.2)) it b t f) :=
  ⟨pe_lc hc hN hi.pi ok (fun s H C cl fp => (hg s H C cl fp).pg) (fun s H C cl fp => (ht s H C cl fp).pts) (fun s H C cl fp => (he s H C cl fp).pe) hs, lc_ie his hi hg ht he⟩
/-- y = [..] on one line -/
theorem ds_setLcF {i : Nat} {y : Str} {py : Pos} (hc : X.calm = true) (hN : X.N.Nodup) (hy : X.N[i]? = some y) (hyl : X.env.scope.names.lookup y = some .local)
    (hsw : swapsWith (.ListComp elt [⟨tg, iter, ifs, 0⟩] scope pos) (some (.Name y py)) spos.line X.env = pure true) (his : ∀ i ∈ is, i ∈ own.map (·.2)) (hi : DI c X W tg iter wi it) (ok : BlkOk X.N X.env.scope scope own)
    (hg : ∀ (s : Shared) (H : Hp) (C : Addr) (cl : List (Str × Addr)) (fp : List Addr), DG c (X.blk s H scope (compEnvC scope cl C X.env) fp) tg is g b)
    (ht : ∀ (s : Shared) (H : Hp) (C : Addr) (cl : List (Str × Addr)) (fp : List Addr), DTs c (X.blk s H scope (compEnvC scope cl C X.env) fp) W0 ifs tt t)
    (he : ∀ (s : Shared) (H : Hp) (C : Addr) (cl : List (Str × Addr)) (fp : List Addr), DE c (X.blk s H scope (compEnvC scope cl C X.env) fp) W0 elt te f) (hs : ∀ x, foldedSetIterable iter X.env x = pure x := by intro _; rfl) :
    DS c X W (.Assign [.Name y py] (.ListComp elt [⟨tg, iter, ifs, 0⟩] scope pos) spos) (tAsg (tLc wi g tt te (own.map (·.2))) (gName i)) (setF i (lcE (own.map (·.2)) it b t f)) :=
  ⟨ps_setLc hc hN hy hyl hsw hi.pi ok (fun s H C cl fp => (hg s H C cl fp).pg) (fun s H C cl fp => (ht s H C cl fp).pts) (fun s H C cl fp => (he s H C cl fp).pe) hs, setF_ok i (lc_ie his hi hg ht he)⟩
theorem ds_setLcC {i : Nat} {y : Str} {py : Pos} (hc : X.calm = true) (hN : X.N.Nodup) (hy : X.N[i]? = some y) (hyl : X.env.scope.names.lookup y = some .local)
    (hsw : swapsWith (.ListComp elt [⟨tg, iter, ifs, 0⟩] scope pos) (some (.Name y py)) spos.line X.env = pure true) (his : ∀ i ∈ is, i ∈ own.map (·.2)) (hi : DI c X W tg iter wi it) (ok : BlkOk X.N X.env.scope scope own)
    (hg : ∀ (s : Shared) (H : Hp) (C : Addr) (cl : List (Str × Addr)) (fp : List Addr), DG c (X.blk s H scope (compEnvC scope cl C X.env) fp) tg is g b)
    (ht : ∀ (s : Shared) (H : Hp) (C : Addr) (cl : List (Str × Addr)) (fp : List Addr), DTs c (X.blk s H scope (compEnvC scope cl C X.env) fp) W0 ifs tt t)
    (he : ∀ (s : Shared) (H : Hp) (C : Addr) (cl : List (Str × Addr)) (fp : List Addr), DE c (X.blk s H scope (compEnvC scope cl C X.env) fp) W0 elt te f) (hs : ∀ x, foldedSetIterable iter X.env x = pure x := by intro _; rfl) :
    DS c X W (.Assign [.Name y py] (.ListComp elt [⟨tg, iter, ifs, 0⟩] scope pos) spos) (tAsg (tLc wi g tt te (own.map (·.2))) (gName i)) (setC i (lcE (own.map (·.2)) it b t f)) :=
  ⟨ps_setLc hc hN hy hyl hsw hi.pi ok (fun s H C cl fp => (hg s H C cl fp).pg) (fun s H C cl fp => (ht s H C cl fp).pts) (fun s H C cl fp => (he s H C cl fp).pe) hs, setC_ok i (lc_ie his hi hg ht he)⟩
end
end
end DL
namespace DL
open PySem PySem.Spec PyProof.Rows L2
/-! ### defs -/
/-- a def's function: arguments and store to a result -/
abbrev FnD := List SV → List MO → Option (R EV)
def PostF (K : PySem.W.Frag) (c : Ctx) (O as : List Addr) (st : List MO) (H : Hp) (Q : VK) (E : XK) : Option (R EV) → Prop
  | none => False
  | some (.ok ev s') => ∀ v H' as', EvGood K c O as' ⟨[], s'.st⟩ [] H' ev v → Stp as st H as' s'.st H' → FrAt H ev v → Q v H'
  | some (.err x s') => ∀ d H' as', Good K c O as' ⟨[], s'.st⟩ [] H' → Stp as st H as' s'.st H' → ErOk K (Hid O as' s'.st H') x d H' → E (.ref (c.ec x.cls)) d H'
/-- the promise of a def with n parameters -/
def spF (K : PySem.W.Frag) (c : Ctx) (n : Nat) (F : FnD) : Sp := fun vs H Q E => vs.length = n ∧ ∃ O as args st, Good K c O as ⟨args, st⟩ (vs.map some) H ∧ PostF K c O as st H Q E (F args st)
def plainMO : MO → Bool
  | .ins _ _ => false
  | _ => true
/-- what is left behind a body: new cells go -/
def finF (n : Nat) : Option RS → Option (R EV)
  | some (.next s') => if (s'.st.take n).all plainMO then some (.ok (.val .none) ⟨[], s'.st.take n⟩) else none
  | some (.ret (.val d) s') => if (s'.st.take n).all plainMO then some (.ok (.val d) ⟨[], s'.st.take n⟩) else none
  | some (.ret (.fresh ds) s') => if (s'.st.take n).all plainMO then some (.ok (.fresh ds) ⟨[], s'.st.take n⟩) else none
  | some (.ret (.cell m) s') => if (s'.st.take n).all plainMO then (if m < n then some (.ok (.cell m) ⟨[], s'.st.take n⟩) else match s'.st[m]? with
    | some (.lst ds) => some (.ok (.fresh ds) ⟨[], s'.st.take n⟩)
    | _ => none) else none
  | some (.err x s') => if (s'.st.take n).all plainMO then some (.err x ⟨[], s'.st.take n⟩) else none
  | none => none
def runF (nl : Nat) (g : S → Option RS) : FnD := fun args st => finF st.length (g ⟨args ++ List.replicate (nl - args.length) .un, st⟩)
section
variable {K : PySem.W.Frag} {c : Ctx} {W : WX} {O as as' : List Addr} {s s' : S} {st st' : List MO} {σ σ' : L2.St} {H H' : Hp}
theorem live_take {n : Nat} {b : Addr} (h : live (as.take n) (st.take n) b) : live as st b := by
  obtain ⟨m, h1, mo, h2, h3⟩ := h
  rw [List.getElem?_take] at h1 h2
  split at h1
  · rename_i hm
    rw [if_pos hm] at h2
    exact ⟨m, h1, mo, h2, h3⟩
  · cases h1
theorem hid_take {n : Nat} : Ext (Hid O as st H) (Hid O (as.take n) (st.take n) H) := fun b o h nt => by
  obtain ⟨h1, h2, h3⟩ := hid_some h
  exact hid_of h1 (fun z => h2 (live_take z)) h3
/-- cells go, at the end, where no object names them -/
theorem Good.drop {n : Nat} (G : Good K c O as s σ H) (hp : (s.st.take n).all plainMO = true) (hx : c.ex (as.take n) (Hid O (as.take n) (s.st.take n) H)) : Good K c O (as.take n) ⟨[], s.st.take n⟩ [] H := by
  refine ⟨rfl, by simp [G.lenC], G.nd.sublist (List.take_sublist n as), fun a ha z => G.odis a ha (List.mem_of_mem_take z), G.odom, fun a ha => G.cdom a (List.mem_of_mem_take ha), fun i sv h => by simp at h, fun m a mo h1 h2 => ?_, G.tabs, (fun a ns e => (G.scr a ns e).sub fun _ z2 z3 => ⟨z2, fun q => z3 (List.mem_of_mem_take q)⟩), hx⟩
  have h2 : (s.st.take n)[m]? = some mo := h2
  have hpl : plainMO mo = true := List.all_eq_true.mp hp mo (List.mem_of_getElem? h2)
  rw [List.getElem?_take] at h1 h2
  split at h1
  · rename_i hm
    rw [if_pos hm] at h2
    have := G.cells m a mo h1 h2
    cases mo with
    | dead => trivial
    | lst ds => obtain ⟨vs, e1, e2⟩ := this; exact ⟨vs, e1, e2.ext hid_take⟩
    | ins C fs => cases hpl
  · cases h1
theorem Stp.drop {n : Nat} (x : Stp as st H as' st' H') (hn : n = st.length) (hl : as'.length = st'.length) : Stp as st H (as'.take n) (st'.take n) H' := by
  obtain ⟨more, e, hm⟩ := x.pre
  have e2 : as'.take n = as := by
    rw [e, hn, ← x.len]
    simp
  refine ⟨⟨[], by rw [e2]; simp, by simp⟩, x.len, fun m h => ?_, x.keep, x.dom⟩
  have h3 := x.dead m h
  have hlt := (List.getElem?_eq_some_iff.mp h).1
  rw [List.getElem?_take, if_pos (by omega)]
  exact h3
theorem ex_drop2 {O' : List Addr} {s0 : S} {σ0 : L2.St} (G0 : Good K c O as s0 σ0 H) (x : Stp as s0.st H as' st' H') (xe : Ext (Hid O as s0.st H) (Hid O' as' st' H')) : c.ex (as'.take s0.st.length) (Hid O' (as'.take s0.st.length) (st'.take s0.st.length) H') := by
  obtain ⟨more, e, hm⟩ := x.pre
  have e2 : as'.take s0.st.length = as := by
    rw [e, ← x.len]
    simp
  have x2 : Ext (Hid O as s0.st H) (Hid O' (as'.take s0.st.length) (st'.take s0.st.length) H') := xe.trans hid_take
  rw [e2] at x2 ⊢
  exact c.exk x2 G0.ex
theorem ex_drop {s0 : S} {σ0 : L2.St} (G0 : Good K c O as s0 σ0 H) (x : Stp as s0.st H as' st' H') : c.ex (as'.take s0.st.length) (Hid O (as'.take s0.st.length) (st'.take s0.st.length) H') := ex_drop2 G0 x x.ext
theorem fin_ok {s0 : S} {σ0 : L2.St} (G0 : Good K c O as s0 σ0 H) (hst : s0.st = st) {r : Option RS} {B : Ends} {Q : VK} {E : XK} (h : PostF K c O as st H Q E (finF st.length r)) (hn : ∀ σ H, B.nx σ H = Q .non H) (hr : B.rt = Q) : PostS K c O as st H (fun cls d _ H => E cls d H) B r := by
  subst hst
  cases r with
  | none => exact h
  | some r =>
    cases r with
    | next s' =>
      simp only [finF] at h
      split at h
      · rename_i hp
        intro σ' H' as' G x
        rw [hn]
        exact h .non H' _ ⟨G.drop hp (ex_drop G0 x), .non⟩ (x.drop rfl G.lenC) trivial
      · exact h.elim
    | err y s' =>
      simp only [finF] at h
      split at h
      · rename_i hp
        intro d σ' H' as' G x er
        refine h d H' _ (G.drop hp (ex_drop G0 x)) (x.drop rfl G.lenC) ?_
        unfold ErOk at er ⊢
        split at er
        · exact er
        · obtain ⟨p, fs', e1, e2, e3, e4⟩ := er
          exact ⟨p, fs', e1, e2, e3, fun f dd hf => let ⟨v, z1, z2⟩ := e4 f dd hf; ⟨v, z1, z2.ext hid_take⟩⟩
      · exact h.elim
    | ret ev s' =>
      intro v σ' H' as' eg x fr
      rw [hr]
      cases ev with
      | val d =>
        simp only [finF] at h
        split at h
        · rename_i hp
          exact h v H' _ ⟨eg.1.drop hp (ex_drop G0 x), eg.2.ext hid_take⟩ (x.drop rfl eg.1.lenC) trivial
        · exact h.elim
      | fresh ds =>
        simp only [finF] at h
        split at h
        · rename_i hp
          obtain ⟨a, vs, e, h1, h2, G, r⟩ := eg
          exact h v H' _ ⟨a, vs, e, h1, h2, G.drop hp (ex_drop2 G0 x (ext_hide x (fr a e))), r.ext hid_take⟩ (x.drop rfl G.lenC) fr
        · exact h.elim
      | cell m =>
        obtain ⟨G, a, h1, h2⟩ := eg
        simp only [finF] at h
        split at h
        · rename_i hp
          split at h
          · rename_i hm
            exact h v H' _ ⟨G.drop hp (ex_drop G0 x), a, by rw [List.getElem?_take, if_pos hm]; exact h1, h2⟩ (x.drop rfl G.lenC) trivial
          · rename_i hm
            cases e : s'.st[m]? with
            | none => rw [e] at h; exact h.elim
            | some mo =>
              rw [e] at h
              cases mo with
              | dead => exact h.elim
              | ins C fs => exact h.elim
              | lst ds =>
                subst h2
                obtain ⟨vs, e1, r⟩ := G.cells m a _ h1 e
                obtain ⟨more, ea, hmore⟩ := x.pre
                have hH : NoneT H a := by
                  rw [ea, List.getElem?_append_right (by have := x.len; omega)] at h1
                  exact hmore a (List.mem_of_getElem? h1)
                have Gd := G.drop hp (ex_drop G0 x)
                have nA : a ∉ as'.take s0.st.length := fun z => by
                  obtain ⟨j, hj⟩ := List.mem_iff_getElem?.mp z
                  rw [List.getElem?_take] at hj
                  split at hj
                  · rename_i hjl
                    have := nodup_at G.nd hj h1
                    omega
                  · cases hj
                have nO : a ∉ O := fun z => G.odis a z (List.mem_of_getElem? h1)
                have xt : Ext (Hid O as' s'.st H') (Hid (a :: O) (as'.take s0.st.length) (s'.st.take s0.st.length) H') := fun b o hb nt => by
                  obtain ⟨z1, z2, z3⟩ := hid_some hb
                  refine hid_of (fun z => ?_) (fun z => z2 (live_take z)) z3
                  rcases List.mem_cons.mp z with z | z
                  · exact z2 ⟨m, by rw [z]; exact h1, _, e, by simp⟩
                  · exact z1 z
                have ex_full : c.ex (as'.take s0.st.length) (Hid O as' s'.st H') := by
                  have e2 : as'.take s0.st.length = as := by
                    rw [ea, ← x.len]
                    simp
                  rw [e2]
                  exact c.exk x.ext G0.ex
                refine h (.ref a) H' (as'.take s0.st.length) ⟨a, vs, rfl, e1, nO, ?_, r.ext xt⟩ (x.drop rfl G.lenC) (fun b eb => by cases eb; exact hH)
                refine ⟨rfl, Gd.lenC, Gd.nd, fun b hb z => ?_, fun b hb => ?_, Gd.cdom, fun i sv h => by simp at h, fun k b mo q1 q2 => ?_, Gd.tabs, (fun b ns e => (G.scr b ns e).sub fun _ z2 z3 => ⟨fun q => (List.mem_cons.mp q).elim (fun q => z3 (by rw [q]; exact List.mem_of_getElem? h1)) z2, fun q => z3 (List.mem_of_mem_take q)⟩), c.exk xt (ex_full)⟩
                · rcases List.mem_cons.mp hb with z' | z'
                  · rw [z'] at z; exact nA z
                  · exact Gd.odis b z' z
                · rcases List.mem_cons.mp hb with z' | z'
                  · rw [z', e1]; exact ⟨vs, rfl⟩
                  · exact Gd.odom b z'
                · have q2 : (s'.st.take s0.st.length)[k]? = some mo := q2
                  have hpl : plainMO mo = true := List.all_eq_true.mp hp mo (List.mem_of_getElem? q2)
                  rw [List.getElem?_take] at q1 q2
                  split at q1
                  · rename_i hk
                    rw [if_pos hk] at q2
                    have := G.cells k b mo q1 q2
                    cases mo with
                    | dead => trivial
                    | lst ds => obtain ⟨vs, e1, e2⟩ := this; exact ⟨vs, e1, e2.ext xt⟩
                    | ins C fs => cases hpl
                  · cases q1
        · exact h.elim
end
section
variable {P : Program} {w : World} {K : PySem.W.Frag} {mg : Str → Option Value} {base : Heap} {c : Ctx}
/-- THE RULE for a def -/
theorem def_ok {x qual : Str} {st : Stmt} {f : Addr} {fd : FuncData} {N ps : List Str} {k : Nat} {g : S → Option RS} (F : Fun K x qual st f fd) (Sc : FnScope N ps (defScope st)) (hl : ps.length ≤ N.length)
    (hbody : ∀ (cdv : Value) (A : Around) (outer : List Env) (s : Shared) (H : Hp) (E : XK), Room k (A.deeper (envOfC qual (defScope st) s.heap.objs.size f cdv)) →
      ∃ t, DB c (cxOf (L2.CX P w) P w K mg base N qual (defScope st) f cdv A outer s H E) (fun cls d _ H => E cls d H) (defBody st) t g) : FnOk P w K mg base (L2.CX P w) (k + 1) f fd ps (spF K c ps.length (runF N.length g)) := by
  refine F.okX Sc (fun vs H Q E h => h.1) fun cdv A outer s H vs Q E hr hsp => ?_
  obtain ⟨t, hb⟩ := hbody cdv A outer s H E hr
  obtain ⟨hlen, O, as, args, st0, G, q⟩ := hsp
  refine ⟨t, hb.pss, ?_⟩
  have ha : args.length = vs.length := by
    have := G.lenE
    simpa using this
  have e : L2.start N vs = vs.map some ++ List.replicate (N.length - vs.length) none := rfl
  have G2 : Good K c O as ⟨args ++ List.replicate (N.length - args.length) .un, st0⟩ (L2.start N vs) H := by
    rw [e]
    refine G.frame (by simp [ha]) fun i sv h => ?_
    by_cases hi : i < args.length
    · rw [List.getElem?_append_left hi] at h
      rw [List.getElem?_append_left (by simpa [← ha] using hi)]
      exact G.slots i sv h
    · rw [List.getElem?_append_right (by omega)] at h
      have : sv = .un := by
        have := List.mem_of_getElem? h
        exact (List.mem_replicate.mp this).2
      rw [this]
      trivial
  have ok : IS K c (fun cls d _ H => E cls d H) t g := hb.ok
  exact ok O as ⟨args ++ List.replicate (N.length - args.length) SV.un, st0⟩ _ H _ G2 (fin_ok (st := st0) G2 rfl q (fun _ _ => rfl) rfl)
/-- a weaker function -/
theorem def_imp {k n : Nat} {f : Addr} {fd : FuncData} {ps : List Str} {F F' : FnD} (h : FnOk P w K mg base (L2.CX P w) k f fd ps (spF K c n F)) (hF : ∀ args st r, F' args st = some r → F args st = some r) : FnOk P w K mg base (L2.CX P w) k f fd ps (spF K c n F') :=
  h.imp fun vs H Q E ⟨h1, O, as, args, st, G, q⟩ => ⟨h1, O, as, args, st, G, by
    cases e : F' args st with
    | none => rw [e] at q; exact q.elim
    | some r => rw [hF args st r e]; rw [e] at q; exact q⟩
end
/-! ### calls -/
def callF (n : Nat) (F : FnD) (fa : S → Option (R (List SV))) : S → Option (R EV) := bE fa fun evs s => if evs.length = n then (match F evs s.st with
  | none => none
  | some (.ok ev s') => some (.ok ev ⟨s.env, s'.st⟩)
  | some (.err x s') => some (.err x ⟨s.env, s'.st⟩)) else none
section
variable {c : Ctx} {X : Cx} {W : WX} {K : PySem.W.Frag}
theorem slots_args {O as : List Addr} {st : List MO} {H : Hp} : ∀ {evs : List SV} {vs : List V}, Paired (ArgOk K c O as st H) evs vs → ∀ (i : Nat) (sv : SV), evs[i]? = some sv → SlotOk K c (Hid O as st H) as sv ((vs.map some)[i]?.join)
  | _, _, .nil, i, sv, h => by simp at h
  | ev :: _, v :: _, .cons h t, 0, sv, e => by
    have e : ev = sv := by simpa using e
    subst e
    exact h
  | _ :: _, _ :: _, .cons h t, i + 1, sv, e => by
    simp only [List.map_cons, List.getElem?_cons_succ] at e ⊢
    exact slots_args t i sv e
theorem paired_len {α β : Type} {R' : α → β → Prop} : ∀ {xs : List α} {ys : List β}, Paired R' xs ys → xs.length = ys.length
  | _, _, .nil => rfl
  | _, _, .cons _ t => by simp [paired_len t]
theorem call_ok {n : Nat} {F : FnD} {t : TA} {fa : S → Option (R (List SV))} (ha : IA K c W t fa) : IE K c W (tCallS (spF K c n F) (WE W) t) (callF n F fa) := by
  intro O as s σ H Q G q
  refine ha O as s σ H _ G (PostE.args G q fun evs s' vs H' as' G' pr x q2 => ?_)
  have pl := paired_len pr
  by_cases hn : evs.length = n
  · rw [if_pos hn] at q2
    refine ⟨by rw [← pl]; exact hn, O, as', evs, s'.st, G'.frame (by simp [pl]) (slots_args pr), ?_⟩
    have G0 : Good K c O as' ⟨s'.env, s'.st⟩ σ H' := G'
    cases e : F evs s'.st with
    | none => rw [e] at q2; exact q2.elim
    | some r =>
      rw [e] at q2
      cases r with
      | ok ev s2 => exact fun v H2 as2 eg x2 fr => q2 v H2 as2 (EvGood.reframe (s' := ⟨[], s2.st⟩) G0 x2 eg fr) x2 fr
      | err y s2 => exact fun d H2 as2 G2 x2 er => q2 d H2 as2 (Good.reframe (s' := ⟨[], s2.st⟩) G0 x2 G2) x2 er
  · rw [if_neg hn] at q2
    exact q2.elim
theorem de_call {K : PySem.W.Frag} {k n : Nat} {f : Addr} {fd : FuncData} {ps : List Str} {F : FnD} {x : Str} {p pos : Pos} {e : Expr} {es : List Expr} {t : TA} {fa : S → Option (R (List SV))} (Fk : FnOk X.prog X.w X.K X.mg X.base (L2.CX X.prog X.w) k f fd ps (spF K c n F)) (hr : Room k X.A) (hg : Gl X x) (hm : X.mg x = some (.ref f))
    (hk : PySem.W.keepIn X.K (.ref f) = true) (hb : Binds X.K fd ps []) (tk : Takes X W) (ha : DA c X W (e :: es) t fa) (hK : X.K = K := by rfl) (hdb : (x == ("__debug__" : Str)) = false := by decide)
    (he : starEach (e :: es) X.env = (false, eval e X.env) :: starEach es X.env := by rfl) (hpl : (backTo pos (starEach es X.env)).any (·.1) = false := by rfl) : DE c X W (.Call (.Name x p) (e :: es) [] pos) (tCallS (spF K c n F) (WE W) t) (callF n F fa) :=
  by
  subst hK
  exact ⟨pe_callS Fk hr hg hm hk hb (fun σ => passAt tk σ) ha.pa hdb he hpl, call_ok ha.ok⟩
/-- raise X('..') -/
def raiseS (x : Er) : S → Option RS := fun s => some (.err x s)
theorem ds_raise {e : Expr} {n : Str} {pos : Pos} (hc : X.calm = true) (tk : Takes X W) (h : PMk X e (fun _ H Q => Q (.ref (c.ec n)) none H)) : DS c X W (.Raise (some e) none pos) (fun _ σ H => W (.ref (c.ec n)) none σ H) (raiseS ⟨n, none⟩) :=
  ⟨ps_raise (t := fun _ H Q => Q (.ref (c.ec n)) none H) hc tk h, fun O as s σ H B G q => q none σ H as G (Stp.refl G.lenC) rfl⟩
end
end DL
set_option maxHeartbeats 4000000
/-! DLX: more of the library's own: tuple * int at its edges, sum of a tuple, in a tuple -/
namespace DL
open PySem PySem.Spec PyProof.Rows L2
theorem tuple_mulS (l : Addr) (items : Array Value) (n : Nat) (dd : Option Addr) (sl : Array (Option Value)) (x : Int) (u : Tok) (c0 : (decide (x < -(2 ^ 63)) || decide (x ≥ 2 ^ 63)) = false) (c1 : (items.isEmpty || x == 1) = true) :
    Meets (Builtin.«tuple.__mul__» ⟨[.ref l, .int x u], []⟩) (fun _ R s => s.heap.get? l = some { cls := .type "tuple", dict := dd, data := .seq items n, slots := sl } ∧ R (.ok (.ret (Value.ref l))) s) :=
  .of_wp fun prog w A R s h => by
    obtain ⟨hp, g, d, tk, os⟩ := s
    obtain ⟨hl, h⟩ := h
    have f1 := AutoSeq1.idx_int
    wp_walk using AutoSeq1.wpAny_loadPart' hl
    repeat (first
      | (refine wpAny_ite_false (decide_eq_false (by rw [c0]; exact Bool.false_ne_true)) ?_; wp_walk using AutoSeq1.wpAny_loadPart' hl)
      | (refine wpAny_ite_true (decide_eq_true (by rw [c1])) ?_; wp_walk using AutoSeq1.wpAny_loadPart' hl))
    exact ⟨_, rfl, h⟩
theorem tuple_mulZ (l : Addr) (items : Array Value) (n : Nat) (dd : Option Addr) (sl : Array (Option Value)) (x : Int) (u : Tok) (c0 : (decide (x < -(2 ^ 63)) || decide (x ≥ 2 ^ 63)) = false) (c1 : (items.isEmpty || x == 1) = false) (c2 : (decide (x ≤ 0) || items.isEmpty) = true) :
    Meets (Builtin.«tuple.__mul__» ⟨[.ref l, .int x u], []⟩) (fun _ R s => s.heap.get? l = some { cls := .type "tuple", dict := dd, data := .seq items n, slots := sl } ∧
      R (.ok (.ret (Value.ref s.heap.objs.size))) { s with heap := s.heap.push { cls := Value.type "tuple", data := Data.seq #[] }, toks := s.toks }) :=
  .of_wp fun prog w A R s h => by
    obtain ⟨hp, g, d, tk, os⟩ := s
    obtain ⟨hl, h⟩ := h
    have f1 := AutoSeq1.idx_int
    wp_walk using AutoSeq1.wpAny_loadPart' hl
    repeat (first
      | (refine wpAny_ite_false (decide_eq_false (by rw [c0]; exact Bool.false_ne_true)) ?_; wp_walk using AutoSeq1.wpAny_loadPart' hl)
      | (refine wpAny_ite_false (decide_eq_false (by rw [c1]; exact Bool.false_ne_true)) ?_; wp_walk using AutoSeq1.wpAny_loadPart' hl)
      | (refine wpAny_ite_true (decide_eq_true (by rw [c2])) ?_; wp_walk using AutoSeq1.wpAny_loadPart' hl))
    exact ⟨_, rfl, h⟩
section
variable {X : Cx}
/-- t * k at its edges: t itself, or a new empty tuple -/
def rRepE (K : PySem.W.Frag) : R2 := fun x y H Q => ∃ l k xs, x = .ref l ∧ y = .int k ∧ SqT K H l xs ∧ -1000 ≤ k ∧ k ≤ 1000 ∧ ((xs = [] ∨ k = 1) ∧ Q (.ref l) H ∨ (xs ≠ [] ∧ k ≤ 0) ∧ ∀ p, H p = none → Q (.ref p) (upd H p (.tup [])))
theorem op_repE : OpR X (binaryOp .Mult) (rRepE X.K) := by
  intro pins s σ H x y v u Q I rx ry h
  obtain ⟨l, k, xs, rfl, rfl, hT, hk1, hk2, h⟩ := h
  cases rx
  obtain ⟨t, rfl⟩ := ry
  obtain ⟨its, r, ⟨⟨cls, dd, data, sl⟩, ho, hc, n, hd⟩, hs⟩ := I.tuple hT
  simp only at hc hd
  subst hc hd
  have hle : its.length = xs.length := r.length.symm
  have c0 : (decide (k < -(2 ^ 63)) || decide (k ≥ 2 ^ 63)) = false := by
    rw [decide_eq_false (by omega), decide_eq_false (by omega)] <;> rfl
  have hie : its.toArray.isEmpty = decide (xs = []) := by
    cases its with
    | nil =>
      have : xs = [] := List.eq_nil_of_length_eq_zero (by simpa using hle.symm)
      subst this
      rfl
    | cons a b =>
      have : xs ≠ [] := fun e => by rw [e] at hle; simp at hle
      rw [decide_eq_false this]
      rfl
  rcases h with ⟨h1, q⟩ | ⟨⟨h1, h2⟩, q⟩
  · have c1 : (its.toArray.isEmpty || k == 1) = true := by
      rw [hie]
      rcases h1 with h1 | h1
      · rw [decide_eq_true h1]; rfl
      · subst h1; simp
    refine wpAny_binaryOp_repeat_ref (T := "tuple") (U := "int") (by decide) ⟨_, ho, rfl⟩ (fun s' => typeIs_int s' k t) noFill_tuple_mul F.fills_int_mul F.slot_int_rmul repeat_tuple F.slot_int_index.lookup
      (call_meets F.slot_int_rmul (typeIs_int s k t) F.entry_int_rmul (F.args_int_rmul_2 _ _) (int_rmul_tuple k t l its.toArray n dd sl)
        ⟨ho, rfl, ⟨_, ho, rfl⟩, call_meets F.slot_tuple_mul ⟨_, ho, rfl⟩ F.entry_tuple_mul (F.args_tuple_mul_2 _ _) (tuple_mulS l its.toArray n dd sl k t c0 c1) ⟨ho, ?_⟩⟩)
    exact ⟨.ref l, H, I, rfl, q⟩
  · have c1 : (its.toArray.isEmpty || k == 1) = false := by
      rw [hie, decide_eq_false h1, Bool.false_or]
      exact beq_eq_false_iff_ne.mpr (by omega)
    have c2 : (decide (k ≤ 0) || its.toArray.isEmpty) = true := by
      rw [decide_eq_true h2] <;> rfl
    refine wpAny_binaryOp_repeat_ref (T := "tuple") (U := "int") (by decide) ⟨_, ho, rfl⟩ (fun s' => typeIs_int s' k t) noFill_tuple_mul F.fills_int_mul F.slot_int_rmul repeat_tuple F.slot_int_index.lookup
      (call_meets F.slot_int_rmul (typeIs_int s k t) F.entry_int_rmul (F.args_int_rmul_2 _ _) (int_rmul_tuple k t l its.toArray n dd sl)
        ⟨ho, rfl, ⟨_, ho, rfl⟩, call_meets F.slot_tuple_mul ⟨_, ho, rfl⟩ F.entry_tuple_mul (F.args_tuple_mul_2 _ _) (tuple_mulZ l its.toArray n dd sl k t c0 c1 c2) ⟨ho, ?_⟩⟩)
    refine ⟨.ref s.heap.objs.size, _, I.laid (t' := s.toks) (o := .tup []) (fun b ob q => Heap.get?_push_of_some _ q) (Nat.le_refl _) ?_, rfl, q _ (I.hok.fresh (Nat.le_refl _))⟩
    exact ⟨by rw [sizeLine_eq]; simp, [], .nil, IsTup.new _ _⟩
end
/-! ### sum of a tuple -/
theorem sum_rawT {prog : Program} {w : World} {A : Around} {E : Value → Shared → Prop} {s : Shared} {l : Addr} {its : List Value} {ns : List Int} {Q : Value → Shared → Prop} (hh : A.handled = none) (hl : s.heap.IsTuple l its.toArray) (hi : IntsAre its ns)
    (h : ∀ h' tk t', (∀ b o, s.heap.get? b = some o → h'.get? b = some o) → Q (.int ns.sum t') { s with heap := h', toks := tk }) : wpAny (model prog w) A (call (.builtin "sum") [.ref l]) Q E s := by
  obtain ⟨xs, e⟩ := hi.allInts.items
  have hn : numsOf (intItems xs).toList = ns := by rw [← e]; exact hi.numsOf
  rw [nums_intItems] at hn
  rw [e] at hl
  have hlt : l < s.heap.objs.size := by obtain ⟨_, e, _⟩ := hl; exact Heap.lt_size e
  refine call_sum_walkG (wpAny_pyIter_tuple hl ?_)
  refine ⟨s.heap.objs.size, _, _, _, _, _, numAt xs, rfl, Walks.tuple (A := A.in1) hh _ l (Nat.ne_of_lt hlt) (intItems xs), ⟨⟨_, Heap.get?_push_size _ rfl, rfl, rfl⟩, hl.at fun o q => Heap.get?_push_of_some _ q⟩, fun b hb => ?_, (fun _ _ => intItems_at), fun h' tk t' hk => ?_⟩
  · show b < (s.heap.push _).objs.size
    rw [Heap.size_push]
    rcases List.mem_cons.mp hb with rfl | hb
    · exact Nat.lt_succ_self _
    · rcases List.mem_cons.mp hb with rfl | hb
      · exact Nat.lt_succ_of_lt hlt
      · cases hb
  · have := h h' tk t' fun b o q => hk b o (by simpa using Nat.ne_of_lt (Heap.lt_size q)) (Heap.get?_push_of_some _ q)
    have e1 : (intItems xs).size = xs.size := by simp [intItems]
    rw [e1, preSum_eq, List.take_of_length_le (by simp), hn]
    exact this
def rSumT (K : PySem.W.Frag) : List V → Hp → VK → Prop := fun vs H Q => ∃ (a : Addr) (ns : List Int), vs = [V.ref a] ∧ SqT K H a (ns.map V.int) ∧ Q (.int ns.sum) H
theorem cr_sumT {X : Cx} (hc : X.calm = true) : CallR X (.builtin "sum") (rSumT X.K) := by
  intro pins s σ H vs us Q I r h
  obtain ⟨a, ns, rfl, hs, q⟩ := h
  obtain ⟨its, rv, hl, _⟩ := I.tuple hs
  rw [Vals.ref1 r]
  exact sum_rawT (I.ok.hd hc) hl rv.ints fun h' tk t' hk => ⟨.int _, H, I.kept hk, ⟨_, rfl⟩, q⟩
/-! ### in a tuple -/
section
variable {X : Cx}
def rInT (K : PySem.W.Frag) (neg : Bool) : R2 := fun x y H Q => ∃ d ds, Dp K H x d ∧ Dp K H y (.tuple ds) ∧ SeqAt.shaped d = true ∧ SeqAt.shaped (.tuple ds) = true ∧ Q (.bl (if neg then !(ds.any fun z => PyData.eqv z d) else ds.any fun z => PyData.eqv z d)) H
theorem op_inT (hu : X.A.units + 65 < cLine) : OpR X (compareOp .In) (rInT X.K false) := by
  intro pins s σ H x y v u Q I rx ry h
  obtain ⟨d, ds, hd, he, sd, se, q⟩ := h
  obtain ⟨as, r1⟩ := Dp.reads I d x v hd rx
  obtain ⟨bs, r2⟩ := Dp.reads I (.tuple ds) y u he ry
  exact SeqAt.in_tuple_reads r2 r1 (SeqAt.canLay_of_shaped se) (SeqAt.canLay_of_shaped sd) (room_in_shaped sd hu) ⟨.bl _, H, I, rfl, q⟩
theorem op_notInT (hu : X.A.units + 65 < cLine) : OpR X (compareOp .NotIn) (rInT X.K true) := by
  intro pins s σ H x y v u Q I rx ry h
  obtain ⟨d, ds, hd, he, sd, se, q⟩ := h
  obtain ⟨as, r1⟩ := Dp.reads I d x v hd rx
  obtain ⟨bs, r2⟩ := Dp.reads I (.tuple ds) y u he ry
  exact SeqAt.notIn_tuple_reads r2 r1 (SeqAt.canLay_of_shaped se) (SeqAt.canLay_of_shaped sd) (room_in_shaped sd hu) ⟨.bl _, H, I, rfl, q⟩
/-- any size of factors that the model bears -/
def CMulX (i j : Int) : Prop := i.natAbs.log2 + j.natAbs.log2 < 100000000
theorem CMulX.ok {i j : Int} (h : CMulX i j) : IntMulOk i j := by
  have b : ∀ x : Int, Builtin.Int.intBits x ≤ x.natAbs.log2 + 1 := fun x => by
    unfold Builtin.Int.intBits
    split <;> omega
  have h1 := b i
  have h2 := b j
  have h3 : i.natAbs.log2 + j.natAbs.log2 < 100000000 := h
  have e : bitsLine = 134217728 := by decide
  intro z
  rw [Bool.and_eq_true] at z
  have z2 := z.2
  unfold Builtin.Int.intTooBig at z2
  have z3 := of_decide_eq_true z2
  rw [e] at z3
  omega
theorem op_mulX : OpR X (binaryOp .Mult) (rI CMulX fun i j => .int (i * j)) := opI fun _ _ _ _ _ _ _ hc q => mul_int q hc.ok
end
end DL
namespace DL
open PySem PySem.Spec PyProof.Rows L2
/-! ### operators, on data -/
section
variable {K : PySem.W.Frag} {c : Ctx} {X : Cx} {O as : List Addr} {s : S} {σ : L2.St} {H : Hp}
theorem Fin.val {d : D} {Q : VK} {v : V} (f : Fin K c O as s σ H (.val d) Q) (G : Good K c O as s σ H) (r : Rep K (Hid O as s.st H) v d) : Q v H := f v H ⟨G, r⟩ (fun _ _ h => h) trivial
theorem Fin.lst {ds : List D} {Q : VK} {vs : List V} (f : Fin K c O as s σ H (.fresh ds) Q) (G : Good K c O as s σ H) (r : RepA K (Hid O as s.st H) vs ds) {p : Addr} (hp : H p = none) : Q (.ref p) (upd H p (.lst vs)) :=
  f _ _ (lst_new G hp r) (same_upd hp) (fun a e => by cases e; exact .of hp)
theorem Fin.tup {ds : List D} {Q : VK} {vs : List V} (f : Fin K c O as s σ H (.val (.tuple ds)) Q) (G : Good K c O as s σ H) (r : RepA K (Hid O as s.st H) vs ds) {p : Addr} (hp : H p = none) : Q (.ref p) (upd H p (.tup vs)) :=
  f _ _ (tup_new G hp r) (same_upd hp) trivial
theorem rt_int {Hh : Hp} {v : V} {i : Int} (h : RTop K Hh H v (.int i)) : v = .int i := by cases h; rfl
theorem rt_bool {Hh : Hp} {v : V} {i : Bool} (h : RTop K Hh H v (.bool i)) : v = .bl i := by cases h; rfl
theorem rt_str {Hh : Hp} {v : V} {i : Str} (h : RTop K Hh H v (.str i)) : v = .str i := by cases h; rfl
theorem rt_non {Hh : Hp} {v : V} (h : RTop K Hh H v .none) : v = .non := by cases h; rfl
theorem rt_tup {Hh : Hp} {v : V} {ds : List D} (h : RTop K Hh H v (.tuple ds)) : ∃ a xs, v = .ref a ∧ SqT K Hh a xs ∧ RepA K Hh xs ds := by cases h with | tup h1 h2 => exact ⟨_, _, rfl, h1, h2⟩
/-- ints -/
def iOp (C : Int → Int → Bool) (g : Int → Int → Int) : D → D → Option EV
  | .int i, .int j => if C i j then some (.val (.int (g i j))) else none
  | _, _ => none
theorem p_iOp {r : R2} {C : Int → Int → Bool} {g : Int → Int → Int} (hr : ∀ i j H Q, C i j = true → Q (.int (g i j)) H → r (.int i) (.int j) H Q) : Pure2 c X r (iOp C g) := by
  intro O as s σ H x y d e ev Q G r1 r2 he fin
  cases d with
  | int i =>
    cases e with
    | int j =>
      simp only [iOp] at he
      split at he
      · rename_i hc
        cases he
        cases rt_int r1
        cases rt_int r2
        exact hr i j H Q hc (fin.val G (.int _))
      · cases he
    | _ => cases he
  | _ => cases he
def subD : D → D → Option EV := iOp (fun _ _ => true) fun i j => i - j
theorem p_sub : Pure2 c X (rI0 fun i j => .int (i - j)) subD := p_iOp fun i j H Q _ q => ⟨i, j, rfl, rfl, q⟩
def divD : D → D → Option EV := iOp (fun _ j => decide (0 < j) && decide (j.natAbs.log2 < 9000)) fun i j => i / j
theorem p_div : Pure2 c X (rI CDivW fun i j => .int (i / j)) divD := p_iOp fun i j H Q hc q => ⟨i, j, rfl, rfl, by
  simp only [Bool.and_eq_true, decide_eq_true_eq] at hc
  exact hc, q⟩
def fdivD : D → D → Option EV := iOp (fun _ j => decide (j ≠ 0) && decide (j.natAbs < 1073741824)) fun i j => i.fdiv j
theorem p_fdiv : Pure2 c X (rI CDivN fun i j => .int (i.fdiv j)) fdivD := p_iOp fun i j H Q hc q => ⟨i, j, rfl, rfl, by
  simp only [Bool.and_eq_true, decide_eq_true_eq] at hc
  exact hc, q⟩
def modD : D → D → Option EV := iOp (fun _ j => decide (0 < j)) fun i j => i % j
theorem p_mod : Pure2 c X (rI (fun _ j => 0 < j) fun i j => .int (i % j)) modD := p_iOp fun i j H Q hc q => ⟨i, j, rfl, rfl, by
  simpa using hc, q⟩
def powD : D → D → Option EV := iOp (fun i j => decide (0 ≤ j) && decide (j ≤ 1000000) && decide (i.natAbs < 2 ^ 64)) fun i j => i ^ j.toNat
theorem p_pow : Pure2 c X (rI CPow fun i j => .int (i ^ j.toNat)) powD := p_iOp fun i j H Q hc q => ⟨i, j, rfl, rfl, by
  simp only [Bool.and_eq_true, decide_eq_true_eq] at hc
  exact ⟨hc.1.1, hc.1.2, hc.2⟩, q⟩
/-- comparisons of ints -/
def cOp (g : Int → Int → Bool) : D → D → Option EV
  | .int i, .int j => some (.val (.bool (g i j)))
  | _, _ => none
theorem p_cOp {g : Int → Int → Bool} : Pure2 c X (rI0 fun i j => .bl (g i j)) (cOp g) := by
  intro O as s σ H x y d e ev Q G r1 r2 he fin
  cases d with
  | int i =>
    cases e with
    | int j =>
      cases he
      cases rt_int r1
      cases rt_int r2
      exact ⟨i, j, rfl, rfl, fin.val G (.bl _)⟩
    | _ => cases he
  | _ => cases he
abbrev ltD : D → D → Option EV := cOp fun i j => decide (i < j)
abbrev leD : D → D → Option EV := cOp fun i j => decide (i ≤ j)
abbrev gtD : D → D → Option EV := cOp fun i j => decide (j < i)
abbrev geD : D → D → Option EV := cOp fun i j => decide (j ≤ i)
/-- + -/
def addD : D → D → Option EV
  | .int i, .int j => some (.val (.int (i + j)))
  | .str x, .str y => if x.length + y.length ≤ 1000000 then some (.val (.str (x ++ y))) else none
  | .tuple xs, .tuple ys => if xs.length + ys.length ≤ 1000000 then some (.val (.tuple (xs ++ ys))) else none
  | .list xs, .list ys => if xs.length + ys.length ≤ 1000000 then some (.fresh (xs ++ ys)) else none
  | _, _ => none
def rAddA (K : PySem.W.Frag) : R2 := fun x y H Q => (∃ i j, x = .int i ∧ y = .int j ∧ Q (.int (i + j)) H) ∨ ((∃ i j, x = .str i ∧ y = .str j ∧ i.length + j.length ≤ sizeLine ∧ Q (.str (i ++ j)) H) ∨ (rCatA K x y H Q ∨ rCat x y H Q))
theorem op_addA : OpR X (binaryOp .Add) (rAddA X.K) := op_add.or (op_add_str.or (op_catA.or op_cat))
theorem p_add : Pure2 c X (rAddA X.K) addD := by
  intro O as s σ H x y d e ev Q G r1 r2 he fin
  cases d with
  | int i =>
    cases e with
    | int j =>
      cases he
      cases rt_int r1
      cases rt_int r2
      exact .inl ⟨i, j, rfl, rfl, fin.val G (.int _)⟩
    | _ => cases he
  | str i =>
    cases e with
    | str j =>
      simp only [addD] at he
      split at he
      · rename_i hl
        cases he
        cases rt_str r1
        cases rt_str r2
        exact .inr (.inl ⟨i, j, rfl, rfl, line_of hl, fin.val G (.str _)⟩)
      · cases he
    | _ => cases he
  | tuple i =>
    cases e with
    | tuple j =>
      simp only [addD] at he
      split at he
      · rename_i hl
        cases he
        obtain ⟨a, xs, rfl, h1, h2⟩ := rt_tup r1
        obtain ⟨b, ys, rfl, h3, h4⟩ := rt_tup r2
        refine .inr (.inr (.inl ⟨a, b, xs, ys, rfl, rfl, hid_ext.sqT h1, hid_ext.sqT h3, by rw [h2.length, h4.length]; exact line_of hl, fun e => ?_, fun _ e => ?_, fun _ _ p hp => fin.tup G (h2.append h4) hp⟩))
        · subst e
          cases h2
          exact fin.val G (.tup h3 h4)
        · subst e
          cases h4
          rw [List.append_nil] at fin
          exact fin.val G (.tup h1 h2)
      · cases he
    | _ => cases he
  | list i =>
    cases e with
    | list j =>
      simp only [addD] at he
      split at he
      · rename_i hl
        cases he
        obtain ⟨a, xs, rfl, h1, h2⟩ := r1
        obtain ⟨b, ys, rfl, h3, h4⟩ := r2
        exact .inr (.inr (.inr ⟨a, b, xs, ys, rfl, rfl, h1, h3, by rw [h2.length, h4.length]; exact line_of hl, fun p hp => fin.lst G (h2.append h4) hp⟩))
      · cases he
    | _ => cases he
  | _ => cases he
/-- * -/
def mulD : D → D → Option EV
  | .int i, .int j => if i.natAbs.log2 + j.natAbs.log2 < 100000000 then some (.val (.int (i * j))) else none
  | .tuple xs, .int k => if xs.length ≤ 1000 ∧ -1000 ≤ k ∧ k ≤ 1000 then some (.val (.tuple (List.replicate k.toNat xs).flatten)) else none
  | .list xs, .int k => if xs.length ≤ 1000 ∧ -1000 ≤ k ∧ k ≤ 1000 then some (.fresh (List.replicate k.toNat xs).flatten) else none
  | _, _ => none
def rMulA (K : PySem.W.Frag) : R2 := fun x y H Q => (rI CMulX (fun i j => .int (i * j))) x y H Q ∨ (rRepT K x y H Q ∨ (rRepE K x y H Q ∨ rRep x y H Q))
theorem op_mulA : OpR X (binaryOp .Mult) (rMulA X.K) := op_mulX.or (op_repT.or (op_repE.or op_rep))
theorem RepA.rep {Hh : Hp} {vs : List V} {ds : List D} (h : RepA K Hh vs ds) : ∀ k : Nat, RepA K Hh (List.replicate k vs).flatten (List.replicate k ds).flatten
  | 0 => .nil
  | k + 1 => by
    rw [List.replicate_succ, List.replicate_succ, List.flatten_cons, List.flatten_cons]
    exact h.append (RepA.rep h k)
theorem p_mul : Pure2 c X (rMulA X.K) mulD := by
  intro O as s σ H x y d e ev Q G r1 r2 he fin
  cases d with
  | int i =>
    cases e with
    | int j =>
      simp only [mulD] at he
      split at he
      · rename_i hc
        cases he
        cases rt_int r1
        cases rt_int r2
        exact .inl ⟨i, j, rfl, rfl, hc, fin.val G (.int _)⟩
      · cases he
    | _ => cases he
  | tuple i =>
    cases e with
    | int k =>
      simp only [mulD] at he
      split at he
      · rename_i hc
        obtain ⟨hz, h1, h2⟩ := hc
        cases he
        cases rt_int r2
        obtain ⟨a, xs, rfl, q1, q2⟩ := rt_tup r1
        have hl := q2.length
        by_cases hx : xs = [] ∨ k = 1
        · refine .inr (.inr (.inl ⟨a, k, xs, rfl, rfl, hid_ext.sqT q1, h1, h2, .inl ⟨hx, ?_⟩⟩))
          have e : (List.replicate k.toNat i).flatten = i := by
            rcases hx with e | e
            · subst e
              have : i = [] := List.eq_nil_of_length_eq_zero (by simpa using hl.symm)
              subst this
              simp
            · subst e
              simp
          rw [e] at fin
          exact fin.val G (.tup q1 q2)
        · have hx1 : xs ≠ [] := fun e => hx (.inl e)
          have hx2 : k ≠ 1 := fun e => hx (.inr e)
          by_cases hk : k ≤ 0
          · refine .inr (.inr (.inl ⟨a, k, xs, rfl, rfl, hid_ext.sqT q1, h1, h2, .inr ⟨⟨hx1, hk⟩, fun p hp => ?_⟩⟩))
            have e : k.toNat = 0 := by omega
            rw [e] at fin
            exact fin.tup G .nil hp
          · refine .inr (.inl ⟨a, k, xs, rfl, rfl, hid_ext.sqT q1, hx1, by omega, h2, by omega, fun p hp => fin.tup G (q2.rep _) hp⟩)
      · cases he
    | _ => cases he
  | list i =>
    cases e with
    | int k =>
      simp only [mulD] at he
      split at he
      · rename_i hc
        obtain ⟨hz, h1, h2⟩ := hc
        cases he
        cases rt_int r2
        obtain ⟨a, xs, rfl, q1, q2⟩ := r1
        have hl := q2.length
        have hm : xs.length * k.toNat ≤ 1000000 := by
          have a1 : xs.length * k.toNat ≤ 1000 * 1000 := Nat.mul_le_mul (by omega) (by omega)
          omega
        exact .inr (.inr (.inr ⟨a, k, xs, rfl, rfl, q1, by omega, by omega, line_of hm, fun p hp => fin.lst G (q2.rep _) hp⟩))
      · cases he
    | _ => cases he
  | _ => cases he
/-- ==, in -/
def shp (d : D) : Bool := SeqAt.shaped d
def eqD : D → D → Option EV
  | .int i, .int j => some (.val (.bool (i == j)))
  | .bool i, .bool j => some (.val (.bool (i == j)))
  | d, e => if shp d && shp e then some (.val (.bool (PyData.eqv d e))) else none
theorem shp_int (i : Int) : shp (.int i) = true := by
  unfold shp SeqAt.shaped
  simp [PyData.canLay0, PyData.depth]
theorem shp_bool (i : Bool) : shp (.bool i) = true := by
  unfold shp SeqAt.shaped
  simp [PyData.canLay0, PyData.depth]
theorem shp_none : shp .none = true := by
  unfold shp SeqAt.shaped
  simp [PyData.canLay0, PyData.depth]
theorem eqD_post {d e : D} {ev : EV} (h : eqD d e = some ev) : shp d = true ∧ shp e = true ∧ ev = .val (.bool (PyData.eqv d e)) := by
  unfold eqD at h
  split at h
  · cases h
    exact ⟨shp_int _, shp_int _, by simp [PyData.eqv]⟩
  · cases h
    exact ⟨shp_bool _, shp_bool _, by simp [PyData.eqv]⟩
  · split at h
    · rename_i hs
      rw [Bool.and_eq_true] at hs
      cases h
      exact ⟨hs.1, hs.2, rfl⟩
    · cases h
theorem shp_lay {d : D} (h : shp d = true) : d.canLay0 = true := SeqAt.canLay_of_shaped h
theorem p_eq : Pure2 c X (rEqD X.K) eqD := by
  intro O as s σ H x y d e ev Q G r1 r2 he fin
  obtain ⟨h1, h2, rfl⟩ := eqD_post he
  exact ⟨d, e, r1.dp hid_ext (shp_lay h1), r2.dp hid_ext (shp_lay h2), h1, h2, fin.val G (.bl _)⟩
def neD (d e : D) : Option EV := match eqD d e with
  | some (.val (.bool b)) => some (.val (.bool (!b)))
  | _ => none
theorem p_ne : Pure2 c X (rNeD X.K) neD := by
  intro O as s σ H x y d e ev Q G r1 r2 he fin
  unfold neD at he
  split at he
  · rename_i b hb
    obtain ⟨h1, h2, h3⟩ := eqD_post hb
    cases h3
    cases he
    exact ⟨d, e, r1.dp hid_ext (shp_lay h1), r2.dp hid_ext (shp_lay h2), h1, h2, fin.val G (.bl _)⟩
  · cases he
def anyEq (d : D) (ds : List D) : Bool := ds.any fun z => PyData.eqv z d
def inD (d : D) : D → Option EV
  | .list ds => if shp d && shp (.list ds) then some (.val (.bool (anyEq d ds))) else none
  | .tuple ds => if shp d && shp (.tuple ds) then some (.val (.bool (anyEq d ds))) else none
  | _ => none
def rInA (K : PySem.W.Frag) : R2 := fun x y H Q => rInD K x y H Q ∨ rInT K false x y H Q
theorem op_inA (hu : X.A.units + 65 < cLine) : OpR X (compareOp .In) (rInA X.K) := (op_inD hu).or (op_inT hu)
theorem p_in : Pure2 c X (rInA X.K) inD := by
  intro O as s σ H x y d e ev Q G r1 r2 he fin
  cases e with
  | list ds =>
    simp only [inD] at he
    split at he
    · rename_i hs
      rw [Bool.and_eq_true] at hs
      cases he
      exact .inl ⟨d, ds, r1.dp hid_ext (shp_lay hs.1), r2.dp hid_ext (shp_lay hs.2), hs.1, hs.2, fin.val G (.bl _)⟩
    · cases he
  | tuple ds =>
    simp only [inD] at he
    split at he
    · rename_i hs
      rw [Bool.and_eq_true] at hs
      cases he
      exact .inr ⟨d, ds, r1.dp hid_ext (shp_lay hs.1), r2.dp hid_ext (shp_lay hs.2), hs.1, hs.2, fin.val G (.bl _)⟩
    · cases he
  | _ => cases he
def notInD (d e : D) : Option EV := match inD d e with
  | some (.val (.bool b)) => some (.val (.bool (!b)))
  | _ => none
def rNotInA (K : PySem.W.Frag) : R2 := fun x y H Q => rNotInD K x y H Q ∨ rInT K true x y H Q
theorem op_notInA (hu : X.A.units + 65 < cLine) : OpR X (compareOp .NotIn) (rNotInA X.K) := (op_notInD hu).or (op_notInT hu)
theorem p_notIn : Pure2 c X (rNotInA X.K) notInD := by
  intro O as s σ H x y d e ev Q G r1 r2 he fin
  cases e with
  | list ds =>
    simp only [notInD, inD] at he
    split at he
    · rename_i b hb
      split at hb
      · rename_i hs
        rw [Bool.and_eq_true] at hs
        cases hb
        cases he
        exact .inl ⟨d, ds, r1.dp hid_ext (shp_lay hs.1), r2.dp hid_ext (shp_lay hs.2), hs.1, hs.2, fin.val G (.bl _)⟩
      · cases hb
    · cases he
  | tuple ds =>
    simp only [notInD, inD] at he
    split at he
    · rename_i b hb
      split at hb
      · rename_i hs
        rw [Bool.and_eq_true] at hs
        cases hb
        cases he
        exact .inr ⟨d, ds, r1.dp hid_ext (shp_lay hs.1), r2.dp hid_ext (shp_lay hs.2), hs.1, hs.2, fin.val G (.bl _)⟩
      · cases hb
    · cases he
  | _ => cases he
/-- is None -/
def isN : D → Bool
  | .none => true
  | _ => false
theorem isN_rt {Hh : Hp} {v : V} {d : D} (h : RTop K Hh H v d) : decide (v = .non) = isN d := by
  cases d with
  | none => cases h; rfl
  | bool b => cases h; rfl
  | int b => cases h; rfl
  | str b => cases h; rfl
  | tuple b => cases h; rfl
  | dict b => cases h; rfl
  | list b => obtain ⟨a, xs, rfl, _⟩ := h; rfl
def isND (d : D) : D → Option EV
  | .none => some (.val (.bool (isN d)))
  | _ => none
def notND (d : D) : D → Option EV
  | .none => some (.val (.bool (!isN d)))
  | _ => none
theorem p_isN : Pure2 c X (fun x y H Q => y = .non ∧ Q (.bl (decide (x = .non))) H) isND := by
  intro O as s σ H x y d e ev Q G r1 r2 he fin
  cases e with
  | none =>
    cases he
    cases rt_non r2
    refine ⟨rfl, ?_⟩
    rw [isN_rt r1]
    exact fin.val G (.bl _)
  | _ => cases he
theorem p_notN : Pure2 c X (fun x y H Q => y = .non ∧ Q (.bl (!decide (x = .non))) H) notND := by
  intro O as s σ H x y d e ev Q G r1 r2 he fin
  cases e with
  | none =>
    cases he
    cases rt_non r2
    refine ⟨rfl, ?_⟩
    rw [isN_rt r1]
    exact fin.val G (.bl _)
  | _ => cases he
/-- -x -/
def negD : D → Option EV
  | .int i => some (.val (.int (-i)))
  | _ => none
theorem p_neg : Pure1 c X (rU fun i => .int (-i)) negD := by
  intro O as s σ H x d ev Q G r1 he fin
  cases d with
  | int i =>
    cases he
    cases rt_int r1
    exact ⟨i, rfl, fin.val G (.int _)⟩
  | _ => cases he
/-- xs[i] -/
def ixD : D → D → Option EV
  | .list ds, .int i => (atI ds i).map .val
  | .tuple ds, .int i => (atI ds i).map .val
  | .str z, .int i => if z.length ≤ 1000000 then (atI z.cps.toList i).map fun c => .val (.str ⟨#[c]⟩) else none
  | _, _ => none
theorem RepA.atI {Hh : Hp} {vs : List V} {ds : List D} {i : Int} {d : D} (h : RepA K Hh vs ds) (e : L2.atI ds i = some d) : ∃ v, L2.atI vs i = some v ∧ Rep K Hh v d := by
  unfold L2.atI at e ⊢
  rw [← h.length] at e
  cases z : ixN vs.length i with
  | none => rw [z] at e; cases e
  | some j =>
    rw [z] at e
    obtain ⟨v, h1, h2⟩ := h.get (show ds[j]? = some d from e)
    exact ⟨v, h1, h2⟩
theorem p_ix : Pure2 c X (rIx X.K) ixD := by
  intro O as s σ H x y d e ev Q G r1 r2 he fin
  cases e with
  | int i =>
    cases rt_int r2
    cases d with
    | list ds =>
      obtain ⟨a, xs, rfl, h1, h2⟩ := r1
      simp only [ixD] at he
      cases z : atI ds i with
      | none => rw [z] at he; cases he
      | some d' =>
        rw [z] at he
        cases he
        obtain ⟨v, e1, e2⟩ := h2.atI z
        exact .inl ⟨a, xs, i, v, rfl, rfl, SqL.of h1, e1, fin.val G e2⟩
    | tuple ds =>
      obtain ⟨a, xs, rfl, h1, h2⟩ := rt_tup r1
      simp only [ixD] at he
      cases z : atI ds i with
      | none => rw [z] at he; cases he
      | some d' =>
        rw [z] at he
        cases he
        obtain ⟨v, e1, e2⟩ := h2.atI z
        exact .inr (.inl ⟨a, xs, i, v, rfl, rfl, hid_ext.sqT h1, e1, fin.val G e2⟩)
    | str z =>
      cases rt_str r1
      simp only [ixD] at he
      split at he
      · rename_i hl
        cases q : atI z.cps.toList i with
        | none => rw [q] at he; cases he
        | some c' =>
          rw [q] at he
          cases he
          exact .inr (.inr ⟨z, i, c', rfl, rfl, line_of hl, q, fin.val G (.str _)⟩)
      · cases he
    | _ => cases he
  | _ =>
    unfold ixD at he
    split at he
    all_goals first | cases he | (rename_i h1; cases h1)
end
end DL
namespace DL
open PySem PySem.Spec PyProof.Rows L2
/-! ### slices -/
def cutL {α : Type} (xs : List α) (lo hi : Option Int) : List α := (xs.drop (HT.sIx xs.length 0 lo)).take (HT.sIx xs.length xs.length hi - HT.sIx xs.length 0 lo)
section
variable {K : PySem.W.Frag} {c : Ctx} {X : Cx} {W : WX} {O as : List Addr} {s : S} {st : List MO} {σ : L2.St} {H : Hp}
theorem RepA.cut {Hh : Hp} {vs : List V} {ds : List D} (h : RepA K Hh vs ds) (lo hi : Option Int) : RepA K Hh (cutV vs lo hi) (cutL ds lo hi) := by
  unfold cutV cutL
  rw [h.length]
  exact (h.drop _).take _
def IP (K : PySem.W.Frag) (c : Ctx) (W : WX) (t : TO) (f : S → Option (R (Option Int))) : Prop := ∀ O as s σ H (Q : Option Int → Hp → Prop), Good K c O as s σ H →
  (match f s with
    | none => False
    | some (.ok o s') => ∀ H' as', Good K c O as' s' σ H' → Stp as s.st H as' s'.st H' → Q o H'
    | some (.err x s') => ∀ d H' as', Good K c O as' s' σ H' → Stp as s.st H as' s'.st H' → ErOk K (Hid O as' s'.st H') x d H' → W (.ref (c.ec x.cls)) d σ H') → t σ H Q
structure DP (c : Ctx) (X : Cx) (W : WX) (e : Option Expr) (t : TO) (f : S → Option (R (Option Int))) : Prop where
  po : PO X e t
  ok : IP X.K c W t f
def noP : S → Option (R (Option Int)) := fun s => some (.ok none s)
def someP (f : S → Option (R EV)) : S → Option (R (Option Int)) := bE f fun ev s => match ev with
  | .val (.int i) => some (.ok (some i) s)
  | _ => none
theorem dp_none : DP c X W none tNoPart noP := ⟨po_none, fun O as s σ H Q G q => q H as G (Stp.refl G.lenC)⟩
theorem dp_some {e : Expr} {te : TE} {f : S → Option (R EV)} (h : DE c X W e te f) : DP c X W (some e) (tPart te) (someP f) := by
  refine ⟨po_some h.pe, fun O as s σ H Q G q => h.ok O as s σ H _ G ?_⟩
  unfold someP bE at q
  cases e : f s with
  | none => rw [e] at q; exact q
  | some r =>
    rw [e] at q
    cases r with
    | err x s' => exact q
    | ok ev s' =>
      intro v H' as' eg x fr
      cases ev with
      | cell n => exact q.elim
      | fresh n => exact q.elim
      | val d =>
        cases d with
        | int i =>
          obtain ⟨G', r⟩ := eg
          cases r
          exact ⟨i, rfl, q H' as' G' x⟩
        | _ => exact q.elim
def sliceD : D → Option Int → Option Int → Option EV
  | .list ds, lo, hi => some (.fresh (cutL ds lo hi))
  | .tuple ds, lo, hi => some (.val (.tuple (cutL ds lo hi)))
  | .str z, lo, hi => if z.length ≤ 1000000 then some (.val (.str (cutS z lo hi))) else none
  | _, _, _ => none
def slE (f : S → Option (R EV)) (lo hi : S → Option (R (Option Int))) : S → Option (R EV) := bE (fz f) fun e1 => bE lo fun l => bE hi fun u s => match rd s e1 with
  | some d => (match sliceD d l u with
    | some ev => some (.ok ev s)
    | none => none)
  | none => none
def rSlAny (K : PySem.W.Frag) : V → Option Int → Option Int → Hp → VK → Prop := fun x lo hi H Q => rSlA K x lo hi H Q ∨ (rSlL K x lo hi H Q ∨ rSlS x lo hi H Q)
theorem sl_any : SlR X (rSlAny X.K) := sl_tupA.or (sl_list.or sl_str)
theorem whole_cut {α : Type} {xs : List α} {lo hi : Option Int} (h : HT.sIx xs.length 0 lo = 0 ∧ HT.sIx xs.length xs.length hi = xs.length) : cutL xs lo hi = xs := by
  unfold cutL
  rw [h.1, h.2]
  simp
theorem de_slice {e : Expr} {lo hi : Option Expr} {te : TE} {tl th : TO} {f : S → Option (R EV)} {fl fh : S → Option (R (Option Int))} {p2 pos : Pos} (he : DE c X W e te f) (hl : DP c X W lo tl fl) (hu : DP c X W hi th fh) :
    DE c X W (.Subscript e (.Slice lo hi none p2) pos) (tSl (rSlAny X.K) te tl th) (slE f fl fh) := by
  refine ⟨pe_slice sl_any he.pe hl.po hu.po, fun O as s σ H Q G q => ?_⟩
  refine operand he.ok G q fun e1 s1 x H1 as1 G1 o1 x1 q1 => ?_
  refine hl.ok O as1 s1 σ H1 _ G1 ?_
  unfold bE at q1
  cases z1 : fl s1 with
  | none => rw [z1] at q1; exact q1.elim
  | some r =>
    rw [z1] at q1
    cases r with
    | err y s2 => exact q1
    | ok l s2 =>
      intro H2 as2 G2 x2
      refine hu.ok O as2 s2 σ H2 _ G2 ?_
      simp only at q1
      have q2 := PostE.after x2 q1
      cases z2 : fh s2 with
      | none => rw [z2] at q2; exact q2.elim
      | some r =>
        rw [z2] at q2
        cases r with
        | err y s3 => exact q2
        | ok u s3 =>
          intro H3 as3 G3 x3
          have q3 := PostE.after x3 q2
          simp only at q3
          have o3 := (o1.step x2).step x3
          cases z3 : rd s3 e1 with
          | none => rw [z3] at q3; exact q3.elim
          | some d =>
            rw [z3] at q3
            have rt := o3.top G3 z3
            simp only at q3
            cases d with
            | list ds =>
              simp only [sliceD] at q3
              obtain ⟨a, xs, rfl, h1, h2⟩ := rt
              refine .inr (.inl ⟨a, xs, rfl, SqL.of h1, fun p hp => ?_⟩)
              exact q3 (.ref p) _ as3 (lst_new G3 hp (h2.cut l u)) (Stp.same G3.lenC (same_upd hp)) (fun b eb => by cases eb; exact .of hp)
            | tuple ds =>
              simp only [sliceD] at q3
              obtain ⟨a, xs, rfl, h1, h2⟩ := rt_tup rt
              refine .inl ⟨a, xs, rfl, hid_ext.sqT h1, fun hw => ?_, fun _ p hp => q3 (.ref p) _ as3 (tup_new G3 hp (h2.cut l u)) (Stp.same G3.lenC (same_upd hp)) trivial⟩
              rw [h2.length] at hw
              rw [whole_cut hw] at q3
              exact q3 (.ref a) H3 as3 ⟨G3, .tup h1 h2⟩ (Stp.refl G3.lenC) trivial
            | str z =>
              simp only [sliceD] at q3
              cases rt_str rt
              by_cases hl : z.length ≤ 1000000
              · rw [if_pos hl] at q3
                exact .inr (.inr ⟨z, rfl, line_of hl, q3 _ H3 as3 ⟨G3, .str _⟩ (Stp.refl G3.lenC) trivial⟩)
              · rw [if_neg hl] at q3
                exact q3.elim
            | none => exact q3.elim
            | bool _ => exact q3.elim
            | int _ => exact q3.elim
            | dict _ => exact q3.elim

/-! ### calls of built-ins on what is read -/
def RTopA (K : PySem.W.Frag) (Hh H : Hp) : List V → List D → Prop
  | [], [] => True
  | v :: vs, d :: ds => RTop K Hh H v d ∧ RTopA K Hh H vs ds
  | _, _ => False
def rds (s : S) : List SV → Option (List D)
  | [] => some []
  | sv :: r => match (match sv with
      | .val d => some d
      | .cell n => rd s (.cell n)
      | _ => none), rds s r with
    | some d, some ds => some (d :: ds)
    | _, _ => none
theorem rds_top (G : Good K c O as s σ H) : ∀ {svs : List SV} {vs : List V} {ds : List D}, Paired (ArgOk K c O as s.st H) svs vs → rds s svs = some ds → RTopA K (Hid O as s.st H) H vs ds
  | [], _, _, .nil, e => by cases e; trivial
  | sv :: r, v :: vs, ds, .cons h t, e => by
    simp only [rds] at e
    cases sv with
    | un => simp at e
    | scr => simp at e
    | val d =>
      simp only at e
      cases z : rds s r with
      | none => rw [z] at e; cases e
      | some ds' =>
        rw [z] at e
        cases e
        obtain ⟨v', e1, h⟩ := h
        cases e1
        exact ⟨rtop_rep hid_ext h, rds_top G t z⟩
    | cell n =>
      simp only at e
      cases z0 : rd s (.cell n) with
      | none => rw [z0] at e; simp at e
      | some d =>
        rw [z0] at e
        cases z : rds s r with
        | none => rw [z] at e; cases e
        | some ds' =>
          rw [z] at e
          cases e
          obtain ⟨a, h1, h2⟩ := h
          cases h2
          exact ⟨EvOk.top (ev := .cell n) G ⟨a, h1, rfl⟩ z0, rds_top G t z⟩
def withTops (h : List D → Option EV) : List SV → S → Option (R EV) := fun svs s => match rds s svs with
  | some ds => (match h ds with
    | some ev => some (.ok ev s)
    | none => none)
  | none => none
def callT (h : List D → Option EV) (f : S → Option (R (List SV))) : S → Option (R EV) := bE f (withTops h)
def PureT (c : Ctx) (X : Cx) (r : List V → Hp → VK → Prop) (h : List D → Option EV) : Prop := ∀ O as s σ H vs ds ev Q, Good X.K c O as s σ H → RTopA X.K (Hid O as s.st H) H vs ds → h ds = some ev → Fin X.K c O as s σ H ev Q → r vs H Q
theorem callT_ok {r : List V → Hp → VK → Prop} {h : List D → Option EV} {t : TA} {fa : S → Option (R (List SV))} (p : PureT c X r h) (ha : IA X.K c W t fa) : IE X.K c W (tCB r t) (callT h fa) := by
  intro O as s σ H Q G q
  refine ha O as s σ H _ G (PostE.args G q fun evs s' vs H' as' G' pr x q2 => ?_)
  unfold withTops at q2
  cases e1 : rds s' evs with
  | none => rw [e1] at q2; exact q2.elim
  | some ds =>
    rw [e1] at q2
    simp only at q2
    cases e2 : h ds with
    | none => rw [e2] at q2; exact q2.elim
    | some ev =>
      rw [e2] at q2
      exact p O as' s' σ H' vs ds ev Q G' (rds_top G' pr e1) e2 fun v H2 eg k fr => q2 v H2 as' eg (Stp.same G'.lenC k) fr
variable {id T : String} {r : List V → Hp → VK → Prop} {h : List D → Option EV} {x : Str} {e : Expr} {es : List Expr} {t : TA} {fa : S → Option (R (List SV))} {p pos : Pos}
theorem de_callB (hc : CallR X (.builtin id) r) (pu : PureT c X r h) (hg : Gl X x) (hm : X.mg x = none) (hv : bootBuiltins x = some (.builtin id)) (ha : DA c X W (e :: es) t fa) (hn : x ≠ "__name__" := by decide) (hdb : (x == ("__debug__" : Str)) = false := by decide)
    (he : starEach (e :: es) X.env = (false, eval e X.env) :: starEach es X.env := by rfl) (hpl : (backTo pos (starEach es X.env)).any (·.1) = false := by rfl) :
    DE c X W (.Call (.Name x p) (e :: es) [] pos) (tCB r t) (callT h fa) := ⟨pe_callB hc hg hm hv ha.pa hn hdb he hpl, callT_ok pu ha.ok⟩
theorem de_callTy (hc : CallR X (.type T) r) (pu : PureT c X r h) (hg : Gl X x) (hm : X.mg x = none) (hv : bootBuiltins x = some (.type T)) (ha : DA c X W (e :: es) t fa) (hn : x ≠ "__name__" := by decide) (hdb : (x == ("__debug__" : Str)) = false := by decide)
    (he : starEach (e :: es) X.env = (false, eval e X.env) :: starEach es X.env := by rfl) (hpl : (backTo pos (starEach es X.env)).any (·.1) = false := by rfl) :
    DE c X W (.Call (.Name x p) (e :: es) [] pos) (tCB r t) (callT h fa) := ⟨pe_callTy hc hg hm hv ha.pa hn hdb he hpl, callT_ok pu ha.ok⟩
end
section
variable {K : PySem.W.Frag} {c : Ctx} {X : Cx}
theorem rta1 {Hh H : Hp} {vs : List V} {d : D} (h : RTopA K Hh H vs [d]) : ∃ v, vs = [v] ∧ RTop K Hh H v d := by
  match vs, h with
  | [v], ⟨h, _⟩ => exact ⟨v, rfl, h⟩
theorem rta2 {Hh H : Hp} {vs : List V} {d e : D} (h : RTopA K Hh H vs [d, e]) : ∃ v w, vs = [v, w] ∧ RTop K Hh H v d ∧ RTop K Hh H w e := by
  match vs, h with
  | [v, w], ⟨h, h2, _⟩ => exact ⟨v, w, rfl, h, h2⟩
/-- len -/
def lenD : List D → Option EV
  | [.list ds] => some (.val (.int (ds.length : Nat)))
  | [.tuple ds] => some (.val (.int (ds.length : Nat)))
  | [.str z] => if z.length ≤ 1000000 then some (.val (.int (z.length : Nat))) else none
  | _ => none
def rLen (K : PySem.W.Frag) : List V → Hp → VK → Prop := fun xs H Q => (∃ p ys, xs = [.ref p] ∧ (SqL K H p ys ∨ SqT K H p ys) ∧ Q (.int ys.length) H) ∨ ∃ z, xs = [.str z] ∧ z.length ≤ sizeLine ∧ Q (.int z.length) H
theorem call_lenA : CallR X (.builtin "len") (rLen X.K) := call_len_seq.or call_len_str
theorem p_len : PureT c X (rLen X.K) lenD := by
  intro O as s σ H vs ds ev Q G ra he fin
  unfold lenD at he
  split at he
  · cases he
    obtain ⟨v, rfl, a, xs, rfl, h1, h2⟩ := rta1 ra
    refine .inl ⟨a, xs, rfl, .inl (SqL.of h1), ?_⟩
    rw [h2.length]
    exact fin.val G (.int _)
  · cases he
    obtain ⟨v, rfl, h⟩ := rta1 ra
    obtain ⟨a, xs, rfl, h1, h2⟩ := rt_tup h
    refine .inl ⟨a, xs, rfl, .inr (hid_ext.sqT h1), ?_⟩
    rw [h2.length]
    exact fin.val G (.int _)
  · split at he
    · rename_i hl
      cases he
      obtain ⟨v, rfl, h⟩ := rta1 ra
      cases rt_str h
      exact .inr ⟨_, rfl, line_of hl, fin.val G (.int _)⟩
    · cases he
  · cases he
/-- all, any -/
def boolsOf : List D → Option (List Bool)
  | [] => some []
  | .bool b :: r => (boolsOf r).map (b :: ·)
  | _ :: _ => none
theorem boolsOf_eq : ∀ {ds : List D} {bs : List Bool}, boolsOf ds = some bs → ds = bs.map .bool
  | [], _, h => by cases h; rfl
  | .bool b :: r, _, h => by
    simp only [boolsOf] at h
    cases z : boolsOf r with
    | none => rw [z] at h; cases h
    | some bs =>
      rw [z] at h
      cases h
      rw [boolsOf_eq z] <;> rfl
  | .none :: r, _, h => by cases h
  | .int _ :: r, _, h => by cases h
  | .str _ :: r, _, h => by cases h
  | .list _ :: r, _, h => by cases h
  | .tuple _ :: r, _, h => by cases h
  | .dict _ :: r, _, h => by cases h
def allD : List D → Option EV
  | [.list ds] => (boolsOf ds).map fun bs => .val (.bool (bs.all id))
  | _ => none
def anyD : List D → Option EV
  | [.list ds] => (boolsOf ds).map fun bs => .val (.bool (bs.any id))
  | _ => none
theorem p_all : PureT c X (rAll X.K) allD := by
  intro O as s σ H vs ds ev Q G ra he fin
  unfold allD at he
  split at he
  · rename_i ds'
    cases z : boolsOf ds' with
    | none => rw [z] at he; cases he
    | some bs =>
      rw [z] at he
      cases he
      obtain ⟨v, rfl, a, xs, rfl, h1, h2⟩ := rta1 ra
      rw [boolsOf_eq z] at h2
      rw [h2.bools] at h1
      exact ⟨a, bs, rfl, SqL.of h1, fin.val G (.bl _)⟩
  · cases he
theorem p_any : PureT c X (rAny X.K) anyD := by
  intro O as s σ H vs ds ev Q G ra he fin
  unfold anyD at he
  split at he
  · rename_i ds'
    cases z : boolsOf ds' with
    | none => rw [z] at he; cases he
    | some bs =>
      rw [z] at he
      cases he
      obtain ⟨v, rfl, a, xs, rfl, h1, h2⟩ := rta1 ra
      rw [boolsOf_eq z] at h2
      rw [h2.bools] at h1
      exact ⟨a, bs, rfl, SqL.of h1, fin.val G (.bl _)⟩
  · cases he
/-- sum, max, min of ints -/
def intsOf : List D → Option (List Int)
  | [] => some []
  | .int b :: r => (intsOf r).map (b :: ·)
  | _ :: _ => none
theorem intsOf_eq : ∀ {ds : List D} {bs : List Int}, intsOf ds = some bs → ds = bs.map .int
  | [], _, h => by cases h; rfl
  | .int b :: r, _, h => by
    simp only [intsOf] at h
    cases z : intsOf r with
    | none => rw [z] at h; cases h
    | some bs =>
      rw [z] at h
      cases h
      rw [intsOf_eq z] <;> rfl
  | .none :: r, _, h => by cases h
  | .bool _ :: r, _, h => by cases h
  | .str _ :: r, _, h => by cases h
  | .list _ :: r, _, h => by cases h
  | .tuple _ :: r, _, h => by cases h
  | .dict _ :: r, _, h => by cases h
theorem intsOf_map : ∀ (ns : List Int), intsOf (ns.map .int) = some ns
  | [] => rfl
  | n :: ns => by simp [intsOf, intsOf_map ns]
theorem boolsOf_map : ∀ (ns : List Bool), boolsOf (ns.map .bool) = some ns
  | [] => rfl
  | n :: ns => by simp [boolsOf, boolsOf_map ns]
def sumD : List D → Option EV
  | [.list ds] => (intsOf ds).map fun ns => .val (.int ns.sum)
  | [.tuple ds] => (intsOf ds).map fun ns => .val (.int ns.sum)
  | _ => none
def rSumA (K : PySem.W.Frag) : List V → Hp → VK → Prop := fun vs H Q => rSum K vs H Q ∨ rSumT K vs H Q
theorem cr_sumA (hc : X.calm = true) : CallR X (.builtin "sum") (rSumA X.K) := (cr_sum hc).or (cr_sumT hc)
theorem p_sum : PureT c X (rSumA X.K) sumD := by
  intro O as s σ H vs ds ev Q G ra he fin
  unfold sumD at he
  split at he
  · rename_i ds'
    cases z : intsOf ds' with
    | none => rw [z] at he; cases he
    | some bs =>
      rw [z] at he
      cases he
      obtain ⟨v, rfl, a, xs, rfl, h1, h2⟩ := rta1 ra
      rw [intsOf_eq z] at h2
      rw [h2.ints] at h1
      exact .inl ⟨a, bs, rfl, SqL.of h1, fin.val G (.int _)⟩
  · rename_i ds'
    cases z : intsOf ds' with
    | none => rw [z] at he; cases he
    | some bs =>
      rw [z] at he
      cases he
      obtain ⟨v, rfl, h⟩ := rta1 ra
      obtain ⟨a, xs, rfl, h1, h2⟩ := rt_tup h
      rw [intsOf_eq z] at h2
      rw [h2.ints] at h1
      exact .inr ⟨a, bs, rfl, hid_ext.sqT h1, fin.val G (.int _)⟩
  · cases he
def maxL : Int → List Int → Int
  | m, [] => m
  | m, n :: r => maxL (if n > m then n else m) r
def minL : Int → List Int → Int
  | m, [] => m
  | m, n :: r => minL (if n < m then n else m) r
theorem maxL_spec : ∀ (m : Int) (r : List Int), maxL m r ∈ m :: r ∧ ∀ y ∈ m :: r, y ≤ maxL m r
  | m, [] => by simp [maxL]
  | m, n :: r => by
    simp only [maxL]
    obtain ⟨h1, h2⟩ := maxL_spec (if n > m then n else m) r
    refine ⟨?_, fun y hy => ?_⟩
    · rcases List.mem_cons.mp h1 with e | e
      · rw [e]; split <;> simp
      · exact List.mem_cons_of_mem _ (List.mem_cons_of_mem _ e)
    · have h3 := h2 (if n > m then n else m) List.mem_cons_self
      have h4 : m ≤ (if n > m then n else m) ∧ n ≤ (if n > m then n else m) := by split <;> omega
      rcases List.mem_cons.mp hy with e | e
      · rw [e]; exact Int.le_trans h4.1 h3
      · rcases List.mem_cons.mp e with e | e
        · rw [e]; exact Int.le_trans h4.2 h3
        · exact h2 y (List.mem_cons_of_mem _ e)
theorem minL_spec : ∀ (m : Int) (r : List Int), minL m r ∈ m :: r ∧ ∀ y ∈ m :: r, minL m r ≤ y
  | m, [] => by simp [minL]
  | m, n :: r => by
    simp only [minL]
    obtain ⟨h1, h2⟩ := minL_spec (if n < m then n else m) r
    refine ⟨?_, fun y hy => ?_⟩
    · rcases List.mem_cons.mp h1 with e | e
      · rw [e]; split <;> simp
      · exact List.mem_cons_of_mem _ (List.mem_cons_of_mem _ e)
    · have h3 := h2 (if n < m then n else m) List.mem_cons_self
      have h4 : (if n < m then n else m) ≤ m ∧ (if n < m then n else m) ≤ n := by split <;> omega
      rcases List.mem_cons.mp hy with e | e
      · rw [e]; exact Int.le_trans h3 h4.1
      · rcases List.mem_cons.mp e with e | e
        · rw [e]; exact Int.le_trans h3 h4.2
        · exact h2 y (List.mem_cons_of_mem _ e)
def maxD : List D → Option EV
  | [.list ds] => match intsOf ds with
    | some (n :: r) => some (.val (.int (maxL n r)))
    | _ => none
  | [.int i, .int j] => some (.val (.int (if j > i then j else i)))
  | _ => none
def minD : List D → Option EV
  | [.list ds] => match intsOf ds with
    | some (n :: r) => some (.val (.int (minL n r)))
    | _ => none
  | [.int i, .int j] => some (.val (.int (if j < i then j else i)))
  | _ => none
def rMaxA (K : PySem.W.Frag) : List V → Hp → VK → Prop := fun vs H Q => rMax K vs H Q ∨ ∃ i j, vs = [.int i, .int j] ∧ Q (.int (if j > i then j else i)) H
def rMinA (K : PySem.W.Frag) : List V → Hp → VK → Prop := fun vs H Q => rMin K vs H Q ∨ ∃ i j, vs = [.int i, .int j] ∧ Q (.int (if j < i then j else i)) H
theorem cr_maxA (hc : X.calm = true) : CallR X (.builtin "max") (rMaxA X.K) := (cr_max hc).or (call_max2 hc)
theorem cr_minA (hc : X.calm = true) : CallR X (.builtin "min") (rMinA X.K) := (cr_min hc).or (call_min2 hc)
theorem p_max : PureT c X (rMaxA X.K) maxD := by
  intro O as s σ H vs ds ev Q G ra he fin
  unfold maxD at he
  split at he
  · rename_i ds'
    split at he
    · rename_i n r z
      cases he
      obtain ⟨v, rfl, a, xs, rfl, h1, h2⟩ := rta1 ra
      rw [intsOf_eq z] at h2
      rw [h2.ints] at h1
      refine .inl ⟨a, n :: r, rfl, SqL.of h1, by simp, fun m hm hle => ?_⟩
      obtain ⟨q1, q2⟩ := maxL_spec n r
      have e : m = maxL n r := Int.le_antisymm (q2 m hm) (hle _ q1)
      rw [e]
      exact fin.val G (.int _)
    · cases he
  · cases he
    obtain ⟨v, w, rfl, h1, h2⟩ := rta2 ra
    cases rt_int h1
    cases rt_int h2
    exact .inr ⟨_, _, rfl, fin.val G (.int _)⟩
  · cases he
theorem p_min : PureT c X (rMinA X.K) minD := by
  intro O as s σ H vs ds ev Q G ra he fin
  unfold minD at he
  split at he
  · rename_i ds'
    split at he
    · rename_i n r z
      cases he
      obtain ⟨v, rfl, a, xs, rfl, h1, h2⟩ := rta1 ra
      rw [intsOf_eq z] at h2
      rw [h2.ints] at h1
      refine .inl ⟨a, n :: r, rfl, SqL.of h1, by simp, fun m hm hle => ?_⟩
      obtain ⟨q1, q2⟩ := minL_spec n r
      have e : m = minL n r := Int.le_antisymm (hle _ q1) (q2 m hm)
      rw [e]
      exact fin.val G (.int _)
    · cases he
  · cases he
    obtain ⟨v, w, rfl, h1, h2⟩ := rta2 ra
    cases rt_int h1
    cases rt_int h2
    exact .inr ⟨_, _, rfl, fin.val G (.int _)⟩
  · cases he
/-- abs, int, str, bool, tuple, list -/
def absD : List D → Option EV
  | [.int i] => some (.val (.int (if i < 0 then -i else i)))
  | _ => none
theorem p_abs : PureT c X (fun xs H Q => ∃ i, xs = [.int i] ∧ Q (.int (if i < 0 then -i else i)) H) absD := by
  intro O as s σ H vs ds ev Q G ra he fin
  unfold absD at he
  split at he
  · cases he
    obtain ⟨v, rfl, h⟩ := rta1 ra
    cases rt_int h
    exact ⟨_, rfl, fin.val G (.int _)⟩
  · cases he
def intD : List D → Option EV
  | [.int i] => some (.val (.int i))
  | [.bool k] => some (.val (.int (if k then 1 else 0)))
  | [.str a] => match PySem.intText? a with
    | some n => if a.length ≤ 640 then some (.val (.int n)) else none
    | none => none
  | _ => none
def rInt : List V → Hp → VK → Prop := fun xs H Q => ((∃ i, xs = [.int i] ∧ Q (.int i) H) ∨ ∃ k, xs = [.bl k] ∧ Q (.int (if k then 1 else 0)) H) ∨ ∃ a n, xs = [.str a] ∧ PySem.intText? a = some n ∧ a.length ≤ 640 ∧ Q (.int n) H
theorem call_intA : CallR X (.type "int") rInt := call_int1.or call_int_str
theorem p_int : PureT c X rInt intD := by
  intro O as s σ H vs ds ev Q G ra he fin
  unfold intD at he
  split at he
  · cases he
    obtain ⟨v, rfl, h⟩ := rta1 ra
    cases rt_int h
    exact .inl (.inl ⟨_, rfl, fin.val G (.int _)⟩)
  · cases he
    obtain ⟨v, rfl, h⟩ := rta1 ra
    cases rt_bool h
    exact .inl (.inr ⟨_, rfl, fin.val G (.int _)⟩)
  · split at he
    · rename_i z
      split at he
      · rename_i hl
        cases he
        obtain ⟨v, rfl, h⟩ := rta1 ra
        cases rt_str h
        exact .inr ⟨_, _, rfl, z, hl, fin.val G (.int _)⟩
      · cases he
    · cases he
  · cases he
def strD : List D → Option EV
  | [.int i] => if i.natAbs.log2 < 1920 then some (.val (.str (toString i))) else none
  | _ => none
theorem p_str : PureT c X (fun xs H Q => ∃ i, xs = [.int i] ∧ i.natAbs.log2 < 1920 ∧ Q (.str (toString i)) H) strD := by
  intro O as s σ H vs ds ev Q G ra he fin
  unfold strD at he
  split at he
  · split at he
    · rename_i hl
      cases he
      obtain ⟨v, rfl, h⟩ := rta1 ra
      cases rt_int h
      exact ⟨_, rfl, hl, fin.val G (.str _)⟩
    · cases he
  · cases he
def boolD : List D → Option EV
  | [.int i] => some (.val (.bool (i != 0)))
  | [.bool k] => some (.val (.bool k))
  | _ => none
theorem p_bool : PureT c X (fun xs H Q => (∃ i, xs = [.int i] ∧ Q (.bl (i != 0)) H) ∨ ∃ k, xs = [.bl k] ∧ Q (.bl k) H) boolD := by
  intro O as s σ H vs ds ev Q G ra he fin
  unfold boolD at he
  split at he
  · cases he
    obtain ⟨v, rfl, h⟩ := rta1 ra
    cases rt_int h
    exact .inl ⟨_, rfl, fin.val G (.bl _)⟩
  · cases he
    obtain ⟨v, rfl, h⟩ := rta1 ra
    cases rt_bool h
    exact .inr ⟨_, rfl, fin.val G (.bl _)⟩
  · cases he
def tupleD : List D → Option EV
  | [.list ds] => some (.val (.tuple ds))
  | [.tuple ds] => some (.val (.tuple ds))
  | _ => none
theorem p_tuple : PureT c X (fun xs H Q => ∃ p ys, xs = [.ref p] ∧ ((SqL X.K H p ys ∧ ∀ l, H l = none → Q (.ref l) (upd H l (.tup ys))) ∨ (SqT X.K H p ys ∧ Q (.ref p) H))) tupleD := by
  intro O as s σ H vs ds ev Q G ra he fin
  unfold tupleD at he
  split at he
  · cases he
    obtain ⟨v, rfl, a, xs, rfl, h1, h2⟩ := rta1 ra
    exact ⟨a, xs, rfl, .inl ⟨SqL.of h1, fun l hl => fin.tup G h2 hl⟩⟩
  · cases he
    obtain ⟨v, rfl, h⟩ := rta1 ra
    obtain ⟨a, xs, rfl, h1, h2⟩ := rt_tup h
    exact ⟨a, xs, rfl, .inr ⟨hid_ext.sqT h1, fin.val G (.tup h1 h2)⟩⟩
  · cases he
def listD1 : List D → Option EV
  | [.list ds] => some (.fresh ds)
  | [.tuple ds] => some (.fresh ds)
  | _ => none
theorem p_list : PureT c X (fun xs H Q => ∃ p ys, xs = [.ref p] ∧ (SqL X.K H p ys ∨ SqT X.K H p ys) ∧ ∀ l, H l = none → Q (.ref l) (upd H l (.lst ys))) listD1 := by
  intro O as s σ H vs ds ev Q G ra he fin
  unfold listD1 at he
  split at he
  · cases he
    obtain ⟨v, rfl, a, xs, rfl, h1, h2⟩ := rta1 ra
    exact ⟨a, xs, rfl, .inl (SqL.of h1), fun l hl => fin.lst G h2 hl⟩
  · cases he
    obtain ⟨v, rfl, h⟩ := rta1 ra
    obtain ⟨a, xs, rfl, h1, h2⟩ := rt_tup h
    exact ⟨a, xs, rfl, .inr (hid_ext.sqT h1), fun l hl => fin.lst G h2 hl⟩
  · cases he
/-! ### isinstance of a built-in type -/
def tyName : D → Option String
  | .none => some "NoneType"
  | .bool _ => some "bool"
  | .int _ => some "int"
  | .str _ => some "str"
  | .list _ => some "list"
  | .tuple _ => some "tuple"
  | .dict _ => none
theorem tyx_of {Hh : Hp} {H : Hp} {v : V} {d : D} {n : String} (ex : Ext Hh H) (h : RTop K Hh H v d) (e : tyName d = some n) : TyX K H v (.type n) := by
  cases d with
  | none => cases e; cases rt_non h; exact .base .non
  | bool b => cases e; cases rt_bool h; exact .base (.bl _)
  | int b => cases e; cases rt_int h; exact .base (.int _)
  | str b => cases e; cases rt_str h; exact .base (.str _)
  | list b => cases e; obtain ⟨a, xs, rfl, h1, h2⟩ := h; exact .base (.lst h1)
  | tuple b =>
    cases e
    obtain ⟨a, xs, rfl, h1, h2⟩ := rt_tup h
    rcases ex.sqT h1 with (h1 | ⟨o, h1⟩) | ⟨o, its, k, h1, h2, _⟩
    · exact .base (.tup h1)
    · exact .fTuple h1
    · exact .kTuple h1 h2
  | dict b => cases e
/-- the answers, by the types' names -/
def isiB (a b : String) : Option Bool :=
  if a == b then some true else
  if a == "bool" && b == "int" then some true else
  if ["NoneType", "bool", "int", "str", "list", "tuple"].contains a && ["bool", "int", "str", "list", "tuple"].contains b then some false else none
theorem isiB_kit : ∀ a ∈ ["NoneType", "bool", "int", "str", "list", "tuple"], ∀ b ∈ ["bool", "int", "str", "list", "tuple"], kitB a b = isiB a b := by decide +kernel
def isiD (b : String) (d : D) : Option EV := match tyName d with
  | some a => (isiB a b).map fun k => .val (.bool k)
  | none => none
theorem tyName_mem {d : D} {n : String} (h : tyName d = some n) : n ∈ ["NoneType", "bool", "int", "str", "list", "tuple"] := by
  cases d <;> simp [tyName] at h <;> (try subst h) <;> simp
end
section
variable {K : PySem.W.Frag} {c : Ctx} {X : Cx} {W : WX}
theorem de_isi {e : Expr} {te : TE} {f : S → Option (R EV)} {b : Str} {T : String} {p p2 pos : Pos} (hT : T ∈ ["bool", "int", "str", "list", "tuple"]) (hg : Gl X "isinstance") (hm : X.mg "isinstance" = none) (he : DE c X W e te f) (hgb : Gl X b) (hmb : X.mg b = none) (hvb : bootBuiltins b = some (.type T))
    (hnb : b ≠ "__name__" := by decide) (hdb : (b == ("__debug__" : Str)) = false := by decide)
    (hs : starEach [e, .Name b p2] X.env = (false, eval e X.env) :: starEach [.Name b p2] X.env := by rfl) (hs2 : starEach [.Name b p2] X.env = (false, eval (.Name b p2) X.env) :: starEach [] X.env := by rfl) (hpl : (backTo pos (starEach [.Name b p2] X.env)).any (·.1) = false := by rfl) :
    DE c X W (.Call (.Name "isinstance" p) [e, .Name b p2] [] pos) (tCB (rIsi X.K) (tCons te (tCons (tC (.ty T)) tNil))) (op1 (isiD T) f) := by
  refine ⟨pe_callB call_isi hg hm (by decide +kernel) (pa_cons he.pe (pa_cons (pe_bltn (v := .ty T) hgb hmb hvb rfl hnb hdb) pa_nil hs2) hs) (by decide) (by decide) hs hpl, fun O as s σ H Q G q => ?_⟩
  refine operand he.ok G q fun e1 s1 x H1 as1 G1 o1 x1 q1 => ?_
  obtain ⟨d, ev, r1, hd, fin⟩ := lift1_post G1 o1 q1
  unfold isiD at hd
  cases z : tyName d with
  | none => rw [z] at hd; cases hd
  | some a =>
    rw [z] at hd
    simp only at hd
    have hk := isiB_kit a (tyName_mem z) T hT
    cases z2 : isiB a T with
    | none => rw [z2] at hd; cases hd
    | some k =>
      rw [z2] at hd
      cases hd
      exact ⟨x, .ty T, .type a, .type T, k, rfl, .ty T, tyx_of hid_ext r1 z, kit_ty (by rw [hk, z2]), fin.val G1 (.bl _)⟩
/-! ### the script: len, an item -/
def lenScr (i : Nat) (ns : List Int) : S → Option (R EV) := fun s => match s.env[i]? with
  | some .scr => some (.ok (.val (.int (ns.length : Nat))) s)
  | some (.val _) => callT lenD (aCons (var i) aNil) s
  | _ => none
theorem slot_scr {O as : List Addr} {s : S} {σ : L2.St} {H : Hp} {i : Nat} (G : Good K c O as s σ H) (e : s.env[i]? = some .scr) : ∃ a ns, c.scr = some (a, ns) ∧ σ[i]? = some (some (.ref a)) ∧ SqL K H a (ns.map V.int) := by
  obtain ⟨a, ns, h1, h2⟩ := G.slots i _ e
  refine ⟨a, ns, h1, join_some h2, ?_⟩
  exact (G.scr a ns h1).sq
theorem de_lenScr {i : Nat} {y : Str} {a : Addr} {ns : List Int} {p p2 pos : Pos} (hc : c.scr = some (a, ns)) (hg : Gl X "len") (hm : X.mg "len" = none) (hN : X.N[i]? = some y) (hv : Vis X.env.scope y)
    (hs : starEach [.Name y p2] X.env = (false, eval (.Name y p2) X.env) :: starEach [] X.env := by rfl) (hpl : (backTo pos (starEach [] X.env)).any (·.1) = false := by rfl) (hd : (y == ("__debug__" : Str)) = false := by decide) (hcd : (y == ("__classdict__" : Str)) = false := by decide) :
    DE c X W (.Call (.Name "len" p) [.Name y p2] [] pos) (tCB (rLen X.K) (tCons (tVar i) tNil)) (lenScr i ns) := by
  refine ⟨pe_callB call_lenA hg hm boot_len (pa_cons (pe_var hN hv hd hcd) pa_nil hs) (by decide) (by decide) hs hpl, fun O as s σ H Q G q => ?_⟩
  unfold lenScr at q
  cases e : s.env[i]? with
  | none => rw [e] at q; exact q.elim
  | some sv =>
    rw [e] at q
    cases sv with
    | scr =>
      obtain ⟨a', ns', h1, h2, h3⟩ := slot_scr G e
      rw [hc] at h1
      cases h1
      refine ⟨_, h2, .inl ⟨a, _, rfl, .inl h3, ?_⟩⟩
      rw [List.length_map]
      exact q _ H as ⟨G, .int _⟩ (Stp.refl G.lenC) trivial
    | val d => exact (de_callB (p := p) call_lenA p_len hg hm boot_len (da_cons (de_var (pos := p2) i hN hv hd hcd) da_nil hs) (by decide) (by decide) hs hpl).ok O as s σ H Q G q
    | _ => exact q.elim
def ixScr (i : Nat) (ns : List Int) (f : S → Option (R EV)) : S → Option (R EV) := fun s => match s.env[i]? with
  | some .scr => bE f (fun ev s' => match ev with
    | .val (.int j) => (match atI ns j with
      | some n => some (.ok (.val (.int n)) s')
      | none => none)
    | _ => none) s
  | _ => none
theorem de_ixScr {i : Nat} {y : Str} {a : Addr} {ns : List Int} {e : Expr} {te : TE} {f : S → Option (R EV)} {p pos : Pos} (hc : c.scr = some (a, ns)) (he : DE c X W e te f) (hN : X.N[i]? = some y) (hv : Vis X.env.scope y) (hpx : PlainIx e) (hd : (y == ("__debug__" : Str)) = false := by decide) (hcd : (y == ("__classdict__" : Str)) = false := by decide) :
    DE c X W (.Subscript (.Name y p) e pos) (tOp (rIxL X.K) (tVar i) te) (ixScr i ns f) := by
  refine ⟨pe_ix ix_list (pe_var hN hv hd hcd) he.pe hpx, fun O as s σ H Q G q => ?_⟩
  unfold ixScr at q
  cases e0 : s.env[i]? with
  | none => rw [e0] at q; exact q.elim
  | some sv =>
    rw [e0] at q
    cases sv with
    | scr =>
      obtain ⟨a', ns', h1, h2, h3⟩ := slot_scr G e0
      rw [hc] at h1
      cases h1
      refine ⟨_, h2, he.ok O as s σ H _ G ?_⟩
      refine PostE.bind q fun ev s' v H' as' _ eg x fr q2 => ?_
      cases ev with
      | cell n => exact q2.elim
      | fresh n => exact q2.elim
      | val d =>
        cases d with
        | int j =>
          obtain ⟨G', r⟩ := eg
          cases r
          simp only at q2
          cases z : atI ns j with
          | none => rw [z] at q2; exact q2.elim
          | some n =>
            rw [z] at q2
            have h4 : SqL X.K H' a (ns.map V.int) := (G'.scr a ns hc).sq
            have h5 : atI (ns.map V.int) j = some (.int n) := by
              unfold atI at z ⊢
              rw [List.length_map]
              cases z2 : ixN ns.length j with
              | none => rw [z2] at z; cases z
              | some k =>
                rw [z2] at z
                have z : ns[k]? = some n := z
                show (ns.map V.int)[k]? = _
                rw [List.getElem?_map, z] <;> rfl
            exact ⟨a, _, j, _, rfl, rfl, h4, h5, q2 _ H' as' ⟨G', .int _⟩ (Stp.refl G'.lenC) trivial⟩
        | _ => exact q2.elim
    | _ => exact q.elim
end
end DL
namespace DL
open PySem PySem.Spec PyProof.Rows L2
/-! ### lists that change -/
section
variable {K : PySem.W.Frag} {c : Ctx} {X : Cx} {W : WX} {O as : List Addr} {s : S} {σ : L2.St} {H : Hp}
theorem RepA.set {Hh : Hp} : ∀ {ds : List D} {vs : List V} {d : D} {v : V} (i : Nat), RepA K Hh vs ds → Rep K Hh v d → RepA K Hh (vs.set i v) (ds.set i d)
  | [], _, _, _, _, h, _ => by cases h; exact .nil
  | d :: ds, _, _, _, 0, h, r => by
    cases h with
    | cons h1 h2 => exact .cons r h2
  | d :: ds, _, _, _, i + 1, h, r => by
    cases h with
    | cons h1 h2 => exact .cons h1 (RepA.set i h2 r)
theorem RepA.dropLast {Hh : Hp} {ds : List D} {vs : List V} (h : RepA K Hh vs ds) : RepA K Hh vs.dropLast ds.dropLast := by
  rw [List.dropLast_eq_take, List.dropLast_eq_take, h.length]
  exact h.take _
theorem slot_cell {i n : Nat} (G : Good K c O as s σ H) (e : s.env[i]? = some (.cell n)) : ∃ a, as[n]? = some a ∧ σ[i]? = some (some (.ref a)) := by
  obtain ⟨a, h1, h2⟩ := G.slots i _ e
  exact ⟨a, h1, join_some h2⟩
/-- x.append(e), x in slot i -/
def appE (i : Nat) (f : S → Option (R EV)) : S → Option (R EV) := fun s => match s.env[i]? with
  | some (.cell n) => (match s.st[n]? with
    | some (.lst _) => bE (fz f) (fun ev s' => match ev, s'.st[n]? with
      | .val d, some (.lst ds) => if ds.length < 1000000 then some (.ok (.val .none) ⟨s'.env, s'.st.set n (.lst (ds ++ [d]))⟩) else none
      | _, _ => none) s
    | _ => none)
  | _ => none
theorem de_append {i : Nat} {y : Str} {e : Expr} {te : TE} {f : S → Option (R EV)} {p apos pos : Pos} (he : DE c X W e te f) (hN : X.N[i]? = some y) (hv : Vis X.env.scope y)
    (hbase : attributeBase (.Name y p) "append" X.env (eval (.Name y p) X.env) = eval (.Name y p) X.env := by rfl)
    (hfew : ((backTo pos (starEach [e] X.env)).all (fun x => !x.1) && (backToKw pos (keywordEach [] X.env)).all (fun x => x.1.isSome)
      && decide ([e].length + ([] : List Keyword).length + (if ([] : List Keyword).isEmpty then 0 else 1) < 30)) = true := by rfl)
    (hline : (apos.endLine == pos.line) = true := by rfl) (hs : starEach [e] X.env = (false, eval e X.env) :: starEach [] X.env := by rfl) (hplain : (backTo pos (starEach [] X.env)).any (·.1) = false := by rfl)
    (hd : (y == ("__debug__" : Str)) = false := by decide) (hcd : (y == ("__classdict__" : Str)) = false := by decide) :
    DE c X W (.Call (.Attribute (.Name y p) "append" apos) [e] [] pos) (tBM X.K "list" rAppend (tVar i) (tCons te tNil)) (appE i f) := by
  refine ⟨pe_bm PySem.F.plainAttrs_list PySem.F.slot_list_append PySem.F.type_list_append mt_append (pe_var hN hv hd hcd) (pa_cons he.pe pa_nil hs) hbase hfew hline hs hplain, fun O as s σ H Q G q => ?_⟩
  unfold appE at q
  cases e0 : s.env[i]? with
  | none => rw [e0] at q; exact q.elim
  | some sv =>
    rw [e0] at q
    cases sv with
    | cell n =>
      obtain ⟨a, h1, h2⟩ := slot_cell G e0
      simp only at q
      cases z0 : s.st[n]? with
      | none => rw [z0] at q; exact q.elim
      | some mo0 =>
      rw [z0] at q
      cases mo0 with
      | dead => exact q.elim
      | ins C fs => exact q.elim
      | lst ds0 =>
      simp only at q
      obtain ⟨vs0, e10, _⟩ := G.cells n a _ h1 z0
      have hlist : ∃ xs, SqL X.K H a xs := ⟨vs0, SqL.of e10⟩
      refine ⟨.ref a, h2, .inl ⟨rfl, hlist⟩, ?_⟩
      refine operand he.ok G q fun ev s1 v H1 as1 G1 o1 x1 q1 => ?_
      cases ev with
      | cell n => exact q1.elim
      | fresh n => exact q1.elim
      | val d =>
        cases z : s1.st[n]? with
        | none => rw [z] at q1; exact q1.elim
        | some mo =>
          rw [z] at q1
          cases mo with
          | dead => exact q1.elim
          | ins C fs => exact q1.elim
          | lst ds =>
            simp only at q1
            split at q1
            · rename_i hl
              obtain ⟨more, em, _⟩ := x1.pre
              have h1' : as1[n]? = some a := by rw [em, List.getElem?_append_left (List.getElem?_eq_some_iff.mp h1).1]; exact h1
              obtain ⟨vs, e1, r⟩ := G1.cells n a _ h1' z
              have r' : RepA X.K (Hid _ as1 s1.st H1) (vs ++ [v]) (ds ++ [d]) := r.append (.cons o1 .nil)
              refine ⟨a, vs, v, rfl, rfl, e1, by rw [r.length, sizeLine_eq]; omega, ?_⟩
              exact q1 .non _ as1 ⟨G1.setList h1' z r', .non⟩ (Stp.setCell G1.lenC z (by simp) h1' noTbl_lst) trivial
            · exact q1.elim
    | _ => exact q.elim
/-- x.pop(), x in slot i -/
def popE (i : Nat) : S → Option (R EV) := fun s => match s.env[i]? with
  | some (.cell n) => (match s.st[n]? with
    | some (.lst ds) => (match ds[ds.length - 1]? with
      | some d => some (.ok (.val d) ⟨s.env, s.st.set n (.lst ds.dropLast)⟩)
      | none => none)
    | _ => none)
  | _ => none
theorem de_pop {i : Nat} {y : Str} {p apos pos : Pos} (hN : X.N[i]? = some y) (hv : Vis X.env.scope y)
    (hbase : attributeBase (.Name y p) "pop" X.env (eval (.Name y p) X.env) = eval (.Name y p) X.env := by rfl) (hline : (apos.endLine == pos.line) = true := by rfl)
    (hd : (y == ("__debug__" : Str)) = false := by decide) (hcd : (y == ("__classdict__" : Str)) = false := by decide) :
    DE c X W (.Call (.Attribute (.Name y p) "pop" apos) [] [] pos) (tBM0 X.K "list" rPop (tVar i)) (popE i) := by
  refine ⟨pe_bm0 PySem.F.plainAttrs_list PySem.F.slot_list_pop PySem.F.type_list_pop mt_pop (pe_var hN hv hd hcd) hbase hline, fun O as s σ H Q G q => ?_⟩
  unfold popE at q
  cases e0 : s.env[i]? with
  | none => rw [e0] at q; exact q.elim
  | some sv =>
    rw [e0] at q
    cases sv with
    | cell n =>
      obtain ⟨a, h1, h2⟩ := slot_cell G e0
      simp only at q
      cases z0 : s.st[n]? with
      | none => rw [z0] at q; exact q.elim
      | some mo0 =>
        rw [z0] at q
        cases mo0 with
        | dead => exact q.elim
        | ins C fs => exact q.elim
        | lst ds =>
          simp only at q
          cases z : ds[ds.length - 1]? with
          | none => rw [z] at q; exact q.elim
          | some d =>
            rw [z] at q
            obtain ⟨vs, e1, r⟩ := G.cells n a _ h1 z0
            obtain ⟨v, hv2, rv⟩ := r.get z
            have hv3 : vs[vs.length - 1]? = some v := by rw [r.length]; exact hv2
            refine ⟨.ref a, h2, .inl ⟨rfl, _, SqL.of e1⟩, a, vs, v, rfl, rfl, e1, hv3, ?_⟩
            have G2 := G.setList h1 z0 r.dropLast
            have e3 : Hid O as (s.st.set n (.lst ds.dropLast)) (upd H a (.lst vs.dropLast)) = Hid O as s.st H := hid_set z0 (by simp) (by simp) h1
            exact q v _ as ⟨G2, by show Rep X.K (Hid O as (s.st.set n (.lst ds.dropLast)) _) v d; rw [e3]; exact rv⟩ (Stp.setCell G.lenC z0 (by simp) h1 noTbl_lst) trivial
    | _ => exact q.elim
/-- x[k] = e, x in slot i -/
def setIxS (i : Nat) (fe fk : S → Option (R EV)) : S → Option RS := bS (fz fe) fun ev s => match ev, s.env[i]? with
  | .val d, some (.cell n) => bS (fz fk) (fun kv s => match kv, s.st[n]? with
    | .val (.int k), some (.lst ds) => (match ixN ds.length k with
      | some j => some (.next ⟨s.env, s.st.set n (.lst (ds.set j d))⟩)
      | none => none)
    | _, _ => none) s
  | _, _ => none
theorem ds_setIx {i : Nat} {y : Str} {e k : Expr} {te tk : TE} {fe fk : S → Option (R EV)} {p tpos pos : Pos} (he : DE c X W e te fe) (hk : DE c X W k tk fk) (hN : X.N[i]? = some y) (hv : Vis X.env.scope y)
    (ha : ∀ v, assign (.Subscript (.Name y p) k tpos) X.env v = (do
      let ov ← holding [v] (eval (.Name y p) X.env)
      let iv ← holding [v, ov] (eval k X.env)
      standAt tpos
      holding [v, ov, iv] (setItem ov iv v)
      release [v, ov, iv] []) := by intro _; rfl)
    (hs : swapsWithSole [.Subscript (.Name y p) k tpos] e pos.line X.env = pure false := by rfl) (hw : swappedStores [.Subscript (.Name y p) k tpos] e X.env = pure none := by rfl)
    (h1 : (assignEach [.Subscript (.Name y p) k tpos] X.env).map (·.2) = [assign (.Subscript (.Name y p) k tpos) X.env] := by rfl)
    (hd : (y == ("__debug__" : Str)) = false := by decide) (hcd : (y == ("__classdict__" : Str)) = false := by decide) :
    DS c X W (.Assign [.Subscript (.Name y p) k tpos] e pos) (tAsg te (gSub (tVar i) tk rSetL)) (setIxS i fe fk) := by
  refine ⟨ps_asg he.pe (pg_sub (pe_var hN hv hd hcd) hk.pe set_list ha) hs hw h1, fun O as s σ H B G q => ?_⟩
  refine he.ok O as s σ H _ G (PostE.fz (PostS.bind q fun ev s1 v H1 as1 eg1 x1 fr1 q1 => ?_))
  have q1 := PostS.after x1 q1
  have G1 := eg1.good
  cases ev with
  | cell n => exact q1.elim
  | fresh n => exact q1.elim
  | val d =>
    obtain ⟨_, r1⟩ := eg1
    cases e0 : s1.env[i]? with
    | none => rw [e0] at q1; exact q1.elim
    | some sv =>
      rw [e0] at q1
      cases sv with
      | un => exact q1.elim
      | val _ => exact q1.elim
      | scr => exact q1.elim
      | cell n =>
        obtain ⟨a, ha1, ha2⟩ := slot_cell G1 e0
        refine ⟨.ref a, ha2, ?_⟩
        refine hk.ok O as1 s1 σ H1 _ G1 (PostE.fz (PostS.bind q1 fun kv s2 u H2 as2 eg2 x2 fr2 q2 => ?_))
        have q2 := PostS.after x2 q2
        cases kv with
        | cell n => exact q2.elim
        | fresh n => exact q2.elim
        | val kd =>
          obtain ⟨G2, r2⟩ := eg2
          cases kd with
          | int k =>
            cases r2
            cases z : s2.st[n]? with
            | none => rw [z] at q2; exact q2.elim
            | some mo =>
              rw [z] at q2
              cases mo with
              | dead => exact q2.elim
              | ins C fs => exact q2.elim
              | lst ds =>
                simp only at q2
                cases z2 : ixN ds.length k with
                | none => rw [z2] at q2; exact q2.elim
                | some j =>
                  rw [z2] at q2
                  obtain ⟨more, em, _⟩ := x2.pre
                  have h1' : as2[n]? = some a := by rw [em, List.getElem?_append_left (List.getElem?_eq_some_iff.mp ha1).1]; exact ha1
                  obtain ⟨vs, e1, r⟩ := G2.cells n a _ h1' z
                  refine ⟨a, vs, k, j, rfl, rfl, e1, by rw [r.length]; exact z2, ?_⟩
                  exact q2 σ _ as2 (G2.setList h1' z (r.set j (r1.ext x2.ext))) (Stp.setCell G2.lenC z (by simp) h1' noTbl_lst)
          | _ => exact q2.elim

/-! ### try -/
def noErr (g : S → Option RS) : S → Option RS := fun s => match g s with
  | some (.err _ _) => none
  | r => r
def clauses : List (Str × (S → Option RS)) → Er → S → Option RS
  | [], x, s => some (.err x s)
  | (n, g) :: r, x, s => if x.cls = n then noErr g s else clauses r x s
def tryS (names : List Str) (f : S → Option RS) (cl : List (Str × (S → Option RS))) : S → Option RS := fun s => match f s with
  | some (.err x s') => if x.cls ∈ names then clauses cl x s' else none
  | r => r
inductive HdsD (c : Ctx) (X : Cx) : List ExceptHandler → List (Value × (Addr → Value → Option Addr → TS)) → List (Str × (S → Option RS)) → Prop
  | nil : HdsD c X [] [] []
  | cons {x n : Str} {t : TS} {g : S → Option RS} {b₀ : Stmt} {suite : List Stmt} {np pos' : Pos} {hds : List ExceptHandler} {l : List (Value × (Addr → Value → Option Addr → TS))} {cl : List (Str × (S → Option RS))}
      (hc : Names X x (.ref (c.ec n))) (hsu : ∀ (a : Addr) (oe : Obj) (pn : List (Addr × Obj)), DB c (X.suite a ((a, oe) :: pn)) W0 (b₀ :: suite) t g) (r : HdsD c X hds l cl) :
      HdsD c X (.ExceptHandler (some (.Name x np)) none (b₀ :: suite) pos' :: hds) ((.ref (c.ec n), fun _ _ _ => t) :: l) ((n, g) :: cl)
theorem HdsD.hds {hds : List ExceptHandler} {l : List (Value × (Addr → Value → Option Addr → TS))} {cl : List (Str × (S → Option RS))} (h : HdsD c X hds l cl) : HdsOk X hds l := by
  induction h with
  | nil => exact .nil
  | cons hc hsu r ih => exact .cons hc (fun a oe cls d pn _ _ => (hsu a oe pn).pss) ih
theorem noErr_post {as0 : List Addr} {st0 : List MO} {H0 : Hp} {B : Ends} {g : S → Option RS} (h : PostS K c O as0 st0 H0 W B (noErr g s)) : PostS K c O as0 st0 H0 W0 B (g s) := by
  unfold noErr at h
  cases e : g s with
  | none => rw [e] at h; exact h
  | some r =>
    rw [e] at h
    cases r with
    | next s' => exact h
    | ret ev s' => exact h
    | err x s' => exact h.elim
theorem clauses_ok {names : List Str} {hds : List ExceptHandler} {l : List (Value × (Addr → Value → Option Addr → TS))} {cl : List (Str × (S → Option RS))} (h : HdsD c X hds l cl) (hE : ∀ n1 ∈ names, ∀ p ∈ cl, PySem.W.exmOne X.K (.ref (c.ec n1)) (.ref (c.ec p.1)) = some (decide (n1 = p.1)))
    {B : Ends} {x : Er} (hx : x.cls ∈ names) {d : Option Addr} (G : Good X.K c O as s σ H) (er : ErOk X.K (Hid O as s.st H) x d H) (q : PostS X.K c O as s.st H W B (clauses cl x s)) : wMany X.K W B l (.ref (c.ec x.cls)) d σ H := by
  induction h with
  | nil => exact q d σ H as G (Stp.refl G.lenC) er
  | @cons x' n t g b₀ suite np pos' hds l cl hc hsu r ih =>
    refine ⟨_, hE _ hx (n, g) List.mem_cons_self, fun hb a _ => ?_, fun hb => ?_⟩
    · have e : x.cls = n := of_decide_eq_true hb
      simp only [clauses] at q
      rw [if_pos e] at q
      exact (hsu 0 { cls := .none, data := .plain } []).ok O as s σ H B G (noErr_post q)
    · have e : ¬ x.cls = n := of_decide_eq_false hb
      simp only [clauses] at q
      rw [if_neg e] at q
      exact ih (fun n1 h1 p hp => hE n1 h1 p (List.mem_cons_of_mem _ hp)) q
/-- the body's reading, where its wish is borne -/
def tEv (X : Cx) (tb : WX → TS) : WX → TS := fun W' B σ H => (∃ (pn : List (Addr × Obj)) (xe : Value → Shared → Prop), Takes (X.tr pn xe) W' ∧ PassesOwn (model X.prog X.w) X.A X.env xe) → tb W' B σ H
theorem ds_try {names : List Str} {body : List Stmt} {h₀ : ExceptHandler} {hds : List ExceptHandler} {l : List (Value × (Addr → Value → Option Addr → TS))} {cl : List (Str × (S → Option RS))} {pos : Pos} {tb : WX → TS} {f : S → Option RS}
    (hs : X.stack = X.env :: X.outer) (hf : X.env.frame = some X.env.locals) (tk : Takes X W)
    (hb : ∀ (W' : WX) (pn : List (Addr × Obj)) (xe : Value → Shared → Prop), Takes (X.tr pn xe) W' → PassesOwn (model X.prog X.w) X.A X.env xe → DB c (X.tr pn xe) W' body (tb W') f)
    (hh : HdsD c X (h₀ :: hds) l cl) (hE : ∀ n1 ∈ names, ∀ p ∈ cl, PySem.W.exmOne X.K (.ref (c.ec n1)) (.ref (c.ec p.1)) = some (decide (n1 = p.1))) :
    DS c X W (.Try body (h₀ :: hds) [] [] pos) (fun B σ H => tEv X tb (wMany X.K W B l) B σ H) (tryS names f cl) := by
  refine ⟨ps_try_many hs hf tk (tb := tEv X tb) (fun W' pn xe tk' po => ⟨fun pins s σ H B I q => (hb W' pn xe tk' po).pss.run pins s σ H B I (q ⟨pn, xe, tk', po⟩)⟩) hh.hds, fun O as s σ H B G q => ?_⟩
  rintro ⟨pn, xe, tk', po⟩
  refine (hb (wMany X.K W B l) pn xe tk' po).ok O as s σ H B G ?_
  unfold tryS at q
  cases e : f s with
  | none => rw [e] at q; exact q
  | some r =>
    rw [e] at q
    cases r with
    | next s' => exact q
    | ret ev s' => exact q
    | err x s' =>
      intro d σ' H' as' G' x' er
      simp only at q
      split at q
      · rename_i hx
        exact clauses_ok hh hE hx G' er (PostS.after x' q)
      · exact q.elim
end
end DL
set_option maxHeartbeats 2000000
namespace DL
open PySem PySem.Spec PyProof.Rows L2
open LamX (CodeO LamS lamEnv lamCx TabB Tabs ExtN lam_make2 lam_start2 run_ofS)
/-! ### a lambda without parameters, handed to a def that calls it -/
/-- the context of the def that got it -/
abbrev gCx (X : Cx) (Ng : List Str) (x : Str) (sg : Scope) (g : Addr) (cdg : Value) (s : Shared) (H : Hp) : Cx := cxOf L2.CX0 X.prog X.w X.K X.mg X.base Ng x sg g cdg X.A X.stack s H L2.E0
/-- the reading of its call there -/
def tAct (f c' : Addr) (q : Str) (tl : XK → Hp → VK → Prop) (W : WX) : TE := fun σZ HZ Q => σZ[0]? = some (some (.ref f)) ∧ HZ c' = some (CodeO c' q) ∧ tl (WE W σZ) HZ Q
section
variable {X : Cx} {pins : List (Addr × Obj)} {σ : L2.St} {H : Hp} {s : Shared}
theorem act_pe {Ng : List Str} {qg : Str} {sg : Scope} {g f c' : Addr} {cdg pm ctv : Value} {params : Arguments} {body : Expr} {scope : Scope} {k : Nat} {a : Str} {pn : List (Addr × Obj)} {xe : Value → Shared → Prop} {W : WX} {tb : XK → TE} {p1 p2 : Pos}
    (I : Inv X pins σ H s) (L : LamS X.env.scope scope)
    (hf : s.heap.get? f = some (PySem.W.kla_obj "<lambda>" (X.env.qual ++ "<lambda>") params body scope (cloFrom X.env.cells scope.names []) pm c' ctv)) (hfn : H f = none) (hfr : f ∉ frs X.stack)
    (hbind : bindArgs (PySem.W.kla_fn "<lambda>" (X.env.qual ++ "<lambda>") params body scope (cloFrom X.env.cells scope.names []) pm (.ref c') ctv) ⟨[], []⟩ = pure [])
    (tk : Takes ((gCx X Ng qg sg g cdg s H).tr pn xe) W) (hr : Room (k + 1) (X.A.deeper (envOfC qg sg s.heap.objs.size g cdg)))
    (hbody : ∀ (A : Around) (outer : List Env) (s : Shared) (H : Hp) (E : XK), Room k (A.deeper (lamEnv X scope s.heap.objs.size f c')) → PE (lamCx X A outer s H E scope f c') body (tb E))
    (hN : Ng[0]? = some a) (hv : Vis sg a) (hd : (a == ("__debug__" : Str)) = false := by decide) (hcd : (a == ("__classdict__" : Str)) = false := by decide) :
    PE ((gCx X Ng qg sg g cdg s H).tr pn xe) (.Call (.Name a p1) [] [] p2) (tAct f c' (X.env.qual ++ "<lambda>") (fun E HZ Q => tb E σ HZ Q) W) := by
  constructor
  intro pinsZ sZ σZ HZ Q IZ h
  obtain ⟨hs, hc, ht⟩ := h
  have named : PE ((gCx X Ng qg sg g cdg s H).tr pn xe) (.Name a p1) (tVar 0) := pe_var hN hv hd hcd
  refine wpAny_Call_Name_kw (thn (named.run pinsZ sZ σZ HZ (fun v H1 => v = .ref f ∧ H1 = HZ) IZ ⟨.ref f, hs, rfl, rfl⟩) ?_)
  rintro u s1 ⟨v, H1, I1, r1, ev, eH⟩
  rw [ev] at r1
  rw [eH] at I1
  have eu : u = Value.ref f := r1
  subst eu
  have nof : f ∉ ([] : List Addr) := by simp
  have of1 := I1.base.keep f _ hf hfn hfr nof
  refine PySem.W.callWith_F0 ⟨_, _, _, _, of1⟩ ?_
  obtain ⟨⟨oc, vs, t, hoc, hdc, hvc⟩, _, _⟩ := I1.hok c' _ hc
  have rc : codeAny (model X.prog X.w) (X.A.deeper (envOfC qg sg s.heap.objs.size g cdg)) (.call (.ref f) ⟨[], []⟩)
      (CR (L2.CX X.prog X.w) (envOfC qg sg s.heap.objs.size g cdg :: X.stack) X.prog X.w HZ s1 Q (WE W σZ)) s1 := by
    refine PySem.W.kla_callFunE hr.depth of1 rfl L.co L.gen rfl ⟨c', oc, vs, t, rfl, hoc, hdc, hvc⟩ ?_
    rw [hbind]
    have noloc : ∀ y ∈ scope.names, y.2 ≠ .cell := fun y hy => (L.own y hy).2
    refine wpAny_pure (wpAny_newFunctionEnv noloc (fun y hy => absurd hy (by simp)) (fun h₁ hns hsb => ⟨I1.nolimit.fresh _ hsb, ?_⟩) L.kind)
    have kp : ∀ b o, s1.heap.get? b = some o → h₁.get? b = some o := by
      intro b o e
      exact hsb.extBut b o (Nat.ne_of_lt (Heap.lt_size e)) (Heap.get?_push_of_some _ e)
    have J := lam_start2 (E := WE W σZ) (f := f) (c' := c') (tk := s1.toks + ([] : List (Str × Value)).length) I L I1.env0 hr.hd I1.base hns kp
    refine PySem.W.kla_codeExpr (wpAny_mono ((hbody _ _ s1 HZ (WE W σZ) (hr.deeper _)).run [] _ _ HZ Q J ht) ?_ fun e s' hq => hq)
    rintro v2 s' ⟨w', H', J', rv, q⟩
    exact ⟨w', H', J'.os, J'.bare, J'.base, J'.hok, rv, q⟩
  refine wpAny_call (codeAny_mono rc fun r s' hq => ?_)
  match r, hq with
  | .error e, hq => exact passAt tk σZ pinsZ HZ s1 e s' I1 hq
  | .ok (.ret u), hq => exact I1.after hq
  | .ok .next, hq => exact hq.elim
  | .ok .brk, hq => exact hq.elim
  | .ok .cont, hq => exact hq.elim
end
/-- the def at g makes of the lambda's reading what TT says -/
def GivesS (X : Cx) (Ng : List Str) (x : Str) (sg : Scope) (g : Addr) (cdg : Value) (bg : List Stmt) (a : Str) (q : Str) (TT : (XK → Hp → VK → Prop) → Hp → VK → Prop) : Prop :=
  ∀ (f c' : Addr) (s : Shared) (H : Hp) (Q : VK) (tl : XK → Hp → VK → Prop),
    (∀ (W : WX) (pn : List (Addr × Obj)) (xe : Value → Shared → Prop) (p1 p2 : Pos), Takes ((gCx X Ng x sg g cdg s H).tr pn xe) W → PE ((gCx X Ng x sg g cdg s H).tr pn xe) (.Call (.Name a p1) [] [] p2) (tAct f c' q tl W)) →
    H c' = some (CodeO c' q) → TT tl H Q → ∃ t, PSs (gCx X Ng x sg g cdg s H).nox bg t ∧ t { nx := fun _ H' => Q .non H', rt := Q } (L2.start Ng [.ref f]) H
def tLamS (T : List (Addr × Str)) (TT : (XK → Hp → VK → Prop) → Hp → VK → Prop) (t : XK → TE) : TE := fun σ H Q => Tabs T H ∧ ∀ H1, ExtN H H1 → Tabs T H1 → TT (fun E H' Q' => t E σ H' Q') H1 Q
section
variable {X : Cx}
theorem lamcall_pe {T : List (Addr × Str)} {TT : (XK → Hp → VK → Prop) → Hp → VK → Prop} {x a : Str} {g c P : Addr} {k : Nat} {pg : Arguments} {bg : List Stmt} {sg : Scope} {dV kV doc pm cdv ct oc : Value} {an od : Option Addr} {osl : Array (Option Value)} {Ng : List Str}
    {params : Arguments} {body : Expr} {scope : Scope} {t : XK → TE} {p lpos pos : Pos} (hg : Gl X x) (hm : X.mg x = some (.ref g)) (hk : PySem.W.keepIn X.K (.ref g) = true)
    (lk : X.K.lookup g = some ⟨oc, od, .func (PySem.W.fnOf x x pg bg sg dV kV doc pm an cdv ct), osl⟩) (hcg : PySem.W.codeIn X.K cdv x = true) (hb : L2.Binds X.K (PySem.W.fnOf x x pg bg sg dV kV doc pm an cdv ct) [a] []) (Sg : FnScope Ng [a] sg) (hNg : Ng[0]? = some a) (hva : Vis sg a)
    (hG : GivesS X Ng x sg g cdv bg a (X.env.qual ++ "<lambda>") TT)
    (TB : TabB X.base X.mg c P) (hcode : X.env.code = .ref c) (hmT : (P, X.env.qual ++ "<lambda>") ∈ T) (hu : ∀ p ∈ T, p.1 = P → p.2 = X.env.qual ++ "<lambda>") (hr : Room (k + 2) X.A) (L : LamS X.env.scope scope) (hdef : defaultsOf params X.env = ([], []))
    (hbind : ∀ (q : Str) (cl : List (Str × Addr)) (pm cv ctv : Value), bindArgs (PySem.W.kla_fn "<lambda>" q params body scope cl pm cv ctv) ⟨[], []⟩ = pure [])
    (hbody : ∀ (A : Around) (outer : List Env) (s : Shared) (H : Hp) (E : XK) (f c' : Addr), Room k (A.deeper (lamEnv X scope s.heap.objs.size f c')) → PE (lamCx X A outer s H E scope f c') body (t E))
    (hdb : (x == ("__debug__" : Str)) = false := by decide) (hd : (a == ("__debug__" : Str)) = false := by decide) (hcd : (a == ("__classdict__" : Str)) = false := by decide) :
    PE X (.Call (.Name x p) [.Lambda params body scope lpos] [] pos) (tLamS T TT t) := by
  constructor
  intro pins s σ H Q I h
  obtain ⟨hT, h⟩ := h
  refine wpAny_Call_Name_kw (ld_glob I hg hm ?_ hdb)
  refine PySem.W.callWith_K (h₀ := X.base) I.ok.mod.kin hk ?_ (by rfl) (by rfl)
  show wpAny _ _ (spliced ((false, eval (.Lambda params body scope lpos) X.env) :: backTo pos (starEach [] X.env))) _ _ s
  refine Calls.spliced_cons (lam_make2 I TB hcode hmT hu hT hdef (L.has I.ok) ?_)
  intro f c' pm' ctv H1 s' I1 eN T1 hf hfn hfr hco
  refine Calls.spliced_nil ⟨I1.kIn, ?_⟩
  have rc : codeAny (model X.prog X.w) X.A (.call (.ref g) ⟨[.ref f], []⟩) (CR L2.CX0 X.stack X.prog X.w H1 s' Q L2.E0) s' := by
    refine run_ofS (N := Ng) (ps := [a]) (us := [.ref f]) (vs := [.ref f]) lk hcg Sg hr I1.env0 (hb s' [.ref f] I1.kIn rfl) (.cons rfl .nil) rfl ?_
    intro hr'
    obtain ⟨t', ht', hq'⟩ := hG f c' s' H1 Q (fun E H' Q' => t E σ H' Q')
      (fun W pn xe p1 p2 tk => act_pe I1 L hf hfn hfr (hbind _ _ _ _ _) tk hr' (fun A outer s H E hr2 => hbody A outer s H E f c' hr2) hNg hva hd hcd) hco (h H1 eN T1)
    exact ⟨t', ht'.nox, hq'⟩
  refine wpAny_call (codeAny_mono rc fun r s2 hq => ?_)
  match r, hq with
  | .error e, hq => exact (show False from hq).elim
  | .ok (.ret u), hq => exact I1.after hq
  | .ok .next, hq => exact hq.elim
  | .ok .brk, hq => exact hq.elim
  | .ok .cont, hq => exact hq.elim
end
/-! ### .. on data -/
abbrev LamF := List MO → Option (R EV)
def actE (f : Addr) (φ : LamF) : S → Option (R EV) := fun s => match s.env[0]? with
  | some (SV.val (.dict [(.none, .int n)])) => if n = (f : Nat) then (match φ s.st with
    | none => none
    | some (.ok ev s') => some (.ok ev ⟨s.env, s'.st⟩)
    | some (.err x s') => some (.err x ⟨s.env, s'.st⟩)) else none
  | _ => none
/-- the callee's result, by the lambda's function -/
def TLd (K : PySem.W.Frag) (c : Ctx) (env : List SV) (σ : L2.St) (φ : LamF) (tl : XK → Hp → VK → Prop) : Prop := ∀ O as st H E Q, Good K c O as ⟨env, st⟩ σ H → PostF K c O as st H Q E (φ st) → tl E H Q
def TTd (K : PySem.W.Frag) (c : Ctx) (R' : LamF → LamF) : (XK → Hp → VK → Prop) → Hp → VK → Prop := fun tl H Q =>
  ∃ O as env st σ φ, Good K c O as ⟨env, st⟩ σ H ∧ TLd K c env σ φ tl ∧ PostF K c O as st H Q (fun _ _ _ => False) (R' φ st)
section
variable {K : PySem.W.Frag} {c c1 : Ctx} {O as as' : List Addr} {s s' : S} {st st' : List MO} {σ σ' : L2.St} {H H' : Hp} {env : List SV}
theorem SlotOk.ctx {Hh : Hp} {sv : SV} {o : Option V} (e : c.scr = c1.scr) (h : SlotOk K c Hh as sv o) : SlotOk K c1 Hh as sv o := by
  cases sv with
  | scr => obtain ⟨a, ns, h1, h2⟩ := h; exact ⟨a, ns, e ▸ h1, h2⟩
  | _ => exact h
theorem CellOk.ctx {Hh : Hp} {a : Addr} {mo : MO} (e : c.scr = c1.scr) (h : CellOk K c Hh H as a mo) : CellOk K c1 Hh H as a mo := by
  cases mo with
  | ins C fs => obtain ⟨dx, fs', h1, h2, h3, h4, h5⟩ := h; exact ⟨dx, fs', h1, h2, h3, h4, fun f => (h5 f).ctx e⟩
  | _ => exact h
theorem Good.ctx (G : Good K c O as s σ H) (e : c.scr = c1.scr) (eT : c.T = c1.T) (ex : c1.ex as (Hid O as s.st H)) : Good K c1 O as s σ H :=
  ⟨G.lenE, G.lenC, G.nd, G.odis, G.odom, G.cdom, fun i sv h => (G.slots i sv h).ctx e, fun n a mo h1 h2 => (G.cells n a mo h1 h2).ctx e, eT ▸ G.tabs, fun a ns h => G.scr a ns (e.symm ▸ h), ex⟩
theorem EvGood.ctx {ev : EV} {v : V} (h : EvGood K c O as s σ H ev v) (e : c.scr = c1.scr) (eT : c.T = c1.T) (ex : c1.ex as (Hid O as s.st H)) (ex2 : ∀ a, (∀ ds, ev = .fresh ds → v = .ref a → c1.ex as (Hid (a :: O) as s.st H))) : EvGood K c1 O as s σ H ev v := by
  cases ev with
  | val d => exact ⟨h.1.ctx e eT ex, h.2⟩
  | cell n => exact ⟨h.1.ctx e eT ex, h.2⟩
  | fresh ds => obtain ⟨a, vs, e1, h1, h2, G, r⟩ := h; exact ⟨a, vs, e1, h1, h2, G.ctx e eT (ex2 a ds rfl e1), r⟩
/-- the def that got the lambda, with the caller's frame kept beside -/
def inCtx (K : PySem.W.Frag) (c : Ctx) (env : List SV) (σ : L2.St) (c' : Addr) (q : Str) : Ctx where
  T := c.T
  ec := c.ec
  scr := c.scr
  ex := fun as Hh => (∀ (i : Nat) (sv : SV), env[i]? = some sv → SlotOk K c Hh as sv (σ[i]?.join)) ∧ Hh c' = some (CodeO c' q) ∧ c.ex as Hh
  exm := fun as more H H' e h => ⟨fun i sv hi => (h.1 i sv hi).ext e ⟨more, rfl⟩, e _ _ h.2.1 (fun ps => LamX.codeO_ne ps), c.exm as more H H' e h.2.2⟩
theorem codeO_free {a : Addr} {q : Str} (G : Good K c O as s σ H) (h : H a = some (CodeO a q)) : Hid O as s.st H a = some (CodeO a q) := by
  refine hid_of (fun z => ?_) (fun z => ?_) h
  · obtain ⟨xs, e⟩ := G.odom a z
    rw [h] at e
    unfold CodeO at e
    cases e
  · rcases live_kind G z with ⟨vs, e⟩ | ⟨C, dx, fs, e⟩ <;> (rw [h] at e; unfold CodeO at e; cases e)
theorem act_ie {f c' : Addr} {q : Str} {W : WX} {tl : XK → Hp → VK → Prop} {φ : LamF} (hl : env.length = σ.length) (TL : TLd K c env σ φ tl) : IE K (inCtx K c env σ c' q) W (tAct f c' q tl W) (actE f φ) := by
  intro O as s σ1 H Q G q'
  obtain ⟨e1, e2, e3⟩ := G.ex
  unfold actE at q'
  cases z0 : s.env[0]? with
  | none => rw [z0] at q'; exact q'.elim
  | some sv =>
    rw [z0] at q'
    have key : ∃ n : Int, sv = .val (.dict [(.none, .int n)]) := by
      split at q'
      · rename_i n h
        exact ⟨n, Option.some.inj h⟩
      · exact q'.elim
    obtain ⟨n, rfl⟩ := key
    simp only at q'
    split at q'
    · rename_i hn
      subst hn
      obtain ⟨v, h1, h2⟩ := G.slots 0 _ z0
      have h2 : Rep K _ v (fnD f) := h2
      have hv : v = .ref f := by
        cases h2 with
        | fn a => rfl
      subst hv
      refine ⟨join_some h1, (hid_some e2).2.2, ?_⟩
      have G0 : Good K c O as ⟨env, s.st⟩ σ H := (G.ctx (c1 := c) rfl rfl e3).frame hl e1
      refine TL O as s.st H _ _ G0 ?_
      cases z : φ s.st with
      | none => rw [z] at q'; exact q'.elim
      | some r =>
        rw [z] at q'
        cases r with
        | ok ev s2 =>
          intro v H2 as2 eg x fr
          have ex2 : (inCtx K c env σ c' q).ex as2 (Hid O as2 s2.st H2) := by
            obtain ⟨more, em, _⟩ := x.pre
            rw [em]
            have := (inCtx K c env σ c' q).exm as more _ _ (x.ext (O := O)) G.ex
            rw [em] at this
            exact this
          have eg1 : EvGood K (inCtx K c env σ c' q) O as2 ⟨[], s2.st⟩ [] H2 ev v := eg.ctx rfl rfl ex2 fun a ds ed ev' => by
            subst ed
            obtain ⟨more, em, _⟩ := x.pre
            have := (inCtx K c env σ c' q).exm as more _ _ (ext_hide (O := O) x (fr a ev')) G.ex
            rw [← em] at this
            exact this
          exact q' v H2 as2 (EvGood.reframe (s' := ⟨[], s2.st⟩) (env := s.env) (st := s.st) G x eg1 fr) x fr
        | err y s2 =>
          intro d H2 as2 G2 x er
          have ex2 : (inCtx K c env σ c' q).ex as2 (Hid O as2 s2.st H2) := by
            obtain ⟨more, em, _⟩ := x.pre
            have := (inCtx K c env σ c' q).exm as more _ _ (x.ext (O := O)) G.ex
            rw [← em] at this
            exact this
          exact q' d H2 as2 (Good.reframe (s' := ⟨[], s2.st⟩) (env := s.env) (st := s.st) G x (G2.ctx rfl rfl ex2)) x er
    · exact q'.elim
end
/-- the def that got the lambda, by its body's function -/
theorem gives_of {X : Cx} {c : Ctx} {Ng : List Str} {x a q : Str} {sg : Scope} {g : Addr} {cdg : Value} {bg : List Stmt} {Gf : Addr → LamF → S → Option RS} {R' : LamF → LamF}
    (hb : ∀ (c1 : Ctx) (f : Addr) (s : Shared) (H : Hp) (ta : WX → TE) (φ : LamF), c1.ec = c.ec → c1.T = c.T → c1.scr = c.scr →
      (∀ (W : WX) (pn : List (Addr × Obj)) (xe : Value → Shared → Prop) (p1 p2 : Pos), Takes ((gCx X Ng x sg g cdg s H).tr pn xe) W → DE c1 ((gCx X Ng x sg g cdg s H).tr pn xe) W (.Call (.Name a p1) [] [] p2) (ta W) (actE f φ)) →
      ∃ t, DB c1 (gCx X Ng x sg g cdg s H).nox W0 bg t (Gf f φ))
    (hN : Ng ≠ []) (hR : ∀ f φ st r, R' φ st = some r → finF st.length (Gf f φ ⟨.val (fnD f) :: List.replicate (Ng.length - 1) .un, st⟩) = some r) : GivesS X Ng x sg g cdg bg a q (TTd X.K c R') := by
  intro f c' s H Q tl act hco hTT
  obtain ⟨O, as, env, st, σ, φ, G, TL, post⟩ := hTT
  have hl := G.lenE
  have hco' := codeO_free G hco
  obtain ⟨t, ht⟩ := hb (inCtx X.K c env σ c' q) f s H (tAct f c' q tl) φ rfl rfl rfl fun W pn xe p1 p2 tk => ⟨act W pn xe p1 p2 tk, act_ie hl TL⟩
  refine ⟨t, ht.pss, ?_⟩
  have G1 : Good X.K (inCtx X.K c env σ c' q) O as ⟨env, st⟩ σ H := G.ctx rfl rfl ⟨G.slots, hco', G.ex⟩
  have hlen : 0 < Ng.length := List.length_pos_iff.mpr hN
  have G2 : Good X.K (inCtx X.K c env σ c' q) O as ⟨.val (fnD f) :: List.replicate (Ng.length - 1) .un, st⟩ (L2.start Ng [.ref f]) H := by
    refine G1.frame (by simp [L2.start]) fun i sv h => ?_
    cases i with
    | zero =>
      have h : SV.val (fnD f) = sv := by simpa using h
      subst h
      exact ⟨.ref f, rfl, .fn f⟩
    | succ i =>
      have h : (List.replicate (Ng.length - 1) SV.un)[i]? = some sv := by simpa using h
      have : sv = .un := (List.mem_replicate.mp (List.mem_of_getElem? h)).2
      rw [this]
      trivial
  have ok : IS X.K (inCtx X.K c env σ c' q) W0 t (Gf f φ) := ht.ok
  refine ok O as ⟨.val (fnD f) :: List.replicate (Ng.length - 1) .un, st⟩ _ H _ G2 ?_
  refine fin_ok (st := st) (E := fun _ _ _ => False) (Q := Q) G2 rfl ?_ (fun _ _ => rfl) rfl
  cases z : R' φ st with
  | none => rw [z] at post; exact post.elim
  | some r =>
    rw [hR f φ st r z]
    rw [z] at post
    cases r with
    | err y s2 => exact (fun d H2 as2 G2 x er => post d H2 as2 (G2.ctx (c1 := c) rfl rfl G2.ex.2.2) x er)
    | ok ev s2 =>
      intro v H2 as2 eg x fr
      refine post v H2 as2 (eg.ctx (c1 := c) rfl rfl eg.good.ex.2.2 fun a ds ed ev' => ?_) x fr
      subst ed
      obtain ⟨a', vs, e1, h1, h2, G', r⟩ := eg
      rw [ev'] at e1
      cases e1
      exact G'.ex.2.2
/-- x(lambda: body) -/
def lamF (env : List SV) (f : S → Option (R EV)) : LamF := fun st => match f ⟨env, st⟩ with
  | none => none
  | some (.ok ev s') => some (.ok ev ⟨[], s'.st⟩)
  | some (.err x s') => some (.err x ⟨[], s'.st⟩)
def lamE (R' : LamF → LamF) (f : S → Option (R EV)) : S → Option (R EV) := fun s => match R' (lamF s.env f) s.st with
  | some (.ok ev s') => some (.ok ev ⟨s.env, s'.st⟩)
  | _ => none
end DL
namespace DL
open PySem PySem.Spec PyProof.Rows L2
open LamX (CodeO LamS lamEnv lamCx TabB Tabs ExtN)
section
variable {K : PySem.W.Frag} {c : Ctx} {O as : List Addr} {s : S} {st : List MO} {σ : L2.St} {H H' : Hp}
theorem ext_hid (e : Ext H H') : Ext (Hid O as st H) (Hid O as st H') := fun b o h nt => by
  obtain ⟨h1, h2, h3⟩ := hid_some h
  exact hid_of h1 h2 (e b o h3 nt)
/-- all but tables stay -/
theorem Good.growT (G : Good K c O as s σ H) (e : Ext H H') (t : Tabs c.T H') : Good K c O as s σ H' where
  lenE := G.lenE
  lenC := G.lenC
  nd := G.nd
  odis := G.odis
  odom := fun a ha => let ⟨xs, h⟩ := G.odom a ha; ⟨xs, e _ _ h noTbl_lst⟩
  cdom := fun a ha => let ⟨o, h, n⟩ := G.cdom a ha; ⟨o, e _ _ h n, n⟩
  slots := fun i sv h => (G.slots i sv h).ext (ext_hid e) ⟨[], by simp⟩
  cells := fun n a mo h1 h2 => by
    have := G.cells n a mo h1 h2
    cases mo with
    | dead => trivial
    | lst ds => obtain ⟨vs, e1, e2⟩ := this; exact ⟨vs, e _ _ e1 noTbl_lst, e2.ext (ext_hid e)⟩
    | ins C fs => obtain ⟨dx, fs', e1, e2, e3, e4, e5⟩ := this; exact ⟨dx, fs', e _ _ e1 (fun _ z => nomatch z), e _ _ e2 (fun _ z => nomatch z), e3, e4, fun f => (e5 f).ext (ext_hid e) ⟨[], by simp⟩⟩
  tabs := t
  scr := scr_keep G fun b o h _ nt => e b o h nt
  ex := c.exk (ext_hid e) G.ex
theorem Stp.ofExt (hl : as.length = st.length) (e : Ext H H') : Stp as st H as st H' := ⟨⟨[], by simp, by simp⟩, hl, fun _ h => h, fun b o h _ nt => e b o h nt, fun b h o ho nt => h o (e b o ho nt) nt⟩
theorem EvGood.bare {s' : S} {ev : EV} {v : V} (h : EvGood K c O as s' σ H ev v) : EvGood K c O as ⟨[], s'.st⟩ [] H ev v := by
  cases ev with
  | val d => exact ⟨h.1.frame rfl (fun i sv q => by simp at q), h.2⟩
  | cell n => exact ⟨h.1.frame rfl (fun i sv q => by simp at q), h.2⟩
  | fresh ds => obtain ⟨a, vs, e, h1, h2, G, r⟩ := h; exact ⟨a, vs, e, h1, h2, G.frame rfl (fun i sv q => by simp at q), r⟩
abbrev WL (E : XK) : WX := fun cls d _ H => E cls d H
theorem lam_ie {W : WX} {R' : LamF → LamF} {t : XK → TE} {fb : S → Option (R EV)} (h : ∀ E, IE K c (WL E) (t E) fb) : IE K c W (tLamS c.T (TTd K c R') t) (lamE R' fb) := by
  intro O as s σ H Q G q
  refine ⟨G.tabs, fun H1 e t1 => ?_⟩
  have e' : Ext H H1 := fun b o hb nt => e b o hb nt
  have G1 : Good K c O as ⟨s.env, s.st⟩ σ H1 := G.growT e' t1
  have x1 : Stp as s.st H as s.st H1 := Stp.ofExt G.lenC e'
  refine ⟨O, as, s.env, s.st, σ, lamF s.env fb, G1, fun O' as' st' H' E Q' G' post => ?_, ?_⟩
  · refine h E O' as' ⟨s.env, st'⟩ σ H' Q' G' ?_
    unfold lamF at post
    cases z : fb ⟨s.env, st'⟩ with
    | none => rw [z] at post; exact post.elim
    | some r =>
      rw [z] at post
      cases r with
      | ok ev s2 => exact fun v H2 as2 eg x fr => post v H2 as2 eg.bare x fr
      | err y s2 => exact fun d H2 as2 G2 x er => post d H2 as2 (G2.frame rfl (fun i sv q => by simp at q)) x er
  · unfold lamE at q
    cases z : R' (lamF s.env fb) s.st with
    | none => rw [z] at q; exact q.elim
    | some r =>
      rw [z] at q
      cases r with
      | err y s2 => exact q.elim
      | ok ev s2 => exact fun v H2 as2 eg x fr => q v H2 as2 (EvGood.reframe (s' := ⟨[], s2.st⟩) G1 x eg fr) (x1.trans x) (fr.back x1.dom)
end
section
variable {X : Cx} {c : Ctx} {W : WX}
theorem de_lam {x a : Str} {g cd P : Addr} {k : Nat} {st : Stmt} {fd : FuncData} {Ng : List Str} {R' : LamF → LamF}
    {params : Arguments} {body : Expr} {scope : Scope} {t : XK → TE} {fb : S → Option (R EV)} {p lpos pos : Pos} (F : Fun X.K x x st g fd) (hg : Gl X x) (hm : X.mg x = some (.ref g)) (hb : L2.Binds X.K fd [a] []) (Sg : FnScope Ng [a] (defScope st)) (hNg : Ng[0]? = some a) (hva : Vis (defScope st) a)
    (hG : ∀ cdv, GivesS X Ng x (defScope st) g cdv (defBody st) a (X.env.qual ++ "<lambda>") (TTd X.K c R'))
    (TB : TabB X.base X.mg cd P) (hcode : X.env.code = .ref cd) (hmT : (P, X.env.qual ++ "<lambda>") ∈ c.T) (hu : ∀ p ∈ c.T, p.1 = P → p.2 = X.env.qual ++ "<lambda>") (hr : Room (k + 2) X.A) (L : LamS X.env.scope scope) (hdef : defaultsOf params X.env = ([], []))
    (hbind : ∀ (q : Str) (cl : List (Str × Addr)) (pm cv ctv : Value), bindArgs (PySem.W.kla_fn "<lambda>" q params body scope cl pm cv ctv) ⟨[], []⟩ = pure [])
    (hbody : ∀ (A : Around) (outer : List Env) (s : Shared) (H : Hp) (E : XK) (f c' : Addr), Room k (A.deeper (lamEnv X scope s.heap.objs.size f c')) → DE c (lamCx X A outer s H E scope f c') (WL E) body (t E) fb)
    (hdb : (x == ("__debug__" : Str)) = false := by decide) (hd : (a == ("__debug__" : Str)) = false := by decide) (hcd : (a == ("__classdict__" : Str)) = false := by decide) :
    DE c X W (.Call (.Name x p) [.Lambda params body scope lpos] [] pos) (tLamS c.T (TTd X.K c R') t) (lamE R' fb) := by
  obtain ⟨oc, od, kV, doc, pm, an, cdv, ct, osl, rfl, lk, hcg⟩ := F.ex
  refine ⟨lamcall_pe hg hm F.kp lk hcg hb Sg hNg hva (hG cdv) TB hcode hmT hu hr L hdef hbind (fun A outer s H E f c' hr' => (hbody A outer s H E f c' hr').pe) hdb hd hcd, lam_ie fun E => ?_⟩
  exact (hbody X.A [] ({} : Shared) (fun _ => none) E 0 0 ((hr.deeper _).mono (Nat.le_succ k))).ok
end
end DL
namespace DL
open PySem PySem.Spec PyProof.Rows L2
/-! ### what a law's text gives -/
/-- a def of the module -/
structure FT (K : PySem.W.Frag) (mg : Str → Option Value) (x : Str) (st : Stmt) (ps : List Str) where
  a : Addr
  fd : FuncData
  F : Fun K x x st a fd
  b : L2.Binds K fd ps []
  m : mg x = some (.ref a)
/-- a def with lambdas: its code object and its table -/
structure FTL (K : PySem.W.Frag) (mg : Str → Option Value) (x : Str) (st : Stmt) (ps : List Str) extends FT K mg x st ps where
  cd : Addr
  P : Addr
  lk : ∃ (oc : Value) (od : Option Addr) (kV doc pm : Value) (an : Option Addr) (ct : Value) (osl : Array (Option Value)),
    fd = PySem.W.fnOf x x (defArgs st) (defBody st) (defScope st) .none kV doc pm an (.ref cd) ct ∧ K.lookup a = some ⟨oc, od, .func fd, osl⟩ ∧ PySem.W.codeIn K (.ref cd) x = true
/-- an own exception class over ValueError -/
structure CT (K : PySem.W.Frag) (mg : Str → Option Value) (x : Str) (C : Addr) : Prop where
  q : PySem.W.excIn K C [.type "ValueError", .type "Exception", .type "BaseException", .type "object"] "ValueError.__new__" = true
  m : mg x = some (.ref C)
  kp : PySem.W.keepIn K (.ref C) = true
  sub : PySem.W.subIn K (.ref C) (.type "BaseException") = some true
  ty : PySem.W.typeIn K (.ref C) = some (.type "type")
/-- the context of a law's defs -/
structure COk (ec : Str → Addr) (T : List (Addr × Str)) (sa : Addr) (ns : List Int) (c : Ctx) : Prop where
  ec : c.ec = ec
  T : c.T = T
  scr : c.scr = some (sa, ns)
def notV (f : S → Option (R EV)) : S → Option (R EV) := bE (toB f) fun b s => some (.ok (.val (.bool (!b))) s)
def notT (f : S → Option (R Bool)) : S → Option (R Bool) := bE f fun b s => some (.ok (!b) s)
section
variable {c : Ctx} {X : Cx} {W : WX} {K : PySem.W.Frag} {mg : Str → Option Value}
theorem de_gint {i : Int} {x : Str} {pos : Pos} (h : ∃ t, X.mg x = some (.int i t)) (hg : Gl X x) (hd : (x == ("__debug__" : Str)) = false := by decide) : DE c X W (.Name x pos) (tC (.int i)) (kst (.int i)) := by
  obtain ⟨t, e⟩ := h
  exact de_glob hg e ⟨t, rfl⟩ (fun _ => .int i) hd
theorem ds_raiseO {x m : Str} {j : Nat} {p p2 pos pos' : Pos} {ec : Str → Addr} (T : CT X.K X.mg x (ec x)) (he : c.ec = ec) (hc : X.calm = true) (tk : Takes X W) (hg : Gl X x) (hdb : (x == ("__debug__" : Str)) = false := by decide) :
    DS c X W (.Raise (some (.Call (.Name x p) [.Constant (.str m) j p2] [] pos')) none pos) (fun _ σ H => W (.ref (c.ec x)) none σ H) (raiseS ⟨x, none⟩) := by
  subst he
  exact ds_raise hc tk (pmk_own PySem.F.excBase_ValueError T.q T.m T.kp (raises_own T.sub T.ty) hg hdb)
theorem names_ct {x : Str} {ec : Str → Addr} (T : CT X.K X.mg x (ec x)) (he : c.ec = ec) (hg : Gl X x) (hdb : (x == ("__debug__" : Str)) = false := by decide) : Names X x (.ref (c.ec x)) := by
  subst he
  exact ⟨hg, hdb, .inl T.m⟩
theorem hE_of {ec : Str → Addr} {names : List Str} {cl : List (Str × (S → Option RS))} (he : c.ec = ec) {all : List Str} (h : ∀ n1 ∈ all, ∀ n2 ∈ all, PySem.W.exmOne X.K (.ref (ec n1)) (.ref (ec n2)) = some (decide (n1 = n2)))
    (h1 : ∀ n ∈ names, n ∈ all) (h2 : ∀ n ∈ cl.map (·.1), n ∈ all) : ∀ n1 ∈ names, ∀ p ∈ cl, PySem.W.exmOne X.K (.ref (c.ec n1)) (.ref (c.ec p.1)) = some (decide (n1 = p.1)) := by
  subst he
  exact fun n1 hn p hp => h n1 (h1 n1 hn) p.1 (h2 _ (List.mem_map.mpr ⟨p, hp, rfl⟩))
theorem def_okL {P : Program} {w : World} {base : Heap} {x : Str} {st : Stmt} {N ps : List Str} {k : Nat} {g : S → Option RS} (F : FTL K mg x st ps) (Sc : FnScope N ps (defScope st)) (hl : ps.length ≤ N.length)
    (hbody : ∀ (A : Around) (outer : List Env) (s : Shared) (H : Hp) (E : XK), Room k (A.deeper (envOfC x (defScope st) s.heap.objs.size F.a (.ref F.cd))) →
      ∃ t, DB c (cxOf (L2.CX P w) P w K mg base N x (defScope st) F.a (.ref F.cd) A outer s H E) (fun cls d _ H => E cls d H) (defBody st) t g) : FnOk P w K mg base (L2.CX P w) (k + 1) F.a F.fd ps (spF K c ps.length (runF N.length g)) := by
  obtain ⟨oc, od, kV, doc, pm, an, ct, osl, e, lk, hcd⟩ := F.lk
  rw [e] at lk ⊢
  refine fn_of lk hcd Sc (fun vs H Q E h => h.1) fun A outer s H vs Q E hr hsp => ?_
  obtain ⟨t, hb⟩ := hbody A outer s H E hr
  obtain ⟨hlen, O, as, args, st0, G, q⟩ := hsp
  refine ⟨t, hb.pss, ?_⟩
  have ha : args.length = vs.length := by
    have := G.lenE
    simpa using this
  have e : L2.start N vs = vs.map some ++ List.replicate (N.length - vs.length) none := rfl
  have G2 : Good K c O as ⟨args ++ List.replicate (N.length - args.length) .un, st0⟩ (L2.start N vs) H := by
    rw [e]
    refine G.frame (by simp [ha]) fun i sv h => ?_
    by_cases hi : i < args.length
    · rw [List.getElem?_append_left hi] at h
      rw [List.getElem?_append_left (by simpa [← ha] using hi)]
      exact G.slots i sv h
    · rw [List.getElem?_append_right (by omega)] at h
      have : sv = .un := by
        have := List.mem_of_getElem? h
        exact (List.mem_replicate.mp this).2
      rw [this]
      trivial
  have ok : IS K c (fun cls d _ H => E cls d H) t g := hb.ok
  exact ok O as ⟨args ++ List.replicate (N.length - args.length) SV.un, st0⟩ _ H _ G2 (fin_ok (st := st0) G2 rfl q (fun _ _ => rfl) rfl)
theorem hu_in {k : Nat} {A : Around} (r : Room k A) : A.units + 65 < cLine := by have := r.un; omega
end
end DL
/-! DL13: the rules with the fragment told: K is printed, so that what a block reads hangs on nothing of the block -/
namespace DL
open PySem PySem.Spec PyProof.Rows L2
section
variable {c : Ctx} {X : Cx} {W : WX} {K : PySem.W.Frag}
theorem okAdd (hK : X.K = K := by rfl) : OpR X (binaryOp .Add) (rAddA K) := by
  subst hK
  exact op_addA
theorem pkAdd (hK : X.K = K := by rfl) : Pure2 c X (rAddA K) addD := by
  subst hK
  exact p_add
theorem okMul (hK : X.K = K := by rfl) : OpR X (binaryOp .Mult) (rMulA K) := by
  subst hK
  exact op_mulA
theorem pkMul (hK : X.K = K := by rfl) : Pure2 c X (rMulA K) mulD := by
  subst hK
  exact p_mul
theorem okEq (hu : X.A.units + 64 < cLine) (hK : X.K = K := by rfl) : OpR X (compareOp .Eq) (rEqD K) := by
  subst hK
  exact op_eqD hu
theorem pkEq (hK : X.K = K := by rfl) : Pure2 c X (rEqD K) eqD := by
  subst hK
  exact p_eq
theorem okNe (hu : X.A.units + 64 < cLine) (hK : X.K = K := by rfl) : OpR X (compareOp .NotEq) (rNeD K) := by
  subst hK
  exact op_neD hu
theorem pkNe (hK : X.K = K := by rfl) : Pure2 c X (rNeD K) neD := by
  subst hK
  exact p_ne
theorem okIn (hu : X.A.units + 65 < cLine) (hK : X.K = K := by rfl) : OpR X (compareOp .In) (rInA K) := by
  subst hK
  exact op_inA hu
theorem pkIn (hK : X.K = K := by rfl) : Pure2 c X (rInA K) inD := by
  subst hK
  exact p_in
theorem okNotIn (hu : X.A.units + 65 < cLine) (hK : X.K = K := by rfl) : OpR X (compareOp .NotIn) (rNotInA K) := by
  subst hK
  exact op_notInA hu
theorem pkNotIn (hK : X.K = K := by rfl) : Pure2 c X (rNotInA K) notInD := by
  subst hK
  exact p_notIn
theorem okIx (hK : X.K = K := by rfl) : IxR X (rIx K) := by
  subst hK
  exact ix_seq
theorem pkIx (hK : X.K = K := by rfl) : Pure2 c X (rIx K) ixD := by
  subst hK
  exact p_ix
theorem ckLen (hK : X.K = K := by rfl) : CallR X (.builtin "len") (rLen K) := by
  subst hK
  exact call_lenA
theorem pkLen (hK : X.K = K := by rfl) : PureT c X (rLen K) lenD := by
  subst hK
  exact p_len
theorem ckAll (hc : X.calm = true) (hK : X.K = K := by rfl) : CallR X (.builtin "all") (rAll K) := by
  subst hK
  exact cr_all hc
theorem pkAll (hK : X.K = K := by rfl) : PureT c X (rAll K) allD := by
  subst hK
  exact p_all
theorem ckAny (hc : X.calm = true) (hK : X.K = K := by rfl) : CallR X (.builtin "any") (rAny K) := by
  subst hK
  exact cr_any hc
theorem pkAny (hK : X.K = K := by rfl) : PureT c X (rAny K) anyD := by
  subst hK
  exact p_any
theorem ckSum (hc : X.calm = true) (hK : X.K = K := by rfl) : CallR X (.builtin "sum") (rSumA K) := by
  subst hK
  exact cr_sumA hc
theorem pkSum (hK : X.K = K := by rfl) : PureT c X (rSumA K) sumD := by
  subst hK
  exact p_sum
theorem ckMax (hc : X.calm = true) (hK : X.K = K := by rfl) : CallR X (.builtin "max") (rMaxA K) := by
  subst hK
  exact cr_maxA hc
theorem pkMax (hK : X.K = K := by rfl) : PureT c X (rMaxA K) maxD := by
  subst hK
  exact p_max
theorem ckMin (hc : X.calm = true) (hK : X.K = K := by rfl) : CallR X (.builtin "min") (rMinA K) := by
  subst hK
  exact cr_minA hc
theorem pkMin (hK : X.K = K := by rfl) : PureT c X (rMinA K) minD := by
  subst hK
  exact p_min
def rTup1 (K : PySem.W.Frag) : List V → Hp → VK → Prop := fun xs H Q => ∃ p ys, xs = [.ref p] ∧ ((SqL K H p ys ∧ ∀ l, H l = none → Q (.ref l) (upd H l (.tup ys))) ∨ (SqT K H p ys ∧ Q (.ref p) H))
def rLst1 (K : PySem.W.Frag) : List V → Hp → VK → Prop := fun xs H Q => ∃ p ys, xs = [.ref p] ∧ (SqL K H p ys ∨ SqT K H p ys) ∧ ∀ l, H l = none → Q (.ref l) (upd H l (.lst ys))
theorem ckTuple (hK : X.K = K := by rfl) : CallR X (.type "tuple") (rTup1 K) := by
  subst hK
  exact call_tuple_of
theorem pkTuple (hK : X.K = K := by rfl) : PureT c X (rTup1 K) tupleD := by
  subst hK
  exact p_tuple
theorem ckList (hK : X.K = K := by rfl) : CallR X (.type "list") (rLst1 K) := by
  subst hK
  exact call_list_of
theorem pkList (hK : X.K = K := by rfl) : PureT c X (rLst1 K) listD1 := by
  subst hK
  exact p_list
end
section
variable {c : Ctx} {X : Cx} {W : WX} {tg e e2 a b : Expr} {te ta tb : TE} {fe f g : S → Option (R EV)} {pos p tpos : Pos}
section
variable {K : PySem.W.Frag}
theorem k_dg_tup {es : List Expr} {k : Nat} {is : List Nat} {t : TGs} {r : List D → List SV → Option (List SV)} {n : Nat} {pos : Pos} (hc : X.calm = true) (h : DGs c X es is t r)
    (hn : (assignEach es X.env).length = n := by rfl) (hst : (assignEach es X.env).findIdx? (·.1) = none := by rfl) (hK : X.K = K := by rfl) : DG c X (.Tuple es k pos) is (gTup K n t) (bTup n r) := by
  subst hK
  apply dg_tup <;> assumption
theorem k_di_list (h : DE c X W e te fe) (hK : X.K = K := by rfl) : DI c X W tg e (iList K te) (bE (fz fe) (asD listD)) := by
  subst hK
  apply di_list <;> assumption
theorem k_di_tup (h : DE c X W e te fe) (hK : X.K = K := by rfl) : DI c X W tg e (iTup K te) (bE (fz fe) (asD tupD)) := by
  subst hK
  apply di_tup <;> assumption
theorem k_di_enum {ta : TA} {fa : S → Option (R (List SV))} {elts : List Expr} {kk : Nat} (hg : Gl X "enumerate") (hm : X.mg "enumerate" = none) (ha : DA c X W [e] ta fa) (hs : starEach [e] X.env = [(false, eval e X.env)] := by rfl) (hK : X.K = K := by rfl) :
    DI c X W (.Tuple elts kk tpos) (.Call (.Name "enumerate" p) [e] [] pos) (iEnumK K ta) (bE fa (withVals enumD)) := by
  subst hK
  apply di_enum <;> assumption
theorem k_di_zip {ta : TA} {fa : S → Option (R (List SV))} {e' : Expr} {elts : List Expr} {kk : Nat} (hg : Gl X "zip") (hm : X.mg "zip" = none) (ha : DA c X W [e, e'] ta fa)
    (hs : starEach [e, e'] X.env = (false, eval e X.env) :: starEach [e'] X.env := by rfl) (hpl : (backTo pos (starEach [e'] X.env)).any (·.1) = false := by rfl) (hK : X.K = K := by rfl) :
    DI c X W (.Tuple elts kk tpos) (.Call (.Name "zip" p) [e, e'] [] pos) (iZipK K ta) (bE fa (withVals zipD)) := by
  subst hK
  apply di_zip <;> assumption
theorem k_di_zip3 {ta : TA} {fa : S → Option (R (List SV))} {e e' e'' : Expr} {elts : List Expr} {kk : Nat} (hg : Gl X "zip") (hm : X.mg "zip" = none) (ha : DA c X W [e, e', e''] ta fa)
    (hs : starEach [e, e', e''] X.env = (false, eval e X.env) :: starEach [e', e''] X.env := by rfl) (hpl : (backTo pos (starEach [e', e''] X.env)).any (·.1) = false := by rfl) (hK : X.K = K := by rfl) :
    DI c X W (.Tuple elts kk tpos) (.Call (.Name "zip" p) [e, e', e''] [] pos) (iZip3 K ta) (bE fa (withVals zip3D)) := by
  subst hK
  apply di_zip3 <;> assumption
theorem k_de_slice {e : Expr} {lo hi : Option Expr} {te : TE} {tl th : TO} {f : S → Option (R EV)} {fl fh : S → Option (R (Option Int))} {p2 pos : Pos} (he : DE c X W e te f) (hl : DP c X W lo tl fl) (hu : DP c X W hi th fh) (hK : X.K = K := by rfl) :
    DE c X W (.Subscript e (.Slice lo hi none p2) pos) (tSl (rSlAny K) te tl th) (slE f fl fh) := by
  subst hK
  apply de_slice <;> assumption
theorem k_de_isi {e : Expr} {te : TE} {f : S → Option (R EV)} {b : Str} {T : String} {p p2 pos : Pos} (hT : T ∈ ["bool", "int", "str", "list", "tuple"]) (hg : Gl X "isinstance") (hm : X.mg "isinstance" = none) (he : DE c X W e te f) (hgb : Gl X b) (hmb : X.mg b = none) (hvb : bootBuiltins b = some (.type T))
    (hnb : b ≠ "__name__" := by decide) (hdb : (b == ("__debug__" : Str)) = false := by decide)
    (hs : starEach [e, .Name b p2] X.env = (false, eval e X.env) :: starEach [.Name b p2] X.env := by rfl) (hs2 : starEach [.Name b p2] X.env = (false, eval (.Name b p2) X.env) :: starEach [] X.env := by rfl) (hpl : (backTo pos (starEach [.Name b p2] X.env)).any (·.1) = false := by rfl) (hK : X.K = K := by rfl) :
    DE c X W (.Call (.Name "isinstance" p) [e, .Name b p2] [] pos) (tCB (rIsi K) (tCons te (tCons (tC (.ty T)) tNil))) (op1 (isiD T) f) := by
  subst hK
  apply de_isi <;> assumption
theorem k_de_lenScr {i : Nat} {y : Str} {a : Addr} {ns : List Int} {p p2 pos : Pos} (hc : c.scr = some (a, ns)) (hg : Gl X "len") (hm : X.mg "len" = none) (hN : X.N[i]? = some y) (hv : Vis X.env.scope y)
    (hs : starEach [.Name y p2] X.env = (false, eval (.Name y p2) X.env) :: starEach [] X.env := by rfl) (hpl : (backTo pos (starEach [] X.env)).any (·.1) = false := by rfl) (hd : (y == ("__debug__" : Str)) = false := by decide) (hcd : (y == ("__classdict__" : Str)) = false := by decide) (hK : X.K = K := by rfl) :
    DE c X W (.Call (.Name "len" p) [.Name y p2] [] pos) (tCB (rLen K) (tCons (tVar i) tNil)) (lenScr i ns) := by
  subst hK
  apply de_lenScr <;> assumption
theorem k_de_ixScr {i : Nat} {y : Str} {a : Addr} {ns : List Int} {e : Expr} {te : TE} {f : S → Option (R EV)} {p pos : Pos} (hc : c.scr = some (a, ns)) (he : DE c X W e te f) (hN : X.N[i]? = some y) (hv : Vis X.env.scope y) (hpx : PlainIx e) (hd : (y == ("__debug__" : Str)) = false := by decide) (hcd : (y == ("__classdict__" : Str)) = false := by decide) (hK : X.K = K := by rfl) :
    DE c X W (.Subscript (.Name y p) e pos) (tOp (rIxL K) (tVar i) te) (ixScr i ns f) := by
  subst hK
  apply de_ixScr <;> assumption
theorem k_de_append {i : Nat} {y : Str} {e : Expr} {te : TE} {f : S → Option (R EV)} {p apos pos : Pos} (he : DE c X W e te f) (hN : X.N[i]? = some y) (hv : Vis X.env.scope y)
    (hbase : attributeBase (.Name y p) "append" X.env (eval (.Name y p) X.env) = eval (.Name y p) X.env := by rfl)
    (hfew : ((backTo pos (starEach [e] X.env)).all (fun x => !x.1) && (backToKw pos (keywordEach [] X.env)).all (fun x => x.1.isSome)
      && decide ([e].length + ([] : List Keyword).length + (if ([] : List Keyword).isEmpty then 0 else 1) < 30)) = true := by rfl)
    (hline : (apos.endLine == pos.line) = true := by rfl) (hs : starEach [e] X.env = (false, eval e X.env) :: starEach [] X.env := by rfl) (hplain : (backTo pos (starEach [] X.env)).any (·.1) = false := by rfl)
    (hd : (y == ("__debug__" : Str)) = false := by decide) (hcd : (y == ("__classdict__" : Str)) = false := by decide) (hK : X.K = K := by rfl) :
    DE c X W (.Call (.Attribute (.Name y p) "append" apos) [e] [] pos) (tBM K "list" rAppend (tVar i) (tCons te tNil)) (appE i f) := by
  subst hK
  apply de_append <;> assumption
theorem k_de_pop {i : Nat} {y : Str} {p apos pos : Pos} (hN : X.N[i]? = some y) (hv : Vis X.env.scope y)
    (hbase : attributeBase (.Name y p) "pop" X.env (eval (.Name y p) X.env) = eval (.Name y p) X.env := by rfl) (hline : (apos.endLine == pos.line) = true := by rfl)
    (hd : (y == ("__debug__" : Str)) = false := by decide) (hcd : (y == ("__classdict__" : Str)) = false := by decide) (hK : X.K = K := by rfl) :
    DE c X W (.Call (.Attribute (.Name y p) "pop" apos) [] [] pos) (tBM0 K "list" rPop (tVar i)) (popE i) := by
  subst hK
  apply de_pop <;> assumption
theorem k_ds_setIx {i : Nat} {y : Str} {e k : Expr} {te tk : TE} {fe fk : S → Option (R EV)} {p tpos pos : Pos} (he : DE c X W e te fe) (hk : DE c X W k tk fk) (hN : X.N[i]? = some y) (hv : Vis X.env.scope y)
    (ha : ∀ v, assign (.Subscript (.Name y p) k tpos) X.env v = (do
      let ov ← holding [v] (eval (.Name y p) X.env)
      let iv ← holding [v, ov] (eval k X.env)
      standAt tpos
      holding [v, ov, iv] (setItem ov iv v)
      release [v, ov, iv] []) := by intro _; rfl)
    (hs : swapsWithSole [.Subscript (.Name y p) k tpos] e pos.line X.env = pure false := by rfl) (hw : swappedStores [.Subscript (.Name y p) k tpos] e X.env = pure none := by rfl)
    (h1 : (assignEach [.Subscript (.Name y p) k tpos] X.env).map (·.2) = [assign (.Subscript (.Name y p) k tpos) X.env] := by rfl)
    (hd : (y == ("__debug__" : Str)) = false := by decide) (hcd : (y == ("__classdict__" : Str)) = false := by decide) (hK : X.K = K := by rfl) :
    DS c X W (.Assign [.Subscript (.Name y p) k tpos] e pos) (tAsg te (gSub (tVar i) tk rSetL)) (setIxS i fe fk) := by
  subst hK
  apply ds_setIx <;> assumption
end
end
end DL
namespace DL
open PySem PySem.Spec PyProof.Rows L2
/-! ### the end -/
def cOf (ec : Str → Addr) (T : List (Addr × Str)) (a : Addr) (ns : List Int) : Ctx where
  T := T
  ec := ec
  scr := some (a, ns)
theorem tabs_new {T : List (Addr × Str)} {cs : List (Addr × Addr)} {H : Hp} (hT : ∀ p ∈ T, ∃ q ∈ cs, q.2 = p.1) (hH : ∀ p ∈ cs, H p.2 = some (.tbl #[])) : LamX.Tabs T H := fun p hp => by
  obtain ⟨q, hq, e⟩ := hT p hp
  refine ⟨#[], by rw [← e]; exact hH q hq, ?_, fun pos cv h => ?_⟩
  · exact trivial
  · cases h
theorem good_start {K : PySem.W.Frag} {ec : Str → Addr} {T : List (Addr × Str)} {a : Addr} {ns : List Int} {H : Hp} (t : LamX.Tabs T H) (h : SqL K H a (ns.map V.int)) : Good K (cOf ec T a ns) [] [] ⟨[.scr], []⟩ [some (.ref a)] H where
  lenE := rfl
  lenC := rfl
  nd := List.nodup_nil
  odis := by simp
  odom := by simp
  cdom := by simp
  slots := fun i sv e => by
    cases i with
    | zero =>
      have e : SV.scr = sv := by simpa using e
      subst e
      exact ⟨a, ns, rfl, rfl⟩
    | succ i => simp at e
  cells := fun n b mo h1 => by simp at h1
  tabs := t
  scr := fun b ms e => by
    cases e
    rcases h with (h | ⟨o, h⟩) | h
    · exact .inl (.inr ⟨h, by simp, by simp⟩)
    · exact .inl (.inl ⟨o, h⟩)
    · exact .inr fun _ => .inr h
  ex := trivial
theorem lawAtD {l : PySem.W.OpenLaw} {w : World} {K : PySem.W.Frag} {k n : Nat} {x : Str} {mg : Str → Option Value} {fa : Addr} {h : Heap} {fd : FuncData} {cs : List (Addr × Addr)} {T : List (Addr × Str)} {ec : Str → Addr} (fl : List Int → FnD)
    (hT : ∀ p ∈ T, ∃ q ∈ cs, q.2 = p.1) (h1 : ∀ p ∈ cs, h.get? p.2 = some { cls := .none, data := .fields #[] }) (h2 : ∀ p ∈ cs, K.lookup p.2 = none) (h3 : ∀ p ∈ cs, PySem.W.CodeHd h p.1 p.2) (h4 : ∀ (s : Shared) (u : Value), BindsTo s fd ⟨[u], []⟩ [(x, u)])
    (F : ∀ base : Heap, K.In base → base.Ns mainGlobals mg → (∀ p ∈ cs, LamX.TabB base mg p.1 p.2) → ∀ (sa : Addr) (ns : List Int) (c : Ctx), COk ec T sa ns c → FnOk l.prog w K mg base (L2.CX l.prog w) k fa fd [x] (spF K c 1 (fl ns)))
    (law : ∀ ns : List Int, ns.length ≤ n → (∀ z ∈ ns, Builtin.Int.intBits z ≤ 1048576) → ∃ s', fl ns [.scr] [] = some (.ok (.val (.bool true)) s')) : LamX.LawAtS l w K (L2.CX l.prog w) k n x mg fa h := by
  refine ⟨fd, cs, fun vs H Q E => ∃ a ns, spF K (cOf ec T a ns) 1 (fl ns) vs H Q E, h1, h2, h3, h4, fun H a ns hn hb hH hS => ⟨a, ns, rfl, [], [], [.scr], [], good_start (tabs_new hT hH) hS, ?_⟩, fun base hK hns hTB => ?_⟩
  · obtain ⟨s', e⟩ := law ns hn hb
    rw [e]
    intro v H' as' eg x fr
    obtain ⟨G, r⟩ := eg
    cases r
    rfl
  · refine ⟨fun vs H Q E ⟨a, ns, q⟩ => q.1, fun A outer s H args us vs Q E hr he hb hv ⟨a, ns, q⟩ => (F base hK hns hTB a ns (cOf ec T a ns) ⟨rfl, rfl, rfl⟩).run A outer s H args us vs Q E hr he hb hv q⟩
/-- walk, with what the loose names are -/
theorem walk_ofD {l : PySem.W.OpenLaw} {n k : Nat} {q : Program} {loose : List Str} {XP : (Str → Option Value) → Heap → Prop} {YP : World → Heap → Prop} {d : DefRec} {K : Params → PySem.W.Frag} {x : Str}
    (hn : l.most = some n) (hn2 : n ≤ sizeLine) (hdf : d.params.defaults = []) (hr : Room k callerA) (hY : ∀ (w : World) (h : Heap), YP w h → (K w.params).In h)
    (F : ∀ (w : World) (mg : Str → Option Value) (fa : Addr) (h : Heap), YP w h → XP mg h → (K w.params).In h → h.Ns mainGlobals mg → mg d.name = some (.ref fa) → LamX.LawAtS l w (K w.params) (L2.CX l.prog w) k n x mg fa h) :
    PySem.W.WalkO q loose XP YP l.row.toRowW d [] (fun f vs => PySem.call f vs) := by
  refine Att.attach_callB hn hdf fun w s₀ s₁ mg mb fa o pm cd doc a vs ns G Y ho hd hcd hmg hobj hints hlen hbits hg => ?_
  have KX := hY w _ Y
  obtain ⟨fd, cs, sp, hT, nT, C, hb, hsp, hF⟩ := F w mg fa _ Y G.X KX G.T.g hmg
  exact LamX.law_callTs KX G.T.g G.T.b G.T.builtins G.T.nolimit hg hT nT C G.T.bmain hobj hints (Nat.le_trans hlen hn2) hr hF hb (fun H hH hS => hsp H a ns hlen hbits hH hS) fun H e s' h => by
    obtain ⟨_, _, _, _, _, _, _, _, _, _, _, _, h⟩ := h
    exact h
theorem loose_int {p : Program} {lv : List (Str × PySem.W.WData)} {mg : Str → Option Value} {h : Heap} {x : Str} {i : Int} (X : PySem.W.XL p lv mg h) (hm : (x, PySem.W.WData.int i) ∈ lv) : ∃ t, mg x = some (.int i t) := by
  obtain ⟨v, a, r⟩ := X.2.val _ hm
  cases r
  exact ⟨_, a⟩
section
variable {K : PySem.W.Frag} {mg : Str → Option Value} {h : Heap}
def ft_mk {x : Str} {st : Stmt} {ps : List Str} (X : K.In h) (G : h.Ns mainGlobals mg) {f : Addr} {oc : Value} {od an : Option Addr} {osl : Array (Option Value)} {kV doc pm cdv ct : Value} (e : PySem.W.nsIn K mainGlobals x = some (some (.ref f)))
    (l : K.lookup f = some ⟨oc, od, .func (PySem.W.fnOf x x (defArgs st) (defBody st) (defScope st) .none kV doc pm an cdv ct), osl⟩) (c : PySem.W.codeIn K cdv x = true) (k : PySem.W.keepIn K (.ref f) = true)
    (hb : ∀ (kV doc pm : Value) (an : Option Addr) (cdv ct : Value) (us : List Value), us.length = ps.length → bindArgs (PySem.W.fnOf x x (defArgs st) (defBody st) (defScope st) .none kV doc pm an cdv ct) ⟨us, []⟩ = pure (ps.zip us)) : FT K mg x st ps :=
  ⟨f, _, fun_mk l c k, (fun_mk l c k).binds hb, PySem.W.mg_of X G e⟩
def ftl_mk {x : Str} {st : Stmt} {ps : List Str} (X : K.In h) (G : h.Ns mainGlobals mg) {f cd : Addr} (P : Addr) {oc : Value} {od an : Option Addr} {osl : Array (Option Value)} {kV doc pm ct : Value} (e : PySem.W.nsIn K mainGlobals x = some (some (.ref f)))
    (l : K.lookup f = some ⟨oc, od, .func (PySem.W.fnOf x x (defArgs st) (defBody st) (defScope st) .none kV doc pm an (.ref cd) ct), osl⟩) (c : PySem.W.codeIn K (.ref cd) x = true) (k : PySem.W.keepIn K (.ref f) = true)
    (hb : ∀ (kV doc pm : Value) (an : Option Addr) (cdv ct : Value) (us : List Value), us.length = ps.length → bindArgs (PySem.W.fnOf x x (defArgs st) (defBody st) (defScope st) .none kV doc pm an cdv ct) ⟨us, []⟩ = pure (ps.zip us)) : FTL K mg x st ps :=
  ⟨ft_mk X G e l c k hb, cd, P, ⟨oc, od, kV, doc, pm, an, ct, osl, rfl, l, c⟩⟩
theorem ct_mk {x : Str} {C C' : Addr} (X : K.In h) (G : h.Ns mainGlobals mg) (e : PySem.W.nsIn K mainGlobals x = some (some (.ref C))) (q : PySem.W.excIn K C [.type "ValueError", .type "Exception", .type "BaseException", .type "object"] "ValueError.__new__" = true)
    (k : PySem.W.keepIn K (.ref C) = true) (s : PySem.W.subIn K (.ref C) (.type "BaseException") = some true) (t : PySem.W.typeIn K (.ref C) = some (.type "type")) (hC : C' = C) : CT K mg x C' := by
  subst hC
  exact ⟨q, PySem.W.mg_of X G e, k, s, t⟩
theorem ci_mk {x : Str} {i : Int} {t : Tok} (X : K.In h) (G : h.Ns mainGlobals mg) (e : PySem.W.nsIn K mainGlobals x = some (some (.int i t))) : ∃ t, mg x = some (.int i t) := ⟨t, PySem.W.mg_of X G e⟩
/-- the classes' table -/
def ecOf (l : List (Str × Addr)) : Str → Addr := fun x => (l.lookup x).getD 0
theorem exm_all {l : List (Str × Addr)} {ns : List Str} (hl : ns.all (fun n => (l.lookup n).isSome) = true) (h : ∀ p ∈ l, ∀ q ∈ l, p.1 ∈ ns → q.1 ∈ ns → PySem.W.exmOne K (.ref p.2) (.ref q.2) = some (decide (p.1 = q.1))) :
    ∀ n1 ∈ ns, ∀ n2 ∈ ns, PySem.W.exmOne K (.ref (ecOf l n1)) (.ref (ecOf l n2)) = some (decide (n1 = n2)) := fun n1 h1 n2 h2 => by
  rw [List.all_eq_true] at hl
  have g : ∀ n, n ∈ ns → (n, ecOf l n) ∈ l := fun n hn => by
    have := hl n hn
    cases e : l.lookup n with
    | none => rw [e] at this; cases this
    | some a =>
      have e2 : ecOf l n = a := by unfold ecOf; rw [e] <;> rfl
      rw [e2]
      clear this hl h
      induction l with
      | nil => cases e
      | cons p r ih =>
        obtain ⟨x, b⟩ := p
        by_cases q : n = x
        · subst q
          rw [List.lookup_cons_self] at e
          cases e
          exact List.mem_cons_self
        · rw [List.lookup_cons, beq_false_of_ne q] at e
          have e4 : r.lookup n = some a := e
          have e3 : ecOf r n = a := by
            unfold ecOf
            rw [e4] <;> rfl
          exact List.mem_cons_of_mem _ (ih e4 e3)
  exact h _ (g n1 h1) _ (g n2 h2) h1 h2
end
end DL
namespace DL
open PySem PySem.Spec PyProof.Rows L2
/-! ### how a data function is read: small facts for simp -/
def Pl (st : List MO) : Prop := st.all plainMO = true
theorem pl_set {st : List MO} {n : Nat} {ds : List D} (h : Pl st) : Pl (st.set n (.lst ds)) := by
  rw [Pl, List.all_eq_true] at h ⊢
  intro x hx
  rcases List.mem_or_eq_of_mem_set hx with z | z
  · exact h x z
  · rw [z] <;> rfl
theorem pl_snoc {st : List MO} {ds : List D} (h : Pl st) : Pl (st ++ [.lst ds]) := by
  rw [Pl, List.all_append, h] <;> rfl
theorem pl_dead {st : List MO} {n : Nat} (h : Pl st) : Pl (st.set n .dead) := by
  rw [Pl, List.all_eq_true] at h ⊢
  intro x hx
  rcases List.mem_or_eq_of_mem_set hx with z | z
  · exact h x z
  · rw [z] <;> rfl
theorem pl_take {st : List MO} {n : Nat} (h : Pl st) : Pl (st.take n) := by
  rw [Pl, List.all_eq_true] at h ⊢
  exact fun x hx => h x (List.mem_of_mem_take hx)
theorem fin_val {st st' : List MO} {e : List SV} {d : D} (h : Pl st') (hl : st'.length = st.length) : finF st.length (some (.ret (.val d) ⟨e, st'⟩)) = some (.ok (.val d) ⟨[], st'⟩) := by
  have ht : st'.take st.length = st' := by rw [← hl, List.take_length]
  have h : st'.all plainMO = true := h
  simp only [finF, ht, h, if_true]
theorem fin_fresh {st st' : List MO} {e : List SV} {ds : List D} (h : Pl st') (hl : st'.length = st.length) : finF st.length (some (.ret (.fresh ds) ⟨e, st'⟩)) = some (.ok (.fresh ds) ⟨[], st'⟩) := by
  have ht : st'.take st.length = st' := by rw [← hl, List.take_length]
  have h : st'.all plainMO = true := h
  simp only [finF, ht, h, if_true]
theorem fin_next {st st' : List MO} {e : List SV} (h : Pl st') (hl : st'.length = st.length) : finF st.length (some (.next ⟨e, st'⟩)) = some (.ok (.val .none) ⟨[], st'⟩) := by
  have ht : st'.take st.length = st' := by rw [← hl, List.take_length]
  have h : st'.all plainMO = true := h
  simp only [finF, ht, h, if_true]
theorem fin_err {st st' : List MO} {e : List SV} {x : Er} (h : Pl st') (hl : st'.length = st.length) : finF st.length (some (.err x ⟨e, st'⟩)) = some (.err x ⟨[], st'⟩) := by
  have ht : st'.take st.length = st' := by rw [← hl, List.take_length]
  have h : st'.all plainMO = true := h
  simp only [finF, ht, h, if_true]
/-- the store is longer behind the body: its own cells go -/
theorem fin_val' {st more : List MO} {e : List SV} {d : D} (h : Pl st) : finF st.length (some (.ret (.val d) ⟨e, st ++ more⟩)) = some (.ok (.val d) ⟨[], st⟩) := by
  have h : st.all plainMO = true := h
  simp only [finF, List.take_left', h, if_true]
/-! loops -/
theorem forL_next {b : D → List SV → Option (List SV)} {body : S → Option RS} (I : List D → S → Prop) : ∀ (ds : List D) (s : S), I ds s → (∀ d r s, I (d :: r) s → ∃ env' s2, b d s.env = some env' ∧ body ⟨env', s.st⟩ = some (.next s2) ∧ I r s2) → ∃ s', forL b body ds s = some (.next s') ∧ I [] s'
  | [], s, h, _ => ⟨s, rfl, h⟩
  | d :: r, s, h, st => by
    obtain ⟨env', s2, h1, h2, h3⟩ := st d r s h
    obtain ⟨s', e, h4⟩ := forL_next I r s2 h3 st
    exact ⟨s', by simp only [forL, h1, h2, e], h4⟩
/-- comprehensions without an effect -/
theorem lcL_map {vs : List Nat} {b : D → List SV → Option (List SV)} {t : S → Option (R Bool)} {f : S → Option (R EV)} {s : S} (g : D → D) : ∀ (ds acc : List D), acc.length + ds.length ≤ 1000000 →
    (∀ d ∈ ds, ∃ env' e2 e3, b d (wipeE s.env vs) = some env' ∧ t ⟨env', s.st⟩ = some (.ok true ⟨e2, s.st⟩) ∧ fz f ⟨e2, s.st⟩ = some (.ok (.val (g d)) ⟨e3, s.st⟩)) → lcL vs b t f ds acc s = some (.ok (.fresh (acc ++ ds.map g)) s)
  | [], acc, _, _ => by simp [lcL]
  | d :: r, acc, hl, h => by
    obtain ⟨env', e2, e3, h1, h2, h3⟩ := h d List.mem_cons_self
    have hl' : acc.length < 1000000 := by simp at hl; omega
    have ih := lcL_map g r (acc ++ [g d]) (by simp at hl ⊢; omega) (fun d hd => h d (List.mem_cons_of_mem _ hd))
    simp only [lcL, h1, h2, h3, hl', if_true, ih, List.map_cons, List.append_assoc, List.cons_append, List.nil_append]
theorem lcL_filter {vs : List Nat} {b : D → List SV → Option (List SV)} {t : S → Option (R Bool)} {f : S → Option (R EV)} {s : S} (p : D → Bool) (g : D → D) : ∀ (ds acc : List D), acc.length + ds.length ≤ 1000000 →
    (∀ d ∈ ds, ∃ env' e2, b d (wipeE s.env vs) = some env' ∧ t ⟨env', s.st⟩ = some (.ok (p d) ⟨e2, s.st⟩) ∧ (p d = true → ∃ e3, fz f ⟨e2, s.st⟩ = some (.ok (.val (g d)) ⟨e3, s.st⟩))) → lcL vs b t f ds acc s = some (.ok (.fresh (acc ++ (ds.filter p).map g)) s)
  | [], acc, _, _ => by simp [lcL]
  | d :: r, acc, hl, h => by
    obtain ⟨env', e2, h1, h2, h3⟩ := h d List.mem_cons_self
    have hl' : acc.length < 1000000 := by simp at hl; omega
    cases hp : p d with
    | false =>
      have ih := lcL_filter p g r acc (by simp at hl ⊢; omega) (fun d hd => h d (List.mem_cons_of_mem _ hd))
      rw [hp] at h2
      simp only [lcL, h1, h2, ih, List.filter_cons, hp, Bool.false_eq_true, if_false]
    | true =>
      obtain ⟨e3, h3⟩ := h3 hp
      have ih := lcL_filter p g r (acc ++ [g d]) (by simp at hl ⊢; omega) (fun d hd => h d (List.mem_cons_of_mem _ hd))
      rw [hp] at h2
      simp only [lcL, h1, h2, h3, hl', if_true, ih, List.filter_cons, hp, List.map_cons, List.append_assoc, List.cons_append, List.nil_append]
/-- .. with an effect on the store -/
theorem lcL_inv {vs : List Nat} {b : D → List SV → Option (List SV)} {t : S → Option (R Bool)} {f : S → Option (R EV)} {env : List SV} (I : List D → List D → List MO → Prop) : ∀ (ds acc : List D) (st : List MO), acc.length + ds.length ≤ 1000000 → I ds acc st →
    (∀ d r acc st, I (d :: r) acc st → ∃ env' e2 st2 s3 d', b d (wipeE env vs) = some env' ∧ t ⟨env', st⟩ = some (.ok true ⟨e2, st2⟩) ∧ fz f ⟨e2, st2⟩ = some (.ok (.val d') s3) ∧ I r (acc ++ [d']) s3.st) →
      ∃ out st', lcL vs b t f ds acc ⟨env, st⟩ = some (.ok (.fresh out) ⟨env, st'⟩) ∧ I [] out st'
  | [], acc, st, _, h, _ => ⟨acc, st, rfl, h⟩
  | d :: r, acc, st, hl, h, step => by
    obtain ⟨env', e2, st2, s3, d', h1, h2, h3, h4⟩ := step d r acc st h
    have hl' : acc.length < 1000000 := by simp at hl; omega
    obtain ⟨out, st', e, h5⟩ := lcL_inv I r (acc ++ [d']) s3.st (by simp at hl ⊢; omega) h4 step
    exact ⟨out, st', by simp only [lcL, h1, h2, h3, hl', if_true, e], h5⟩
end DL
namespace DL
open PySem PySem.Spec PyProof.Rows L2
/-! ### texts: join, split, list(text), a list backwards, a place in a list -/
def strsOf : List D → Option (List Str)
  | [] => some []
  | .str b :: r => (strsOf r).map (b :: ·)
  | _ :: _ => none
theorem strsOf_eq : ∀ {ds : List D} {bs : List Str}, strsOf ds = some bs → ds = bs.map .str
  | [], _, h => by cases h; rfl
  | .str b :: r, _, h => by
    simp only [strsOf] at h
    cases z : strsOf r with
    | none => rw [z] at h; cases h
    | some bs =>
      rw [z] at h
      cases h
      rw [strsOf_eq z] <;> rfl
  | .none :: r, _, h => by cases h
  | .bool _ :: r, _, h => by cases h
  | .int _ :: r, _, h => by cases h
  | .list _ :: r, _, h => by cases h
  | .tuple _ :: r, _, h => by cases h
  | .dict _ :: r, _, h => by cases h
theorem strsOf_map : ∀ (ns : List Str), strsOf (ns.map .str) = some ns
  | [] => rfl
  | n :: ns => by simp [strsOf, strsOf_map ns]
/-- a method of a text, one argument -/
def opM (h : Str → D → Option EV) (f g : S → Option (R EV)) : S → Option (R EV) := bE (fz f) fun e1 => match e1 with
  | .val (.str a) => bE (fz g) (lift1 (h a))
  | _ => fun _ => none
def PureM (c : Ctx) (X : Cx) (r : V → List V → Hp → VK → Prop) (h : Str → D → Option EV) : Prop := ∀ O as s σ H a y e ev Q, Good X.K c O as s σ H → RTop X.K (Hid O as s.st H) H y e → h a e = some ev → Fin X.K c O as s σ H ev Q → r (.str a) [y] H Q
section
variable {c : Ctx} {X : Cx} {W : WX} {K : PySem.W.Frag} {a b o e : Expr} {ta tb te to : TE} {f g : S → Option (R EV)} {pos apos : Pos}
theorem tM1_ok {r : V → List V → Hp → VK → Prop} {h : Str → D → Option EV} (p : PureM c X r h) (ha : IE X.K c W ta f) (hb : IE X.K c W tb g) : IE X.K c W (tM1 r ta tb) (opM h f g) := by
  intro O as s σ H Q G q
  refine operand ha G q fun e1 s1 x H1 as1 G1 o1 x1 q1 => ?_
  cases e1 with
  | cell n => exact q1.elim
  | fresh n => exact q1.elim
  | val d =>
    cases d with
    | str z =>
      have o1 : Rep X.K (Hid O as1 s1.st H1) x (.str z) := o1
      cases o1
      refine ⟨⟨z, rfl⟩, ?_⟩
      refine operand hb G1 q1 fun e2 s2 y H2 as2 G2 o2 x2 q2 => ?_
      obtain ⟨d, ev, r1, he, fin⟩ := lift1_post G2 o2 q2
      exact p O as2 s2 σ H2 z y d ev Q G2 r1 he fin
    | _ => exact q1.elim
def joinD (a : Str) : D → Option EV
  | .list ds => match strsOf ds with
    | some ys => if (ys.map (·.length)).sum + ys.length * a.length ≤ 1000000 then some (.val (.str (Txt.join a ys))) else none
    | none => none
  | _ => none
def splitD (a : Str) : D → Option EV
  | .str b => if (b.length == 0) = false ∧ a.length + 2 ≤ 1000000 then some (.fresh ((Txt.split a b).map .str)) else none
  | _ => none
theorem de_join (ho : DE c X W o to f) (he : DE c X W e te g) (hK : X.K = K := by rfl) (hs : starEach [e] X.env = [(false, eval e X.env)] := by rfl) (hbase : attributeBase o "join" X.env (eval o X.env) = eval o X.env := by rfl) (hline : (apos.endLine == pos.line) = true := by rfl) :
    DE c X W (.Call (.Attribute o "join" apos) [e] [] pos) (tM1 (fun x xs H Q => ∃ a p, ∃ ys : List Str, x = .str a ∧ xs = [.ref p] ∧ (SqL K H p (ys.map V.str) ∨ SqT K H p (ys.map V.str)) ∧ (ys.map (·.length)).sum + ys.length * a.length ≤ 16777216 ∧ Q (.str (Txt.join a ys)) H) to te) (opM joinD f g) := by
  subst hK
  refine ⟨pe_join ho.pe he.pe hs hbase hline, tM1_ok (fun O as s σ H a y d ev Q G ry hd fin => ?_) ho.ok he.ok⟩
  cases d with
  | list ds =>
    simp only [joinD] at hd
    cases z : strsOf ds with
    | none => rw [z] at hd; cases hd
    | some ys =>
      rw [z] at hd
      simp only at hd
      split at hd
      · rename_i hl
        cases hd
        obtain ⟨p, xs, rfl, h1, h2⟩ := ry
        rw [strsOf_eq z] at h2
        rw [h2.strs] at h1
        exact ⟨a, p, ys, rfl, rfl, .inl (SqL.of h1), by omega, fin.val G (.str _)⟩
      · cases hd
  | _ => cases hd
theorem de_split (ho : DE c X W o to f) (he : DE c X W e te g) (hs : starEach [e] X.env = [(false, eval e X.env)] := by rfl) (hbase : attributeBase o "split" X.env (eval o X.env) = eval o X.env := by rfl) (hline : (apos.endLine == pos.line) = true := by rfl) :
    DE c X W (.Call (.Attribute o "split" apos) [e] [] pos) (tM1 (fun x xs H Q => ∃ a b, x = .str a ∧ xs = [.str b] ∧ (b.length == 0) = false ∧ a.length + 2 ≤ sizeLine ∧ rNewStrs (Txt.split a b) H Q) to te) (opM splitD f g) := by
  refine ⟨pe_split ho.pe he.pe hs hbase hline, tM1_ok (fun O as s σ H a y d ev Q G ry hd fin => ?_) ho.ok he.ok⟩
  cases d with
  | str b =>
    simp only [splitD] at hd
    split at hd
    · rename_i hl
      cases hd
      cases rt_str ry
      exact ⟨a, b, rfl, rfl, hl.1, line_of hl.2, fun p hp => fin.lst G (RepA.ofStrs _) hp⟩
    · cases hd
  | _ => cases hd
/-! list(text) -/
def signsOf (x : Str) : List Str := x.cps.toList.map fun c => ⟨#[c]⟩
def rListStr : List V → Hp → VK → Prop := fun xs H Q => ∃ x : Str, xs = [.str x] ∧ x.length ≤ sizeLine ∧ ∀ p, H p = none → Q (.ref p) (upd H p (.lst ((signsOf x).map V.str)))
theorem vals_signs {x : Str} {acc : List Value} (hl : acc.length = x.cps.size) (h : ∀ j v, acc[j]? = some v → SignAt x j v) : Vals ((signsOf x).map V.str) acc := by
  refine vals_of_idx _ _ (by simp [signsOf, hl]) fun j u hj => ?_
  obtain ⟨cc, t, hc, rfl⟩ := h j u hj
  refine ⟨.str ⟨#[cc]⟩, ?_, ⟨t, rfl⟩⟩
  have hc2 : x.cps.toList[j]? = some cc := by simpa using hc
  simp [signsOf, hc2]
theorem call_listStr (hc : X.calm = true) : CallR X (.type "list") rListStr := by
  intro pins s σ H xs us Q I r h
  obtain ⟨x, rfl, hl, q⟩ := h
  obtain ⟨u, rfl, t, rfl⟩ := vals1 r
  refine call_list_str (I.ok.hd hc) x t (fun h' tk acc' c' kp e hit => ?_) hl
  have rv : Vals ((signsOf x).map V.str) acc'.toList := vals_signs (by simpa using hit.1) fun j v hv => hit.2 j v (by simpa using hv)
  refine ⟨.ref s.heap.objs.size, _, I.laid (t' := tk) kp (Nat.le_refl _) (show ObjOk X.prog X.w _ h' _ (.lst ((signsOf x).map V.str)) from ⟨?_, acc'.toList, c', rv, by simpa using e⟩), rfl, q _ (I.hok.fresh (Nat.le_refl _))⟩
  rw [rv.length, Array.length_toList, hit.1]
  exact hl
def listD2 : List D → Option EV
  | [.list ds] => some (.fresh ds)
  | [.tuple ds] => some (.fresh ds)
  | [.str x] => if x.length ≤ 1000000 then some (.fresh ((signsOf x).map .str)) else none
  | _ => none
def rLst2 (K : PySem.W.Frag) : List V → Hp → VK → Prop := fun xs H Q => rLst1 K xs H Q ∨ rListStr xs H Q
theorem ckList2 (hc : X.calm = true) (hK : X.K = K := by rfl) : CallR X (.type "list") (rLst2 K) := by
  subst hK
  exact CallR.or ckList (call_listStr hc)
theorem pkList2 (hK : X.K = K := by rfl) : PureT c X (rLst2 K) listD2 := by
  subst hK
  intro O as s σ H vs ds ev Q G ra he fin
  unfold listD2 at he
  split at he
  · cases he
    exact .inl (p_list O as s σ H vs _ _ Q G ra rfl fin)
  · cases he
    exact .inl (p_list O as s σ H vs _ _ Q G ra rfl fin)
  · split at he
    · rename_i x hl
      cases he
      obtain ⟨v, rfl, h⟩ := rta1 ra
      cases rt_str h
      exact .inr ⟨x, rfl, line_of hl, fun p hp => fin.lst G (RepA.ofStrs _) hp⟩
    · cases he
  · cases he
/-! a list backwards -/
def revD : D → Option EV
  | .list ds => some (.fresh ds.reverse)
  | _ => none
theorem RepA.reverse {Hh : Hp} {vs : List V} {ds : List D} (h : RepA K Hh vs ds) : RepA K Hh vs.reverse ds.reverse := by
  induction ds generalizing vs with
  | nil => cases h; exact .nil
  | cons d ds ih =>
    cases h with
    | cons h1 h2 =>
      rw [List.reverse_cons, List.reverse_cons]
      exact (ih h2).append (.cons h1 .nil)
theorem de_rev {k : Nat} {p1 p2 p3 : Pos} (he : DE c X W e te f) (hK : X.K = K := by rfl) : DE c X W (.Subscript e (.Slice none none (some (.UnaryOp .USub (.Constant (.int 1) k p1) p2)) p3) pos) (tRevL K te) (op1 revD f) := by
  subst hK
  refine ⟨pe_revL he.pe, fun O as s σ H Q G q => ?_⟩
  refine operand he.ok G q fun e1 s1 x H1 as1 G1 o1 x1 q1 => ?_
  obtain ⟨d, ev, r1, hd, fin⟩ := lift1_post G1 o1 q1
  cases d with
  | list ds =>
    cases hd
    obtain ⟨p, xs, rfl, h1, h2⟩ := r1
    exact ⟨p, xs, rfl, SqL.of h1, fun p hp => fin.lst G1 h2.reverse hp⟩
  | _ => cases hd
/-! l.index(x), x there -/
def placeOf (d : D) : List D → Option Nat
  | [] => none
  | z :: r => if PyData.eqv z d then some 0 else (placeOf d r).map (· + 1)
theorem placeOf_spec {d : D} : ∀ {ds : List D} {j : Nat}, placeOf d ds = some j → (∃ z, ds[j]? = some z ∧ PyData.eqv z d = true) ∧ ∀ (m : Nat) (z' : D), m < j → ds[m]? = some z' → PyData.eqv z' d = false
  | [], _, h => by cases h
  | z :: r, j, h => by
    simp only [placeOf] at h
    split at h
    · rename_i hz
      cases h
      exact ⟨⟨z, rfl, hz⟩, fun m z' hm => by omega⟩
    · rename_i hz
      cases e : placeOf d r with
      | none => rw [e] at h; cases h
      | some i =>
        rw [e] at h
        cases h
        obtain ⟨⟨z1, h1, h2⟩, h3⟩ := placeOf_spec e
        refine ⟨⟨z1, h1, h2⟩, fun m z' hm hz' => ?_⟩
        cases m with
        | zero =>
          cases hz'
          simpa using hz
        | succ m =>
          have hm : m + 1 < i + 1 := hm
          exact h3 m z' (by omega) hz'
def indexD : D → D → Option EV
  | .list ds, d => if shp (.list ds) && shp d then (placeOf d ds).map fun j => .val (.int (j : Nat)) else none
  | _, _ => none
def indexE (f g : S → Option (R EV)) : S → Option (R EV) := bE (fz f) fun e1 => match e1 with
  | .val (.list ds) => bE (fz g) (lift2 indexD (.val (.list ds)))
  | _ => fun _ => none
theorem de_index (ho : DE c X W o to f) (he : DE c X W e te g) (hu : X.A.units + 65 < cLine) (hK : X.K = K := by rfl) (hbase : attributeBase o "index" X.env (eval o X.env) = eval o X.env := by rfl)
    (hfew : ((backTo pos (starEach [e] X.env)).all (fun x => !x.1) && (backToKw pos (keywordEach [] X.env)).all (fun x => x.1.isSome)
      && decide ([e].length + ([] : List Keyword).length + (if ([] : List Keyword).isEmpty then 0 else 1) < 30)) = true := by rfl)
    (hline : (apos.endLine == pos.line) = true := by rfl) (hs : starEach [e] X.env = (false, eval e X.env) :: starEach [] X.env := by rfl) (hplain : (backTo pos (starEach [] X.env)).any (·.1) = false := by rfl) :
    DE c X W (.Call (.Attribute o "index" apos) [e] [] pos) (tBM K "list" (rIndexD K) to (tCons te tNil)) (indexE f g) := by
  subst hK
  refine ⟨pe_bm PySem.F.plainAttrs_list PySem.F.slot_list_index PySem.F.type_list_index (mt_indexD hu) ho.pe (pa_cons he.pe pa_nil hs) hbase hfew hline hs hplain, fun O as s σ H Q G q => ?_⟩
  refine operand ho.ok G q fun e1 s1 x H1 as1 G1 o1 x1 q1 => ?_
  cases e1 with
  | cell n => exact q1.elim
  | fresh n => exact q1.elim
  | val d =>
    cases d with
    | list ds =>
      have o1' : Rep X.K (Hid O as1 s1.st H1) x (.list ds) := o1
      refine ⟨?_, ?_⟩
      · cases o1' with
        | lst h1 h2 => exact .inl ⟨rfl, _, SqL.of (hid_ext _ _ h1 noTbl_lst)⟩
      refine operand he.ok G1 q1 fun e2 s2 y H2 as2 G2 o2 x2 q2 => ?_
      have o1s := EvOk.step o1 x2
      obtain ⟨d, e, ev, r1, r2, hd, fin⟩ := lift2_post G2 o1s o2 q2
      cases d with
      | list ds' =>
        simp only [indexD] at hd
        split at hd
        · rename_i hsh
          rw [Bool.and_eq_true] at hsh
          cases z : placeOf e ds' with
          | none => rw [z] at hd; cases hd
          | some j =>
            rw [z] at hd
            cases hd
            obtain ⟨⟨z1, h1, h2⟩, h3⟩ := placeOf_spec z
            have dp := r1.dp hid_ext (shp_lay hsh.1)
            obtain ⟨p, xs, rfl, q1', q2'⟩ := r1
            exact ⟨p, y, e, ds', j, z1, rfl, rfl, dp, r2.dp hid_ext (shp_lay hsh.2), hsh.1, hsh.2, h1, h2, h3, fin.val G2 (.int _)⟩
        · cases hd
      | _ => cases hd
    | _ => exact q1.elim
end
end DL
set_option maxHeartbeats 1000000
namespace DL
open PySem PySem.Spec PyProof.Rows L2
/-! ### own exceptions with a field -/
/-- what stands never in the way -/
theorem ds_never {c : Ctx} {X : Cx} {W : WX} {st : Stmt} : DS c X W st (fun _ _ _ => False) (fun _ => none) := ⟨⟨fun pins s σ H D I h => h.elim⟩, fun O as s σ H B G q => q.elim⟩
/-- class x(B): def __init__(self, f): B.__init__(self, 'm'); self.f = f -/
structure XT (K : PySem.W.Frag) (mg : Str → Option Value) (x B fld qn : Str) (st : Stmt) (C : Addr) where
  T : OexC K C
  fI : Addr
  fd : FuncData
  C0 : Addr
  iC : PySem.W.findIn K (.ref C) "__init__" = some (some (.ref fI))
  tI : PySem.W.typeIn K (.ref fI) = some (.type "function")
  F : Fun K "__init__" qn st fI fd
  b : L2.Binds K fd ["self", fld] []
  m : mg x = some (.ref C)
  hno : PySem.W.findIn K (.ref C) fld = some none
  mB : mg B = some (.ref C0)
  gB : PySem.W.specialIn K (.ref C0) "__getattribute__" = some (some (.builtin "type.__getattribute__"))
  rB : PySem.W.readsIn K C0 (.type "type") = true
  vB : PySem.W.findCls K (.ref C0) (.type "type") "__init__" = some (.val (.builtin "ValueError.__init__"))
  xf : XfC K C
/-- B.__init__(self, ..), B an own class over ValueError -/
theorem pe_binit {X : Cx} {B : Str} {C0 : Addr} {e : Expr} {es : List Expr} {ta : TA} {p1 p2 pos : Pos} {pl : Sem Bool} (hg : Gl X B) (hm : X.mg B = some (.ref C0)) (gB : PySem.W.specialIn X.K (.ref C0) "__getattribute__" = some (some (.builtin "type.__getattribute__")))
    (rB : PySem.W.readsIn X.K C0 (.type "type") = true) (vB : PySem.W.findCls X.K (.ref C0) (.type "type") "__init__" = some (.val (.builtin "ValueError.__init__"))) (ha : PA X (e :: es) ta) (hdb : (B == ("__debug__" : Str)) = false := by decide)
    (hc : eval (.Call (.Attribute (.Name B p1) "__init__" p2) (e :: es) [] pos) X.env = (do
      let ov ← eval (.Name B p1) X.env
      standAt p2.atName
      let (f, first) ← holding [ov] (getMethod ov "__init__" pl)
      callWith pos f first (backTo pos (starEach (e :: es) X.env)) (backToKw pos (keywordEach [] X.env))) := by rfl)
    (he : starEach (e :: es) X.env = (false, eval e X.env) :: starEach es X.env := by rfl) (hpl : (backTo pos (starEach es X.env)).any (·.1) = false := by rfl) :
    PE X (.Call (.Attribute (.Name B p1) "__init__" p2) (e :: es) [] pos) (tVeI X.K ta) := by
  refine ⟨fun pins s σ H Q I h => ?_⟩
  refine PySem.W.methodCall_KW (ld_glob I hg hm ?_ hdb) hc
  refine PySem.W.method_cls I.kIn gB (PySem.W.cls_value I.kIn rB vB (by decide +kernel) ?_)
  show wpAny _ _ (callWith pos (Value.builtin "ValueError.__init__") [] (backTo pos (starEach (e :: es) X.env)) []) _ _ _
  refine PyProof.Rows.callWith_method1 (thn (ha.run pos pins _ σ H _ (I.tok _) h) fun us s1 ⟨vs, H1, I1, r1, a, C, ws, ev, hl, T, ea, q⟩ => ?_) he hpl
  subst ev
  cases r1 with
  | @cons _ u0 _ ur ra rw' =>
    obtain rfl : u0 = Value.ref a := ra
    have hlen : ur.length ≤ sizeLine := by
      rw [← Paired.length rw', sizeLine_eq]
      omega
    exact oinit_ok T I1 ea hlen fun s' J => ⟨.non, H1, J, rfl, q⟩
def spX (C : Addr) (fld : Str) : Sp := fun vs H Q _ => ∃ a v, vs = [.ref a, v] ∧ H a = some (exo a C none) ∧ ∀ dx, H dx = none → dx ≠ a → Q .non (upd (upd H dx (exd dx [(fld, v)])) a (exo a C (some dx)))
/-- the statement in the class -/
def initS : Stmt → Stmt
  | .ClassDef (body := b) .. => b.getD 0 (.Pass ⟨0, 0, 0, 0⟩)
  | s => s
theorem xt_post {K : PySem.W.Frag} {C : Addr} {fld msg : Str} (T : OexC K C) (hno : PySem.W.findIn K (.ref C) fld = some none) {vs : List V} {H : Hp} {Q : VK} {E : XK} (h : spX C fld vs H Q E) :
    tSeq (tDrop (tVeI K (tCons (tVar 0) (tCons (tC (.str msg)) tNil)))) (tOst K fld (tVar 0) (tVar 1)) { nx := fun _ H' => Q .non H', rt := Q } (L2.start ["self", fld] vs) H := by
  obtain ⟨a, v, rfl, ea, q⟩ := h
  refine ⟨.ref a, rfl, a, C, [.str msg], rfl, by simp, T, ea, v, rfl, .ref a, rfl, a, C, rfl, T, hno, .inl ⟨ea, fun dx hd ne => q dx hd ne⟩⟩
section
variable {K : PySem.W.Frag} {c : Ctx} {X : Cx} {W : WX} {O as : List Addr} {s : S} {σ : L2.St} {H : Hp} {mg : Str → Option Value}
def raiseXS (x fld : Str) (f : S → Option (R EV)) : S → Option RS := bS (fz f) fun ev s => match ev with
  | .val d => some (.err ⟨x, some [(fld, d)]⟩ s)
  | _ => none
theorem ds_raiseX {x B fld qn : Str} {st : Stmt} {C : Addr} {e : Expr} {te : TE} {f : S → Option (R EV)} {p pos pos' : Pos} {k : Nat} (T : XT K X.mg x B fld qn st C) (F1 : FnOk X.prog X.w X.K X.mg X.base CX0 k T.fI T.fd ["self", fld] (spX C fld)) (hC : c.ec x = C) (hc : X.calm = true) (tk : Takes X W) (hr : Room (k + 1) X.A) (hg : Gl X x)
    (he : DE c X W e te f) (hK : X.K = K := by rfl) (hdb : (x == ("__debug__" : Str)) = false := by decide) (hs : starEach [e] X.env = (false, eval e X.env) :: starEach [] X.env := by rfl) (hpl : (backTo pos' (starEach [] X.env)).any (·.1) = false := by rfl) :
    DS c X W (.Raise (some (.Call (.Name x p) [e] [] pos')) none pos) (fun _ σ H => tMkO C (spX C fld) [] (tCons te tNil) σ H fun cls d H' => W cls d σ H') (raiseXS x fld f) := by
  subst hK
  refine ⟨ps_raise hc tk (pmk_oex T.T T.iC T.tI F1 hr T.b .nil pass0 hg T.m (pa_cons he.pe pa_nil hs) hdb hs hpl), fun O as s σ H B G q => ?_⟩
  refine he.ok O as s σ H _ G (PostE.fz (PostS.bind q fun ev s1 v H1 as1 eg x1 fr q1 => ?_))
  cases ev with
  | cell n => exact q1.elim
  | fresh n => exact q1.elim
  | val d =>
    refine ⟨by simp, fun a ha => ⟨a, v, rfl, upd_same, fun dx hd ne => ⟨rfl, dx, [(fld, v)], upd_same, ?_, ?_, ?_⟩⟩⟩
    · rw [upd_ne ne, upd_same]
    · have := hd
      rw [upd_ne ne] at this
      exact this
    · have hd1 : H1 dx = none := by
        have := hd
        rw [upd_ne ne] at this
        exact this
      have eH : upd (L2.del (upd (upd (upd H1 a (exo a C none)) dx (exd dx [(fld, v)])) a (exo a C (some dx))) a) dx (.xd [(fld, v)]) = upd H1 dx (.xd [(fld, v)]) := by
        funext b
        by_cases hb : b = dx
        · rw [hb, upd_same, upd_same]
        · rw [upd_ne hb, upd_ne hb]
          by_cases hba : b = a
          · rw [hba, del_same, ha]
          · rw [del_ne hba, upd_ne hba, upd_ne hb, upd_ne hba]
      rw [eH]
      have G1 : Good X.K c O as1 s1 σ (upd H1 dx (.xd [(fld, v)])) := eg.1.grow (same_upd hd1)
      have q2 := q1 (some dx) σ (upd H1 dx (.xd [(fld, v)])) as1 G1 (x1.trans (Stp.same eg.1.lenC (same_upd hd1))) ⟨dx, [(fld, v)], rfl, upd_same, rfl, fun f' dd hf => ?_⟩
      · rw [hC] at q2
        exact q2
      · simp only [List.lookup] at hf ⊢
        split at hf
        · rename_i hq
          cases hf
          exact ⟨v, rfl, eg.2.ext (Stp.same eg.1.lenC (same_upd hd1)).ext⟩
        · cases hf
/-! ### except x as e -/
/-- the suite's context: the exception's class and fields -/
def errCtx (K : PySem.W.Frag) (c : Ctx) (n : Str) (cls : Value) (d : Option Addr) (er : Er) : Ctx where
  T := c.T
  ec := c.ec
  scr := c.scr
  ex := fun as Hh => c.ex as Hh ∧ cls = .ref (c.ec n) ∧ ErOk K Hh er d Hh
  exm := fun as more H H' e h => ⟨c.exm as more H H' e h.1, h.2.1, by
    have h3 := h.2.2
    unfold ErOk at h3 ⊢
    split at h3
    · exact h3
    · obtain ⟨p, fs', e1, e2, e3, e4⟩ := h3
      exact ⟨p, fs', e1, e _ _ e2 (fun ps z => nomatch z), e3, fun f dd hf => let ⟨v, z1, z2⟩ := e4 f dd hf; ⟨v, z1, z2.ext e⟩⟩⟩
theorem ErOk.hid {x : Er} {d : Option Addr} (G : Good K c O as s σ H) (h : ErOk K (Hid O as s.st H) x d H) : ErOk K (Hid O as s.st H) x d (Hid O as s.st H) := by
  unfold ErOk at h ⊢
  split at h
  · exact h
  · obtain ⟨p, fs', e1, e2, e3, e4⟩ := h
    refine ⟨p, fs', e1, hid_of (fun z => ?_) (fun z => ?_) e2, e3, e4⟩
    · obtain ⟨xs, e⟩ := G.odom p z
      rw [e2] at e
      cases e
    · rcases live_kind G z with ⟨vs, e⟩ | ⟨C, dx, fs, e⟩ <;> (rw [e2] at e; cases e)
/-- e.f -/
def xfE (i : Nat) (a : Addr) (fld : Str) (er : Er) : S → Option (R EV) := fun s => match s.env[i]? with
  | some (.val (.dict [(.none, .int n)])) => if n = (a : Nat) then (match er.fs with
    | some fs => (match fs.lookup fld with
      | some d => some (.ok (.val d) s)
      | none => none)
    | none => none) else none
  | _ => none
theorem de_xf {n fld y : Str} {C a : Addr} {i : Nat} {oe : Obj} {cls : Value} {d : Option Addr} {er : Er} {pn : List (Addr × Obj)} {p pos : Pos} (T : XfC X.K C) (hC : c.ec n = C) (hno : PySem.W.findIn X.K (.ref C) fld = some none) (hz : Zc cls d oe) (hf : ∃ vs, oe.data = .fields vs)
    (hN : (X.suite a ((a, oe) :: pn)).N[i]? = some y) (hv : Vis (X.suite a ((a, oe) :: pn)).env.scope y) (hb : attributeBase (.Name y p) fld X.env (eval (.Name y p) X.env) = eval (.Name y p) X.env := by rfl) (hd : (y == ("__debug__" : Str)) = false := by decide) (hcd : (y == ("__classdict__" : Str)) = false := by decide) :
    DE (errCtx X.K c n cls d er) (X.suite a ((a, oe) :: pn)) W (.Attribute (.Name y p) fld pos) (tXf a cls d C fld (tVar i)) (xfE i a fld er) := by
  refine ⟨pe_xf T hno hz hf (pe_var hN hv hd hcd) hb, fun O as s σ H Q G q => ?_⟩
  obtain ⟨e1, e2, e3⟩ := G.ex
  unfold xfE at q
  cases z0 : s.env[i]? with
  | none => rw [z0] at q; exact q.elim
  | some sv =>
    rw [z0] at q
    have key : ∃ n : Int, sv = .val (.dict [(.none, .int n)]) := by
      split at q
      · rename_i n h
        exact ⟨n, Option.some.inj h⟩
      · exact q.elim
    obtain ⟨n', rfl⟩ := key
    simp only at q
    split at q
    · rename_i hn
      subst hn
      obtain ⟨v, h1, h2⟩ := G.slots i _ z0
      have h2 : Rep _ _ v (fnD a) := h2
      have hv : v = .ref a := by
        cases h2 with
        | fn a => rfl
      subst hv
      cases z1 : er.fs with
      | none => rw [z1] at q; exact q.elim
      | some fs =>
        rw [z1] at q
        simp only at q
        cases z2 : fs.lookup fld with
        | none => rw [z2] at q; exact q.elim
        | some dd =>
          rw [z2] at q
          unfold ErOk at e3
          rw [z1] at e3
          obtain ⟨p', fs', q1, q2, q3, q4⟩ := e3
          obtain ⟨v, w1, w2⟩ := q4 fld dd z2
          refine ⟨.ref a, join_some h1, rfl, by rw [e2, hC], p', fs', v, q1, (hid_some q2).2.2, w1, ?_⟩
          exact q v H as ⟨G, w2⟩ (Stp.refl G.lenC) trivial
    · exact q.elim
def resetS (i : Nat) : RS → RS
  | .next s => .next ⟨s.env.set i .un, s.st⟩
  | .ret ev s => .ret ev ⟨[], s.st⟩
  | .err x s => .err x s
def tryAsS (names : List Str) (i : Nat) (f : S → Option RS) (n : Str) (g : Addr → Er → S → Option RS) : S → Option RS := fun s => match f s with
  | some (.err x s') => if x.cls ∈ names then (if x.cls = n then noErr (fun s => (g 0 x s).map (resetS i)) ⟨s'.env.set i (.val (fnD 0)), s'.st⟩ else some (.err x s')) else none
  | r => r
theorem Good.ctxX {c1 : Ctx} (G : Good K c O as s σ H) (e : c.scr = c1.scr) (eT : c.T = c1.T) (ex : c1.ex as (Hid O as s.st H)) : Good K c1 O as s σ H := G.ctx e eT ex
theorem ds_tryAs {names : List Str} {body suite : List Stmt} {b₀ : Stmt} {i : Nat} {x y n : Str} {np pos pos' : Pos} {tb : WX → TS} {ts : Addr → Value → Option Addr → TS} {f : S → Option RS} {g : Addr → Er → S → Option RS}
    (hs : X.stack = X.env :: X.outer) (hf : X.env.frame = some X.env.locals) (hN : X.N.Nodup) (hi : X.N[i]? = some y) (hln : X.env.kindOf y = some .local) (tk : Takes X W) (hc : Names X x (.ref (c.ec n)))
    (hb : ∀ (W' : WX) (pn : List (Addr × Obj)) (xe : Value → Shared → Prop), Takes (X.tr pn xe) W' → PassesOwn (model X.prog X.w) X.A X.env xe → DB c (X.tr pn xe) W' body (tb W') f)
    (hsu : ∀ (a : Addr) (oe : Obj) (cls : Value) (d : Option Addr) (pn : List (Addr × Obj)) (er : Er), Zc cls d oe → (∃ vs, oe.data = .fields vs) → DB (errCtx X.K c n cls d er) (X.suite a ((a, oe) :: pn)) W0 (b₀ :: suite) (ts a cls d) (g a er))
    (hI : ∀ (a : Addr) (er : Er) (env : List SV) (st : List MO) (r : RS), g 0 er ⟨env.set i (.val (fnD 0)), st⟩ = some r → ∃ r', g a er ⟨env.set i (.val (fnD a)), st⟩ = some r' ∧ resetS i r' = resetS i r)
    (hE : ∀ n1 ∈ names, PySem.W.exmOne X.K (.ref (c.ec n1)) (.ref (c.ec n)) = some (decide (n1 = n))) :
    DS c X W (.Try body [.ExceptHandler (some (.Name x np)) (some y) (b₀ :: suite) pos'] [] [] pos) (fun B σ H => tEv X tb (wAs X.K (.ref (c.ec n)) i ts W B) B σ H) (tryAsS names i f n g) := by
  refine ⟨ps_try_as hs hf hN hi hln hc tk (tb := tEv X tb) (fun W' pn xe tk' po => ⟨fun pins s σ H B I q => (hb W' pn xe tk' po).pss.run pins s σ H B I (q ⟨pn, xe, tk', po⟩)⟩) (fun a oe cls d pn hz hfl => (hsu a oe cls d pn ⟨"", none⟩ hz hfl).pss), fun O as s σ H B G q => ?_⟩
  rintro ⟨pn, xe, tk', po⟩
  refine (hb (wAs X.K (.ref (c.ec n)) i ts W B) pn xe tk' po).ok O as s σ H B G ?_
  unfold tryAsS at q
  cases e : f s with
  | none => rw [e] at q; exact q
  | some r =>
    rw [e] at q
    cases r with
    | next s' => exact q
    | ret ev s' => exact q
    | err er s' =>
      intro d σ' H' as' G' x' eo
      simp only at q
      split at q
      · rename_i hx
        refine ⟨_, hE _ hx, fun hbt a _ => ?_, fun hbf => ?_⟩
        · have en : er.cls = n := of_decide_eq_true hbt
          rw [if_pos en] at q
          have q := noErr_post (PostS.after x' q)
          -- the suite, at the exception's own address
          have eo2 : ErOk X.K (Hid O as' s'.st H') er d (Hid O as' s'.st H') := ErOk.hid (K := X.K) G' eo
          have Gs : Good X.K (errCtx X.K c n (.ref (c.ec er.cls)) d er) O as' ⟨s'.env.set i (.val (fnD a)), s'.st⟩ (σ'.set i (some (.ref a))) H' :=
            (G'.set (sv := .val (fnD a)) ⟨.ref a, rfl, .fn a⟩).ctx rfl rfl ⟨G'.ex, by rw [en], eo2⟩
          cases hg0 : g 0 er ⟨s'.env.set i (.val (fnD 0)), s'.st⟩ with
          | none => rw [hg0] at q; exact q.elim
          | some r0 =>
            rw [hg0] at q
            obtain ⟨r', hg1, hr⟩ := hI a er s'.env s'.st r0 hg0
            have DBg : IS X.K (errCtx X.K c n (.ref (c.ec er.cls)) d er) W0 (ts a (.ref (c.ec er.cls)) d) (g a er) := (hsu a { cls := .ref (c.ec er.cls), dict := d, data := .fields #[] } (.ref (c.ec er.cls)) d [] er ⟨rfl, rfl⟩ ⟨_, rfl⟩).ok
            refine DBg O as' _ _ H' _ Gs ?_
            rw [hg1]
            have q : PostS X.K c O as' s'.st H' W0 B (some (resetS i r')) := by rw [hr]; exact q
            cases r' with
            | next s2 =>
              intro σ2 H2 as2 G2 x2
              refine q (σ2.set i none) H2 as2 ?_ x2
              have G3 := G2.ctx (c1 := c) rfl rfl G2.ex.1
              refine G3.frame (by simp [G3.lenE]) fun j sv hj => ?_
              by_cases hji : i = j
              · subst hji
                have hlt : i < s2.env.length := by
                  have := (List.getElem?_eq_some_iff.mp hj).1
                  simpa using this
                rw [List.getElem?_set_self hlt] at hj
                cases hj
                trivial
              · rw [List.getElem?_set_ne hji] at hj ⊢
                exact G3.slots j sv hj
            | ret ev s2 =>
              intro v σ2 H2 as2 eg x2 fr
              refine q v [] H2 as2 ?_ x2 fr
              have eg2 : EvGood X.K c O as2 s2 σ2 H2 ev v := eg.ctx rfl rfl eg.good.ex.1 fun a' ds ed ev' => by
                subst ed
                obtain ⟨a2, vs, e1, h1, h2, G2, r⟩ := eg
                rw [ev'] at e1
                cases e1
                exact G2.ex.1
              exact eg2.bare
            | err y s2 => exact fun d2 σ2 H2 as2 G2 x2 er2 => q d2 σ2 H2 as2 (G2.ctx (c1 := c) rfl rfl G2.ex.1) x2 er2
        · have en : ¬ er.cls = n := of_decide_eq_false hbf
          rw [if_neg en] at q
          exact q d σ' H' as' G' x' eo
      · exact q.elim
end
end DL
namespace DL
open PySem PySem.Spec PyProof.Rows L2
section
variable {c : Ctx} {X : Cx} {W : WX} {K : PySem.W.Frag} {mg : Str → Option Value}
theorem hE1_of {ec : Str → Addr} {names : List Str} {n : Str} (he : c.ec = ec) {all : List Str} (h : ∀ n1 ∈ all, ∀ n2 ∈ all, PySem.W.exmOne X.K (.ref (ec n1)) (.ref (ec n2)) = some (decide (n1 = n2)))
    (h1 : ∀ n ∈ names, n ∈ all) (h2 : n ∈ all) : ∀ n1 ∈ names, PySem.W.exmOne X.K (.ref (c.ec n1)) (.ref (c.ec n)) = some (decide (n1 = n)) := by
  subst he
  exact fun n1 hn => h n1 (h1 n1 hn) n h2
theorem names_x {x : Str} {C : Addr} {n : Str} (m : X.mg x = some (.ref C)) (he : c.ec n = C) (hg : Gl X x) (hdb : (x == ("__debug__" : Str)) = false := by decide) : Names X x (.ref (c.ec n)) := by
  subst he
  exact ⟨hg, hdb, .inl m⟩
/-- a global that is data -/
structure GT (K : PySem.W.Frag) (mg : Str → Option Value) (x : Str) (d : D) where
  a : Addr
  m : mg x = some (.ref a)
  r : ∀ H, Rep K H (.ref a) d
theorem de_gt {x : Str} {d : D} {pos : Pos} (T : GT K mg x d) (hg : Gl X x) (hK : X.K = K := by rfl) (hm : X.mg = mg := by rfl) (hdb : (x == ("__debug__" : Str)) = false := by decide) : DE c X W (.Name x pos) (tC (.ref T.a)) (kst d) := by
  subst hK hm
  exact de_glob hg T.m rfl T.r hdb
theorem vals_strsK : ∀ {xs : List Str} {its : List Value}, PyProof.Rows.StrsAre its xs → Vals (xs.map V.str) its
  | _, _, h => by
    induction h with
    | nil => exact .nil
    | cons x t h ih => exact .cons ⟨t, rfl⟩ ih
def gt_mk {x : Str} {xs : List Str} {h : Heap} (X : K.In h) (G : h.Ns mainGlobals mg) {a : Addr} {its : List Value} {dd : Option Addr} {n : Nat} {sl : Array (Option Value)} (e : PySem.W.nsIn K mainGlobals x = some (some (.ref a))) (l : K.lookup a = some ⟨.type "tuple", dd, .seq its.toArray n, sl⟩) (hi : PyProof.Rows.StrsAre its xs) (hl : its.length ≤ 1000) : GT K mg x (.tuple (xs.map .str)) :=
  ⟨a, PySem.W.mg_of X G e, fun H => .tup (xs := xs.map V.str) (.inr ⟨_, its.toArray, n, l, rfl, rfl, by rw [sizeLine_eq]; simp; omega, by simpa using vals_strsK hi⟩) (RepA.ofStrs xs)⟩
def xt_mk {x B fld qn : Str} {st : Stmt} {C C' fI C0 : Addr} {h : Heap} (X : K.In h) (G : h.Ns mainGlobals mg) {nm q : Str} {N : Addr} {bs : List Value} {sn : List Str} {sub : List Value} {ab : Bool} {col : Option Bool} {dd : Option Addr} {k0 k1 k2 k3 k5 : Option Value}
    {oc : Value} {od an : Option Addr} {osl : Array (Option Value)} {kV doc pm cdv ct : Value} (eC : PySem.W.nsIn K mainGlobals x = some (some (.ref C))) (eB : PySem.W.nsIn K mainGlobals B = some (some (.ref C0)))
    (lC : K.lookup C = some (excClassObj nm q C N bs [.ref C0, .type "ValueError", .type "Exception", .type "BaseException", .type "object"] true sn sub ab col dd k0 k1 k2 k3 k5 "ValueError.__new__"))
    (sa : PySem.W.findIn K (.ref C) "__setattr__" = some (some (.builtin "object.__setattr__"))) (exC : PySem.W.subIn K (.ref C) (.type "BaseException") = some true) (tyC : PySem.W.typeIn K (.ref C) = some (.type "type")) (kC : PySem.W.keepIn K (.ref C) = true)
    (iC : PySem.W.findIn K (.ref C) "__init__" = some (some (.ref fI))) (tI : PySem.W.typeIn K (.ref fI) = some (.type "function"))
    (l : K.lookup fI = some ⟨oc, od, .func (PySem.W.fnOf "__init__" qn (defArgs st) (defBody st) (defScope st) .none kV doc pm an cdv ct), osl⟩) (c : PySem.W.codeIn K cdv qn = true) (k : PySem.W.keepIn K (.ref fI) = true)
    (hno : PySem.W.findIn K (.ref C) fld = some none) (gB : PySem.W.specialIn K (.ref C0) "__getattribute__" = some (some (.builtin "type.__getattribute__"))) (rB : PySem.W.readsIn K C0 (.type "type") = true)
    (vB : PySem.W.findCls K (.ref C0) (.type "type") "__init__" = some (.val (.builtin "ValueError.__init__"))) (ga : PySem.W.findIn K (.ref C) "__getattribute__" = some (some (.builtin "BaseException.__getattribute__"))) (gg : PySem.W.findIn K (.ref C) "__getattr__" = some none) (hdC : PySem.W.hasDictIn K C = true)
    (hb : ∀ (kV doc pm : Value) (an : Option Addr) (cdv ct : Value) (us : List Value), us.length = (["self", fld] : List Str).length → bindArgs (PySem.W.fnOf "__init__" qn (defArgs st) (defBody st) (defScope st) .none kV doc pm an cdv ct) ⟨us, []⟩ = pure ((["self", fld] : List Str).zip us)) (hC : C' = C) : XT K mg x B fld qn st C' :=
  hC ▸ { T := ⟨⟨nm, q, N, bs, _, sn, sub, ab, col, dd, k0, k1, k2, k3, k5, lC, by rfl⟩, sa, exC, tyC, kC⟩, fI := fI, fd := _, C0 := C0, iC := iC, tI := tI, F := fun_mk l c k, b := (fun_mk l c k).binds hb, m := PySem.W.mg_of X G eC, hno := hno, mB := PySem.W.mg_of X G eB, gB := gB, rB := rB, vB := vB, xf := ⟨ga, gg, exC, hdC⟩ }
end
end DL
namespace DL
open PySem PySem.Spec PyProof.Rows L2
/-! ### the least of a list of tuples of ints -/
section
variable {pg : Program} {wd : World} {Ar : Around} {Rs : Result → Shared → Prop} {It : Addr} {fp wr : List Addr} {Gg : Array GenState → Array GenState → Prop} {m : Nat} {Pv : Nat → Value → Prop} {St : Nat → Shared → Prop}
/-- what the first heap held is there -/
def KeptIn (h0 : Heap) (s : Shared) : Prop := ∀ b o, h0.get? b = some o → s.heap.get? b = some o
/-- two items are compared, where the first heap's objects stand -/
def CmpH (pg : Program) (wd : World) (Ar : Around) (h0 : Heap) (Pv : Nat → Value → Prop) (bt : Nat → Nat → Bool) : Prop :=
  ∀ i j x y (s : Shared) (Q : Value → Shared → Prop) (E : Value → Shared → Prop), Pv i x → Pv j y → KeptIn h0 s → Q (.bool (bt i j)) s → wpAny (model pg wd) Ar (richCompare .Lt x y) Q E s
theorem KeptIn.moved {h0 : Heap} {s s' : Shared} (k : KeptIn h0 s) (hw : ∀ b ∈ wr, h0.get? b = none) (mv : Moved wr Gg s s') : KeptIn h0 s' := fun b o e =>
  mv.heap b o (fun hb => by rw [hw b hb] at e; cases e) (k b o e)
theorem min_turns (W : WalksS pg wd Ar.in1 It fp wr Gg m Pv St) {h0 : Heap} {bt : Nat → Nat → Bool} (cm : CmpH pg wd Ar.in1 h0 Pv bt) (C : Addr) (hC : C ∉ fp) (hC0 : h0.get? C = none) (hw : ∀ b ∈ wr, h0.get? b = none) :
    ∀ (k j : Nat) (s : Shared) (best : Value) (ep : Nat), m - (j + 1) = k → j + 1 ≤ m → St (j + 1) s → KeptIn h0 s → Pv (argBest bt j) best → s.heap.get? C = some { cls := .type "list", dict := none, data := .seq #[best, best] ep, slots := #[] } →
      (∀ x s', Pv (argBest bt (m - 1)) x → Moved (C :: wr) Gg s s' → Rs (.ok (.ret x)) s') →
      codeAny (model pg wd) Ar (.builtin "min.loop" ⟨[.ref It, .none, .ref C], []⟩) Rs s := by
  have c0 : C ∉ wr := fun z => hC (W.sub _ z)
  have up : ∀ b ∈ wr, b ∈ C :: wr := fun b z => List.mem_cons_of_mem _ z
  have nm : toString "min" ++ toString ".loop" = "min.loop" := by decide
  have ne : ∀ {b : Addr}, b ∉ C :: wr → C ≠ b := fun z e => z (e ▸ List.mem_cons_self)
  intro k
  induction k with
  | zero =>
    intro j s best ep hk hj st kp pb ho fin
    have hm : j + 1 = m := by omega
    refine codeAny_builtin F.entry_min_loop ?_
    rw [Around.under_plainId F.plain_min_loop _]
    refine wpAny_bind (m := seqItems? (.ref C)) (wpAny_seqItems ho rfl ?_)
    refine wpAny_bind (m := tryCatch (pyNext (.ref It)) _) (wpAny_tryCatch (W.done s _ _ (hm ▸ st) fun s1 mv => ?_))
    have ho1 := mv.heap C _ c0 ho
    refine wpAny_bind (m := updateSeq C fun _ => #[]) (wpAny_updateSeq ho1 rfl (wpAny_bind (wpAny_letGo (wpAny_pure ?_))))
    refine fin best _ (hm ▸ pb) ((mv.mono up).then_heap (tk := s1.toks) (Nat.le_refl _) fun b o hb e => ?_)
    exact (Heap.get?_update_other _ _ (ne hb)).trans e
  | succ k ih =>
    intro j s best ep hk hj st kp pb ho fin
    have lt : j + 1 < m := by omega
    refine codeAny_builtin F.entry_min_loop ?_
    rw [Around.under_plainId F.plain_min_loop _]
    refine wpAny_bind (m := seqItems? (.ref C)) (wpAny_seqItems ho rfl ?_)
    refine wpAny_bind (m := tryCatch (pyNext (.ref It)) _) (wpAny_tryCatch (W.item (j + 1) s _ _ lt st fun x s1 px st1 mv => ?_))
    have ho1 := mv.heap C _ c0 ho
    have kp1 := kp.moved hw mv
    refine wpAny_bind (m := tryCatch (holding [x, x] (richCompare .Lt x best >>= _)) _) (wpAny_tryCatch (wpAny_holding (wpAny_bind (cm (j + 1) (argBest bt j) x best _ _ _ px pb kp1 ?_))))
    refine wpAny_bind (wpAny_holding (wpAny_truthy_bool ?_))
    refine wpAny_bind (wpAny_letGo (wpAny_pure ?_))
    cases hb : bt (j + 1) (argBest bt j) with
    | true =>
      simp only [if_true]
      refine wpAny_bind (wpAny_updateSeq ho1 rfl (wpAny_bind (wpAny_letGo ?_)))
      rw [nm]
      have kp2 : KeptIn h0 { s1 with heap := s1.heap.update C (Obj.mapSeq fun _ => #[x, x]) } := fun b o e => (Heap.get?_update_other _ _ (fun z : C = b => by rw [← z, hC0] at e; cases e)).trans (kp1 b o e)
      refine wpAny_pure ⟨plainId_quiet F.plain_min_loop _, ih (j + 1) _ x _ (by omega) lt (W.frame _ s1 _ s1.toks st1 (Nat.le_refl _) fun b hf o e => ?_) kp2 (by simp only [argBest, hb, if_true]; exact px) (Heap.get?_update_self _ ho1 rfl) fun y s2 py mv2 => ?_⟩
      · exact (Heap.get?_update_other _ _ (fun z : C = b => hC (z ▸ hf))).trans e
      · exact fin y s2 py (Moved.trans W.gtrans ((mv.mono up).then_heap (Nat.le_refl _) fun b o hb e => (Heap.get?_update_other _ _ (ne hb)).trans e) mv2)
    | false =>
      simp only [Bool.false_eq_true, if_false]
      refine wpAny_bind (wpAny_letGo ?_)
      rw [nm]
      refine wpAny_pure ⟨plainId_quiet F.plain_min_loop _, ih (j + 1) _ best ep (by omega) lt st1 kp1 (by simp only [argBest, hb, Bool.false_eq_true, if_false]; exact pb) ho1 fun y s2 py mv2 => ?_⟩
      exact fin y s2 py (Moved.trans W.gtrans (mv.mono up) mv2)
theorem min_first (W : WalksS pg wd Ar.in1 It fp wr Gg m Pv St) {h0 : Heap} {bt : Nat → Nat → Bool} (cm : CmpH pg wd Ar.in1 h0 Pv bt) (C : Addr) (hC : C ∉ fp) (hC0 : h0.get? C = none) (hw : ∀ b ∈ wr, h0.get? b = none) (hm : 0 < m) {s : Shared} {ep : Nat} (st : St 0 s) (kp : KeptIn h0 s)
    (ho : s.heap.get? C = some { cls := .type "list", dict := none, data := .seq #[] ep, slots := #[] }) (fin : ∀ x s', Pv (argBest bt (m - 1)) x → Moved (C :: wr) Gg s s' → Rs (.ok (.ret x)) s') :
    codeAny (model pg wd) Ar (.builtin "min.loop" ⟨[.ref It, .none, .ref C], []⟩) Rs s := by
  have c0 : C ∉ wr := fun z => hC (W.sub _ z)
  have up : ∀ b ∈ wr, b ∈ C :: wr := fun b z => List.mem_cons_of_mem _ z
  have nm : toString "min" ++ toString ".loop" = "min.loop" := by decide
  have ne : ∀ {b : Addr}, b ∉ C :: wr → C ≠ b := fun z e => z (e ▸ List.mem_cons_self)
  refine codeAny_builtin F.entry_min_loop ?_
  rw [Around.under_plainId F.plain_min_loop _]
  refine wpAny_bind (m := seqItems? (.ref C)) (wpAny_seqItems ho rfl ?_)
  refine wpAny_bind (m := tryCatch (pyNext (.ref It)) _) (wpAny_tryCatch (W.item 0 s _ _ hm st fun x s1 px st1 mv => ?_))
  have ho1 := mv.heap C _ c0 ho
  have kp1 := kp.moved hw mv
  refine wpAny_bind (m := updateSeq C fun _ => #[x, x]) (wpAny_updateSeq ho1 rfl ?_)
  rw [nm]
  have kp2 : KeptIn h0 { s1 with heap := s1.heap.update C (Obj.mapSeq fun _ => #[x, x]) } := fun b o e => (Heap.get?_update_other _ _ (fun z : C = b => by rw [← z, hC0] at e; cases e)).trans (kp1 b o e)
  refine wpAny_pure ⟨plainId_quiet F.plain_min_loop _, min_turns W cm C hC hC0 hw _ 0 _ x _ rfl hm (W.frame _ s1 _ s1.toks st1 (Nat.le_refl _) fun b hf o e => ?_) kp2 px (Heap.get?_update_self _ ho1 rfl) fun y s2 py mv2 => ?_⟩
  · exact (Heap.get?_update_other _ _ (fun z : C = b => hC (z ▸ hf))).trans e
  · exact fin y s2 py (Moved.trans W.gtrans ((mv.mono up).then_heap (Nat.le_refl _) fun b o hb e => (Heap.get?_update_other _ _ (ne hb)).trans e) mv2)
theorem call_minH {E : Value → Shared → Prop} {s : Shared} {x : Value} {Q : Value → Shared → Prop} (h0 : Heap)
    (h : wpAny (model pg wd) Ar.in1 (pyIter x) (fun it s2 => ∃ It fp wr Gg n Pv St bt, it = .ref It ∧ WalksS pg wd Ar.in1 It fp wr Gg n Pv St ∧ St 0 s2 ∧ (∀ b ∈ fp, b < s2.heap.objs.size) ∧ 0 < n ∧ CmpH pg wd Ar.in1 h0 Pv bt ∧
      KeptIn h0 s2 ∧ (∀ b ∈ wr, h0.get? b = none) ∧ h0.get? s2.heap.objs.size = none ∧ ∀ v s', Pv (argBest bt (n - 1)) v → Moved wr Gg s2 s' → Q v s') E s) :
    wpAny (model pg wd) Ar (call (.builtin "min") [x]) Q E s := by
  have nm : toString "min" ++ toString ".loop" = "min.loop" := by decide
  refine call_function_tree F.kind_min F.plain_min F.entry_min (F.args_min1 _) ?_
  refine wpAny_bind (m := Builtin.Builtins.bindParams "min" ["key", "default"] 0 ⟨[], []⟩) (wpAny_of_eq (show Builtin.Builtins.bindParams "min" ["key", "default"] 0 ⟨[], []⟩ = pure [none, none] from rfl) ?_)
  refine wpAny_bind (wpAny_pure ?_)
  refine wpAny_bind (wpAny_mono h (fun it s2 z => ?_) fun _ _ e => e)
  obtain ⟨It, fp, wr, Gg, n, Pv, St, bt, rfl, W, st, hf, hn, cm, kp, hw, hC0, fin⟩ := z
  refine wpAny_bind (wpAny_newObj_type ?_)
  have hC : s2.heap.objs.size ∉ fp := fun z => Nat.lt_irrefl _ (hf _ z)
  rw [nm]
  refine wpAny_pure ⟨plainId_quiet F.plain_min_loop _, min_first W cm s2.heap.objs.size hC hC0 hw hn (W.frame 0 s2 _ s2.toks st (Nat.le_refl _) fun b _ o e => Heap.get?_push_of_some _ e) (fun b o e => Heap.get?_push_of_some _ (kp b o e)) (Heap.get?_push_size _ rfl) fun v s1 pv mv => ?_⟩
  exact fin v s1 pv (Moved.drop_new (tk := s2.toks) mv (Nat.le_refl _))
/-- min of a list of tuples of ints -/
theorem min_tupsL {E : Value → Shared → Prop} {s : Shared} {l : Addr} {its : Array Value} {Q : Value → Shared → Prop} (nss : Nat → List Int) (hh : Ar.handled = none) (hl : s.heap.IsList l its) (hn : 0 < its.size) (hT : ∀ i v, its[i]? = some v → TS.TupInts s.heap v (nss i)) (hu : Ar.in1.units < cLine)
    (h : ∀ v h' tk, its[argBest (fun i j => HT.lexLt (nss i) (nss j)) (its.size - 1)]? = some v → (∀ b o, s.heap.get? b = some o → h'.get? b = some o) → Q v { s with heap := h', toks := tk }) :
    wpAny (model pg wd) Ar (call (.builtin "min") [.ref l]) Q E s := by
  have hlt : l < s.heap.objs.size := by obtain ⟨_, e, _⟩ := hl; exact Heap.lt_size e
  have no : ∀ n, s.heap.objs.size ≤ n → s.heap.get? n = none := fun n hn => by
    cases e : s.heap.get? n with
    | none => rfl
    | some o => exact absurd (Heap.lt_size e) (Nat.not_lt.mpr hn)
  refine call_minH s.heap (wpAny_pyIter_list hl ?_)
  refine ⟨_, _, _, _, _, _, _, (fun i j => HT.lexLt (nss i) (nss j)), rfl, (Walks.list (A := Ar.in1) hh s.heap.objs.size l (Nat.ne_of_lt hlt) its).toS, ⟨⟨_, Heap.get?_push_size _ rfl, rfl, rfl⟩, hl.push _⟩, fun b hb => ?_, hn, ?_, fun b o e => Heap.get?_push_of_some _ e, fun b hb => ?_, ?_, fun v s1 pv mv => ?_⟩
  · show b < (s.heap.push _).objs.size
    rw [Heap.size_push]
    rcases List.mem_cons.mp hb with rfl | hb
    · exact Nat.lt_succ_self _
    · rw [List.mem_singleton.mp hb]
      exact Nat.lt_succ_of_lt hlt
  · intro i j x y s1 Q1 E1 px py kp q
    obtain ⟨a, xs, rfl, ⟨o, ho, hc, hd⟩, ia⟩ := hT i x px
    obtain ⟨b, ys, rfl, ⟨o2, ho2, hc2, hd2⟩, ib⟩ := hT j y py
    exact HT.lt_tupInts ⟨o, kp _ _ ho, hc, hd⟩ ⟨o2, kp _ _ ho2, hc2, hd2⟩ ia ib hu q
  · rw [List.mem_singleton.mp hb]
    exact no _ (Nat.le_refl _)
  · show s.heap.get? (s.heap.push _).objs.size = none
    rw [Heap.size_push]
    exact no _ (Nat.le_succ _)
  · have e : s1 = { s with heap := s1.heap, toks := s1.toks } := by
      obtain ⟨hp, ge, dr, os, tk⟩ := s1
      have e1 := mv.gens
      have e2 := mv.drawn
      have e3 := mv.os
      simp only at e1 e2 e3
      subst e1 e2 e3
      rfl
    rw [e]
    exact h v _ _ pv fun b o z => mv.heap b o (fun hb => by rw [List.mem_singleton.mp hb, no _ (Nat.le_refl _)] at z; cases z) (Heap.get?_push_of_some _ z)
end
section
variable {X : Cx}
def rMinT (K : PySem.W.Frag) : List V → Hp → VK → Prop := fun vs H Q => ∃ (a : Addr) (xs : List V) (nss : Nat → List Int), vs = [V.ref a] ∧ SqL K H a xs ∧ 0 < xs.length ∧ (∀ i x, xs[i]? = some x → TupI K H x (nss i)) ∧
  ∀ x, xs[argBest (fun i j => HT.lexLt (nss i) (nss j)) (xs.length - 1)]? = some x → Q x H
theorem cr_minT (hc : X.calm = true) (hu : X.A.in1.units < cLine) : CallR X (.builtin "min") (rMinT X.K) := by
  intro pins s σ H vs us Q I r h
  obtain ⟨a, xs, nss, rfl, hs, hn, hT, q⟩ := h
  obtain ⟨its, rv, hl, _⟩ := I.list hs
  rw [Vals.ref1 r]
  have hlen := rv.length
  refine min_tupsL (its := its.toArray) nss (I.ok.hd hc) hl.isList (by simp; omega) (fun i v e => ?_) hu fun v h' tk e hk => ?_
  · have e : its[i]? = some v := by simpa using e
    cases z : xs[i]? with
    | none => rw [rv.none_of z] at e; cases e
    | some x =>
      obtain ⟨u, e2, rel⟩ := rv.get z
      rw [e] at e2
      cases e2
      obtain ⟨t, rfl, ht⟩ := hT i x z
      cases rel
      exact tupI_raw I ht
  · have e : its[argBest (fun i j => HT.lexLt (nss i) (nss j)) (xs.length - 1)]? = some v := by simpa [hlen] using e
    cases z : xs[argBest (fun i j => HT.lexLt (nss i) (nss j)) (xs.length - 1)]? with
    | none => rw [rv.none_of z] at e; cases e
    | some x =>
      obtain ⟨u, e2, rel⟩ := rv.get z
      rw [e] at e2
      cases e2
      exact ⟨x, H, I.kept hk, rel, q x z⟩
end
def vecsOf : List D → Option (List (List Int))
  | [] => some []
  | .tuple ds :: r => match intsOf ds, vecsOf r with
    | some v, some vs => some (v :: vs)
    | _, _ => none
  | _ :: _ => none
theorem vecsOf_eq : ∀ {ds : List D} {vs : List (List Int)}, vecsOf ds = some vs → ds = vs.map fun v => .tuple (v.map .int)
  | [], _, h => by cases h; rfl
  | d :: r, vs, h => by
    cases d with
    | tuple ds =>
      simp only [vecsOf] at h
      cases z : intsOf ds with
      | none => rw [z] at h; cases h
      | some v =>
        cases z2 : vecsOf r with
        | none => rw [z, z2] at h; cases h
        | some ws =>
          rw [z, z2] at h
          cases h
          rw [intsOf_eq z, vecsOf_eq z2] <;> rfl
    | _ => cases h
def bestOf (vs : List (List Int)) : Nat := argBest (fun i j => HT.lexLt (vs.getD i []) (vs.getD j [])) (vs.length - 1)
def minTD : List D → Option EV
  | [.list ds] => match vecsOf ds with
    | some vs => match vs[bestOf vs]? with
      | some v => some (.val (.tuple (v.map .int)))
      | none => none
    | none => none
  | _ => none
section
variable {K : PySem.W.Frag} {c : Ctx} {X : Cx}
theorem p_minT : PureT c X (rMinT X.K) minTD := by
  intro O as s σ H vs ds ev Q G ra he fin
  unfold minTD at he
  split at he
  · rename_i ds'
    cases z : vecsOf ds' with
    | none => rw [z] at he; cases he
    | some ws =>
      rw [z] at he
      simp only at he
      cases zb : ws[bestOf ws]? with
      | none => rw [zb] at he; cases he
      | some w =>
        rw [zb] at he
        cases he
        obtain ⟨v, rfl, a, xs, rfl, h1, h2⟩ := rta1 ra
        rw [vecsOf_eq z] at h2
        have hl : xs.length = ws.length := by rw [h2.length, List.length_map]
        refine ⟨a, xs, fun i => ws.getD i [], rfl, SqL.of h1, ?_, fun i x hx => ?_, fun x hx => ?_⟩
        · have := (List.getElem?_eq_some_iff.mp zb).1
          omega
        · obtain ⟨d, e1, e2⟩ := h2.getV hx
          rw [List.getElem?_map] at e1
          cases y : ws[i]? with
          | none => rw [y] at e1; cases e1
          | some u =>
            rw [y] at e1
            cases e1
            obtain ⟨t, ys, rfl, q1, q2⟩ := rt_tup (H := H) e2
            rw [q2.ints] at q1
            have eg : ws.getD i [] = u := by rw [List.getD_eq_getElem?_getD, y] <;> rfl
            exact ⟨t, rfl, by show SqT X.K H t ((ws.getD i []).map V.int); rw [eg]; exact hid_ext.sqT q1⟩
        · rw [hl] at hx
          obtain ⟨d, e1, e2⟩ := h2.getV hx
          have e0 : ws[bestOf ws]? = some w := zb
          rw [List.getElem?_map] at e1
          unfold bestOf at e0
          rw [e0] at e1
          cases e1
          exact fin.val G e2
  · cases he
theorem in1_lt {A : Around} (hu : A.units + 65 < cLine) : A.in1.units < cLine := by
  have e : A.in1.units ≤ A.units + 65 := by
    simp [Around.in1, Around.units]
    try omega
  omega
theorem ckMinT (hc : X.calm = true) (hu : X.A.units + 65 < cLine) (hK : X.K = K := by rfl) : CallR X (.builtin "min") (rMinT K) := by
  subst hK
  exact cr_minT hc (in1_lt hu)
theorem pkMinT (hK : X.K = K := by rfl) : PureT c X (rMinT K) minTD := by
  subst hK
  exact p_minT
end
/-! ### is True, is False -/
def isBD : D → D → Option EV
  | .bool a, .bool b => some (.val (.bool (decide (a = b))))
  | _, _ => none
def notBD : D → D → Option EV
  | .bool a, .bool b => some (.val (.bool (!decide (a = b))))
  | _, _ => none
section
variable {c : Ctx} {X : Cx}
theorem p_isB : Pure2 c X (fun x y H Q => ∃ a b, x = .bl a ∧ y = .bl b ∧ Q (.bl (decide (a = b))) H) isBD := by
  intro O as s σ H x y d e ev Q G r1 r2 he fin
  unfold isBD at he
  split at he
  · cases he
    cases rt_bool r1
    cases rt_bool r2
    exact ⟨_, _, rfl, rfl, fin.val G (.bl _)⟩
  · cases he
theorem p_notB : Pure2 c X (fun x y H Q => ∃ a b, x = .bl a ∧ y = .bl b ∧ Q (.bl (!decide (a = b))) H) notBD := by
  intro O as s σ H x y d e ev Q G r1 r2 he fin
  unfold notBD at he
  split at he
  · cases he
    cases rt_bool r1
    cases rt_bool r2
    exact ⟨_, _, rfl, rfl, fin.val G (.bl _)⟩
  · cases he
end
end DL
namespace DL
open PySem PySem.Spec PyProof.Rows L2
/-! ### list(range(a, b)) -/
def rRg2 : R2 := fun x y H Q => ∃ i j, x = .int i ∧ y = .int j ∧ RgOk i j ∧ ∀ q, H q = none → Q (.ref q) (upd H q (.lst (rgV i j)))
def rg2D : D → D → Option EV
  | .int i, .int j => if -(2 ^ 62) ≤ i ∧ i < 2 ^ 62 ∧ -(2 ^ 62) ≤ j ∧ j < 2 ^ 62 ∧ (j - i).toNat ≤ 1000000 then some (.fresh (((List.range (j - i).toNat).map fun k => i + ((k : Nat) : Int)).map .int)) else none
  | _, _ => none
section
variable {c : Ctx} {X : Cx} {W : WX}
theorem p_rg2 : Pure2 c X rRg2 rg2D := by
  intro O as s σ H x y d e ev Q G r1 r2 he fin
  unfold rg2D at he
  split at he
  · rename_i i j
    split at he
    · rename_i hb
      cases he
      cases rt_int r1
      cases rt_int r2
      refine ⟨i, j, rfl, rfl, ⟨hb.1, hb.2.1, hb.2.2.1, hb.2.2.2.1, by omega⟩, fun p hp => ?_⟩
      have hr : RepA X.K (Hid O as s.st H) (rgV i j) (((List.range (j - i).toNat).map fun k => i + ((k : Nat) : Int)).map .int) := by
        have e : rgV i j = ((List.range (j - i).toNat).map fun k => i + ((k : Nat) : Int)).map V.int := by
          unfold rgV
          rw [List.map_map]
          rfl
        rw [e]
        exact RepA.ofInts _
      exact fin _ _ (lst_new G hp hr) (same_upd hp) (fun a e => by cases e; exact .of hp)
    · cases he
  · cases he
theorem de_listRg2 {p p2 pos pos2 : Pos} {a b : Expr} {ta tb : TE} {f g : S → Option (R EV)} (hc : X.calm = true) (hg : Gl X "list") (hm : X.mg "list" = none) (hg2 : Gl X "range") (hm2 : X.mg "range" = none) (ha : DE c X W a ta f) (hb : DE c X W b tb g)
    (na : starEach [a, b] X.env = (false, eval a X.env) :: starEach [b] X.env := by rfl) (nb : starEach [b] X.env = (false, eval b X.env) :: starEach [] X.env := by rfl) (hp : (backTo pos2 (starEach [b] X.env)).any (·.1) = false := by rfl)
    (ne : starEach [.Call (.Name "range" p2) [a, b] [] pos2] X.env = (false, eval (.Call (.Name "range" p2) [a, b] [] pos2) X.env) :: starEach [] X.env := by rfl) :
    DE c X W (.Call (.Name "list" p) [.Call (.Name "range" p2) [a, b] [] pos2] [] pos) (tOp rRg2 ta tb) (op2 rg2D f g) :=
  ⟨pe_listRg (te := tRg2 ta tb) hc hg hm (prg_2 hg2 hm2 ha.pe hb.pe na nb hp) ne, tOp_ok p_rg2 ha.ok hb.ok⟩
/-! ### a def as a value, and its call by a local name -/
theorem de_fnv {x : Str} {a : Addr} {pos : Pos} (hm : X.mg x = some (.ref a)) (hg : Gl X x) (hd : (x == ("__debug__" : Str)) = false := by decide) : DE c X W (.Name x pos) (tC (.ref a)) (kst (fnD a)) :=
  de_glob hg hm rfl (fun _ => .fn a) hd
def callX (i : Nat) (tbl : List (Addr × FnD)) (n : Nat) (fa : S → Option (R (List SV))) : S → Option (R EV) := fun s => match s.env[i]? with
  | some (.val (.dict [(.none, .int b)])) => (match tbl.find? (fun p => decide (((p.1 : Nat) : Int) = b)) with
    | some p => callF n p.2 fa s
    | none => none)
  | _ => none
structure HeldF (c : Ctx) (X : Cx) (k n : Nat) (f : Addr) (F : FnD) : Prop where
  ex : ∃ k' fd ps, k' ≤ k ∧ FnOk X.prog X.w X.K X.mg X.base (L2.CX X.prog X.w) k' f fd ps (spF X.K c n F) ∧ PySem.W.keepIn X.K (.ref f) = true ∧ Binds X.K fd ps []
theorem held_nil {c : Ctx} {X : Cx} {k n : Nat} : ∀ q ∈ ([] : List (Addr × FnD)), HeldF c X k n q.1 q.2 := fun _ h => nomatch h
theorem held_cons {c : Ctx} {X : Cx} {K : PySem.W.Frag} {k k' n : Nat} {f : Addr} {F : FnD} {fd : FuncData} {ps : List Str} {tbl : List (Addr × FnD)} (Fk : FnOk X.prog X.w X.K X.mg X.base (L2.CX X.prog X.w) k' f fd ps (spF K c n F)) (hk : PySem.W.keepIn X.K (.ref f) = true) (hb : Binds X.K fd ps []) (r : ∀ q ∈ tbl, HeldF c X k n q.1 q.2) (hl : k' ≤ k := by decide) (hK : X.K = K := by rfl) :
    ∀ q ∈ (f, F) :: tbl, HeldF c X k n q.1 q.2 := by
  subst hK
  intro q hq
  rcases List.mem_cons.mp hq with z | z
  · rw [z]; exact ⟨⟨k', fd, ps, hl, Fk, hk, hb⟩⟩
  · exact r q z
def tCallX (K : PySem.W.Frag) (c : Ctx) (i n : Nat) (tbl : List (Addr × FnD)) (E : L2.St → XK) (t : TA) : TE := fun σ H Q => ∃ p, p ∈ tbl ∧ σ[i]? = some (some (.ref p.1)) ∧ t σ H fun vs H1 => spF K c n p.2 vs H1 Q (E σ)
theorem rep_fn {K : PySem.W.Frag} {H : Hp} {v : V} {b : Int} (h : Rep K H v (.dict [(.none, .int b)])) : ∃ a : Addr, v = .ref a ∧ ((a : Nat) : Int) = b := by
  generalize e : (PyData.dict [(PyData.none, PyData.int b)]) = d at h
  cases h with
  | fn a =>
    unfold fnD at e
    cases e
    exact ⟨a, rfl, rfl⟩
  | _ => cases e
theorem de_callX {K : PySem.W.Frag} {i n k : Nat} {tbl : List (Addr × FnD)} {x : Str} {p pos : Pos} {e : Expr} {es : List Expr} {t : TA} {fa : S → Option (R (List SV))} (A : ∀ q ∈ tbl, HeldF c X k n q.1 q.2) (hr : Room k X.A) (hN : X.N[i]? = some x) (hv : Vis X.env.scope x) (tk : Takes X W) (ha : DA c X W (e :: es) t fa)
    (hdb : (x == ("__debug__" : Str)) = false := by decide) (hcd : (x == ("__classdict__" : Str)) = false := by decide)
    (he : starEach (e :: es) X.env = (false, eval e X.env) :: starEach es X.env := by rfl) (hpl : (backTo pos (starEach es X.env)).any (·.1) = false := by rfl) (hK : X.K = K := by rfl) :
    DE c X W (.Call (.Name x p) (e :: es) [] pos) (tCallX K c i n tbl (WE W) t) (callX i tbl n fa) := by
  subst hK
  refine ⟨⟨fun pins s σ H Q I h => ?_⟩, fun O as s σ H Q G q => ?_⟩
  · obtain ⟨q, hq, hs, ht⟩ := h
    obtain ⟨k', fd, ps, hl, F, hk, hb⟩ := (A q hq).ex
    refine wpAny_Call_Name_kw (thn ((pe_var (pos := p) hN hv hdb hcd).run pins s σ H (fun v H1 => v = .ref q.1 ∧ H1 = H) I ⟨.ref q.1, hs, rfl, rfl⟩) fun u s1 ⟨v, H1, I1, r1, q1⟩ => ?_)
    obtain ⟨rfl, rfl⟩ := q1
    cases r1
    refine PySem.W.callWith_K (h₀ := X.base) I.ok.mod.kin hk (thn (ha.pa.run pos pins s1 σ _ _ I1 ht) fun us s2 ⟨vs, H2, I2, r, q⟩ => ⟨I2.kIn, ?_⟩) he hpl
    exact run_fnS (E := WE W) F (hr.mono hl) hb (passAt tk σ) I2 r q
  · unfold callX at q
    cases e0 : s.env[i]? with
    | none => rw [e0] at q; exact q.elim
    | some sv =>
      rw [e0] at q
      split at q
      · rename_i b eb
        cases eb
        cases ef : tbl.find? (fun p => decide (((p.1 : Nat) : Int) = b)) with
        | none => rw [ef] at q; exact q.elim
        | some pf =>
          rw [ef] at q
          have hm := List.mem_of_find?_eq_some ef
          have hd := List.find?_some ef
          have hd : ((pf.1 : Nat) : Int) = b := by simpa using hd
          obtain ⟨v, h1, h2⟩ := G.slots i _ e0
          obtain ⟨a, rfl, h3⟩ := rep_fn h2
          have : a = pf.1 := Int.ofNat.inj (h3.trans hd.symm)
          subst this
          exact ⟨pf, hm, join_some h1, call_ok ha.ok O as s σ H Q G q⟩
      · exact q.elim
end
/-! ### a, b, c = x, y, z -/
def par3S (i j l : Nat) (f g h : S → Option (R EV)) : S → Option RS := bS (fz f) fun e1 => bS (fz g) fun e2 => bS (fz h) fun e3 s => some (.next (storeF l e3 (storeF j e2 (storeF i e1 s))))
section
variable {K : PySem.W.Frag} {c : Ctx} {X : Cx} {W : WX} {O as : List Addr} {s : S} {σ : L2.St} {H : Hp}
theorem storeF_st (i : Nat) (e : EV) (s : S) : (storeF i e s).st = s.st := by cases e <;> rfl
theorem store_good {i : Nat} {e : EV} {v : V} (G : Good K c O as s σ H) (o : EvOk K O as s.st H e.frz v) : Good K c O as (storeF i e s) (σ.set i (some v)) H := by
  cases e with
  | val d => exact G.set ⟨v, rfl, o⟩
  | fresh ds => exact G.set (sv := .val (.list ds)) ⟨v, rfl, o⟩
  | cell n =>
    obtain ⟨a, z1, z2⟩ := o
    subst z2
    exact G.set (sv := .cell n) ⟨a, z1, rfl⟩
theorem par3_ok {i j l : Nat} {t1 t2 t3 : TE} {f1 f2 f3 : S → Option (R EV)} (h1 : IE K c W t1 f1) (h2 : IE K c W t2 f2) (h3 : IE K c W t3 f3) : IS K c W (tPar3 i j l (tCons t1 (tCons t2 (tCons t3 tNil)))) (par3S i j l f1 f2 f3) := by
  intro O as s σ H B G q
  have q : PostS K c O as s.st H W B (bS (fz f1) (fun e1 => bS (fz f2) fun e2 => bS (fz f3) fun e3 s => some (.next (storeF l e3 (storeF j e2 (storeF i e1 s))))) s) := q
  refine h1 O as s σ H _ G (PostE.fz (PostS.bind q fun e1 s1 v1 H1 as1 eg1 x1 fr1 q1 => ?_))
  have q1 := PostS.after x1 q1
  refine h2 O as1 s1 σ H1 _ eg1.good (PostE.fz (PostS.bind q1 fun e2 s2 v2 H2 as2 eg2 x2 fr2 q2 => ?_))
  have q2 := PostS.after x2 q2
  refine h3 O as2 s2 σ H2 _ eg2.good (PostE.fz (PostS.bind q2 fun e3 s3 v3 H3 as3 eg3 x3 fr3 q3 => ?_))
  refine ⟨v1, v2, v3, rfl, ?_⟩
  have o1 := (eg1.ok.step x2).step x3
  have o2 := eg2.ok.step x3
  have o3 := eg3.ok
  have g1 := store_good (i := i) eg3.good o1
  have g2 := store_good (i := j) g1 (by rw [storeF_st]; exact o2)
  have g3 := store_good (i := l) g2 (by rw [storeF_st, storeF_st]; exact o3)
  exact q3 _ H3 as3 g3 (by rw [storeF_st, storeF_st, storeF_st]; exact x3)
theorem ds_par3 {i j l : Nat} {x y z : Str} {a b d : Expr} {t1 t2 t3 : TE} {f1 f2 f3 : S → Option (R EV)} {px py pz pt pos : Pos} {kt k2 : Nat} {pt2 : Pos} (hc : X.calm = true) (hN : X.N.Nodup) (hi : X.N[i]? = some x) (hj : X.N[j]? = some y) (hl : X.N[l]? = some z) (hij : i ≠ j) (hil : i ≠ l) (hjl : j ≠ l)
    (hx : X.env.scope.names.lookup x = some .local) (hy : X.env.scope.names.lookup y = some .local) (hz : X.env.scope.names.lookup z = some .local) (h1 : DE c X W a t1 f1) (h2 : DE c X W b t2 f2) (h3 : DE c X W d t3 f3)
    (hw : swappedStores [.Tuple [.Name x px, .Name y py, .Name z pz] kt pt] (.Tuple [a, b, d] k2 pt2) X.env = pure (some [x, y, z]))
    (hs : swapsWithSole [.Tuple [.Name x px, .Name y py, .Name z pz] kt pt] (.Tuple [a, b, d] k2 pt2) pos.line X.env = pure false := by rfl)
    (e1 : starEach [a, b, d] X.env = (false, eval a X.env) :: starEach [b, d] X.env := by rfl) (e2 : starEach [b, d] X.env = (false, eval b X.env) :: starEach [d] X.env := by rfl) (e3 : starEach [d] X.env = (false, eval d X.env) :: starEach [] X.env := by rfl) :
    DS c X W (.Assign [.Tuple [.Name x px, .Name y py, .Name z pz] kt pt] (.Tuple [a, b, d] k2 pt2) pos) (tPar3 i j l (tCons t1 (tCons t2 (tCons t3 tNil)))) (par3S i j l f1 f2 f3) :=
  ⟨ps_par3 hc hN hi hj hl hij hil hjl hx hy hz (pa_cons h1.pe (pa_cons h2.pe (pa_cons h3.pe pa_nil e3) e2) e1) hw hs, par3_ok h1.ok h2.ok h3.ok⟩
end
/-- two defs of two names stand apart -/
theorem ne_fn {K : PySem.W.Frag} {a b : Addr} {n1 n2 q1 q2 : Str} {ar1 ar2 : Arguments} {bd1 bd2 : List Stmt} {sc1 sc2 : Scope} {oc1 oc2 dV1 dV2 kV1 kV2 dc1 dc2 pm1 pm2 cd1 cd2 ct1 ct2 : Value} {od1 od2 an1 an2 : Option Addr} {sl1 sl2 : Array (Option Value)}
    (l1 : K.lookup a = some ⟨oc1, od1, .func (PySem.W.fnOf n1 q1 ar1 bd1 sc1 dV1 kV1 dc1 pm1 an1 cd1 ct1), sl1⟩) (l2 : K.lookup b = some ⟨oc2, od2, .func (PySem.W.fnOf n2 q2 ar2 bd2 sc2 dV2 kV2 dc2 pm2 an2 cd2 ct2), sl2⟩) (hn : n1 ≠ n2) : a ≠ b := by
  intro e
  rw [e, l2] at l1
  have h := congrArg Obj.data (Option.some.inj l1)
  simp only at h
  have h2 : PySem.W.fnOf n2 q2 ar2 bd2 sc2 dV2 kV2 dc2 pm2 an2 cd2 ct2 = PySem.W.fnOf n1 q1 ar1 bd1 sc1 dV1 kV1 dc1 pm1 an1 cd1 ct1 := by injection h
  have h3 := congrArg FuncData.name h2
  exact hn h3.symm
/-! ### a fresh list handed on gets a cell -/
def aCell (f : S → Option (R EV)) (g : S → Option (R (List SV))) : S → Option (R (List SV)) := fun s => match f s with
  | some (.ok (.fresh ds) s1) => bE g (fun es s => some (.ok (.cell s1.st.length :: es) s)) ⟨s1.env, s1.st ++ [.lst ds]⟩
  | some (.err x s1) => some (.err x s1)
  | _ => none
section
variable {c : Ctx} {X : Cx} {W : WX}
theorem da_cell {e : Expr} {es : List Expr} {te : TE} {tr : TA} {f : S → Option (R EV)} {g : S → Option (R (List SV))} (he : DE c X W e te f) (hr : DA c X W es tr g) (hs : starEach (e :: es) X.env = (false, eval e X.env) :: starEach es X.env := by rfl) : DA c X W (e :: es) (tCons te tr) (aCell f g) := by
  refine ⟨pa_cons he.pe hr.pa hs, fun O as s σ H Q G q => ?_⟩
  refine he.ok O as s σ H _ G ?_
  unfold aCell at q
  cases e1 : f s with
  | none => rw [e1] at q; exact q.elim
  | some r =>
    rw [e1] at q
    cases r with
    | err x s1 => exact q
    | ok ev s1 =>
      cases ev with
      | val d => exact q.elim
      | cell n => exact q.elim
      | fresh ds =>
        intro v H1 as1 eg x1 fr1
        obtain ⟨a, vs, rfl, h1, h2, G1, r⟩ := eg
        have G2 := G1.alloc h1 r h2
        have y : Stp as s.st H (as1 ++ [a]) (s1.st ++ [MO.lst ds]) H1 := by
          obtain ⟨more, e, hm⟩ := x1.pre
          refine ⟨⟨more ++ [a], by rw [e, List.append_assoc], fun b hb => ?_⟩, x1.len, fun n hd => ?_, x1.keep, x1.dom⟩
          · rcases List.mem_append.mp hb with z | z
            · exact hm b z
            · have : b = a := by simpa using z
              rw [this]
              exact fr1 a rfl
          · have := x1.dead n hd
            rw [List.getElem?_append_left (List.getElem?_eq_some_iff.mp this).1]
            exact this
        have hc : (as1 ++ [a])[s1.st.length]? = some a := by rw [← G1.lenC]; simp
        refine hr.ok O (as1 ++ [a]) ⟨s1.env, s1.st ++ [MO.lst ds]⟩ σ H1 _ G2 ?_
        unfold bE at q
        simp only at q
        cases e2 : g ⟨s1.env, s1.st ++ [MO.lst ds]⟩ with
        | none => rw [e2] at q; exact q.elim
        | some r2 =>
          rw [e2] at q
          cases r2 with
          | err x s2 => exact fun d H2 as2 G2' x2 er => q d H2 as2 G2' (y.trans x2) er
          | ok evs s2 => exact fun vs H2 as2 G2' pr x2 => q (.ref a :: vs) H2 as2 G2' (.cons ⟨a, (by
              obtain ⟨m, e, _⟩ := x2.pre
              rw [e, List.getElem?_append_left (List.getElem?_eq_some_iff.mp hc).1]
              exact hc), rfl⟩ pr) (y.trans x2)
end
end DL
/-! DLS: sets of nested tuples of ints. What one such tuple tells: hash, equality. -/
namespace DLS
open PySem PySem.Spec PyProof.Rows L2 DL

/-- nested tuples of ints, at most n deep -/
def nst : Nat → D → Bool
  | _, .int _ => true
  | n + 1, .tuple ds => ds.all (nst n)
  | _, _ => false
mutual
def hsh : D → Int
  | .int i => hashInt i
  | .tuple ds => reduceHash (Builtin.Tuple.tupleHashOf (hshs ds))
  | _ => 0
def hshs : List D → List Int
  | [] => []
  | d :: ds => hsh d :: hshs ds
end
theorem nst_int {n : Nat} {i : Int} : nst n (.int i) = true := by cases n <;> rfl
theorem nst_tup {n : Nat} {ds : List D} : nst (n + 1) (.tuple ds) = ds.all (nst n) := rfl
theorem hshs_append : ∀ (xs ys : List D), hshs (xs ++ ys) = hshs xs ++ hshs ys
  | [], _ => rfl
  | x :: xs, ys => by simp [hshs, hshs_append xs ys]
theorem nst_lay : ∀ (n : Nat) (d : D), nst n d = true → d.canLay0 = true ∧ d.depth ≤ n
  | n, .int i, _ => by simp [PyData.canLay0, PyData.depth]
  | n + 1, .tuple ds, h => by
    rw [nst_tup, List.all_eq_true] at h
    have key : ∀ l : List D, (∀ d ∈ l, nst n d = true) → PyData.canLayAll0 l = true ∧ PyData.depthAll l ≤ n := by
      intro l
      induction l with
      | nil => intro _; simp [PyData.canLayAll0, PyData.depthAll]
      | cons d l ih =>
        intro hl
        obtain ⟨a1, a2⟩ := nst_lay n d (hl d List.mem_cons_self)
        obtain ⟨b1, b2⟩ := ih fun x hx => hl x (List.mem_cons_of_mem _ hx)
        simp only [PyData.canLayAll0, PyData.depthAll, a1, b1, Bool.and_self, true_and]
        omega
    obtain ⟨k1, k2⟩ := key ds h
    simp only [PyData.canLay0, PyData.depth, k1, true_and]
    omega
  | 0, .tuple _, h => by cases h
  | n, .none, h => by cases n <;> cases h
  | n, .bool _, h => by cases n <;> cases h
  | n, .str _, h => by cases n <;> cases h
  | n, .list _, h => by cases n <;> cases h
  | n, .dict _, h => by cases n <;> cases h
theorem nst_eqv : ∀ (n : Nat) (d e : D), nst n d = true → nst n e = true → (PyData.eqv d e = true ↔ d = e)
  | n, .int i, .int j, _, _ => by
    simp [PyData.eqv]
  | 0, .int i, .tuple ds, _, h => by cases h
  | 0, .tuple ds, _, h, _ => by cases h
  | n + 1, .int i, .tuple ds, _, _ => by simp [PyData.eqv]
  | n + 1, .tuple ds, .int i, _, _ => by simp [PyData.eqv]
  | n + 1, .tuple ds, .tuple es, hd, he => by
    rw [nst_tup, List.all_eq_true] at hd he
    have key : ∀ (xs ys : List D), (∀ x ∈ xs, nst n x = true) → (∀ y ∈ ys, nst n y = true) → (PyData.eqvAll xs ys = true ↔ xs = ys) := by
      intro xs
      induction xs with
      | nil => intro ys _ _; cases ys <;> simp [PyData.eqvAll]
      | cons x xs ih =>
        intro ys hx hy
        cases ys with
        | nil => simp [PyData.eqvAll]
        | cons y ys =>
          have a := nst_eqv n x y (hx x List.mem_cons_self) (hy y List.mem_cons_self)
          have b := ih ys (fun z hz => hx z (List.mem_cons_of_mem _ hz)) (fun z hz => hy z (List.mem_cons_of_mem _ hz))
          simp only [PyData.eqvAll, Bool.and_eq_true, a, b, List.cons.injEq]
    have k := key ds es hd he
    simp only [PyData.eqv, PyData.tuple.injEq]
    exact k
  | n, .none, _, h, _ => by cases n <;> cases h
  | n, .bool _, _, h, _ => by cases n <;> cases h
  | n, .str _, _, h, _ => by cases n <;> cases h
  | n, .list _, _, h, _ => by cases n <;> cases h
  | n, .dict _, _, h, _ => by cases n <;> cases h
  | n, .int _, .none, _, h => by cases n <;> cases h
  | n, .int _, .bool _, _, h => by cases n <;> cases h
  | n, .int _, .str _, _, h => by cases n <;> cases h
  | n, .int _, .list _, _, h => by cases n <;> cases h
  | n, .int _, .dict _, _, h => by cases n <;> cases h
  | n, .tuple _, .none, _, h => by cases n <;> cases h
  | n, .tuple _, .bool _, _, h => by cases n <;> cases h
  | n, .tuple _, .str _, _, h => by cases n <;> cases h
  | n, .tuple _, .list _, _, h => by cases n <;> cases h
  | n, .tuple _, .dict _, _, h => by cases n <;> cases h

/-! ### such a tuple on the heap -/
mutual
inductive At (h : Heap) : Value → D → Prop
  | int (i : Int) (t : Tok) : At h (.int i t) (.int i)
  | tup {a : Addr} {o : Obj} {its : Array Value} {n : Nat} {ds : List D} : h.get? a = some o → o.cls = .type "tuple" → o.data = .seq its n → Ats h its.toList ds → At h (.ref a) (.tuple ds)
inductive Ats (h : Heap) : List Value → List D → Prop
  | nil : Ats h [] []
  | cons {v : Value} {vs : List Value} {d : D} {ds : List D} : At h v d → Ats h vs ds → Ats h (v :: vs) (d :: ds)
end
mutual
theorem At.keep {h h' : Heap} (k : ∀ b o, h.get? b = some o → o.cls = .type "tuple" → h'.get? b = some o) : ∀ {d : D} {v : Value}, At h v d → At h' v d
  | .int _, _, .int i t => .int i t
  | .tuple ds, _, .tup h1 h2 h3 h4 => .tup (k _ _ h1 h2) h2 h3 (Ats.keep k h4)
theorem Ats.keep {h h' : Heap} (k : ∀ b o, h.get? b = some o → o.cls = .type "tuple" → h'.get? b = some o) : ∀ {ds : List D} {vs : List Value}, Ats h vs ds → Ats h' vs ds
  | [], _, .nil => .nil
  | d :: ds, _, .cons a b => .cons (At.keep k a) (Ats.keep k b)
end
mutual
theorem At.reads {h : Heap} : ∀ {d : D} {v : Value}, At h v d → ∃ as, Reads h v d as
  | .int _, _, .int i t => ⟨[], .int i t⟩
  | .tuple ds, _, .tup h1 h2 h3 h4 => let ⟨as, r⟩ := Ats.reads h4; ⟨as, .tuple h1 h2 h3 r⟩
theorem Ats.reads {h : Heap} : ∀ {ds : List D} {vs : List Value}, Ats h vs ds → ∃ as, ReadsAll h vs ds as
  | [], _, .nil => ⟨[], .nil⟩
  | d :: ds, _, .cons a b => let ⟨_, r⟩ := At.reads a; let ⟨_, q⟩ := Ats.reads b; ⟨_, .cons r q⟩
end
section
variable {P : Program} {w : World}
theorem at_eq {A : Around} {E : Value → Shared → Prop} {s : Shared} {n : Nat} {d e : D} {u v : Value} {Q : Bool → Shared → Prop} (hu : At s.heap u d) (hv : At s.heap v e) (hd : nst n d = true) (he : nst n e = true) (hn : n ≤ 64) (hA : A.units + 64 < cLine)
    (q : ∀ b : Bool, (b = true ↔ d = e) → Q b s) : wpAny (model P w) A (eqBool u v) Q E s := by
  obtain ⟨as, r1⟩ := hu.reads
  obtain ⟨bs, r2⟩ := hv.reads
  have l1 := nst_lay n d hd
  have l2 := nst_lay n e he
  exact PySem.SeqAt.eqAt_reads d e A s u v as bs r1 r2 l1.1 l2.1 (by omega) P w E Q (q _ (nst_eqv n d e hd he))
theorem at_hash : ∀ (n : Nat) {A : Around} {E : Value → Shared → Prop} {s : Shared} {d : D} {v : Value} {Q : Int → Shared → Prop}, At s.heap v d → nst n d = true → A.units + n < cLine →
    (∀ t, s.toks ≤ t → Q (hsh d) { s with toks := t }) → wpAny (model P w) A (pyHash v) Q E s := by
  intro n
  induction n with
  | zero =>
    intro A E s d v Q hv hd hA q
    cases hv with
    | int i t => exact (intKind P w).pyHash (intKind_is P w i t) (q _ (Nat.le_succ _))
    | tup => cases hd
  | succ n ih =>
    intro A E s d v Q hv hd hA q
    cases hv with
    | int i t => exact (intKind P w).pyHash (intKind_is P w i t) (q _ (Nat.le_succ _))
    | @tup a o its m ds ho hc hdat hits =>
      rw [nst_tup, List.all_eq_true] at hd
      have hT : s.TypeIs (.ref a) "tuple" := ⟨o, ho, hc⟩
      unfold pyHash
      first | unfold pyHashByItsType | skip
      first | refine wpAny_bind (wpAny_cRoomFor_or (.inr (by omega)) ?_) | skip
      refine wpAny_bind (wpAny_specialOf hT F.slot_tuple_hash.lookup ?_)
      have nn : (some (Value.builtin "tuple.__hash__") == some Value.none) = false := beq_builtin_none _
      rw [nn]
      refine wp_if_neg (by decide) ?_
      refine wpAny_bind (wpAny_specialOf hT F.slot_tuple_hash.lookup ?_)
      refine wpAny_bind (wpAny_callSpecialIfBoundUnlessNone?_slot hT F.slot_tuple_hash (wpAny_call_entry F.slot_tuple_hash hT F.entry_tuple_hash ?_ (F.args_tuple_hash_1 _)))
      show wpAny _ _ (Builtin.Tuple.tupleItemsOf (.ref a) >>= _) _ E s
      refine wpAny_bind (wpAny_tupleItemsOf ho hdat ?_)
      refine wpAny_bind ?_
      rw [← Array.forIn_toList]
      refine wpAny_forIn_list _ (fun left (got : Array Int) s' => ∃ (fst snd : List D) (t : Nat), ds = fst ++ snd ∧ Ats s.heap left snd ∧ got.toList = hshs fst ∧ s.toks ≤ t ∧ s' = { s with toks := t }) _ ?_ ?_ _ _ ⟨[], ds, s.toks, rfl, hits, rfl, Nat.le_refl _, rfl⟩
      · rintro x left got s' ⟨fst, snd, t, e, hl, hg, ht, rfl⟩
        cases hl with
        | @cons _ _ d snd' h1 h2 =>
          refine wpAny_bind (ih h1 (hd d (by rw [e]; simp)) (by show A.units + 1 + n < cLine; omega) fun t2 ht2 => ?_)
          refine wpAny_pure ⟨fst ++ [d], snd', t2, by simp [e], h2, by simp [hg, hshs_append, hshs], Nat.le_trans ht ht2, rfl⟩
      · rintro got s' ⟨fst, snd, t, e, hl, hg, ht, rfl⟩
        cases hl
        rw [List.append_nil] at e
        subst e
        show wpAny _ _ (retInt (Builtin.Tuple.tupleHashOf got.toList)) _ _ _
        rw [hg]
        refine wpAny_ret_mkInt ?_
        have q2 := q
        simp only [hsh, reduceHash] at q2
        show wpAny _ _ (if (decide (-(2 : Int) ^ 63 ≤ Builtin.Tuple.tupleHashOf (hshs ds)) && decide (Builtin.Tuple.tupleHashOf (hshs ds) < 2 ^ 63)) = true then _ else _) Q E _
        by_cases z : (decide (-(2 : Int) ^ 63 ≤ Builtin.Tuple.tupleHashOf (hshs ds)) && decide (Builtin.Tuple.tupleHashOf (hshs ds) < 2 ^ 63)) = true
        · simp only [z, if_true] at q2 ⊢
          exact wpAny_pure (q2 _ (by first | exact ht | exact Nat.le_succ_of_le ht | omega))
        · simp only [z, if_false] at q2 ⊢
          exact wpAny_bind (wpAny_rule (wpAny_pure (q2 _ (by first | exact ht | exact Nat.le_succ_of_le ht | omega))))
theorem all_items {h : Heap} {n : Nat} : ∀ {vs : List Value} {ds : List D}, Ats h vs ds → (∀ d ∈ ds, nst n d = true) → ∀ v ∈ vs, ∃ d, At h v d ∧ nst n d = true
  | _, _, .nil, _, v, hv => (by cases hv)
  | _, _, .cons a b, hd, v, hv => by
    rcases List.mem_cons.mp hv with e | e
    · rw [e]
      exact ⟨_, a, hd _ List.mem_cons_self⟩
    · exact all_items b (fun d hm => hd d (List.mem_cons_of_mem _ hm)) v e
section
variable {E : Value → Shared → Prop} {s : Shared}
theorem at_quiet : ∀ (n f : Nat), n ≤ f → ∀ {A : Around} {d : D} {v : Value} {Q : Bool → Shared → Prop}, At s.heap v d → nst n d = true → Q true s → wpAny (model P w) A (eqIsQuiet f v) Q E s := by
  intro n
  induction n with
  | zero =>
    intro f _ A d v Q hv hd q
    cases hv with
    | int i t => rw [eqIsQuiet_byValue _ rfl]; exact wpAny_pure q
    | tup => cases hd
  | succ n ih =>
    intro f hf A d v Q hv hd q
    cases hv with
    | int i t => rw [eqIsQuiet_byValue _ rfl]; exact wpAny_pure q
    | @tup a o its m ds ho hc hdat hits =>
      rw [nst_tup, List.all_eq_true] at hd
      obtain ⟨g, rfl⟩ : ∃ g, f = g + 1 := ⟨f - 1, by omega⟩
      have hT : s.TypeIs (.ref a) "tuple" := ⟨o, ho, hc⟩
      unfold eqIsQuiet
      refine wpAny_bind (wpAny_specialOf hT F.slot_tuple_eq.lookup ?_)
      show wpAny _ _ (isInstance (.ref a) (.type "tuple") >>= _) _ E s
      refine wpAny_bind (wpAny_isInstance hT isSubtype_tuple_tuple ?_)
      refine wp_if_neg (by decide) ?_
      refine wpAny_bind (wpAny_seqItems ho hdat (wpAny_bind ?_))
      show wpAny _ _ (forIn its _ _) _ E s
      rw [← Array.forIn_toList]
      refine wpAny_forIn_list _ (fun left r s' => (r.1 = none ∧ s' = s) ∧ ∀ v ∈ left, ∃ d, At s.heap v d ∧ nst n d = true) _ ?_ ?_ _ _ ⟨⟨rfl, rfl⟩, all_items hits hd⟩
      · rintro v left r s' ⟨⟨hr, rfl⟩, hl⟩
        obtain ⟨d, z1, z2⟩ := hl v List.mem_cons_self
        refine wpAny_bind (ih g (by omega) z1 z2 (wp_if_neg (by decide) ?_))
        exact wpAny_pure ⟨⟨rfl, rfl⟩, fun u hu => hl u (List.mem_cons_of_mem _ hu)⟩
      · rintro ⟨r1, r2⟩ s' ⟨⟨hr, rfl⟩, _⟩
        cases hr
        exact wpAny_pure q
theorem at_class : ∀ (n f : Nat), n ≤ f → ∀ {A : Around} {d : D} {v : Value} {Q : Bool → Shared → Prop}, At s.heap v d → nst n d = true → Q false s → wpAny (model P w) A (ofAClassStatement f v) Q E s := by
  intro n
  induction n with
  | zero =>
    intro f _ A d v Q hv hd q
    cases hv with
    | int i t => rw [ofAClass_int]; exact wpAny_pure q
    | tup => cases hd
  | succ n ih =>
    intro f hf A d v Q hv hd q
    cases hv with
    | int i t => rw [ofAClass_int]; exact wpAny_pure q
    | @tup a o its m ds ho hc hdat hits =>
      rw [nst_tup, List.all_eq_true] at hd
      obtain ⟨g, rfl⟩ : ∃ g, f = g + 1 := ⟨f - 1, by omega⟩
      have hT : s.TypeIs (.ref a) "tuple" := ⟨o, ho, hc⟩
      unfold ofAClassStatement
      refine wpAny_bind (wpAny_typeOf hT ?_)
      have tt : (("tuple" : String) == "tuple") = true := by decide
      simp only [tt, if_true, Bool.not_true, Bool.false_eq_true, if_false]
      try refine wpAny_bind (wpAny_pure ?_)
      try simp only [Bool.not_true, Bool.false_eq_true, if_false]
      show wpAny _ _ (seqItems? (.ref a) >>= _) _ E s
      refine wpAny_bind (wpAny_seqItems ho hdat (wpAny_bind ?_))
      show wpAny _ _ (forIn its _ _) _ E s
      rw [← Array.forIn_toList]
      refine wpAny_forIn_list _ (fun left r s' => (r.1 = none ∧ s' = s) ∧ ∀ v ∈ left, ∃ d, At s.heap v d ∧ nst n d = true) _ ?_ ?_ _ _ ⟨⟨rfl, rfl⟩, all_items hits hd⟩
      · rintro v left r s' ⟨⟨hr, rfl⟩, hl⟩
        obtain ⟨d, z1, z2⟩ := hl v List.mem_cons_self
        refine wpAny_bind (ih g (by omega) z1 z2 (wp_if_neg (by decide) ?_))
        exact wpAny_pure ⟨⟨rfl, rfl⟩, fun u hu => hl u (List.mem_cons_of_mem _ hu)⟩
      · rintro ⟨r1, r2⟩ s' ⟨⟨hr, rfl⟩, _⟩
        cases hr
        exact wpAny_pure q
theorem at_byValue : ∀ (n f : Nat), n ≤ f → ∀ {A : Around} {d : D} {v : Value} {Q : Bool → Shared → Prop}, At s.heap v d → nst n d = true → Q true s → wpAny (model P w) A (hashByValue f v) Q E s := by
  intro n
  induction n with
  | zero =>
    intro f _ A d v Q hv hd q
    cases hv with
    | int i t => rw [hashBy_int]; exact wpAny_pure q
    | tup => cases hd
  | succ n ih =>
    intro f hf A d v Q hv hd q
    cases hv with
    | int i t => rw [hashBy_int]; exact wpAny_pure q
    | @tup a o its m ds ho hc hdat hits =>
      rw [nst_tup, List.all_eq_true] at hd
      obtain ⟨g, rfl⟩ : ∃ g, f = g + 1 := ⟨f - 1, by omega⟩
      have hT : s.TypeIs (.ref a) "tuple" := ⟨o, ho, hc⟩
      unfold hashByValue
      refine wpAny_bind (wpAny_specialOf hT F.slot_tuple_hash.lookup ?_)
      show wpAny _ _ (seqItems? (.ref a) >>= _) _ E s
      refine wpAny_bind (wpAny_seqItems ho hdat (wpAny_bind ?_))
      show wpAny _ _ (forIn its _ _) _ E s
      rw [← Array.forIn_toList]
      refine wpAny_forIn_list _ (fun left r s' => (r.1 = none ∧ s' = s) ∧ ∀ v ∈ left, ∃ d, At s.heap v d ∧ nst n d = true) _ ?_ ?_ _ _ ⟨⟨rfl, rfl⟩, all_items hits hd⟩
      · rintro v left r s' ⟨⟨hr, rfl⟩, hl⟩
        obtain ⟨d, z1, z2⟩ := hl v List.mem_cons_self
        refine wpAny_bind (ih g (by omega) z1 z2 (wp_if_neg (by decide) ?_))
        exact wpAny_pure ⟨⟨rfl, rfl⟩, fun u hu => hl u (List.mem_cons_of_mem _ hu)⟩
      · rintro ⟨r1, r2⟩ s' ⟨⟨hr, rfl⟩, _⟩
        cases hr
        exact wpAny_pure q
/-- a search among such tuples shows nothing -/
theorem at_seen {A : Around} {n : Nat} {d : D} {x : Addr} {Q : Bool → Shared → Prop} (hn : n ≤ 8) (hx : At s.heap (.ref x) d) (hd : nst n d = true) {ys : List Value} (hy : ∀ y ∈ ys, ∃ e c, y = .ref c ∧ At s.heap y e ∧ nst n e = true) (q : Q false s) :
    wpAny (model P w) A (searchCouldBeSeen (.ref x) ys) Q E s := by
  unfold searchCouldBeSeen
  refine wpAny_bind (wpAny_forIn_list _ (fun left r s' => (r.1 = none ∧ s' = s) ∧ ∀ y ∈ left, ∃ e c, y = .ref c ∧ At s.heap y e ∧ nst n e = true) _ ?_ ?_ _ _ ⟨⟨rfl, rfl⟩, hy⟩)
  · rintro y left r s' ⟨⟨hr, rfl⟩, hl⟩
    obtain ⟨e, c, rfl, z1, z2⟩ := hl y List.mem_cons_self
    have next : ∀ u ∈ left, ∃ e c, u = .ref c ∧ At s'.heap u e ∧ nst n e = true := fun u hu => hl u (List.mem_cons_of_mem _ hu)
    dsimp only
    rcases Bool.eq_false_or_eq_true (x == c || (carriedByValue (.ref x) && carriedByValue (.ref c))) with hz | hz
    · exact wp_if_pos hz (wpAny_pure ⟨⟨rfl, rfl⟩, next⟩)
    · refine wp_if_neg (by rw [hz]; decide) ?_
      refine wpAny_bind (at_quiet n 8 hn hx hd (wp_if_neg (by decide) ?_))
      refine wpAny_bind (at_quiet n 8 hn z1 z2 (wp_if_neg (by decide) ?_))
      refine wpAny_bind (at_class n 8 hn hx hd (wp_if_neg (by decide) ?_))
      refine wpAny_bind (at_class n 8 hn z1 z2 (wp_if_neg (by decide) ?_))
      exact wpAny_pure ⟨⟨rfl, rfl⟩, next⟩
  · rintro ⟨r1, r2⟩ s' ⟨⟨hr, rfl⟩, _⟩
    cases hr
    exact wpAny_pure q
end
end
end DLS
/-! DLS: the set's table, and a search in it. -/
namespace DLS
open PySem PySem.Spec PyProof.Rows L2 DL
/-- an entry -/
def cellOf (q : Addr × D) : Int × Value := (hsh q.2, .ref q.1)
structure Tab (n : Nat) (w : World) (h : Heap) (a : Addr) (L : List (Addr × D)) (es : Array (Int × Value)) (ep : Nat) (t : SetTable) : Prop where
  obj : ∃ o, h.get? a = some o ∧ o.ExactSet ∧ o.data = .set es ep t
  rows : es.toList = L.map cellOf
  ok : TabOk t (L.map fun q => hsh q.2)
  nodup : (L.map Prod.snd).Nodup
  here : ∀ q ∈ L, At h (.ref q.1) q.2 ∧ nst n q.2 = true
  plain : t.plain = true
  led : w.params.followText "set-order" = true ∨ t.led = true
  room : L.length * 5 < t.mask * 3
  few : L.length < 64
section
variable {P : Program} {w : World} {A : Around} {E : Value → Shared → Prop} {s : Shared} {n : Nat} {a : Addr} {L : List (Addr × D)} {es : Array (Int × Value)} {ep : Nat} {t : SetTable}
theorem Tab.count {h : Heap} (R : Tab n w h a L es ep t) : es.size = L.length := by
  have e := congrArg List.length R.rows
  rwa [List.length_map, Array.length_toList] at e
theorem Tab.places {h : Heap} (R : Tab n w h a L es ep t) : t.place.size = L.length := by
  have e := R.ok.sz
  rwa [List.length_map] at e
theorem Tab.fit {h : Heap} (R : Tab n w h a L es ep t) : t.fits es.size = true := by
  have e1 := R.count
  have e2 := R.places
  have e3 := R.room
  simp only [SetTable.fits, SetTable.fill, R.ok.dm, Bool.and_eq_true, beq_iff_eq, decide_eq_true_eq]
  exact ⟨by omega, by show t.place.size + 0 ≤ t.mask; omega⟩
theorem Tab.cell {h : Heap} (R : Tab n w h a L es ep t) {i : Nat} {q : Addr × D} (e : L[i]? = some q) : es[i]? = some (hsh q.2, .ref q.1) := by
  have e1 : es.toList[i]? = some (cellOf q) := by rw [R.rows, List.getElem?_map, e] <;> rfl
  rwa [Array.getElem?_toList] at e1
theorem Tab.stays {h : Heap} (R : Tab n w h a L es ep t) : ¬ t.gaveWay = true := by
  have e := mask_odd R.ok.mok
  simp [SetTable.gaveWay, e]
/-- the c-th step of the way -/
abbrev stp (m : Nat) (H : Int) (c : Nat) : SetTable.Probe := nth m (runAt m (SetTable.bits H % (m + 1)) (SetTable.bits H)) c
theorem stp_dummy (m : Nat) (H : Int) : ∀ c, (stp m H c).dummy = none
  | 0 => rfl
  | c + 1 => by
    show (nth m _ (c + 1)).dummy = none
    rw [nth_succ]
    unfold adv
    split <;> exact stp_dummy m H c
theorem stp_add (m : Nat) (H : Int) (c k : Nat) : nth m (stp m H c) k = stp m H (c + k) := (nth_add m c _ k).symm
theorem search_go (R : Tab n w s.heap a L es ep t) {x : Addr} {d : D} (hn : n ≤ 8) (hx : At s.heap (.ref x) d) (hd : nst n d = true) (hA : A.units + 64 < cLine) {K : Nat} (free : way t.mask (hsh d) K ∉ t.place.toList)
    (full : ∀ c, c < K → way t.mask (hsh d) c ∈ t.place.toList) (hK : K < 10 * SetTable.turns t.mask) {Q : SetFound → Shared → Prop} (yes : d ∈ L.map Prod.snd → Q (.there none) s) (no : d ∉ L.map Prod.snd → Q (.free (way t.mask (hsh d) K) false) s) :
    ∀ (f c : Nat) (at0 : Option SetTable.Probe), at0.getD (t.probeStart (hsh d)) = stp t.mask (hsh d) c → c ≤ K → K < f + c →
      (∀ (i : Nat) (q : Addr × D), L[i]? = some q → q.2 = d → ∃ k, c ≤ k ∧ k < K ∧ t.place.toList[i]? = some (way t.mask (hsh d) k)) →
      wpAny (model P w) A (setSearchFrom a (.ref x) (hsh d) true f at0) Q E s := by
  obtain ⟨o, ho, hex, hdat⟩ := R.obj
  generalize hH : hsh d = H at free full no hK ⊢
  have state : ∀ {Q : Array (Int × Value) × Nat × SetTable → Shared → Prop}, Q (es, ep, t) s → wpAny (model P w) A (setState a) Q E s := fun q => wpAny_setState_of ho hdat R.fit q
  have hashes : ∀ (i : Nat) (q : Addr × D), L[i]? = some q → (es[i]?.map (·.1)).getD 0 = hsh q.2 := fun i q e => by rw [R.cell e] <;> rfl
  intro f
  induction f with
  | zero => intro c at0 _ h1 h2 _; omega
  | succ f ih =>
    intro c at0 start h1 h2 ahead
    rw [setSearchFrom_succ]
    refine wpAny_bind (state ?_)
    dsimp only
    refine wp_if_neg R.stays ?_
    try refine wpAny_bind (wpAny_pure ?_)
    have look := go_spec t R.ok.ris R.ok.dm (fun i => (es[i]?.map (·.1)).getD 0) H (10 * SetTable.turns t.mask) (K - c) (stp t.mask H c) (stp_dummy _ _ _) (by omega)
      (fun k hk => by rw [stp_add]; exact full _ (by omega)) (by rw [stp_add, show c + (K - c) = K by omega]; exact free)
    have pe : t.probe (fun i => (es[i]?.map (·.1)).getD 0) H (at0.getD (t.probeStart H)) = SetTable.probe.go t (fun i => (es[i]?.map (·.1)).getD 0) H (10 * SetTable.turns t.mask) (stp t.mask H c) := by
      rw [start] <;> rfl
    rcases look with ⟨k, i, hk, hi, hh, fresh, e⟩ | ⟨fresh, e⟩
    · rw [stp_add] at hi e
      rw [stp_add] at e
      rw [pe, e]
      dsimp only
      have hi2 : t.place.toList[i]? = some (way t.mask H (c + k)) := hi
      have il : i < L.length := by
        have z := (List.getElem?_eq_some_iff.mp hi2).1
        rw [Array.length_toList, R.places] at z
        exact z
      obtain ⟨q, hq⟩ : ∃ q, L[i]? = some q := ⟨_, List.getElem?_eq_getElem il⟩
      have qm : q ∈ L := List.mem_of_getElem? hq
      obtain ⟨q1, q2⟩ := R.here q qm
      have live : t.slot (way t.mask H (c + k)) = .live i := slot_live R.ok.ris hi2
      have behind : wpAny (model P w) A (searchRest a (.ref x) H true f es t (way t.mask H (c + k)) i (stp t.mask H (c + (k + 1)))) Q E s := by
        unfold searchRest
        rw [R.cell hq]
        dsimp only
        refine wpAny_bind (wpAny_holding (at_eq q1 hx q2 hd (by omega) hA fun b hb => ?_))
        refine wpAny_bind (state ?_)
        dsimp only
        cases b with
        | true =>
          refine wp_if_pos (by decide) (wpAny_pure (yes ?_))
          exact List.mem_map.mpr ⟨q, qm, hb.mp rfl⟩
        | false =>
          have ne : q.2 ≠ d := fun z => Bool.noConfusion (hb.mpr z)
          refine wp_if_neg (by decide) ?_
          try refine wpAny_bind (wpAny_pure ?_)
          rw [sameMem]
          simp only [if_true, live, R.cell hq]
          refine wpAny_bind (wpAny_isSame_ref_self (wpAny_bind (wpAny_pure ?_)))
          simp only [if_true]
          refine wp_if_neg (by decide) ?_
          refine ih (c + (k + 1)) _ rfl (by omega) (by omega) fun i0 q0 e0 d0 => ?_
          obtain ⟨k0, b1, b2, b3⟩ := ahead i0 q0 e0 d0
          refine ⟨k0, ?_, b2, b3⟩
          have same : (es[i0]?.map (·.1)).getD 0 = H := by rw [hashes i0 q0 e0, d0, hH]
          by_cases y1 : k0 < c + k
          · exact absurd same (fresh (k0 - c) i0 (by omega) (by rw [stp_add, show c + (k0 - c) = k0 by omega]; exact b3))
          · by_cases y2 : k0 = c + k
            · rw [y2] at b3
              have l2 := slot_live R.ok.ris b3
              rw [live] at l2
              injection l2 with l2
              rw [← l2, hq] at e0
              rw [← Option.some.inj e0] at d0
              exact absurd d0 ne
            · omega
      by_cases hl : t.led = true
      · refine wp_if_neg (by rw [hl]; decide) ?_
        try refine wpAny_bind (wpAny_pure ?_)
        exact behind
      · refine wp_if_pos (by simp [hl]) ?_
        refine wpAny_bind (at_seen hn hx hd (fun y hy => ?_) ?_)
        · obtain ⟨z, hz, rfl⟩ := List.mem_map.mp hy
          have hz1 : z ∈ es.toList := by
            have z2 : z ∈ es ∧ z.1 = H := by simpa using hz
            simpa using z2.1
          rw [R.rows] at hz1
          obtain ⟨q0, hq0, rfl⟩ := List.mem_map.mp hz1
          exact ⟨q0.2, q0.1, rfl, R.here q0 hq0⟩
        · refine wp_if_neg (by decide) ?_
          try refine wpAny_bind (wpAny_pure ?_)
          exact behind
    · rw [stp_add, show c + (K - c) = K by omega] at e
      rw [pe, e]
      dsimp only
      refine wpAny_pure (no fun m => ?_)
      obtain ⟨q, hq, rfl⟩ := List.mem_map.mp m
      obtain ⟨i, hi⟩ := List.mem_iff_getElem?.mp hq
      obtain ⟨k0, b1, b2, b3⟩ := ahead i q hi rfl
      refine absurd ?_ (fresh (k0 - c) i (by omega) (by rw [stp_add, show c + (k0 - c) = k0 by omega]; exact b3))
      rw [← hH]
      exact hashes i q hi
theorem search_all (R : Tab n w s.heap a L es ep t) {x : Addr} {d : D} (hn : n ≤ 8) (hx : At s.heap (.ref x) d) (hd : nst n d = true) (hA : A.units + 64 < cLine) {Q : SetFound → Shared → Prop} (yes : d ∈ L.map Prod.snd → Q (.there none) s)
    (no : ∀ K, d ∉ L.map Prod.snd → way t.mask (hsh d) K ∉ t.place.toList → (∀ c, c < K → way t.mask (hsh d) c ∈ t.place.toList) → Q (.free (way t.mask (hsh d) K) false) s) :
    wpAny (model P w) A (setSearch a (.ref x) (hsh d) true) Q E s := by
  have rm := R.room
  obtain ⟨K, hK, free, full⟩ := R.ok.first (by rw [List.length_map]; omega) (hsh d)
  have small : 10 * SetTable.turns t.mask < 100000 := by
    unfold SetTable.turns
    rcases R.ok.mok with e | e | e <;> rw [e] <;> decide
  unfold setSearch
  refine search_go R hn hx hd hA free full hK yes (fun z => no K z free full) 100000 0 none rfl (Nat.zero_le _) (by omega) fun i q e ed => ?_
  have il : i < t.place.toList.length := by
    rw [Array.length_toList, R.places]
    exact (List.getElem?_eq_some_iff.mp e).1
  have e2 := List.getElem?_eq_getElem il
  obtain ⟨k, b1, b2⟩ := R.ok.before free (by rw [List.getElem?_map, e, ← ed] <;> rfl) e2
  exact ⟨k, Nat.zero_le _, b1, by rw [e2, b2]⟩
end
end DLS
/-! DLS: adding to the set. -/
namespace DLS
open PySem PySem.Spec PyProof.Rows L2 DL
theorem range_get {α : Type} (L : List α) : (List.range L.length).filterMap (fun i => L[i]?) = L := by
  have e : (List.range L.length).map (fun i => L[i]?) = L.map some := by
    apply List.ext_getElem
    · simp
    · intro i h1 h2
      simp at h1 h2
      simp [h1]
  have e2 := congrArg (List.filterMap id) e
  rw [List.filterMap_map, List.filterMap_map] at e2
  have e3 : (List.filterMap (id ∘ some) L) = L := by
    show List.filterMap (fun x => some x) L = L
    simp
  rw [e3] at e2
  exact e2
theorem cells_ordered {L : List (Addr × D)} {es : Array (Int × Value)} (order : Array Nat) (rows : es.toList = L.map cellOf) (pm : order.toList.Perm (List.range L.length)) :
    ∃ M : List (Addr × D), (order.filterMap (es[·]?)).toList = M.map cellOf ∧ M.Perm L ∧ (M.map fun q => hsh q.2) = order.toList.map fun i => (es.map (·.1)).getD i 0 := by
  have at1 : ∀ i : Nat, es[i]? = (L[i]?).map cellOf := fun i => by rw [← Array.getElem?_toList, rows, List.getElem?_map]
  refine ⟨order.toList.filterMap (fun i => L[i]?), ?_, ?_, ?_⟩
  · have e : (order.filterMap (es[·]?)).toList = order.toList.filterMap (fun i => es[i]?) := by simp
    rw [e, List.map_filterMap]
    simp only [at1]
  · have z := pm.filterMap (fun i => L[i]?)
    rwa [range_get] at z
  · have all : ∀ i ∈ order.toList, i < L.length := fun i hi => List.mem_range.mp (pm.mem_iff.mp hi)
    generalize order.toList = l at all
    induction l with
    | nil => rfl
    | cons i l ih =>
      have il := all i List.mem_cons_self
      have ih := ih fun j hj => all j (List.mem_cons_of_mem _ hj)
      obtain ⟨q, hq⟩ : ∃ q, L[i]? = some q := ⟨_, List.getElem?_eq_getElem il⟩
      rw [List.filterMap_cons_some hq, List.map_cons, List.map_cons, ih]
      have e : (es.map (·.1)).getD i 0 = hsh q.2 := by
        have e2 : (es.map (·.1))[i]? = some (hsh q.2) := by rw [Array.getElem?_map, at1, hq] <;> rfl
        simp [Array.getD_eq_getD_getElem?, e2]
      rw [e]
section
variable {P : Program} {w : World} {A : Around} {E : Value → Shared → Prop} {s : Shared} {n : Nat} {a : Addr} {L : List (Addr × D)} {es : Array (Int × Value)} {ep : Nat} {t : SetTable}
/-- the set's own change leaves tuples -/
theorem at_but {h h' : Heap} {o : Obj} (ho : h.get? a = some o) (hd : o.data = .set es ep t) (sb : Heap.SameBut a h h') {v : Value} {d : D} (x : At h v d) (hx : o.cls = .type "set") : At h' v d := by
  refine x.keep fun b u e cl => ?_
  by_cases z : b = a
  · rw [z, ho] at e
    rw [← Option.some.inj e, hx] at cl
    injection cl with cl
    exact absurd cl (by decide)
  · rw [sb.2 b z, e]
structure Laid (n : Nat) (w : World) (s : Shared) (a : Addr) (L M : List (Addr × D)) (h' : Heap) : Prop where
  but : Heap.SameBut a s.heap h'
  tab : ∃ es ep t, Tab n w h' a M es ep t
  perm : M.Perm L
theorem relaid_all {o : Obj} (ho : s.heap.get? a = some o) (hex : o.ExactSet) (hd : o.data = .set es ep t) (rows : es.toList = L.map cellOf) (pl : t.place.size = es.size) (dm : t.dummies = #[]) (le : es.size ≤ t.mask)
    (nd : (L.map Prod.snd).Nodup) (here : ∀ q ∈ L, At s.heap (.ref q.1) q.2 ∧ nst n q.2 = true) (pt : t.plain = true) (ld : w.params.followText "set-order" = true ∨ t.led = true) (few : L.length < 64) {want m : Nat}
    (hw : SetTable.sizeAbove want - 1 = m) (hw2 : SetTable.sizeAbove want ≤ 128) (hm : MaskOk m) (hr : L.length * 5 < m * 3) {Q : Unit → Shared → Prop}
    (q : ∀ M h', Laid n w s a L M h' → Q () { s with heap := h' }) : wpAny (model P w) A (setRelay a want) Q E s := by
  have sz : es.size = L.length := by
    have e := congrArg List.length rows
    rwa [List.length_map, Array.length_toList] at e
  have ft : t.fits es.size = true := by
    simp only [SetTable.fits, SetTable.fill, dm, Bool.and_eq_true, beq_iff_eq, decide_eq_true_eq]
    exact ⟨pl, by show t.place.size + 0 ≤ t.mask; omega⟩
  obtain ⟨t2, order, e1, e2, e3, e4, e5, e6, e7⟩ := relaid_ok t (hs := es.map (·.1)) (wanted := want) hw hm (by rw [Array.size_map, sz]; omega)
  rw [Array.size_map, sz] at e2
  obtain ⟨M, m1, m2, m3⟩ := cells_ordered order rows e2
  rw [← m3] at e3
  have z2 : (order.filterMap (es[·]?)).size = es.size := by
    have e := congrArg List.length m1
    rw [List.length_map, Array.length_toList, m2.length_eq] at e
    rw [e, sz]
  rw [setRelay_eq]
  refine wpAny_bind (wpAny_setState_of ho hd ft ?_)
  dsimp only
  refine wp_if_neg (by rw [sizeLine_eq]; omega) ?_
  try refine wpAny_bind (wpAny_pure ?_)
  rw [e1]
  dsimp only
  refine wpAny_bind (wp_if_neg (by rw [z2]; simp) ?_)
  try refine wpAny_bind (wpAny_pure ?_)
  refine wpAny_pure ?_
  dsimp only
  refine wpAny_storeSet_of ho hd ?_ (by rw [z2, sz, sizeLine_eq]; omega)
  have sb : Heap.SameBut a s.heap (s.heap.update a (Obj.putSet (order.filterMap (es[·]?)) t2)) := Heap.SameBut.update ..
  refine q M _ ⟨sb, ⟨_, ep + 1, t2, ⟨_, store_at ho hd, ⟨hex.1, hex.2.1, hex.2.2⟩, rfl⟩, m1, e3, (m2.map Prod.snd).nodup_iff.mpr nd, fun r hr => ?_, by rw [e6]; exact pt, by rw [e5]; exact ld, by rw [m2.length_eq, e4]; exact hr, by rw [m2.length_eq]; exact few⟩, m2⟩
  obtain ⟨k1, k2⟩ := here r (m2.mem_iff.mp hr)
  exact ⟨at_but ho hd sb k1 hex.1, k2⟩
theorem put_at {α : Type} (L : List α) (p : Nat) (x : α) : (L.take p ++ x :: L.drop p).Perm (x :: L) := by
  have e := List.perm_middle (a := x) (l₁ := L.take p) (l₂ := L.drop p)
  rwa [List.take_append_drop] at e
/-- one more -/
theorem add_one (R : Tab n w s.heap a L es ep t) {x : Addr} {d : D} (hn : n ≤ 8) (hx : At s.heap (.ref x) d) (hd : nst n d = true) (hA : A.units + 64 < cLine) (few : L.length + 1 < 64) {Q : Bool → Shared → Prop}
    (q : ∀ b M h', Heap.SameBut a s.heap h' → (∃ es ep t, Tab n w h' a M es ep t) → (d ∈ L.map Prod.snd ∧ M = L ∨ d ∉ L.map Prod.snd ∧ M.Perm ((x, d) :: L)) → Q b { s with heap := h' }) :
    wpAny (model P w) A (setAddHashed a (.ref x) (hsh d)) Q E s := by
  obtain ⟨o, ho, hex, hdat⟩ := R.obj
  have cnt := R.count
  have rm := R.room
  unfold setAddHashed
  refine wpAny_holding ?_
  rw [show (100000 : Nat) = 99999 + 1 from rfl, setAddHashedIn_succ]
  refine wpAny_bind (wpAny_setState_of ho hdat R.fit ?_)
  dsimp only
  refine wp_if_neg (by simp [byScan, Value.scannable]) ?_
  try refine wpAny_bind (wpAny_pure ?_)
  refine wpAny_bind (search_all R hn hx hd hA (fun m => ?_) fun K m free full => ?_)
  · exact wpAny_pure (q false L s.heap (Heap.SameBut.refl a s.heap) ⟨es, ep, t, R⟩ (.inl ⟨m, rfl⟩))
  · dsimp only
    refine wpAny_bind (wpAny_setState_of ho hdat R.fit ?_)
    dsimp only
    obtain ⟨p1, p2, p3, p4, p5, p6, p7, p8, p9⟩ := R.ok.put free full
    have pl1 : (t.put (way t.mask (hsh d) K)).1.plain = true := p6.trans R.plain
    generalize hz : t.put (way t.mask (hsh d) K) = z at p1 p3 p4 p5 p6 p7 p8 p9 pl1 ⊢
    obtain ⟨t1, at1⟩ := z
    dsimp only at p1 p3 p4 p5 p6 p7 p8 p9 pl1 ⊢
    generalize SetTable.below t.place (way t.mask (hsh d) K) = at2 at p1 p2 p3
    subst p1
    first
      | refine wp_if_pos pl1 (wpAny_bind (at_byValue n 8 hn hx hd ?_))
      | refine wpAny_bind (wp_if_pos pl1 (at_byValue n 8 hn hx hd ?_))
    simp only [if_true]
    obtain ⟨M, hM⟩ : ∃ M, M = L.take at1 ++ (x, d) :: L.drop at1 := ⟨_, rfl⟩
    have pm : M.Perm ((x, d) :: L) := by rw [hM]; exact put_at L at1 (x, d)
    have len : M.length = L.length + 1 := pm.length_eq
    have rows1 : (SetTable.insertAt es at1 (hsh d, Value.ref x)).toList = M.map cellOf := by
      rw [SetTable.toList_insertAt, R.rows, hM, List.map_append, List.map_cons, List.map_take, List.map_drop] <;> rfl
    have hs1 : (L.map fun q => hsh q.2).take at1 ++ hsh d :: (L.map fun q => hsh q.2).drop at1 = M.map fun q => hsh q.2 := by
      rw [hM, List.map_append, List.map_cons, List.map_take, List.map_drop]
    rw [hs1] at p3
    have sz1 : (SetTable.insertAt es at1 (hsh d, Value.ref x)).size = L.length + 1 := by
      have e := congrArg List.length rows1
      rw [List.length_map, Array.length_toList, len] at e
      exact e
    have nd1 : (M.map Prod.snd).Nodup := (pm.map Prod.snd).nodup_iff.mpr (List.nodup_cons.mpr ⟨m, R.nodup⟩)
    clear hM hs1
    generalize SetTable.insertAt es at1 (hsh d, Value.ref x) = es1 at rows1 sz1 ⊢
    refine wpAny_bind (wpAny_storeSet_of ho hdat ?_ (by rw [sz1, sizeLine_eq]; omega))
    have sb : Heap.SameBut a s.heap (s.heap.update a (Obj.putSet es1 t1)) := Heap.SameBut.update ..
    have ho1 := store_at (es' := es1) (t' := t1) ho hdat
    generalize s.heap.update a (Obj.putSet es1 t1) = h1 at sb ho1 ⊢
    have here1 : ∀ q ∈ M, At h1 (.ref q.1) q.2 ∧ nst n q.2 = true := fun q hq => by
      rcases List.mem_cons.mp (pm.mem_iff.mp hq) with e | e
      · rw [e]
        exact ⟨at_but ho hdat sb hx hex.1, hd⟩
      · exact ⟨at_but ho hdat sb (R.here q e).1 hex.1, (R.here q e).2⟩
    have led1 : w.params.followText "set-order" = true ∨ t1.led = true := by rw [p5]; exact R.led
    rw [List.length_map] at p9
    by_cases full1 : t1.tooFull = true
    · first
        | refine wp_if_pos (by simp [full1]) (wpAny_bind ?_)
        | refine wpAny_bind (wp_if_pos (by simp [full1]) ?_)
      have f2 : t1.mask * 3 ≤ (L.length + 1) * 5 := by
        have e := full1
        simp only [SetTable.tooFull, decide_eq_true_eq, p9] at e
        exact e
      have pls : t1.place.size = es1.size := by
        have e := p3.sz
        rw [List.length_map, len] at e
        rw [e, sz1]
      rw [cnt]
      have after : ∀ m', SetTable.sizeAbove (SetTable.grown (L.length + 1)) - 1 = m' → MaskOk m' → SetTable.sizeAbove (SetTable.grown (L.length + 1)) ≤ 128 → (L.length + 1) * 5 < m' * 3 → L.length + 1 ≤ t.mask →
          wpAny (model P w) A (setRelay a (SetTable.grown (L.length + 1))) (fun _ s' => wpAny (model P w) A (pure true) Q E s') E { s with heap := h1 } := fun m' k1 k2 k3 k4 k5 => by
        refine relaid_all (s := { s with heap := h1 }) (L := M) ho1 ⟨hex.1, hex.2.1, hex.2.2⟩ rfl rows1 pls p3.dm (by rw [sz1, p4]; exact k5) nd1 here1 pl1 led1 (by rw [len]; exact few) k1 k3 k2 (by rw [len]; exact k4) fun N h2 ld => ?_
        exact wpAny_pure (q true N h2 (sb.trans ld.but) ld.tab (.inr ⟨m, ld.perm.trans pm⟩))
      rw [p4] at f2
      have size5 : ∀ k, L.length = k → t.mask * 3 ≤ (k + 1) * 5 := fun k e => by rw [← e]; exact f2
      rcases R.ok.mok with e | e | e
      · have l4 : L.length = 4 := by rw [e] at f2 rm; omega
        exact after 31 (by rw [l4, size_20]) (.inr (.inl rfl)) (by rw [l4, size_20]; decide) (by rw [l4]; decide) (by rw [e, l4]; decide)
      · have l4 : L.length = 18 := by rw [e] at f2 rm; omega
        exact after 127 (by rw [l4, size_76]) (.inr (.inr rfl)) (by rw [l4, size_76]; decide) (by rw [l4]; decide) (by rw [e, l4]; decide)
      · rw [e] at f2
        omega
    · first
        | refine wp_if_neg (by simp [full1]) ?_
        | refine wpAny_bind (wp_if_neg (by simp [full1]) (wpAny_pure ?_))
      refine wpAny_pure (q true M h1 sb ⟨es1, ep + 1, t1, ⟨_, ho1, ⟨hex.1, hex.2.1, hex.2.2⟩, rfl⟩, rows1, p3, nd1, here1, pl1, led1, ?_, by rw [len]; exact few⟩ (.inr ⟨m, pm⟩))
      have e := full1
      simp only [SetTable.tooFull, decide_eq_true_eq, p9] at e
      rw [len]
      omega
end
end DLS
/-! DLS: set(xs), xs a tuple of nested tuples of ints. -/
namespace DLS
open PySem PySem.Spec PyProof.Rows L2 DL
/-- what the set has from the first i -/
structure Has (ks : List (Addr × D)) (i : Nat) (L : List (Addr × D)) : Prop where
  from0 : ∀ q ∈ L, q ∈ ks.take i
  all0 : ∀ q ∈ ks.take i, q.2 ∈ L.map Prod.snd
  le : L.length ≤ i
theorem Has.zero (ks : List (Addr × D)) : Has ks 0 [] := ⟨fun q h => (by cases h), fun q h => (by simp at h), Nat.le_refl _⟩
theorem Has.step {ks L M : List (Addr × D)} {i : Nat} {q : Addr × D} (g : Has ks i L) (e : ks[i]? = some q) (h : q.2 ∈ L.map Prod.snd ∧ M = L ∨ q.2 ∉ L.map Prod.snd ∧ M.Perm (q :: L)) : Has ks (i + 1) M := by
  have tk : ks.take (i + 1) = ks.take i ++ [q] := by rw [List.take_succ, e] <;> rfl
  rcases h with ⟨h1, rfl⟩ | ⟨_, pm⟩
  · refine ⟨fun r hr => by rw [tk]; exact List.mem_append_left _ (g.from0 r hr), fun r hr => ?_, Nat.le_succ_of_le g.le⟩
    rw [tk] at hr
    rcases List.mem_append.mp hr with z | z
    · exact g.all0 r z
    · rw [List.mem_singleton.mp z]
      exact h1
  · have pm2 := pm.map Prod.snd
    refine ⟨fun r hr => ?_, fun r hr => pm2.mem_iff.mpr ?_, by have := pm.length_eq; have := g.le; simp at *; omega⟩
    · rw [tk]
      rcases List.mem_cons.mp (pm.mem_iff.mp hr) with z | z
      · rw [z]
        exact List.mem_append_right _ (List.mem_singleton.mpr rfl)
      · exact List.mem_append_left _ (g.from0 r z)
    · rw [tk] at hr
      rw [List.map_cons]
      rcases List.mem_append.mp hr with z | z
      · exact List.mem_cons_of_mem _ (g.all0 r z)
      · rw [List.mem_singleton.mp z]
        exact List.mem_cons_self
section
variable {P : Program} {w : World} {A : Around} {E : Value → Shared → Prop} {s : Shared} {n : Nat}
theorem Tab.keep {h h' : Heap} {a : Addr} {L : List (Addr × D)} {es : Array (Int × Value)} {ep : Nat} {t : SetTable} (R : Tab n w h a L es ep t) (k : ∀ b o, h.get? b = some o → h'.get? b = some o) : Tab n w h' a L es ep t := by
  obtain ⟨o, ho, r⟩ := R.obj
  exact ⟨⟨o, k a o ho, r⟩, R.rows, R.ok, R.nodup, fun q hq => ⟨(R.here q hq).1.keep fun b o e _ => k b o e, (R.here q hq).2⟩, R.plain, R.led, R.room, R.few⟩
abbrev newSet (w : World) : Obj := { cls := .type "set", dict := none, data := .set #[] 0 (.fresh 0 0 (!w.params.followText "set-order")) }
theorem tab_new {h : Heap} {a : Addr} (ho : h.get? a = some (newSet w)) : Tab n w h a [] #[] 0 (.fresh 0 0 (!w.params.followText "set-order")) := by
  refine ⟨⟨_, ho, ⟨rfl, rfl, rfl⟩, rfl⟩, rfl, ⟨List.Pairwise.nil, rfl, rfl, .inl rfl, fun x hx => (by cases hx), fun i h j hi => (by simp at hi)⟩, List.nodup_nil, fun q hq => (by cases hq), rfl, ?_, by show 0 * 5 < 7 * 3; decide, by show 0 < 64; decide⟩
  show _ ∨ (!w.params.followText "set-order") = true
  cases w.params.followText "set-order"
  · exact .inr rfl
  · exact .inl rfl
/-- the loop of set.update -/
theorem update_all {I : Addr} {fp wr : List Addr} {G : Array GenState → Array GenState → Prop} {m : Nat} {Pv : Nat → Value → Prop} {St : Nat → Shared → Prop} {R : Result → Shared → Prop} (W : WalksS P w A.in1 I fp wr G m Pv St) (S : Addr) (Sf : S ∉ fp)
    (ks : List (Addr × D)) (hm : m = ks.length) (few : ks.length < 64) (vals : ∀ i v, Pv i v → ∃ q, ks[i]? = some q ∧ v = .ref q.1) (h0 : Heap) (here : ∀ q ∈ ks, At h0 (.ref q.1) q.2 ∧ nst n q.2 = true) (S0 : h0.get? S = none) (w0 : ∀ b ∈ wr, h0.get? b = none)
    (hn : n ≤ 8) (hA : A.in1.units + 64 < cLine)
    (fin : ∀ s' L, Moved (S :: wr) G s s' → (∃ es ep t, Tab n w s'.heap S L es ep t) → Has ks m L → (∀ b o, h0.get? b = some o → s'.heap.get? b = some o) → R (.ok (.ret .none)) s') :
    ∀ (k i : Nat) (s1 : Shared), m = i + k → Moved (S :: wr) G s s1 → St i s1 → (∀ b o, h0.get? b = some o → s1.heap.get? b = some o) → (∃ L es ep t, Tab n w s1.heap S L es ep t ∧ Has ks i L) → codeAny (model P w) A (.builtin "set.update.loop" ⟨[.ref S, .ref I], []⟩) R s1 := by
  have Sw : S ∉ wr := fun z => Sf (W.sub _ z)
  have inS : ∀ b ∈ wr, b ∈ S :: wr := fun b hb => List.mem_cons_of_mem _ hb
  have old : ∀ {s1 s2 : Shared}, Moved wr G s1 s2 → (∀ b o, h0.get? b = some o → s1.heap.get? b = some o) → ∀ b o, h0.get? b = some o → s2.heap.get? b = some o := fun mv k b o e =>
    mv.heap b o (fun z => by rw [w0 b z] at e; cases e) (k b o e)
  have tabW : ∀ {s1 s2 : Shared} {L es ep t}, Moved wr G s1 s2 → (∀ b o, h0.get? b = some o → s2.heap.get? b = some o) → (∀ q ∈ L, q ∈ ks) → Tab n w s1.heap S L es ep t → Tab n w s2.heap S L es ep t := fun mv k sub R => by
    obtain ⟨o, ho, r⟩ := R.obj
    exact ⟨⟨o, mv.heap S o Sw ho, r⟩, R.rows, R.ok, R.nodup, fun q hq => ⟨(here q (sub q hq)).1.keep fun b o e _ => k b o e, (R.here q hq).2⟩, R.plain, R.led, R.room, R.few⟩
  intro k
  induction k with
  | zero =>
    intro i s1 hi mv st k1 ⟨L, es, ep, t, R1, g⟩
    rw [Nat.add_zero] at hi
    subst hi
    refine codeAny_builtin F.entry_set_update_loop ?_
    rw [Around.under_plainId F.plain_set_update_loop _]
    show wpAny _ A.in1 (pyNext (.ref I) >>= _) _ _ s1
    refine wpAny_bind (W.done s1 _ _ st fun s2 mv2 => ?_)
    have k2 := old mv2 k1
    exact wpAny_pure (fin s2 L (Moved.trans W.gtrans mv (mv2.mono inS)) ⟨es, ep, t, tabW mv2 k2 (fun q hq => List.mem_of_mem_take (g.from0 q hq)) R1⟩ g k2)
  | succ k ih =>
    intro i s1 hi mv st k1 ⟨L, es, ep, t, R1, g⟩
    refine codeAny_builtin F.entry_set_update_loop ?_
    rw [Around.under_plainId F.plain_set_update_loop _]
    show wpAny _ A.in1 (pyNext (.ref I) >>= _) _ _ s1
    refine wpAny_bind (W.item i s1 _ _ (by omega) st fun v s2 pv st2 mv2 => ?_)
    obtain ⟨q, eq, rfl⟩ := vals i v pv
    have k2 := old mv2 k1
    have R2 := tabW mv2 k2 (fun q hq => List.mem_of_mem_take (g.from0 q hq)) R1
    obtain ⟨q1, q2⟩ := here q (List.mem_of_getElem? eq)
    have q3 : At s2.heap (.ref q.1) q.2 := q1.keep fun b o e _ => k2 b o e
    show wpAny _ A.in1 (holding [Value.ref q.1] (setAdd S (.ref q.1)) >>= _) _ _ s2
    refine wpAny_bind (wpAny_holding ?_)
    unfold setAdd
    refine wpAny_holding (wpAny_bind (at_hash n q3 q2 (by omega) fun tk htk => ?_))
    refine add_one (s := { s2 with toks := tk }) R2 hn q3 q2 hA (by have := g.le; omega) fun b M h' sb R3 how => ?_
    have k3 : ∀ b o, h0.get? b = some o → h'.get? b = some o := fun b o e => (sb.2 b (fun z => by rw [z, S0] at e; cases e)).trans (k2 b o e)
    refine wpAny_pure ⟨plainId_quiet F.plain_set_update_loop _, ih (i + 1) _ (by omega) ?_ (W.frame _ s2 _ _ st2 htk fun b hb o e => ?_) k3 ?_⟩
    · refine Moved.trans W.gtrans mv ((mv2.mono inS).then_heap htk fun b o hb e => ?_)
      show h'.get? b = some o
      rw [sb.2 b fun z : b = S => hb (by rw [z]; exact List.mem_cons_self)]
      exact e
    · show h'.get? b = some o
      rw [sb.2 b fun z : b = S => Sf (by rw [← z]; exact hb)]
      exact e
    · obtain ⟨es', ep', t', R4⟩ := R3
      exact ⟨M, es', ep', t', R4, g.step eq how⟩
set_option maxHeartbeats 3200000 in
/-- set(xs) of a tuple -/
theorem call_set_all {l : Addr} {its : Array Value} (ks : List (Addr × D)) {Q : Value → Shared → Prop} (hh : A.handled = none) (hl : s.heap.IsTuple l its) (hk : its.toList = ks.map fun q => .ref q.1) (here : ∀ q ∈ ks, At s.heap (.ref q.1) q.2 ∧ nst n q.2 = true)
    (few : ks.length < 64) (hn : n ≤ 8) (hA : A.units + 70 < cLine)
    (fin : ∀ (h' : Heap) (tk : Nat) L, (∃ es ep t, Tab n w h' s.heap.objs.size L es ep t) → Has ks ks.length L → (∀ b o, s.heap.get? b = some o → h'.get? b = some o) → Q (.ref s.heap.objs.size) { s with heap := h', toks := tk }) :
    wpAny (model P w) A (call (.type "set") [.ref l]) Q E s := by
  have size : its.size = ks.length := by
    have e := congrArg List.length hk
    rwa [List.length_map, Array.length_toList] at e
  obtain ⟨mro, rest, hmro⟩ := F.called_set.mro
  have f1 := F.called_set.made
  have f2 := F.called_set.sub
  have f3 := F.called_set.notType
  have f4 := F.called_set.canCreate
  have f5 := F.typeCall_set_1 (.ref l)
  refine wpAny_call (codeAny_of_tree ?_)
  show wpAny _ _ (callAny (.type "set") _) _ _ _
  refine wpAny_pure ⟨Code.quiet_builtin _ (by decide +kernel), codeAny_builtin F.entry_type_call ?_⟩
  rw [Around.under_plain (weight_type_call_type "set" [.ref l] []) rfl]
  repeat (any_goals (first | assumption | wp_step))
  refine codeAny_mono (code_set_led1 (.ref l) (E := E) (Q₁ := fun obj s₁ => obj = .ref s.heap.objs.size ∧ s₁ = { s with heap := s.heap.push (newSet w) }) ⟨rfl, rfl⟩) fun r s₁ hr => ?_
  cases r with
  | error e => exact hr
  | ok fl =>
    cases fl with
    | ret obj =>
      obtain ⟨rfl, rfl⟩ := hr
      have g0 : (s.heap.push (newSet w)).get? s.heap.objs.size = some (newSet w) := Heap.get?_push_size _ rfl
      have g1 : Shared.TypeIs { s with heap := s.heap.push (newSet w) } (.ref s.heap.objs.size) "set" := ⟨_, g0, rfl⟩
      have g2 := F.called_set.init.lookup
      have g3 := F.called_set.init.bind (.ref s.heap.objs.size)
      repeat (any_goals (first | assumption | wp_step))
      refine codeAny_mono (codeAny_call_builtin (R := wants (fun r s₂ => r = .none ∧ ∃ h' tk L, s₂ = { s with heap := h', toks := tk } ∧ (∃ es ep t, Tab n w h' s.heap.objs.size L es ep t) ∧ Has ks ks.length L ∧
        (∀ b o, s.heap.get? b = some o → h'.get? b = some o)) E) F.called_set.init.plain F.entry_set_init (check_set_init_1 g1 ?_)) fun r₂ s₂ hr₂ => ?_
      · obtain ⟨ob, hob, hcl, nl, hdl⟩ := hl
        obtain ⟨ocls, odict, odata, oslots⟩ := ob
        simp only at hcl hdl
        subst hcl; subst hdl
        have hob2 : (s.heap.push (newSet w)).get? l = some { cls := .type "tuple", dict := odict, data := .seq its nl, slots := oslots } := Heap.get?_push_of_some _ hob
        have u1 := F.sub_tuple_set
        have u2 := F.sub_tuple_frozenset
        have u3 : (Value.type "tuple" == Value.type "dict") = false := by decide
        have tup1 : (s.heap.push (newSet w)).IsTuple l its := ⟨_, hob2, rfl, nl, rfl⟩
        unfold Builtin.«set.__init__» noKeywords Builtin.Frozenset.updateFrom
        generalize hit : pyIter = it
        wp_walk
        subst hit
        refine wpAny_pyIter_tuple tup1 ?_
        refine wpAny_bind (wpAny_runValue ?_)
        have lt : l < s.heap.objs.size := Heap.lt_size hob
        have hh3 : A.in1.in1.in1.handled = none := by simp [hh]
        have sz1 : (s.heap.push (newSet w)).objs.size = s.heap.objs.size + 1 := Heap.size_push ..
        have ne1 : l ≠ (s.heap.push (newSet w)).objs.size := by rw [sz1]; exact Nat.ne_of_lt (Nat.lt_succ_of_lt lt)
        have ne2 : s.heap.objs.size ∉ [(s.heap.push (newSet w)).objs.size, l] := by
          rw [sz1]
          simp only [List.mem_cons, List.not_mem_nil, or_false, not_or]
          exact ⟨fun z => Nat.succ_ne_self _ z.symm, Nat.ne_of_gt lt⟩
        have vals : ∀ (i : Nat) (v : Value), its[i]? = some v → ∃ q, ks[i]? = some q ∧ v = .ref q.1 := fun i v e => by
          rw [← Array.getElem?_toList, hk, List.getElem?_map] at e
          cases z : ks[i]? with
          | none => rw [z] at e; cases e
          | some q =>
            rw [z] at e
            exact ⟨q, rfl, (Option.some.inj e).symm⟩
        have no : ∀ b, s.heap.objs.size ≤ b → s.heap.get? b = none := fun b hb => by
          cases z : s.heap.get? b with
          | none => rfl
          | some o => exact absurd (Nat.lt_of_lt_of_le (Heap.lt_size z) hb) (Nat.lt_irrefl _)
        refine update_all ((Walks.tuple hh3 _ l ne1 its).toS) s.heap.objs.size ne2 ks size few vals s.heap here (no _ (Nat.le_refl _)) (fun b hb => no b (by rw [List.mem_singleton.mp hb, sz1]; exact Nat.le_succ _)) hn (by show A.units + 1 + 1 + 1 + 64 < cLine; omega) ?fin its.size 0 _ (by omega)
          (Moved.refl fun _ => rfl) ⟨⟨_, Heap.get?_push_size _ rfl, rfl, rfl⟩, (tup1.push _)⟩ (fun b o e => Heap.get?_push_of_some _ (Heap.get?_push_of_some _ e)) ?start
        case start =>
          exact ⟨[], #[], 0, _, tab_new (Heap.get?_push_of_some _ g0), Has.zero ks⟩
        case fin =>
          intro s3 L mv R3 g3 k3
          obtain ⟨h3, gens3, dr3, tk3, os3⟩ := s3
          have eg : gens3 = s.gens := mv.gens
          have ed : dr3 = s.drawn := mv.drawn
          have eo : os3 = s.os := mv.os
          subst eg; subst ed; subst eo
          rw [size] at g3
          refine wpAny_pure ?_
          show wpAny _ _ (ret Value.none) _ _ _
          exact wpAny_pure ⟨rfl, h3, tk3, L, rfl, R3, g3, k3⟩
      · cases r₂ with
        | error e => exact hr₂
        | ok fl₂ =>
          cases fl₂ with
          | ret r =>
            obtain ⟨rfl, h3, tk3, L, rfl, R3, g3, k3⟩ := hr₂
            repeat (any_goals (first | assumption | wp_step))
            exact fin _ _ _ R3 g3 k3
          | _ => exact hr₂.elim
    | _ => exact hr.elim
end
end DLS
/-! DLS: len(set(xs)), xs a tuple of nested tuples of ints. -/
namespace DLS
open PySem PySem.Spec PyProof.Rows L2 DL
/-- each once -/
def uniq : List D → List D
  | [] => []
  | d :: ds => if ds.any (fun e => PyData.eqv d e) then uniq ds else d :: uniq ds
theorem uniq_sub : ∀ {ds : List D} {d : D}, d ∈ uniq ds → d ∈ ds
  | [], _, h => h
  | x :: ds, d, h => by
    unfold uniq at h
    split at h
    · exact List.mem_cons_of_mem _ (uniq_sub h)
    · rcases List.mem_cons.mp h with e | e
      · rw [e]
        exact List.mem_cons_self
      · exact List.mem_cons_of_mem _ (uniq_sub e)
theorem any_eqv {n : Nat} {ds : List D} {d : D} (hd : nst n d = true) (h : ∀ e ∈ ds, nst n e = true) : ds.any (fun e => PyData.eqv d e) = true ↔ d ∈ ds := by
  rw [List.any_eq_true]
  constructor
  · rintro ⟨e, h1, h2⟩
    rw [(nst_eqv n d e hd (h e h1)).mp h2]
    exact h1
  · exact fun m => ⟨d, m, (nst_eqv n d d hd hd).mpr rfl⟩
theorem uniq_all {n : Nat} : ∀ {ds : List D}, (∀ e ∈ ds, nst n e = true) → (∀ d, d ∈ ds → d ∈ uniq ds) ∧ (uniq ds).Nodup
  | [], _ => ⟨fun _ h => h, List.nodup_nil⟩
  | x :: ds, h => by
    have hx := h x List.mem_cons_self
    have hd : ∀ e ∈ ds, nst n e = true := fun e m => h e (List.mem_cons_of_mem _ m)
    obtain ⟨i1, i2⟩ := uniq_all hd
    unfold uniq
    split
    · rename_i z
      rw [any_eqv hx hd] at z
      refine ⟨fun d m => ?_, i2⟩
      rcases List.mem_cons.mp m with e | e
      · rw [e]
        exact i1 x z
      · exact i1 d e
    · rename_i z
      rw [any_eqv hx hd] at z
      refine ⟨fun d m => ?_, List.nodup_cons.mpr ⟨fun m => z (uniq_sub m), i2⟩⟩
      rcases List.mem_cons.mp m with e | e
      · rw [e]
        exact List.mem_cons_self
      · exact List.mem_cons_of_mem _ (i1 d e)
theorem distinct_len {ds : List D} {l : List D} {n : Nat} (h : ∀ e ∈ ds, nst n e = true) (nd : l.Nodup) (m : ∀ d, d ∈ l ↔ d ∈ ds) : l.length = (uniq ds).length := by
  obtain ⟨u1, u2⟩ := uniq_all h
  refine ((List.perm_ext_iff_of_nodup nd u2).mpr fun d => ?_).length_eq
  rw [m d]
  exact ⟨u1 d, uniq_sub⟩
def isTupD : D → Bool
  | .tuple _ => true
  | _ => false
def lenSetD : D → Option EV
  | .tuple ds => if (ds.all fun d => isTupD d && nst 8 d) && decide (ds.length < 64) then some (.val (.int ((uniq ds).length : Nat))) else none
  | _ => none
mutual
theorem reads_at {h : Heap} : ∀ (d : D) (n : Nat) {v : Value} {as : List Addr}, Reads h v d as → nst n d = true → At h v d
  | .int _, _, _, _, .int i t, _ => .int i t
  | .tuple ds, n + 1, _, _, .tuple h1 h2 h3 h4, hd => .tup h1 h2 h3 (reads_ats ds n h4 (by rw [nst_tup, List.all_eq_true] at hd; exact hd))
  | .tuple ds, 0, _, _, _, hd => by cases hd
  | .none, n, _, _, _, hd => by cases n <;> cases hd
  | .bool _, n, _, _, _, hd => by cases n <;> cases hd
  | .str _, n, _, _, _, hd => by cases n <;> cases hd
  | .list _, n, _, _, _, hd => by cases n <;> cases hd
  | .dict _, n, _, _, _, hd => by cases n <;> cases hd
theorem reads_ats {h : Heap} : ∀ (ds : List D) (n : Nat) {vs : List Value} {as : List Addr}, ReadsAll h vs ds as → (∀ d ∈ ds, nst n d = true) → Ats h vs ds
  | [], _, _, _, .nil, _ => .nil
  | d :: ds, n, _, _, .cons a b, hd => .cons (reads_at d n a (hd d List.mem_cons_self)) (reads_ats ds n b fun e m => hd e (List.mem_cons_of_mem _ m))
end
theorem ats_refs {h : Heap} : ∀ {ds : List D} {vs : List Value}, Ats h vs ds → (∀ d ∈ ds, isTupD d = true) → ∃ ks : List (Addr × D), vs = ks.map (fun q => .ref q.1) ∧ ks.map Prod.snd = ds ∧ ∀ q ∈ ks, At h (.ref q.1) q.2
  | [], _, .nil, _ => ⟨[], rfl, rfl, fun q hq => (by cases hq)⟩
  | d :: ds, _, .cons a b, hd => by
    obtain ⟨ks, k1, k2, k3⟩ := ats_refs b fun e m => hd e (List.mem_cons_of_mem _ m)
    have td := hd d List.mem_cons_self
    cases a with
    | int i t => cases td
    | @tup x o its n es h1 h2 h3 h4 =>
      refine ⟨(x, .tuple es) :: ks, by rw [k1] <;> rfl, by rw [List.map_cons, k2], fun q hq => ?_⟩
      rcases List.mem_cons.mp hq with e | e
      · rw [e]
        exact .tup h1 h2 h3 h4
      · exact k3 q e
/-- what is asked of the argument -/
def rLenSet (K : PySem.W.Frag) : V → Hp → VK → Prop := fun x H Q => ∃ ds, Dp K H x (.tuple ds) ∧ (∀ d ∈ ds, isTupD d = true ∧ nst 8 d = true) ∧ ds.length < 64 ∧ Q (.int ((uniq ds).length : Nat)) H
theorem p_lenSet {c : DL.Ctx} {X : Cx} : Pure1 c X (rLenSet X.K) lenSetD := by
  intro O as s σ H x d ev Q G r he fin
  unfold lenSetD at he
  split at he
  · rename_i ds
    split at he
    · rename_i h
      rw [Bool.and_eq_true, List.all_eq_true, decide_eq_true_eq] at h
      cases he
      have h1 : ∀ d ∈ ds, isTupD d = true ∧ nst 8 d = true := fun d m => by
        have z := h.1 d m
        rwa [Bool.and_eq_true] at z
      have lay : (PyData.tuple ds).canLay0 = true := (nst_lay 9 (.tuple ds) (by rw [nst_tup, List.all_eq_true]; exact fun d m => (h1 d m).2)).1
      exact ⟨ds, r.dp hid_ext lay, h1, h.2, fin.val G (.int _)⟩
    · cases he
  · cases he
section
variable {c : DL.Ctx} {X : Cx} {W : WX} {a : Expr} {ta : TE} {fa : S → Option (R EV)} {p p2 q pos : Pos}
theorem pe_lenSetN (hc : X.calm = true) (hu : X.A.units + 80 < cLine) (g1 : Gl X "len") (m1 : X.mg "len" = none) (g2 : Gl X "set") (m2 : X.mg "set" = none) (ha : PE X a ta) (na : starEach [a] X.env = (false, eval a X.env) :: starEach [] X.env := by rfl) :
    PE X (.Call (.Name "len" p) [.Call (.Name "set" p2) [a] [] q] [] pos) (tUn (rLenSet X.K) ta) := by
  refine ⟨fun pins s σ H Q I h => Call_ (ld_blt I g1 m1 PySem.boot_len (PyProof.Rows.callWith_builtin1 (PyProof.Rows.args_cons ?_ rfl) rfl rfl))⟩
  refine Call_ (ld_blt I g2 m2 PyProof.Rows.boot_set (PyProof.Rows.callWith_type1 (PyProof.Rows.args_cons (thn (ha.run pins s σ H _ I h) fun v s1 ⟨x, H1, I1, r1, h1⟩ => PyProof.Rows.args_nil ?_) na) na rfl))
  obtain ⟨ds, dp, ok, few, h2⟩ := h1
  cases dp with
  | tup hs ha =>
    cases r1
    obtain ⟨its, rv, tup, _⟩ := I1.tuple hs
    obtain ⟨as, rd⟩ := Dp.readsAll I1 ds _ its ha rv
    obtain ⟨ks, k1, k2, k3⟩ := ats_refs (reads_ats ds 8 rd fun d m => (ok d m).2) fun d m => (ok d m).1
    have mem : ∀ e ∈ ks, nst 8 e.2 = true := fun e m => (ok e.2 (by rw [← k2]; exact List.mem_map.mpr ⟨e, m, rfl⟩)).2
    have len : ks.length = ds.length := by rw [← k2, List.length_map]
    refine call_set_all (n := 8) ks (I1.ok.hd hc) tup (by simpa using k1) (fun e m => ⟨k3 e m, mem e m⟩) (by omega) (by decide) (by omega) fun h' tk L ⟨es, ep, t, R⟩ g old => ?_
    obtain ⟨o, ho, hex, hdat⟩ := R.obj
    have cnt : es.size = (uniq ds).length := by
      rw [R.count, ← List.length_map (f := Prod.snd)]
      refine distinct_len (n := 8) (fun d m => (ok d m).2) R.nodup fun d => ⟨fun m => ?_, fun m => ?_⟩
      · obtain ⟨e, m1, rfl⟩ := List.mem_map.mp m
        rw [← k2]
        exact List.mem_map.mpr ⟨e, List.mem_of_mem_take (g.from0 e m1), rfl⟩
      · rw [← k2] at m
        obtain ⟨e, m1, rfl⟩ := List.mem_map.mp m
        exact g.all0 e (by rw [List.take_length]; exact m1)
    have sm : es.size < 64 := by rw [R.count]; exact R.few
    have I2 : Inv X pins σ H1 { s1 with heap := h', toks := tk } := I1.kept old
    refine PyProof.Rows.args_nil (call_len_set ho hex hdat R.fit (by omega) ⟨.int ((uniq ds).length : Nat), H1, I2.tok _, ⟨_, by rw [cnt]⟩, h2⟩)
theorem de_lenSet (hc : X.calm = true) (hu : X.A.units + 80 < cLine) (g1 : Gl X "len") (m1 : X.mg "len" = none) (g2 : Gl X "set") (m2 : X.mg "set" = none) (ha : DE c X W a ta fa) (na : starEach [a] X.env = (false, eval a X.env) :: starEach [] X.env := by rfl) :
    DE c X W (.Call (.Name "len" p) [.Call (.Name "set" p2) [a] [] q] [] pos) (tUn (rLenSet X.K) ta) (op1 lenSetD fa) := ⟨pe_lenSetN hc hu g1 m1 g2 m2 ha.pe na, tUn_ok p_lenSet ha.ok⟩
end
theorem hu_set {k : Nat} {A : Around} (r : Room k A) : A.units + 80 < cLine := by have := r.un; omega
end DLS
noncomputable section
namespace PF
open PySem PySem.Spec PyProof.Rows L2 DL
def g_is_from : S → Option RS := (retS (andV (op1 (isiD "int") (var 0)) (andV (notV (op1 (isiD "bool") (var 0))) (chain leD leD (var 1) (var 0) (var 2)))))
def f_is_from : FnD := runF 3 (g_is_from)
def c_is_counts_1 : S → Option (R EV) := lcE [3] (bE (fz (var 0)) (asD tupD)) (bName 3) yesT (callF 3 PF.f_is_from (aCons (var 3) (aCons (kst (.int 0)) (aCons (var 2) aNil))))
def g_is_counts : S → Option RS := (retS (andV (op1 (isiD "tuple") (var 0)) (andV (op2 eqD (callT lenD (aCons (var 0) aNil)) (var 1)) (callT allD (aCons PF.c_is_counts_1 aNil)))))
def f_is_counts : FnD := runF 4 (g_is_counts)
def c_has_rule_1 : S → Option (R EV) := lcE [2] (bE (fz (var 1)) (asD tupD)) (bName 2) yesT (callF 3 PF.f_is_counts (aCons (var 2) (aCons (var 0) (aCons (kst (.int 6)) aNil))))
def g_has_rule : S → Option RS := (seqS (ifS (orT (notT (toB (op1 (isiD "tuple") (var 1)))) (toB (op2 neD (callT lenD (aCons (var 1) aNil)) (kst (.int 2))))) (retS (kst (.bool false))) skip) (seqS (ifS (notT (toB (callT allD (aCons PF.c_has_rule_1 aNil)))) (retS (kst (.bool false))) skip) (retS (andV (op2 gtD (callT sumD (aCons (op2 ixD (var 1) (kst (.int 0))) aNil)) (kst (.int 0))) (op2 neD (op2 ixD (var 1) (kst (.int 0))) (op2 ixD (var 1) (kst (.int 1))))))))
def f_has_rule : FnD := runF 3 (g_has_rule)
def c_is_unlike_1 : S → Option (R EV) := lcE [1, 2] (bE (aCons (var 0) aNil) (withVals enumD)) (bTup 2 (bCons (bName 1) (bCons (bName 2) bNil))) yesT (op2 notInD (var 2) (slE (var 0) noP (someP (var 1))))
def g_is_unlike : S → Option RS := (retS (callT allD (aCons PF.c_is_unlike_1 aNil)))
def f_is_unlike : FnD := runF 3 (g_is_unlike)
def c_has_book_1 : S → Option (R EV) := lcE [3] (bE (fz (var 2)) (asD tupD)) (bName 3) yesT (callF 2 PF.f_has_rule (aCons (var 1) (aCons (var 3) aNil)))
def g_has_book : S → Option RS := (seqS (ifS (orT (notT (toB (op1 (isiD "tuple") (var 0)))) (orT (toB (op2 neD (callT lenD (aCons (var 0) aNil)) (kst (.int 2)))) (notT (toB (callF 3 PF.f_is_from (aCons (op2 ixD (var 0) (kst (.int 0))) (aCons (kst (.int 1)) (aCons (kst (.int 4)) aNil)))))))) (retS (kst (.bool false))) skip) (seqS (asgS (bTup 2 (bCons (bName 1) (bCons (bName 2) bNil))) (var 0)) (seqS (ifS (orT (notT (toB (op1 (isiD "tuple") (var 2)))) (notT (toB (chain leD leD (kst (.int 1)) (callT lenD (aCons (var 2) aNil)) (kst (.int 5)))))) (retS (kst (.bool false))) skip) (retS (andV (callT allD (aCons PF.c_has_book_1 aNil)) (callF 1 PF.f_is_unlike (aCons (var 2) aNil)))))))
def f_has_book : FnD := runF 4 (g_has_book)
def g_is_book : S → Option RS := (retS (callF 1 PF.f_has_book (aCons (var 0) aNil)))
def f_is_book : FnD := runF 1 (g_is_book)
def g_need_book : S → Option RS := (ifS (notT (toB (callF 1 PF.f_has_book (aCons (var 0) aNil)))) (raiseS ⟨"InvalidBook", none⟩) skip)
def f_need_book : FnD := runF 1 (g_need_book)
def g_has_heap : S → Option RS := (retS (callF 3 PF.f_is_counts (aCons (var 1) (aCons (op2 ixD (var 0) (kst (.int 0))) (aCons (kst (.int 1000000000000000000000000000000)) aNil)))))
def f_has_heap : FnD := runF 2 (g_has_heap)
def g_is_heap : S → Option RS := (seqS (exprS (callF 1 PF.f_need_book (aCons (var 0) aNil))) (retS (callF 2 PF.f_has_heap (aCons (var 0) (aCons (var 1) aNil)))))
def f_is_heap : FnD := runF 2 (g_is_heap)
def g__law_source (ns : List Int) : S → Option RS := (seqS (setF 2 (ifV (toB (op2 ltD (var 1) (lenScr 0 ns))) (callT absD (aCons (callT intD (aCons (ixScr 0 ns (var 1)) aNil)) aNil)) (op2 addD (op2 mulD (kst (.int 97)) (var 1)) (kst (.int 43))))) (retS (callV mkLst (aCons (ifV (toB (op2 gtD (var 2) (op2 powD (kst (.int 10)) (kst (.int 17))))) (var 2) (kst (.int 0))) (aCons (op2 modD (callT intD (aCons (op2 addD (op2 addD (op2 mulD (var 2) (kst (.int 16807))) (op2 mulD (kst (.int 10007)) (var 1))) (kst (.int 67))) aNil)) (kst (.int 2147483237))) aNil)))))
def f__law_source (ns : List Int) : FnD := runF 3 (g__law_source ns)
def g__law_draw : S → Option RS := (seqS (ifS (toB (op2 gtD (op2 ixD (var 0) (kst (.int 0))) (kst (.int 0)))) (seqS (setF 2 (op2 modD (callT intD (aCons (op2 ixD (var 0) (kst (.int 0))) aNil)) (var 1))) (seqS (setIxS 0 (op2 divD (op2 ixD (var 0) (kst (.int 0))) (var 1)) (kst (.int 0))) (retS (var 2)))) skip) (seqS (setIxS 0 (op2 modD (callT intD (aCons (op2 addD (op2 mulD (op2 ixD (var 0) (kst (.int 1))) (kst (.int 48271))) (kst (.int 83))) aNil)) (kst (.int 2147483237))) (kst (.int 1))) (seqS (setF 3 (op2 modD (callT intD (aCons (op2 mulD (op2 ixD (var 0) (kst (.int 1))) (op2 addD (op2 divD (op2 ixD (var 0) (kst (.int 1))) (kst (.int 41))) (kst (.int 26)))) aNil)) (kst (.int 2147483179)))) (retS (op2 modD (callT intD (aCons (op2 divD (var 3) (kst (.int 32))) aNil)) (var 1))))))
def f__law_draw : FnD := runF 4 (g__law_draw)
def g__law_choice : S → Option RS := (retS (op2 ixD (var 1) (callF 2 PF.f__law_draw (aCons (var 0) (aCons (callT lenD (aCons (var 1) aNil)) aNil)))))
def f__law_choice : FnD := runF 2 (g__law_choice)
def g__law_from : S → Option RS := (retS (andV (op1 (isiD "int") (var 0)) (andV (notV (op1 (isiD "bool") (var 0))) (chain leD leD (var 1) (var 0) (var 2)))))
def f__law_from : FnD := runF 3 (g__law_from)
def c__law_heap_1 : S → Option (R EV) := lcE [3] (bE (aCons (var 1) aNil) (withVals range1D)) (bName 3) yesT (callF 2 PF.f__law_draw (aCons (var 0) (aCons (op2 addD (var 2) (kst (.int 1))) aNil)))
def g__law_heap : S → Option RS := (retS (callT tupleD (aCons PF.c__law_heap_1 aNil)))
def f__law_heap : FnD := runF 4 (g__law_heap)
def c__law_rule_1 : S → Option (R EV) := lcE [4] (bE (aCons (var 1) aNil) (withVals range1D)) (bName 4) yesT (callF 2 PF.f__law_choice (aCons (var 0) (aCons (callV mkLst (aCons (kst (.int 0)) (aCons (kst (.int 0)) (aCons (kst (.int 0)) (aCons (kst (.int 1)) (aCons (kst (.int 1)) (aCons (kst (.int 2)) aNil))))))) aNil)))
def g__law_rule : S → Option RS := (seqS (setF 2 (callF 3 PF.f__law_heap (aCons (var 0) (aCons (var 1) (aCons (kst (.int 2)) aNil))))) (seqS (setF 3 (callT tupleD (aCons PF.c__law_rule_1 aNil))) (seqS (ifS (toB (op2 eqD (callT sumD (aCons (var 2) aNil)) (kst (.int 0)))) (setF 2 (op2 mulD (callV mkTup (aCons (kst (.int 1)) aNil)) (var 1))) skip) (seqS (ifS (andT (toB (op2 geD (callT sumD (aCons (var 3) aNil)) (callT sumD (aCons (var 2) aNil)))) (toB (op2 gtD (callF 2 PF.f__law_draw (aCons (var 0) (aCons (kst (.int 4)) aNil))) (kst (.int 0))))) (setF 3 (op2 addD (op2 mulD (callV mkTup (aCons (kst (.int 0)) aNil)) (op2 subD (var 1) (kst (.int 1)))) (callV mkTup (aCons (kst (.int 1)) aNil)))) skip) (retS (ifV (toB (op2 neD (var 2) (var 3))) (callV mkTup (aCons (var 2) (aCons (var 3) aNil))) (callV mkTup (aCons (var 2) (aCons (op2 mulD (callV mkTup (aCons (kst (.int 0)) aNil)) (var 1)) aNil)))))))))
def f__law_rule : FnD := runF 5 (g__law_rule)
def b__law_book_1 : S → Option RS := (seqS (setF 5 (callF 2 PF.f__law_rule (aCons (var 0) (aCons (var 2) aNil)))) (ifS (toB (op2 notInD (var 5) (var 3))) (exprS (appE 3 (var 5))) skip))
def g__law_book : S → Option RS := (seqS (parS 2 3 (op2 addD (kst (.int 1)) (callF 2 PF.f__law_draw (aCons (var 0) (aCons (kst (.int 3)) aNil)))) (callV mkLst aNil)) (seqS (forS (bE (aCons (op2 addD (kst (.int 1)) (callF 2 PF.f__law_draw (aCons (var 0) (aCons (var 1) aNil)))) aNil) (withVals range1D)) (bName 4) PF.b__law_book_1) (retS (callV mkTup (aCons (var 2) (aCons (callT tupleD (aCons (var 3) aNil)) aNil))))))
def f__law_book : FnD := runF 6 (g__law_book)
def c__law_is_counts_1 : S → Option (R EV) := lcE [3] (bE (fz (var 2)) (asD tupD)) (bName 3) (notT (toB (callF 3 PF.f__law_from (aCons (var 3) (aCons (kst (.int 0)) (aCons (var 1) aNil)))))) (var 3)
def g__law_is_counts : S → Option RS := (seqS (ifS (orT (notT (toB (op1 (isiD "tuple") (var 2)))) (toB (op2 neD (callT lenD (aCons (var 2) aNil)) (var 0)))) (retS (kst (.bool false))) skip) (retS (op2 eqD PF.c__law_is_counts_1 (callV mkLst aNil))))
def f__law_is_counts : FnD := runF 4 (g__law_is_counts)
def b__law_is_book_1 : S → Option RS := (seqS (ifS (orT (notT (toB (op1 (isiD "tuple") (var 1)))) (toB (op2 neD (callT lenD (aCons (var 1) aNil)) (kst (.int 2))))) (retS (kst (.bool false))) skip) (seqS (ifS (orT (notT (toB (callF 3 PF.f__law_is_counts (aCons (op2 ixD (var 0) (kst (.int 0))) (aCons (kst (.int 6)) (aCons (op2 ixD (var 1) (kst (.int 0))) aNil)))))) (notT (toB (callF 3 PF.f__law_is_counts (aCons (op2 ixD (var 0) (kst (.int 0))) (aCons (kst (.int 6)) (aCons (op2 ixD (var 1) (kst (.int 1))) aNil))))))) (retS (kst (.bool false))) skip) (ifS (orT (toB (op2 eqD (callT sumD (aCons (op2 ixD (var 1) (kst (.int 0))) aNil)) (kst (.int 0)))) (toB (op2 eqD (op2 ixD (var 1) (kst (.int 0))) (op2 ixD (var 1) (kst (.int 1)))))) (retS (kst (.bool false))) skip)))
def g__law_is_book : S → Option RS := (seqS (ifS (orT (notT (toB (op1 (isiD "tuple") (var 0)))) (orT (toB (op2 neD (callT lenD (aCons (var 0) aNil)) (kst (.int 2)))) (notT (toB (callF 3 PF.f__law_from (aCons (op2 ixD (var 0) (kst (.int 0))) (aCons (kst (.int 1)) (aCons (kst (.int 4)) aNil)))))))) (retS (kst (.bool false))) skip) (seqS (ifS (orT (notT (toB (op1 (isiD "tuple") (op2 ixD (var 0) (kst (.int 1)))))) (notT (toB (chain ltD ltD (kst (.int 0)) (callT lenD (aCons (op2 ixD (var 0) (kst (.int 1))) aNil)) (kst (.int 6)))))) (retS (kst (.bool false))) skip) (seqS (forS (bE (fz (op2 ixD (var 0) (kst (.int 1)))) (asD tupD)) (bName 1) PF.b__law_is_book_1) (retS (op2 eqD (op1 DLS.lenSetD (op2 ixD (var 0) (kst (.int 1)))) (callT lenD (aCons (op2 ixD (var 0) (kst (.int 1))) aNil)))))))
def f__law_is_book : FnD := runF 2 (g__law_is_book)
def g__law_bent (rec : FnD) : S → Option RS := (seqS (setF 2 (callF 2 PF.f__law_draw (aCons (var 0) (aCons (kst (.int 7)) aNil)))) (seqS (ifS (andT (toB (op1 (isiD "tuple") (var 1))) (andT (toB (op2 neD (var 1) (callV mkTup aNil))) (toB (op2 gtD (var 2) (kst (.int 0)))))) (seqS (setF 3 (callF 2 PF.f__law_draw (aCons (var 0) (aCons (callT lenD (aCons (var 1) aNil)) aNil)))) (seqS (ifS (toB (op2 eqD (var 2) (kst (.int 1)))) (retS (op2 addD (slE (var 1) noP (someP (var 3))) (slE (var 1) (someP (op2 addD (var 3) (kst (.int 1)))) noP))) skip) (seqS (ifS (toB (op2 eqD (var 2) (kst (.int 2)))) (retS (op2 addD (slE (var 1) noP (someP (op2 addD (var 3) (kst (.int 1))))) (slE (var 1) (someP (var 3)) noP))) skip) (retS (op2 addD (op2 addD (slE (var 1) noP (someP (var 3))) (callV mkTup (aCons (callF 2 rec (aCons (var 0) (aCons (op2 ixD (var 1) (var 3)) aNil))) aNil))) (slE (var 1) (someP (op2 addD (var 3) (kst (.int 1)))) noP)))))) skip) (seqS (setF 4 (callV mkLst (aCons (kst .none) (aCons (kst (.bool true)) (aCons (kst (.bool false)) (aCons (kst (.int 0)) (aCons (kst (.int 1)) (aCons (kst (.int 2)) (aCons (kst (.int 4)) (aCons (kst (.int 5)) (aCons (kst (.int 6)) (aCons (kst (.int 7)) (aCons (op1 negD (kst (.int 1))) (aCons (kst (.str "")) (aCons (callV mkTup aNil) (aCons (callV mkLst aNil) (aCons (callV mkTup (aCons (kst (.int 0)) aNil)) (aCons (callV mkTup (aCons (kst (.int 1)) (aCons (kst (.int 0)) aNil))) (aCons (callV mkTup (aCons (kst (.int 0)) (aCons (kst (.int 0)) aNil))) (aCons (op2 powD (kst (.int 10)) (kst (.int 30))) (aCons (op2 addD (op2 powD (kst (.int 10)) (kst (.int 30))) (kst (.int 1))) aNil))))))))))))))))))))) (retS (callF 2 PF.f__law_choice (aCons (var 0) (aCons (op2 addD (var 4) (callV mkLst (aCons (callV mkTup (aCons (callV mkTup (aCons (kst (.int 1)) (aCons (kst (.int 0)) aNil))) (aCons (callV mkTup (aCons (kst (.int 0)) (aCons (kst (.int 1)) aNil))) aNil))) (aCons (callV mkTup (aCons (callV mkTup (aCons (kst (.int 0)) aNil)) (aCons (callV mkTup (aCons (kst (.int 1)) aNil)) aNil))) (aCons (callV mkTup (aCons (kst (.int 2)) (aCons (callV mkTup aNil) aNil))) (aCons (kst (.str "rule")) aNil)))))) aNil)))))))
def f__law_bent : Nat → FnD
  | 0 => fun _ _ => none
  | n + 1 => runF 5 (g__law_bent (f__law_bent n))
def b__law_told_1 : S → Option RS := (seqS (setF 4 (callV mkTup (aCons (callF 1 PF.f_is_book (aCons (var 1) aNil)) (aCons (callF 2 PF.f_is_heap (aCons (var 0) (aCons (var 1) aNil))) aNil)))) (ifS (orT (toB (op2 neD (var 4) (var 2))) (orT (notT (toB (op1 (isiD "bool") (op2 ixD (var 4) (kst (.int 0)))))) (notT (toB (op1 (isiD "bool") (op2 ixD (var 4) (kst (.int 1)))))))) (retS (kst (.bool false))) skip))
def g__law_told : S → Option RS := (seqS (setF 2 (callV mkTup (aCons (callF 1 PF.f__law_is_book (aCons (var 1) aNil)) (aCons (callF 3 PF.f__law_is_counts (aCons (op2 ixD (var 0) (kst (.int 0))) (aCons (op2 powD (kst (.int 10)) (kst (.int 30))) (aCons (var 1) aNil)))) aNil)))) (seqS (forS (bE (aCons (kst (.int 2)) aNil) (withVals range1D)) (bName 3) PF.b__law_told_1) (retS (kst (.bool true)))))
def f__law_told : FnD := runF 5 (g__law_told)
def b_law_k01_1 (ns : List Int) : S → Option RS := (seqS (ifS (notT (toB (callF 2 PF.f__law_told (aCons (var 3) (aCons (var 6) aNil))))) (retS (kst (.bool false))) skip) (setF 6 (callF 2 (PF.f__law_bent 20) (aCons (var 2) (aCons (ifV (toB (op2 eqD (op2 modD (var 7) (kst (.int 4))) (kst (.int 0)))) (var 5) (var 6)) aNil)))))
def b_law_k01_2 (ns : List Int) : S → Option RS := (seqS (setF 6 (var 5)) (forS (bE (aCons (kst (.int 10)) aNil) (withVals range1D)) (bName 7) (PF.b_law_k01_1 ns)))
def b_law_k01_3 (ns : List Int) : S → Option RS := (seqS (setC 2 (callF 2 (PF.f__law_source ns) (aScr 0 (aCons (var 1) aNil)))) (seqS (setF 3 (callF 2 PF.f__law_book (aCons (var 2) (aCons (kst (.int 5)) aNil)))) (seqS (setF 4 (callF 3 PF.f__law_heap (aCons (var 2) (aCons (op2 ixD (var 3) (kst (.int 0))) (aCons (kst (.int 9)) aNil))))) (seqS (ifS (orT (notT (toB (callF 1 PF.f_is_book (aCons (var 3) aNil)))) (notT (toB (callF 2 PF.f_is_heap (aCons (var 3) (aCons (var 4) aNil)))))) (retS (kst (.bool false))) skip) (seqS (forS (bE (fz (callV mkLst (aCons (var 3) (aCons (var 4) aNil)))) (asD listD)) (bName 5) (PF.b_law_k01_2 ns)) (ifS (orT (notT (toB (callF 2 PF.f__law_told (aCons (var 3) (aCons (callT listD2 (aCons (var 4) aNil)) aNil))))) (notT (toB (callF 2 PF.f__law_told (aCons (var 3) (aCons (callT listD2 (aCons (var 3) aNil)) aNil)))))) (retS (kst (.bool false))) skip))))))
def c_law_k01_4 (ns : List Int) : S → Option (R EV) := lcE [11] (bE (aCons (kst (.int 1)) (aCons (kst (.int 6)) aNil)) (withVals range2D)) (bName 11) yesT (callV mkTup (aCons (callV mkTup (aCons (var 11) aNil)) (aCons (callV mkTup (aCons (kst (.int 0)) aNil)) aNil)))
def c_law_k01_5 (ns : List Int) : S → Option (R EV) := lcE [11] (bE (fz (callV mkTup (aCons (kst (.int 0)) (aCons (kst (.int 2)) (aCons (kst (.int 3)) (aCons (kst (.int 4)) (aCons (kst (.int 5)) (aCons (kst (.int 6)) aNil)))))))) (asD tupD)) (bName 11) yesT (callV mkTup (aCons (callV mkTup (aCons (kst (.int 1)) aNil)) (aCons (callV mkTup (aCons (var 11) aNil)) aNil)))
def c_law_k01_6 (ns : List Int) : S → Option (R EV) := lcE [6] (bE (fz (varF 9)) (asD listD)) (bName 6) yesT (callF 1 PF.f_is_book (aCons (var 6) aNil))
def c_law_k01_7 (ns : List Int) : S → Option (R EV) := lcE [6] (bE (fz (varF 9)) (asD listD)) (bName 6) yesT (callF 2 PF.f_is_heap (aCons (callV mkTup (aCons (kst (.int 2)) (aCons (callV mkTup (aCons (var 8) aNil)) aNil))) (aCons (var 6) aNil)))
def g_law_k01 (ns : List Int) : S → Option RS := (seqS (forS (bE (aCons (op2 addD (kst (.int 1)) (callT minD (aCons (lenScr 0 ns) (aCons (kst (.int 10)) aNil)))) aNil) (withVals range1D)) (bName 1) (PF.b_law_k01_3 ns)) (seqS (setF 8 (callV mkTup (aCons (callV mkTup (aCons (kst (.int 2)) (aCons (kst (.int 0)) aNil))) (aCons (callV mkTup (aCons (kst (.int 0)) (aCons (kst (.int 1)) aNil))) aNil)))) (seqS (setC 9 (callV mkLst (aCons (callV mkTup (aCons (kst (.int 2)) (aCons (callV mkTup (aCons (var 8) aNil)) aNil))) (aCons (callV mkTup (aCons (kst (.int 2)) (aCons (callV mkTup (aCons (var 8) (aCons (var 8) aNil))) aNil))) (aCons (callV mkTup (aCons (kst (.int 1)) (aCons (callV mkTup (aCons (var 8) aNil)) aNil))) (aCons (callV mkTup (aCons (kst (.int 2)) (aCons (callV mkTup aNil) aNil))) (aCons (callV mkTup (aCons (kst (.int 2)) (aCons (callV mkTup (aCons (callV mkTup (aCons (callV mkTup (aCons (kst (.int 0)) (aCons (kst (.int 0)) aNil))) (aCons (callV mkTup (aCons (kst (.int 1)) (aCons (kst (.int 0)) aNil))) aNil))) aNil)) aNil))) (aCons (callV mkTup (aCons (kst (.int 2)) (aCons (callV mkTup (aCons (callV mkTup (aCons (callV mkTup (aCons (kst (.int 1)) (aCons (kst (.int 0)) aNil))) (aCons (callV mkTup (aCons (kst (.int 1)) (aCons (kst (.int 0)) aNil))) aNil))) aNil)) aNil))) aNil)))))))) (seqS (setC 9 (op2 addD (var 9) (callV mkLst (aCons (callV mkTup (aCons (kst (.int 4)) (aCons (callV mkTup (aCons (callV mkTup (aCons (op2 mulD (callV mkTup (aCons (kst (.int 6)) aNil)) (kst (.int 4))) (aCons (op2 mulD (callV mkTup (aCons (kst (.int 0)) aNil)) (kst (.int 4))) aNil))) aNil)) aNil))) (aCons (callV mkTup (aCons (kst (.int 2)) (aCons (callV mkTup (aCons (callV mkTup (aCons (callV mkTup (aCons (kst (.int 7)) (aCons (kst (.int 0)) aNil))) (aCons (callV mkTup (aCons (kst (.int 0)) (aCons (kst (.int 1)) aNil))) aNil))) aNil)) aNil))) (aCons (callV mkTup (aCons (kst (.int 5)) (aCons (callV mkTup (aCons (callV mkTup (aCons (op2 mulD (callV mkTup (aCons (kst (.int 1)) aNil)) (kst (.int 5))) (aCons (op2 mulD (callV mkTup (aCons (kst (.int 0)) aNil)) (kst (.int 5))) aNil))) aNil)) aNil))) aNil)))))) (seqS (exprS (appE 9 (callV mkTup (aCons (kst (.int 1)) (aCons (callT tupleD (aCons (PF.c_law_k01_4 ns) aNil)) aNil))))) (seqS (exprS (appE 9 (callV mkTup (aCons (kst (.int 1)) (aCons (callT tupleD (aCons (PF.c_law_k01_5 ns) aNil)) aNil))))) (seqS (setF 10 (op2 addD (op2 addD (callV mkLst (aCons (kst (.bool true)) aNil)) (op2 mulD (callV mkLst (aCons (kst (.bool false)) aNil)) (kst (.int 5)))) (callV mkLst (aCons (kst (.bool true)) (aCons (kst (.bool false)) (aCons (kst (.bool false)) (aCons (kst (.bool true)) (aCons (kst (.bool false)) aNil)))))))) (seqS (ifS (toB (op2 neD (PF.c_law_k01_6 ns) (var 10))) (retS (kst (.bool false))) skip) (seqS (setC 9 (callV mkLst (aCons (callV mkTup (aCons (kst (.int 0)) (aCons (kst (.int 0)) aNil))) (aCons (callV mkTup (aCons (op2 powD (kst (.int 10)) (kst (.int 30))) (aCons (kst (.int 3)) aNil))) (aCons (callV mkTup (aCons (op2 addD (op2 powD (kst (.int 10)) (kst (.int 30))) (kst (.int 1))) (aCons (kst (.int 0)) aNil))) (aCons (callV mkTup (aCons (kst (.int 1)) aNil)) (aCons (callV mkTup (aCons (kst (.int 1)) (aCons (op1 negD (kst (.int 1))) aNil))) (aCons (callV mkTup (aCons (kst (.bool true)) (aCons (kst (.int 1)) aNil))) (aCons (callV mkLst (aCons (kst (.int 1)) (aCons (kst (.int 1)) aNil))) (aCons (callV mkTup (aCons (kst (.int 1)) (aCons (kst (.int 1)) (aCons (kst (.int 1)) aNil)))) aNil)))))))))) (retS (op2 eqD (PF.c_law_k01_7 ns) (callV mkLst (aCons (kst (.bool true)) (aCons (kst (.bool true)) (aCons (kst (.bool false)) (aCons (kst (.bool false)) (aCons (kst (.bool false)) (aCons (kst (.bool false)) (aCons (kst (.bool false)) (aCons (kst (.bool false)) aNil))))))))))))))))))))
def f_law_k01 (ns : List Int) : FnD := runF 12 (g_law_k01 ns)
def g_need_heap : S → Option RS := (ifS (notT (toB (callF 2 PF.f_has_heap (aCons (var 0) (aCons (var 1) aNil))))) (raiseS ⟨"InvalidHeap", none⟩) skip)
def f_need_heap : FnD := runF 2 (g_need_heap)
def g_need_both : S → Option RS := (seqS (exprS (callF 1 PF.f_need_book (aCons (var 0) aNil))) (exprS (callF 2 PF.f_need_heap (aCons (var 0) (aCons (var 1) aNil)))))
def f_need_both : FnD := runF 2 (g_need_both)
def c_is_within_1 : S → Option (R EV) := lcE [2, 3] (bE (aCons (var 0) (aCons (var 1) aNil)) (withVals zipD)) (bTup 2 (bCons (bName 2) (bCons (bName 3) bNil))) yesT (op2 leD (var 2) (var 3))
def g_is_within : S → Option RS := (retS (callT allD (aCons PF.c_is_within_1 aNil)))
def f_is_within : FnD := runF 4 (g_is_within)
def c_change_of_1 : S → Option (R EV) := lcE [1, 2] (bE (aCons (op2 ixD (var 0) (kst (.int 0))) (aCons (op2 ixD (var 0) (kst (.int 1))) aNil)) (withVals zipD)) (bTup 2 (bCons (bName 1) (bCons (bName 2) bNil))) yesT (op2 subD (var 2) (var 1))
def g_change_of : S → Option RS := (retS (callT tupleD (aCons PF.c_change_of_1 aNil)))
def f_change_of : FnD := runF 3 (g_change_of)
def c_behind_1 : S → Option (R EV) := lcE [3, 4] (bE (aCons (var 0) (aCons (callF 1 PF.f_change_of (aCons (var 1) aNil)) aNil)) (withVals zipD)) (bTup 2 (bCons (bName 3) (bCons (bName 4) bNil))) yesT (op2 addD (var 3) (op2 mulD (var 2) (var 4)))
def g_behind : S → Option RS := (retS (callT tupleD (aCons PF.c_behind_1 aNil)))
def f_behind : FnD := runF 5 (g_behind)
def c_doable_1 : S → Option (R EV) := lcE [2, 3] (bE (aCons (op2 ixD (var 0) (kst (.int 1))) aNil) (withVals enumD)) (bTup 2 (bCons (bName 2) (bCons (bName 3) bNil))) (toB (callF 2 PF.f_is_within (aCons (op2 ixD (var 3) (kst (.int 0))) (aCons (var 1) aNil)))) (var 2)
def g_doable : S → Option RS := (retS PF.c_doable_1)
def f_doable : FnD := runF 4 (g_doable)
def g_can_do : S → Option RS := (seqS (exprS (callF 2 PF.f_need_both (aCons (var 0) (aCons (var 1) aNil)))) (retS (callF 2 PF.f_doable (aCons (var 0) (aCons (var 1) aNil)))))
def f_can_do : FnD := runF 2 (g_can_do)
def b_led_1 : S → Option RS := (seqS (ifS (notT (toB (callF 2 PF.f_is_within (aCons (op2 ixD (op2 ixD (op2 ixD (var 0) (kst (.int 1))) (var 3)) (kst (.int 0))) (aCons (var 1) aNil))))) (retS (kst .none)) skip) (setF 1 (callF 3 PF.f_behind (aCons (var 1) (aCons (op2 ixD (op2 ixD (var 0) (kst (.int 1))) (var 3)) (aCons (kst (.int 1)) aNil))))))
def g_led : S → Option RS := (seqS (forS (bE (fz (var 2)) (asD tupD)) (bName 3) PF.b_led_1) (retS (var 1)))
def f_led : FnD := runF 4 (g_led)
def c_is_row_1 : S → Option (R EV) := lcE [2] (bE (fz (var 1)) (asD tupD)) (bName 2) yesT (callF 3 PF.f_is_from (aCons (var 2) (aCons (kst (.int 0)) (aCons (op2 subD (callT lenD (aCons (op2 ixD (var 0) (kst (.int 1))) aNil)) (kst (.int 1))) aNil))))
def g_is_row : S → Option RS := (seqS (ifS (orT (notT (toB (op1 (isiD "tuple") (var 1)))) (toB (op2 gtD (callT lenD (aCons (var 1) aNil)) (kst (.int 100))))) (retS (kst (.bool false))) skip) (retS (callT allD (aCons PF.c_is_row_1 aNil))))
def f_is_row : FnD := runF 3 (g_is_row)
def g_done : S → Option RS := (seqS (exprS (callF 2 PF.f_need_both (aCons (var 0) (aCons (var 1) aNil)))) (seqS (ifS (notT (toB (callF 2 PF.f_is_row (aCons (var 0) (aCons (var 2) aNil))))) (raiseS ⟨"InvalidRow", none⟩) skip) (seqS (setF 3 (callF 3 PF.f_led (aCons (var 0) (aCons (var 1) (aCons (var 2) aNil))))) (seqS (ifS (toB (op2 isND (var 3) (kst .none))) (raiseS ⟨"InvalidRow", none⟩) skip) (retS (var 3))))))
def f_done : FnD := runF 4 (g_done)
def c__law_can_1 : S → Option (R EV) := lcE [6, 7] (bE (aCons (var 1) (aCons (var 4) aNil)) (withVals zipD)) (bTup 2 (bCons (bName 6) (bCons (bName 7) bNil))) (toB (op2 ltD (var 6) (var 7))) (kst (.int 1))
def b__law_can_2 : S → Option RS := (ifS (toB (op2 eqD PF.c__law_can_1 (callV mkLst aNil))) (exprS (appE 2 (var 3))) skip)
def g__law_can : S → Option RS := (seqS (setC 2 (callV mkLst aNil)) (seqS (forS (bE (aCons (op2 ixD (var 0) (kst (.int 1))) aNil) (withVals enumD)) (bTup 2 (bCons (bName 3) (bCons (bTup 2 (bCons (bName 4) (bCons (bName 5) bNil))) bNil))) PF.b__law_can_2) (retS (var 2))))
def f__law_can : FnD := runF 8 (g__law_can)
def c__law_after_1 : S → Option (R EV) := lcE [5, 6, 7] (bE (aCons (var 1) (aCons (var 3) (aCons (var 4) aNil))) (withVals zip3D)) (bTup 3 (bCons (bName 5) (bCons (bName 6) (bCons (bName 7) bNil)))) yesT (op2 addD (op2 subD (var 5) (var 6)) (var 7))
def g__law_after : S → Option RS := (seqS (asgS (bTup 2 (bCons (bName 3) (bCons (bName 4) bNil))) (op2 ixD (op2 ixD (var 0) (kst (.int 1))) (var 2))) (retS (callT tupleD (aCons PF.c__law_after_1 aNil))))
def f__law_after : FnD := runF 8 (g__law_after)
def b__law_led_1 : S → Option RS := (seqS (ifS (toB (op2 notInD (var 3) (callF 2 PF.f__law_can (aCons (var 0) (aCons (var 1) aNil))))) (retS (kst .none)) skip) (setF 1 (callF 3 PF.f__law_after (aCons (var 0) (aCons (var 1) (aCons (var 3) aNil))))))
def g__law_led : S → Option RS := (seqS (forS (bE (fz (var 2)) (asD tupD)) (bName 3) PF.b__law_led_1) (retS (var 1)))
def f__law_led : FnD := runF 4 (g__law_led)
def G__law_tried (f : Addr) (φ : LamF) : S → Option RS := (seqS (setF 1 (kst (.str ""))) (seqS (tryS ["InvalidRow", "InvalidHeap"] (setF 1 (actE f φ)) [("InvalidRow", (setF 1 (kst (.str "row")))), ("InvalidHeap", (setF 1 (kst (.str "heap"))))]) (retS (var 1))))
def R__law_tried : LamF → LamF := fun φ st => finF st.length (G__law_tried 0 φ ⟨.val (fnD 0) :: List.replicate 1 .un, st⟩)
def b__law_row_1 : S → Option RS := (seqS (setF 6 (callF 2 PF.f__law_can (aCons (var 1) (aCons (var 2) aNil)))) (ifS (toB (op2 neD (var 6) (callV mkLst aNil))) (seqS (setF 7 (callF 2 PF.f__law_choice (aCons (var 0) (aCons (var 6) aNil)))) (parS 4 2 (op2 addD (var 4) (callV mkTup (aCons (var 7) aNil))) (callF 3 PF.f__law_after (aCons (var 1) (aCons (var 2) (aCons (var 7) aNil)))))) skip))
def g__law_row : S → Option RS := (seqS (setF 4 (callV mkTup aNil)) (seqS (forS (bE (aCons (var 3) aNil) (withVals range1D)) (bName 5) PF.b__law_row_1) (retS (var 4))))
def f__law_row : FnD := runF 8 (g__law_row)
def l_law_k02_1 (ns : List Int) : S → Option (R EV) := lamE PF.R__law_tried (callF 3 PF.f_done (aCons (var 3) (aCons (var 6) (aCons (var 8) aNil))))
def b_law_k02_2 (ns : List Int) : S → Option RS := (seqS (setF 6 (callF 3 PF.f__law_heap (aCons (var 2) (aCons (op2 ixD (var 3) (kst (.int 0))) (aCons (callF 2 PF.f__law_choice (aCons (var 2) (aCons (callV mkLst (aCons (kst (.int 2)) (aCons (kst (.int 5)) (aCons (kst (.int 9)) (aCons (op2 powD (kst (.int 10)) (kst (.int 29))) aNil))))) aNil))) aNil))))) (seqS (setC 7 (callF 2 PF.f_can_do (aCons (var 3) (aCons (var 6) aNil)))) (seqS (ifS (toB (op2 neD (var 7) (callF 2 PF.f__law_can (aCons (var 3) (aCons (var 6) aNil))))) (retS (kst (.bool false))) skip) (seqS (exprS (appE 7 (kst (.int 9)))) (seqS (ifS (toB (op2 neD (callF 2 PF.f_can_do (aCons (var 3) (aCons (var 6) aNil))) (callF 2 PF.f__law_can (aCons (var 3) (aCons (var 6) aNil))))) (retS (kst (.bool false))) skip) (seqS (setF 8 (callF 4 PF.f__law_row (aCons (var 2) (aCons (var 3) (aCons (var 6) (aCons (callF 2 PF.f__law_draw (aCons (var 2) (aCons (kst (.int 9)) aNil))) aNil)))))) (seqS (ifS (toB (op2 neD (callF 3 PF.f_done (aCons (var 3) (aCons (var 6) (aCons (var 8) aNil)))) (callF 3 PF.f__law_led (aCons (var 3) (aCons (var 6) (aCons (var 8) aNil)))))) (retS (kst (.bool false))) skip) (seqS (setF 8 (op2 addD (var 8) (callV mkTup (aCons (callF 2 PF.f__law_draw (aCons (var 2) (aCons (var 4) aNil))) aNil)))) (seqS (setF 9 (callF 3 PF.f__law_led (aCons (var 3) (aCons (var 6) (aCons (var 8) aNil))))) (ifS (toB (op2 neD (PF.l_law_k02_1 ns) (ifV (toB (op2 isND (var 9) (kst .none))) (kst (.str "row")) (var 9)))) (retS (kst (.bool false))) skip))))))))))
def l_law_k02_3 (ns : List Int) : S → Option (R EV) := lamE PF.R__law_tried (callF 3 PF.f_done (aCons (var 3) (aCons (op2 mulD (callV mkTup (aCons (kst (.int 9)) aNil)) (op2 ixD (var 3) (kst (.int 0)))) (aCons (var 10) aNil))))
def b_law_k02_4 (ns : List Int) : S → Option RS := (ifS (toB (op2 neD (PF.l_law_k02_3 ns) (kst (.str "row")))) (retS (kst (.bool false))) skip)
def l_law_k02_5 (ns : List Int) : S → Option (R EV) := lamE PF.R__law_tried (callF 2 PF.f_can_do (aCons (var 3) (aCons (var 10) aNil)))
def l_law_k02_6 (ns : List Int) : S → Option (R EV) := lamE PF.R__law_tried (callF 3 PF.f_done (aCons (var 3) (aCons (var 10) (aCons (kst .none) aNil))))
def b_law_k02_7 (ns : List Int) : S → Option RS := (seqS (ifS (toB (op2 neD (PF.l_law_k02_5 ns) (kst (.str "heap")))) (retS (kst (.bool false))) skip) (ifS (toB (op2 neD (PF.l_law_k02_6 ns) (kst (.str "heap")))) (retS (kst (.bool false))) skip))
def b_law_k02_8 (ns : List Int) : S → Option RS := (seqS (setC 2 (callF 2 (PF.f__law_source ns) (aScr 0 (aCons (var 1) aNil)))) (seqS (setF 3 (callF 2 PF.f__law_book (aCons (var 2) (aCons (kst (.int 5)) aNil)))) (seqS (setF 4 (callT lenD (aCons (op2 ixD (var 3) (kst (.int 1))) aNil))) (seqS (forS (bE (aCons (kst (.int 6)) aNil) (withVals range1D)) (bName 5) (PF.b_law_k02_2 ns)) (seqS (forS (bE (fz (callV mkLst (aCons (kst .none) (aCons (callV mkLst (aCons (kst (.int 0)) aNil)) (aCons (callV mkTup (aCons (var 4) aNil)) (aCons (callV mkTup (aCons (op1 negD (kst (.int 1))) aNil)) (aCons (callV mkTup (aCons (kst (.bool true)) aNil)) (aCons (callV mkTup (aCons (kst (.str "0")) aNil)) (aCons (op2 mulD (callV mkTup (aCons (kst (.int 0)) aNil)) (kst (.int 101))) aNil))))))))) (asD listD)) (bName 10) (PF.b_law_k02_4 ns)) (forS (bE (fz (callV mkLst (aCons (kst .none) (aCons (op2 mulD (callV mkTup (aCons (kst (.int 0)) aNil)) (op2 addD (op2 ixD (var 3) (kst (.int 0))) (kst (.int 1)))) (aCons (op2 mulD (callV mkTup (aCons (op1 negD (kst (.int 1))) aNil)) (op2 ixD (var 3) (kst (.int 0)))) (aCons (op2 mulD (callV mkTup (aCons (kst (.bool true)) aNil)) (op2 ixD (var 3) (kst (.int 0)))) (aCons (op2 mulD (callV mkLst (aCons (kst (.int 0)) aNil)) (op2 ixD (var 3) (kst (.int 0)))) (aCons (kst (.int 5)) aNil)))))))) (asD listD)) (bName 10) (PF.b_law_k02_7 ns)))))))
def c_law_k02_9 (ns : List Int) : S → Option (R EV) := lcE [6] (bE (fz (callV mkLst (aCons (callV mkTup (aCons (kst (.int 1)) (aCons (kst (.int 1)) (aCons (kst (.int 1)) aNil)))) (aCons (callV mkTup (aCons (kst (.int 0)) (aCons (kst (.int 5)) (aCons (kst (.int 5)) aNil)))) (aCons (callV mkTup (aCons (kst (.int 1)) (aCons (kst (.int 0)) (aCons (kst (.int 4)) aNil)))) aNil))))) (asD listD)) (bName 6) yesT (callF 2 PF.f_can_do (aCons (var 11) (aCons (var 6) aNil)))
def l_law_k02_10 (ns : List Int) : S → Option (R EV) := lamE PF.R__law_tried (callF 3 PF.f_done (aCons (var 12) (aCons (callV mkTup (aCons (kst (.int 3)) (aCons (kst (.int 0)) aNil))) (aCons (callV mkTup (aCons (kst (.int 0)) (aCons (kst (.int 0)) aNil))) aNil))))
def g_law_k02 (ns : List Int) : S → Option RS := (seqS (forS (bE (aCons (op2 addD (kst (.int 1)) (callT minD (aCons (lenScr 0 ns) (aCons (kst (.int 10)) aNil)))) aNil) (withVals range1D)) (bName 1) (PF.b_law_k02_8 ns)) (seqS (setF 11 (callV mkTup (aCons (kst (.int 3)) (aCons (callV mkTup (aCons (callV mkTup (aCons (callV mkTup (aCons (kst (.int 1)) (aCons (kst (.int 1)) (aCons (kst (.int 0)) aNil)))) (aCons (callV mkTup (aCons (kst (.int 0)) (aCons (kst (.int 0)) (aCons (kst (.int 1)) aNil)))) aNil))) (aCons (callV mkTup (aCons (callV mkTup (aCons (kst (.int 1)) (aCons (kst (.int 0)) (aCons (kst (.int 1)) aNil)))) (aCons (callV mkTup (aCons (kst (.int 0)) (aCons (kst (.int 1)) (aCons (kst (.int 0)) aNil)))) aNil))) aNil))) aNil)))) (seqS (ifS (toB (op2 neD (PF.c_law_k02_9 ns) (callV mkLst (aCons (callV mkLst (aCons (kst (.int 0)) (aCons (kst (.int 1)) aNil))) (aCons (callV mkLst aNil) (aCons (callV mkLst (aCons (kst (.int 1)) aNil)) aNil)))))) (retS (kst (.bool false))) skip) (seqS (setF 12 (callV mkTup (aCons (kst (.int 2)) (aCons (callV mkTup (aCons (callV mkTup (aCons (callV mkTup (aCons (kst (.int 2)) (aCons (kst (.int 0)) aNil))) (aCons (callV mkTup (aCons (kst (.int 0)) (aCons (kst (.int 1)) aNil))) aNil))) (aCons (callV mkTup (aCons (callV mkTup (aCons (kst (.int 0)) (aCons (kst (.int 2)) aNil))) (aCons (callV mkTup (aCons (kst (.int 1)) (aCons (kst (.int 0)) aNil))) aNil))) aNil))) aNil)))) (seqS (ifS (orT (toB (op2 neD (callF 3 PF.f_done (aCons (var 12) (aCons (callV mkTup (aCons (kst (.int 4)) (aCons (kst (.int 0)) aNil))) (aCons (callV mkTup (aCons (kst (.int 0)) (aCons (kst (.int 0)) (aCons (kst (.int 1)) aNil)))) aNil)))) (callV mkTup (aCons (kst (.int 1)) (aCons (kst (.int 0)) aNil))))) (toB (op2 neD (PF.l_law_k02_10 ns) (kst (.str "row"))))) (retS (kst (.bool false))) skip) (retS (andV (op2 eqD (callF 3 PF.f_done (aCons (var 11) (aCons (callV mkTup (aCons (kst (.int 2)) (aCons (kst (.int 1)) (aCons (kst (.int 1)) aNil)))) (aCons (callV mkTup (aCons (kst (.int 0)) (aCons (kst (.int 1)) aNil))) aNil)))) (callV mkTup (aCons (kst (.int 0)) (aCons (kst (.int 1)) (aCons (kst (.int 1)) aNil))))) (op2 eqD (callF 3 PF.f_done (aCons (var 12) (aCons (callV mkTup (aCons (op2 powD (kst (.int 10)) (kst (.int 30))) (aCons (kst (.int 0)) aNil))) (aCons (callV mkTup aNil) aNil)))) (callV mkTup (aCons (op2 powD (kst (.int 10)) (kst (.int 30))) (aCons (kst (.int 0)) aNil)))))))))))
def f_law_k02 (ns : List Int) : FnD := runF 13 (g_law_k02 ns)
def b_divisor_of_1 : S → Option RS := (parS 3 4 (var 4) (op2 modD (var 3) (var 4)))
def b_divisor_of_2 : S → Option RS := (seqS (parS 3 4 (var 1) (callT absD (aCons (var 2) aNil))) (seqS (whS (toB (op2 gtD (var 4) (kst (.int 0)))) PF.b_divisor_of_1) (setF 1 (var 3))))
def g_divisor_of : S → Option RS := (seqS (setF 1 (kst (.int 0))) (seqS (forS (bE (fz (var 0)) (asD listD)) (bName 2) PF.b_divisor_of_2) (retS (callT maxD (aCons (kst (.int 1)) (aCons (var 1) aNil))))))
def f_divisor_of : FnD := runF 5 (g_divisor_of)
def c_least_row_1 : S → Option (R EV) := lcE [2] (bE (fz (var 0)) (asD listD)) (bName 2) yesT (op2 divD (var 2) (var 1))
def g_least_row : S → Option RS := (seqS (setF 1 (callF 1 PF.f_divisor_of (aCons (var 0) aNil))) (retS PF.c_least_row_1))
def f_least_row : FnD := runF 3 (g_least_row)
def c_cleared_1 : S → Option (R EV) := lcE [3, 4] (bE (aCons (var 0) (aCons (var 1) aNil)) (withVals zipD)) (bTup 2 (bCons (bName 3) (bCons (bName 4) bNil))) yesT (op2 subD (op2 mulD (op2 ixD (var 1) (var 2)) (var 3)) (op2 mulD (op2 ixD (var 0) (var 2)) (var 4)))
def g_cleared : S → Option RS := (retS (callF 1 PF.f_least_row (aCons PF.c_cleared_1 aNil)))
def f_cleared : FnD := runF 5 (g_cleared)
def b_leaving_1 : S → Option RS := (ifS (toB (op2 gtD (op2 ixD (var 5) (var 2)) (kst (.int 0)))) (ifS (toB (op2 isND (var 3) (kst .none))) (setF 3 (var 4)) (seqS (setF 6 (op2 subD (op2 mulD (op2 ixD (var 5) (op1 negD (kst (.int 1)))) (op2 ixD (op2 ixD (var 0) (var 3)) (var 2))) (op2 mulD (op2 ixD (op2 ixD (var 0) (var 3)) (op1 negD (kst (.int 1)))) (op2 ixD (var 5) (var 2))))) (ifS (orT (toB (op2 ltD (var 6) (kst (.int 0)))) (andT (toB (op2 eqD (var 6) (kst (.int 0)))) (toB (op2 ltD (op2 ixD (var 1) (var 4)) (op2 ixD (var 1) (var 3)))))) (setF 3 (var 4)) skip))) skip)
def g_leaving : S → Option RS := (seqS (setF 3 (kst .none)) (seqS (forS (bE (aCons (var 0) aNil) (withVals enumD)) (bTup 2 (bCons (bName 4) (bCons (bName 5) bNil))) PF.b_leaving_1) (retS (var 3))))
def f_leaving : FnD := runF 7 (g_leaving)
def c_first_table_1 : S → Option (R EV) := lcE [9] (bE (fz (var 0)) (asD listD)) (bName 9) yesT (op2 addD (callT listD2 (aCons (var 9) aNil)) (callV mkLst (aCons (kst (.int 1)) aNil)))
def c_first_table_2 : S → Option (R EV) := lcE [10] (bE (aCons (op2 addD (var 2) (kst (.int 1))) aNil) (withVals range1D)) (bName 10) yesT (ifV (toB (op2 eqD (var 10) (var 5))) (kst (.int 1)) (kst (.int 0)))
def b_first_table_3 : S → Option RS := (seqS (setF 7 PF.c_first_table_2) (exprS (appE 4 (op2 addD (op2 addD (var 6) (var 7)) (callV mkLst (aCons (ifV (toB (op2 eqD (var 5) (var 2))) (kst (.int 1)) (kst (.int 0))) aNil))))))
def g_first_table : S → Option RS := (seqS (setF 2 (callT lenD (aCons (var 0) aNil))) (seqS (setF 3 (op2 addD PF.c_first_table_1 (callV mkLst (aCons (op2 mulD (callV mkLst (aCons (kst (.int 1)) aNil)) (op2 addD (var 1) (kst (.int 1)))) aNil)))) (seqS (setC 4 (callV mkLst aNil)) (seqS (forS (bE (aCons (var 3) aNil) (withVals enumD)) (bTup 2 (bCons (bName 5) (bCons (bName 6) bNil))) PF.b_first_table_3) (seqS (setF 8 (op2 rg2D (op2 addD (var 1) (kst (.int 1))) (op2 addD (op2 addD (var 1) (kst (.int 2))) (var 2)))) (retS (callV mkTup (aCons (varF 4) (aCons (var 8) (aCons (op2 addD (op2 addD (op2 mulD (callV mkLst (aCons (kst (.int 0)) aNil)) (var 1)) (callV mkLst (aCons (kst (.int 1)) aNil))) (op2 mulD (callV mkLst (aCons (kst (.int 0)) aNil)) (op2 addD (var 2) (kst (.int 2))))) aNil))))))))))
def f_first_table : FnD := runF 11 (g_first_table)
def c_last_table_1 : S → Option (R EV) := lcE [8] (bE (fz (slE (var 4) noP (someP (op1 negD (kst (.int 1)))))) (asD listD)) (bName 8) yesT (op2 gtD (var 8) (kst (.int 0)))
def c_last_table_2 : S → Option (R EV) := lcE [9, 8] (bE (aCons (slE (var 4) noP (someP (op1 negD (kst (.int 1))))) aNil) (withVals enumD)) (bTup 2 (bCons (bName 9) (bCons (bName 8) bNil))) (toB (op2 gtD (var 8) (kst (.int 0)))) (var 9)
def c_last_table_3 : S → Option (R EV) := lcE [9, 10] (bE (aCons (var 2) aNil) (withVals enumD)) (bTup 2 (bCons (bName 9) (bCons (bName 10) bNil))) yesT (ifV (toB (op2 eqD (var 9) (var 6))) (var 10) (callF 3 PF.f_cleared (aCons (var 10) (aCons (var 7) (aCons (var 5) aNil)))))
def b_last_table_4 : S → Option RS := (seqS (setF 5 (op2 ixD PF.c_last_table_2 (kst (.int 0)))) (seqS (setF 6 (callF 3 PF.f_leaving (aCons (var 2) (aCons (var 3) (aCons (var 5) aNil))))) (seqS (setF 7 (op2 ixD (var 2) (var 6))) (seqS (setF 2 PF.c_last_table_3) (seqS (setF 4 (callF 3 PF.f_cleared (aCons (var 4) (aCons (var 7) (aCons (var 5) aNil))))) (setF 3 (op2 addD (op2 addD (slE (var 3) noP (someP (var 6))) (callV mkLst (aCons (var 5) aNil))) (slE (var 3) (someP (op2 addD (var 6) (kst (.int 1)))) noP))))))))
def g_last_table : S → Option RS := (seqS (asgS (bTup 3 (bCons (bName 2) (bCons (bName 3) (bCons (bName 4) bNil)))) (callF 2 PF.f_first_table (aCons (var 0) (aCons (var 1) aNil)))) (seqS (whS (toB (callT anyD (aCons PF.c_last_table_1 aNil))) PF.b_last_table_4) (retS (callV mkTup (aCons (var 2) (aCons (var 3) (aCons (var 4) aNil)))))))
def f_last_table : FnD := runF 11 (g_last_table)
def c_weights_or_rounds_1 : S → Option (R EV) := lcE [10] (bE (fz (slE (var 4) (someP (op2 addD (var 1) (kst (.int 1)))) (someP (op2 addD (op2 addD (var 1) (kst (.int 1))) (callT lenD (aCons (var 0) aNil)))))) (asD listD)) (bName 10) yesT (op1 negD (var 10))
def b_weights_or_rounds_2 : S → Option RS := (setF 6 (op2 mulD (op2 divD (var 6) (callF 1 PF.f_divisor_of (aCons (callV mkLst (aCons (var 6) (aCons (op2 ixD (var 7) (var 8)) aNil))) aNil))) (op2 ixD (var 7) (var 8))))
def b_weights_or_rounds_3 : S → Option RS := (ifS (toB (op2 ltD (var 8) (var 1))) (setF 9 (op2 addD (op2 addD (slE (var 9) noP (someP (var 8))) (callV mkLst (aCons (op2 mulD (op2 ixD (var 7) (op1 negD (kst (.int 1)))) (op2 divD (var 6) (op2 ixD (var 7) (var 8)))) aNil))) (slE (var 9) (someP (op2 addD (var 8) (kst (.int 1)))) noP))) skip)
def g_weights_or_rounds : S → Option RS := (seqS (asgS (bTup 3 (bCons (bName 2) (bCons (bName 3) (bCons (bName 4) bNil)))) (callF 2 PF.f_last_table (aCons (var 0) (aCons (var 1) aNil)))) (seqS (ifS (toB (op2 eqD (op2 ixD (var 4) (op1 negD (kst (.int 1)))) (kst (.int 0)))) (seqS (setF 5 PF.c_weights_or_rounds_1) (retS (callV mkTup (aCons (kst .none) (aCons (callT tupleD (aCons (callF 1 PF.f_least_row (aCons (var 5) aNil)) aNil)) aNil))))) skip) (seqS (setF 6 (kst (.int 1))) (seqS (forS (bE (aCons (var 2) (aCons (var 3) aNil)) (withVals zipD)) (bTup 2 (bCons (bName 7) (bCons (bName 8) bNil))) PF.b_weights_or_rounds_2) (seqS (setF 9 (op2 mulD (callV mkLst (aCons (kst (.int 0)) aNil)) (var 1))) (seqS (forS (bE (aCons (var 2) (aCons (var 3) aNil)) (withVals zipD)) (bTup 2 (bCons (bName 7) (bCons (bName 8) bNil))) PF.b_weights_or_rounds_3) (retS (callV mkTup (aCons (callT tupleD (aCons (callF 1 PF.f_least_row (aCons (var 9) aNil)) aNil)) (aCons (kst .none) aNil))))))))))
def f_weights_or_rounds : FnD := runF 11 (g_weights_or_rounds)
def c_papers_of_1 : S → Option (R EV) := lcE [1] (bE (fz (op2 ixD (var 0) (kst (.int 1)))) (asD tupD)) (bName 1) yesT (callF 1 PF.f_change_of (aCons (var 1) aNil))
def g_papers_of : S → Option RS := (retS (callF 2 PF.f_weights_or_rounds (aCons PF.c_papers_of_1 (aCons (op2 ixD (var 0) (kst (.int 0))) aNil))))
def f_papers_of : FnD := runF 2 (g_papers_of)
def g_ends : S → Option RS := (seqS (exprS (callF 1 PF.f_need_book (aCons (var 0) aNil))) (retS (op2 notND (op2 ixD (callF 1 PF.f_papers_of (aCons (var 0) aNil)) (kst (.int 0))) (kst .none))))
def f_ends : FnD := runF 1 (g_ends)
def g_weights_for : S → Option RS := (seqS (exprS (callF 1 PF.f_need_book (aCons (var 0) aNil))) (retS (op2 ixD (callF 1 PF.f_papers_of (aCons (var 0) aNil)) (kst (.int 0)))))
def f_weights_for : FnD := runF 1 (g_weights_for)
def g_rounds_for : S → Option RS := (seqS (exprS (callF 1 PF.f_need_book (aCons (var 0) aNil))) (retS (op2 ixD (callF 1 PF.f_papers_of (aCons (var 0) aNil)) (kst (.int 1)))))
def f_rounds_for : FnD := runF 1 (g_rounds_for)
def c_weight_of_1 : S → Option (R EV) := lcE [2, 3] (bE (aCons (var 0) (aCons (var 1) aNil)) (withVals zipD)) (bTup 2 (bCons (bName 2) (bCons (bName 3) bNil))) yesT (op2 mulD (var 2) (var 3))
def g_weight_of : S → Option RS := (retS (callT sumD (aCons PF.c_weight_of_1 aNil)))
def f_weight_of : FnD := runF 4 (g_weight_of)
def c_is_weights_1 : S → Option (R EV) := lcE [2] (bE (fz (op2 ixD (var 0) (kst (.int 1)))) (asD tupD)) (bName 2) yesT (op2 ltD (callF 2 PF.f_weight_of (aCons (var 1) (aCons (callF 1 PF.f_change_of (aCons (var 2) aNil)) aNil))) (kst (.int 0)))
def g_is_weights : S → Option RS := (seqS (exprS (callF 1 PF.f_need_book (aCons (var 0) aNil))) (seqS (ifS (notT (toB (callF 3 PF.f_is_counts (aCons (var 1) (aCons (op2 ixD (var 0) (kst (.int 0))) (aCons (kst (.int 1000000000)) aNil)))))) (raiseS ⟨"InvalidPaper", none⟩) skip) (retS (callT allD (aCons PF.c_is_weights_1 aNil)))))
def f_is_weights : FnD := runF 3 (g_is_weights)
def c_is_rounds_1 : S → Option (R EV) := lcE [4] (bE (fz (op2 ixD (var 0) (kst (.int 1)))) (asD tupD)) (bName 4) yesT (callF 1 PF.f_change_of (aCons (var 4) aNil))
def c_is_rounds_2 : S → Option (R EV) := lcE [5] (bE (fz (var 2)) (asD listD)) (bName 5) yesT (op2 ixD (var 5) (var 6))
def c_is_rounds_3 : S → Option (R EV) := lcE [6] (bE (aCons (op2 ixD (var 0) (kst (.int 0))) aNil) (withVals range1D)) (bName 6) yesT (callF 2 PF.f_weight_of (aCons (var 1) (aCons PF.c_is_rounds_2 aNil)))
def c_is_rounds_4 : S → Option (R EV) := lcE [7] (bE (fz (var 3)) (asD listD)) (bName 7) yesT (op2 geD (var 7) (kst (.int 0)))
def g_is_rounds : S → Option RS := (seqS (exprS (callF 1 PF.f_need_book (aCons (var 0) aNil))) (seqS (ifS (notT (toB (callF 3 PF.f_is_counts (aCons (var 1) (aCons (callT lenD (aCons (op2 ixD (var 0) (kst (.int 1))) aNil)) (aCons (kst (.int 1000000000)) aNil)))))) (raiseS ⟨"InvalidPaper", none⟩) skip) (seqS (setF 2 PF.c_is_rounds_1) (seqS (setF 3 PF.c_is_rounds_3) (retS (andV (op2 gtD (callT sumD (aCons (var 1) aNil)) (kst (.int 0))) (callT allD (aCons PF.c_is_rounds_4 aNil))))))))
def f_is_rounds : FnD := runF 8 (g_is_rounds)
def c__law_change_1 : S → Option (R EV) := lcE [1, 2] (bE (aCons (op2 ixD (var 0) (kst (.int 0))) (aCons (op2 ixD (var 0) (kst (.int 1))) aNil)) (withVals zipD)) (bTup 2 (bCons (bName 1) (bCons (bName 2) bNil))) yesT (op2 subD (var 2) (var 1))
def g__law_change : S → Option RS := (retS PF.c__law_change_1)
def f__law_change : FnD := runF 3 (g__law_change)
def c__law_lowers_1 : S → Option (R EV) := lcE [3, 4] (bE (aCons (var 1) (aCons (callF 1 PF.f__law_change (aCons (var 2) aNil)) aNil)) (withVals zipD)) (bTup 2 (bCons (bName 3) (bCons (bName 4) bNil))) yesT (op2 mulD (var 3) (var 4))
def b__law_lowers_2 : S → Option RS := (ifS (toB (op2 geD (callT sumD (aCons PF.c__law_lowers_1 aNil)) (kst (.int 0)))) (retS (kst (.bool false))) skip)
def g__law_lowers : S → Option RS := (seqS (forS (bE (fz (op2 ixD (var 0) (kst (.int 1)))) (asD tupD)) (bName 2) PF.b__law_lowers_2) (retS (kst (.bool true))))
def f__law_lowers : FnD := runF 5 (g__law_lowers)
def c__law_takes_nothing_1 : S → Option (R EV) := lcE [4] (bE (fz (op2 ixD (var 0) (kst (.int 1)))) (asD tupD)) (bName 4) yesT (callF 1 PF.f__law_change (aCons (var 4) aNil))
def c__law_takes_nothing_2 : S → Option (R EV) := lcE [5, 6] (bE (aCons (var 1) (aCons (var 2) aNil)) (withVals zipD)) (bTup 2 (bCons (bName 5) (bCons (bName 6) bNil))) yesT (op2 mulD (var 5) (op2 ixD (var 6) (var 3)))
def b__law_takes_nothing_3 : S → Option RS := (ifS (toB (op2 ltD (callT sumD (aCons PF.c__law_takes_nothing_2 aNil)) (kst (.int 0)))) (retS (kst (.bool false))) skip)
def g__law_takes_nothing : S → Option RS := (seqS (ifS (toB (op2 eqD (callT sumD (aCons (var 1) aNil)) (kst (.int 0)))) (retS (kst (.bool false))) skip) (seqS (setF 2 PF.c__law_takes_nothing_1) (seqS (forS (bE (aCons (op2 ixD (var 0) (kst (.int 0))) aNil) (withVals range1D)) (bName 3) PF.b__law_takes_nothing_3) (retS (kst (.bool true))))))
def f__law_takes_nothing : FnD := runF 7 (g__law_takes_nothing)
def c__law_is_paper_1 : S → Option (R EV) := lcE [2] (bE (fz (var 1)) (asD tupD)) (bName 2) (notT (toB (callF 3 PF.f__law_from (aCons (var 2) (aCons (kst (.int 0)) (aCons (op2 powD (kst (.int 10)) (kst (.int 9))) aNil)))))) (var 2)
def g__law_is_paper : S → Option RS := (seqS (ifS (orT (notT (toB (op1 (isiD "tuple") (var 1)))) (toB (op2 neD (callT lenD (aCons (var 1) aNil)) (var 0)))) (retS (kst (.bool false))) skip) (retS (op2 eqD PF.c__law_is_paper_1 (callV mkLst aNil))))
def f__law_is_paper : FnD := runF 3 (g__law_is_paper)
def c__law_right_1 : S → Option (R EV) := lcE [7] (bE (aCons (op2 ixD (var 1) (kst (.int 0))) aNil) (withVals range1D)) (bName 7) yesT (callF 2 PF.f__law_draw (aCons (var 0) (aCons (kst (.int 4)) aNil)))
def c__law_right_2 : S → Option (R EV) := lcE [8] (bE (fz (op2 ixD (var 1) (kst (.int 1)))) (asD tupD)) (bName 8) yesT (callF 2 PF.f__law_draw (aCons (var 0) (aCons (kst (.int 4)) aNil)))
def b__law_right_3 : S → Option RS := (seqS (setF 6 (callT tupleD (aCons PF.c__law_right_1 aNil))) (seqS (ifS (toB (op2 neD (callF 2 PF.f_is_weights (aCons (var 1) (aCons (var 6) aNil))) (callF 2 PF.f__law_lowers (aCons (var 1) (aCons (var 6) aNil))))) (retS (kst (.bool false))) skip) (seqS (setF 6 (callT tupleD (aCons PF.c__law_right_2 aNil))) (ifS (toB (op2 neD (callF 2 PF.f_is_rounds (aCons (var 1) (aCons (var 6) aNil))) (callF 2 PF.f__law_takes_nothing (aCons (var 1) (aCons (var 6) aNil))))) (retS (kst (.bool false))) skip))))
def g__law_right : S → Option RS := (seqS (par3S 2 3 4 (callF 1 PF.f_weights_for (aCons (var 1) aNil)) (callF 1 PF.f_rounds_for (aCons (var 1) aNil)) (callF 1 PF.f_ends (aCons (var 1) aNil))) (seqS (ifS (orT (notT (toB (op1 (isiD "bool") (var 4)))) (orT (toB (op2 eqD (op2 isND (var 2) (kst .none)) (var 4))) (toB (op2 neD (op2 isND (var 3) (kst .none)) (var 4))))) (retS (kst (.bool false))) skip) (seqS (ifS (andT (toB (var 4)) (orT (notT (toB (callF 2 PF.f__law_is_paper (aCons (op2 ixD (var 1) (kst (.int 0))) (aCons (var 2) aNil))))) (notT (toB (callF 2 PF.f__law_lowers (aCons (var 1) (aCons (var 2) aNil))))))) (retS (kst (.bool false))) skip) (seqS (ifS (andT (notT (toB (var 4))) (notT (toB (callF 2 PF.f__law_is_paper (aCons (callT lenD (aCons (op2 ixD (var 1) (kst (.int 1))) aNil)) (aCons (var 3) aNil)))))) (retS (kst (.bool false))) skip) (seqS (ifS (andT (notT (toB (var 4))) (notT (toB (callF 2 PF.f__law_takes_nothing (aCons (var 1) (aCons (var 3) aNil)))))) (retS (kst (.bool false))) skip) (seqS (forS (bE (aCons (kst (.int 6)) aNil) (withVals range1D)) (bName 5) PF.b__law_right_3) (retS (ifV (toB (var 4)) (callF 2 PF.f_is_weights (aCons (var 1) (aCons (var 2) aNil))) (callF 2 PF.f_is_rounds (aCons (var 1) (aCons (var 3) aNil)))))))))))
def f__law_right : FnD := runF 9 (g__law_right)
def g__law_refused (fa : Nat → Addr) : S → Option RS := (seqS (tryS ["InvalidPaper"] (exprS (callX 0 [(fa 0, PF.f_is_weights), (fa 1, PF.f_is_rounds)] 2 (aCons (var 1) (aCons (var 2) aNil)))) [("InvalidPaper", (retS (kst (.bool true))))]) (retS (kst (.bool false))))
def f__law_refused (fa : Nat → Addr) : FnD := runF 3 (g__law_refused fa)
def b_law_k03_1 (ns : List Int) (fa : Nat → Addr) : S → Option RS := (seqS (setF 4 (callF 2 PF.f__law_book (aCons (var 2) (aCons (kst (.int 5)) aNil)))) (ifS (notT (toB (callF 2 PF.f__law_right (aCons (var 2) (aCons (var 4) aNil))))) (retS (kst (.bool false))) skip))
def c_law_k03_2 (ns : List Int) (fa : Nat → Addr) : S → Option (R EV) := lcE [12] (bE (fz (var 7)) (asD listD)) (bName 12) (notT (toB (callF 3 (PF.f__law_refused fa) (aCons (var 5) (aCons (var 4) (aCons (var 12) aNil)))))) (var 12)
def b_law_k03_3 (ns : List Int) (fa : Nat → Addr) : S → Option RS := (seqS (setF 7 (callV mkLst (aCons (kst .none) (aCons (op2 mulD (callV mkLst (aCons (kst (.int 1)) aNil)) (var 6)) (aCons (op2 mulD (callV mkTup (aCons (kst (.int 1)) aNil)) (op2 addD (var 6) (kst (.int 1)))) (aCons (op2 mulD (callV mkTup (aCons (op1 negD (kst (.int 1))) aNil)) (var 6)) (aCons (kst (.int 5)) aNil))))))) (seqS (setF 7 (op2 addD (var 7) (callV mkLst (aCons (op2 mulD (callV mkTup (aCons (op2 addD (op2 powD (kst (.int 10)) (kst (.int 9))) (kst (.int 1))) aNil)) (var 6)) (aCons (op2 mulD (callV mkTup (aCons (kst (.bool true)) aNil)) (var 6)) aNil))))) (ifS (toB (op2 neD (PF.c_law_k03_2 ns fa) (callV mkLst aNil))) (retS (kst (.bool false))) skip)))
def b_law_k03_4 (ns : List Int) (fa : Nat → Addr) : S → Option RS := (seqS (setC 2 (callF 2 (PF.f__law_source ns) (aScr 0 (aCons (var 1) aNil)))) (seqS (forS (bE (aCons (kst (.int 3)) aNil) (withVals range1D)) (bName 3) (PF.b_law_k03_1 ns fa)) (forS (bE (fz (callV mkLst (aCons (callV mkTup (aCons (kst (fnD (fa 0))) (aCons (op2 ixD (var 4) (kst (.int 0))) aNil))) (aCons (callV mkTup (aCons (kst (fnD (fa 1))) (aCons (callT lenD (aCons (op2 ixD (var 4) (kst (.int 1))) aNil)) aNil))) aNil)))) (asD listD)) (bTup 2 (bCons (bName 5) (bCons (bName 6) bNil))) (PF.b_law_k03_3 ns fa))))
def c_law_k03_5 (ns : List Int) (fa : Nat → Addr) : S → Option (R EV) := lcE [13] (bE (fz (callV mkLst (aCons (callV mkTup (aCons (kst (.int 1)) (aCons (kst (.int 1)) aNil))) (aCons (callV mkTup (aCons (kst (.int 1)) (aCons (kst (.int 2)) aNil))) (aCons (callV mkTup (aCons (kst (.int 0)) (aCons (kst (.int 0)) aNil))) (aCons (callV mkTup (aCons (kst (.int 2)) (aCons (kst (.int 3)) aNil))) (aCons (callV mkTup (aCons (kst (.int 3)) (aCons (kst (.int 5)) aNil))) aNil))))))) (asD listD)) (bName 13) yesT (callF 2 PF.f_is_weights (aCons (var 8) (aCons (var 13) aNil)))
def c_law_k03_6 (ns : List Int) (fa : Nat → Addr) : S → Option (R EV) := lcE [13] (bE (fz (callV mkLst (aCons (callV mkTup (aCons (kst (.int 3)) (aCons (kst (.int 3)) aNil))) (aCons (callV mkTup (aCons (kst (.int 1)) (aCons (kst (.int 2)) aNil))) (aCons (callV mkTup (aCons (kst (.int 0)) (aCons (kst (.int 0)) aNil))) aNil))))) (asD listD)) (bName 13) yesT (callF 2 PF.f_is_rounds (aCons (var 9) (aCons (var 13) aNil)))
def c_law_k03_7 (ns : List Int) (fa : Nat → Addr) : S → Option (R EV) := lcE [4] (bE (fz (varF 11)) (asD listD)) (bName 4) yesT (callF 1 PF.f_ends (aCons (var 4) aNil))
def c_law_k03_8 (ns : List Int) (fa : Nat → Addr) : S → Option (R EV) := lcE [4] (bE (fz (varF 11)) (asD listD)) (bName 4) (notT (toB (callF 2 PF.f__law_right (aCell (callF 2 (PF.f__law_source ns) (aCons (callV mkLst aNil) (aCons (kst (.int 1)) aNil))) (aCons (var 4) aNil))))) (var 4)
def g_law_k03 (ns : List Int) (fa : Nat → Addr) : S → Option RS := (seqS (forS (bE (aCons (op2 addD (kst (.int 1)) (callT minD (aCons (lenScr 0 ns) (aCons (kst (.int 10)) aNil)))) aNil) (withVals range1D)) (bName 1) (PF.b_law_k03_4 ns fa)) (seqS (asgS (bTup 2 (bCons (bName 8) (bCons (bName 9) bNil))) (callV mkTup (aCons (callV mkTup (aCons (kst (.int 2)) (aCons (callV mkTup (aCons (callV mkTup (aCons (callV mkTup (aCons (kst (.int 2)) (aCons (kst (.int 0)) aNil))) (aCons (callV mkTup (aCons (kst (.int 0)) (aCons (kst (.int 1)) aNil))) aNil))) (aCons (callV mkTup (aCons (callV mkTup (aCons (kst (.int 0)) (aCons (kst (.int 2)) aNil))) (aCons (callV mkTup (aCons (kst (.int 1)) (aCons (kst (.int 0)) aNil))) aNil))) aNil))) aNil))) (aCons (callV mkTup (aCons (kst (.int 2)) (aCons (callV mkTup (aCons (callV mkTup (aCons (callV mkTup (aCons (kst (.int 1)) (aCons (kst (.int 0)) aNil))) (aCons (callV mkTup (aCons (kst (.int 0)) (aCons (kst (.int 1)) aNil))) aNil))) (aCons (callV mkTup (aCons (callV mkTup (aCons (kst (.int 0)) (aCons (kst (.int 1)) aNil))) (aCons (callV mkTup (aCons (kst (.int 1)) (aCons (kst (.int 0)) aNil))) aNil))) aNil))) aNil))) aNil)))) (seqS (setF 10 (PF.c_law_k03_5 ns fa)) (seqS (ifS (toB (op2 neD (var 10) (callV mkLst (aCons (kst (.bool true)) (aCons (kst (.bool false)) (aCons (kst (.bool false)) (aCons (kst (.bool true)) (aCons (kst (.bool true)) aNil)))))))) (retS (kst (.bool false))) skip) (seqS (ifS (toB (op2 neD (PF.c_law_k03_6 ns fa) (callV mkLst (aCons (kst (.bool true)) (aCons (kst (.bool false)) (aCons (kst (.bool false)) aNil)))))) (retS (kst (.bool false))) skip) (seqS (ifS (toB (callF 2 PF.f_is_rounds (aCons (var 8) (aCons (callV mkTup (aCons (kst (.int 1)) (aCons (kst (.int 1)) aNil))) aNil)))) (retS (kst (.bool false))) skip) (seqS (setC 11 (callV mkLst (aCons (var 8) (aCons (var 9) (aCons (callV mkTup (aCons (kst (.int 1)) (aCons (callV mkTup (aCons (callV mkTup (aCons (callV mkTup (aCons (kst (.int 1)) aNil)) (aCons (callV mkTup (aCons (kst (.int 2)) aNil)) aNil))) aNil)) aNil))) aNil))))) (seqS (exprS (appE 11 (callV mkTup (aCons (kst (.int 3)) (aCons (callV mkTup (aCons (callV mkTup (aCons (callV mkTup (aCons (kst (.int 1)) (aCons (kst (.int 1)) (aCons (kst (.int 0)) aNil)))) (aCons (callV mkTup (aCons (kst (.int 0)) (aCons (kst (.int 0)) (aCons (kst (.int 1)) aNil)))) aNil))) (aCons (callV mkTup (aCons (callV mkTup (aCons (kst (.int 1)) (aCons (kst (.int 0)) (aCons (kst (.int 1)) aNil)))) (aCons (callV mkTup (aCons (kst (.int 0)) (aCons (kst (.int 1)) (aCons (kst (.int 0)) aNil)))) aNil))) (aCons (callV mkTup (aCons (callV mkTup (aCons (kst (.int 0)) (aCons (kst (.int 0)) (aCons (kst (.int 1)) aNil)))) (aCons (callV mkTup (aCons (kst (.int 0)) (aCons (kst (.int 1)) (aCons (kst (.int 0)) aNil)))) aNil))) aNil)))) aNil))))) (seqS (setC 11 (op2 addD (var 11) (callV mkLst (aCons (callV mkTup (aCons (kst (.int 4)) (aCons (callV mkTup (aCons (callV mkTup (aCons (callV mkTup (aCons (kst (.int 1)) (aCons (kst (.int 0)) (aCons (kst (.int 0)) (aCons (kst (.int 0)) aNil))))) (aCons (callV mkTup (aCons (kst (.int 0)) (aCons (kst (.int 6)) (aCons (kst (.int 0)) (aCons (kst (.int 0)) aNil))))) aNil))) (aCons (callV mkTup (aCons (callV mkTup (aCons (kst (.int 0)) (aCons (kst (.int 1)) (aCons (kst (.int 0)) (aCons (kst (.int 0)) aNil))))) (aCons (callV mkTup (aCons (kst (.int 0)) (aCons (kst (.int 0)) (aCons (kst (.int 6)) (aCons (kst (.int 0)) aNil))))) aNil))) (aCons (callV mkTup (aCons (callV mkTup (aCons (kst (.int 0)) (aCons (kst (.int 0)) (aCons (kst (.int 1)) (aCons (kst (.int 0)) aNil))))) (aCons (callV mkTup (aCons (kst (.int 0)) (aCons (kst (.int 0)) (aCons (kst (.int 0)) (aCons (kst (.int 6)) aNil))))) aNil))) aNil)))) aNil))) aNil)))) (seqS (exprS (appE 11 (callV mkTup (aCons (kst (.int 4)) (aCons (op2 addD (op2 ixD (op2 ixD (var 11) (op1 negD (kst (.int 1)))) (kst (.int 1))) (callV mkTup (aCons (callV mkTup (aCons (callV mkTup (aCons (kst (.int 0)) (aCons (kst (.int 0)) (aCons (kst (.int 0)) (aCons (kst (.int 6)) aNil))))) (aCons (callV mkTup (aCons (kst (.int 1)) (aCons (kst (.int 0)) (aCons (kst (.int 0)) (aCons (kst (.int 0)) aNil))))) aNil))) aNil))) aNil))))) (seqS (exprS (appE 11 (callV mkTup (aCons (kst (.int 2)) (aCons (callV mkTup (aCons (callV mkTup (aCons (callV mkTup (aCons (kst (.int 3)) (aCons (kst (.int 0)) aNil))) (aCons (callV mkTup (aCons (kst (.int 0)) (aCons (kst (.int 2)) aNil))) aNil))) (aCons (callV mkTup (aCons (callV mkTup (aCons (kst (.int 0)) (aCons (kst (.int 3)) aNil))) (aCons (callV mkTup (aCons (kst (.int 2)) (aCons (kst (.int 0)) aNil))) aNil))) aNil))) aNil))))) (seqS (ifS (toB (op2 neD (PF.c_law_k03_7 ns fa) (callV mkLst (aCons (kst (.bool true)) (aCons (kst (.bool false)) (aCons (kst (.bool false)) (aCons (kst (.bool true)) (aCons (kst (.bool true)) (aCons (kst (.bool false)) (aCons (kst (.bool true)) aNil)))))))))) (retS (kst (.bool false))) skip) (retS (op2 eqD (PF.c_law_k03_8 ns fa) (callV mkLst aNil)))))))))))))))
def f_law_k03 (ns : List Int) (fa : Nat → Addr) : FnD := runF 14 (g_law_k03 ns fa)
def g_need_end : S → Option RS := (ifS (toB (op2 isND (op2 ixD (callF 1 PF.f_papers_of (aCons (var 0) aNil)) (kst (.int 0))) (kst .none))) (raiseS ⟨"Endless", none⟩) skip)
def f_need_end : FnD := runF 1 (g_need_end)
def g_need_rule : S → Option RS := (ifS (notT (toB (callF 3 PF.f_is_from (aCons (var 1) (aCons (kst (.int 0)) (aCons (op2 subD (callT lenD (aCons (op2 ixD (var 0) (kst (.int 1))) aNil)) (kst (.int 1))) aNil)))))) (raiseS ⟨"InvalidRule", none⟩) skip)
def f_need_rule : FnD := runF 2 (g_need_rule)
def c_overlap_of_1 : S → Option (R EV) := lcE [2, 3] (bE (aCons (op2 ixD (var 0) (kst (.int 0))) (aCons (op2 ixD (var 1) (kst (.int 0))) aNil)) (withVals zipD)) (bTup 2 (bCons (bName 2) (bCons (bName 3) bNil))) yesT (andV (op2 gtD (var 2) (kst (.int 0))) (op2 gtD (var 3) (kst (.int 0))))
def c_overlap_of_2 : S → Option (R EV) := lcE [2, 3] (bE (aCons (op2 ixD (var 0) (kst (.int 0))) (aCons (op2 ixD (var 1) (kst (.int 0))) aNil)) (withVals zipD)) (bTup 2 (bCons (bName 2) (bCons (bName 3) bNil))) yesT (callT maxD (aCons (var 2) (aCons (var 3) aNil)))
def g_overlap_of : S → Option RS := (seqS (ifS (notT (toB (callT anyD (aCons PF.c_overlap_of_1 aNil)))) (retS (kst .none)) skip) (retS (callT tupleD (aCons PF.c_overlap_of_2 aNil))))
def f_overlap_of : FnD := runF 4 (g_overlap_of)
def b_overlaps_of_1 : S → Option RS := (seqS (setF 5 (callF 2 PF.f_overlap_of (aCons (var 3) (aCons (op2 ixD (op2 ixD (var 0) (kst (.int 1))) (var 4)) aNil)))) (ifS (toB (op2 notND (var 5) (kst .none))) (exprS (appE 1 (callV mkTup (aCons (var 2) (aCons (var 4) (aCons (var 5) aNil)))))) skip))
def b_overlaps_of_2 : S → Option RS := (forS (bE (aCons (op2 addD (var 2) (kst (.int 1))) (aCons (callT lenD (aCons (op2 ixD (var 0) (kst (.int 1))) aNil)) aNil)) (withVals range2D)) (bName 4) PF.b_overlaps_of_1)
def g_overlaps_of : S → Option RS := (seqS (setC 1 (callV mkLst aNil)) (seqS (forS (bE (aCons (op2 ixD (var 0) (kst (.int 1))) aNil) (withVals enumD)) (bTup 2 (bCons (bName 2) (bCons (bName 3) bNil))) PF.b_overlaps_of_2) (retS (var 1))))
def f_overlaps_of : FnD := runF 6 (g_overlaps_of)
def g_overlaps : S → Option RS := (seqS (exprS (callF 1 PF.f_need_book (aCons (var 0) aNil))) (retS (callF 1 PF.f_overlaps_of (aCons (var 0) aNil))))
def f_overlaps : FnD := runF 1 (g_overlaps)
def c__law_is_row_1 : S → Option (R EV) := lcE [2] (bE (fz (var 1)) (asD tupD)) (bName 2) (notT (toB (callF 3 PF.f__law_from (aCons (var 2) (aCons (kst (.int 0)) (aCons (op2 subD (callT lenD (aCons (op2 ixD (var 0) (kst (.int 1))) aNil)) (kst (.int 1))) aNil)))))) (var 2)
def g__law_is_row : S → Option RS := (seqS (ifS (notT (toB (op1 (isiD "tuple") (var 1)))) (retS (kst (.bool false))) skip) (retS (op2 eqD PF.c__law_is_row_1 (callV mkLst aNil))))
def f__law_is_row : FnD := runF 3 (g__law_is_row)
def c__law_overlaps_1 : S → Option (R EV) := lcE [7, 8] (bE (aCons (var 3) (aCons (var 6) aNil)) (withVals zipD)) (bTup 2 (bCons (bName 7) (bCons (bName 8) bNil))) (toB (op2 gtD (callT minD (aCons (var 7) (aCons (var 8) aNil))) (kst (.int 0)))) (kst (.int 1))
def c__law_overlaps_2 : S → Option (R EV) := lcE [9] (bE (aCons (var 3) (aCons (var 6) aNil)) (withVals zipD)) (bName 9) yesT (callT maxD (aCons (var 9) aNil))
def b__law_overlaps_3 : S → Option RS := (seqS (setF 6 (op2 ixD (op2 ixD (op2 ixD (var 0) (kst (.int 1))) (var 5)) (kst (.int 0)))) (ifS (toB (op2 neD PF.c__law_overlaps_1 (callV mkLst aNil))) (exprS (appE 1 (callV mkTup (aCons (var 2) (aCons (var 5) (aCons (callT tupleD (aCons PF.c__law_overlaps_2 aNil)) aNil)))))) skip))
def b__law_overlaps_4 : S → Option RS := (forS (bE (aCons (op2 addD (var 2) (kst (.int 1))) (aCons (callT lenD (aCons (op2 ixD (var 0) (kst (.int 1))) aNil)) aNil)) (withVals range2D)) (bName 5) PF.b__law_overlaps_3)
def g__law_overlaps : S → Option RS := (seqS (setC 1 (callV mkLst aNil)) (seqS (forS (bE (aCons (op2 ixD (var 0) (kst (.int 1))) aNil) (withVals enumD)) (bTup 2 (bCons (bName 2) (bCons (bTup 2 (bCons (bName 3) (bCons (bName 4) bNil))) bNil))) PF.b__law_overlaps_4) (retS (var 1))))
def f__law_overlaps : FnD := runF 10 (g__law_overlaps)
def b_row_to_end_1 : S → Option RS := (seqS (setF 1 (callF 3 PF.f_behind (aCons (var 1) (aCons (op2 ixD (op2 ixD (var 0) (kst (.int 1))) (op2 ixD (var 3) (kst (.int 0)))) (aCons (kst (.int 1)) aNil))))) (seqS (setF 2 (op2 addD (var 2) (callV mkTup (aCons (op2 ixD (var 3) (kst (.int 0))) aNil)))) (setF 3 (callF 2 PF.f_doable (aCons (var 0) (aCons (var 1) aNil))))))
def g_row_to_end : S → Option RS := (seqS (setF 2 (callV mkTup aNil)) (seqS (setF 3 (callF 2 PF.f_doable (aCons (var 0) (aCons (var 1) aNil)))) (seqS (whS (toB (op2 neD (var 3) (callV mkLst aNil))) PF.b_row_to_end_1) (retS (var 2)))))
def f_row_to_end : FnD := runF 4 (g_row_to_end)
def g__law_two_right : S → Option RS := (seqS (ifS (orT (notT (toB (op1 (isiD "tuple") (var 1)))) (orT (toB (op2 neD (callT lenD (aCons (var 1) aNil)) (kst (.int 3)))) (notT (toB (callF 2 PF.f_is_heap (aCons (var 0) (aCons (op2 ixD (var 1) (kst (.int 0))) aNil))))))) (retS (kst (.bool false))) skip) (seqS (ifS (orT (notT (toB (callF 2 PF.f__law_is_row (aCons (var 0) (aCons (op2 ixD (var 1) (kst (.int 1))) aNil))))) (notT (toB (callF 2 PF.f__law_is_row (aCons (var 0) (aCons (op2 ixD (var 1) (kst (.int 2))) aNil)))))) (retS (kst (.bool false))) skip) (seqS (setF 2 (callF 3 PF.f__law_led (aCons (var 0) (aCons (op2 ixD (var 1) (kst (.int 0))) (aCons (op2 ixD (var 1) (kst (.int 1))) aNil))))) (seqS (setF 3 (callF 3 PF.f__law_led (aCons (var 0) (aCons (op2 ixD (var 1) (kst (.int 0))) (aCons (op2 ixD (var 1) (kst (.int 2))) aNil))))) (seqS (ifS (orT (toB (op2 isND (var 2) (kst .none))) (orT (toB (op2 isND (var 3) (kst .none))) (toB (op2 eqD (var 2) (var 3))))) (retS (kst (.bool false))) skip) (retS (andV (op2 eqD (callF 2 PF.f__law_can (aCons (var 0) (aCons (var 2) aNil))) (callV mkLst aNil)) (op2 eqD (callF 2 PF.f__law_can (aCons (var 0) (aCons (var 3) aNil))) (callV mkLst aNil)))))))))
def f__law_two_right : FnD := runF 4 (g__law_two_right)
def b_times_of_1 : S → Option RS := (ifS (toB (op2 ltD (var 5) (kst (.int 0)))) (exprS (appE 2 (op2 addD (op2 divD (op2 subD (var 3) (var 4)) (op1 negD (var 5))) (kst (.int 1))))) skip)
def g_times_of : S → Option RS := (seqS (setC 2 (callV mkLst aNil)) (seqS (forS (bE (aCons (var 0) (aCons (op2 ixD (var 1) (kst (.int 0))) (aCons (callF 1 PF.f_change_of (aCons (var 1) aNil)) aNil))) (withVals zip3D)) (bTup 3 (bCons (bName 3) (bCons (bName 4) (bCons (bName 5) bNil)))) PF.b_times_of_1) (retS (callT minD (aCons (var 2) aNil)))))
def f_times_of : FnD := runF 6 (g_times_of)
def b_end_of_1 : S → Option RS := (seqS (ifS (toB (op2 geD (var 2) (kst (.int 10000)))) (raiseXS "TooMany" "limit" (kst (.int 10000))) skip) (seqS (setF 4 (op2 ixD (op2 ixD (var 0) (kst (.int 1))) (op2 ixD (var 3) (kst (.int 0))))) (seqS (setF 1 (callF 3 PF.f_behind (aCons (var 1) (aCons (var 4) (aCons (callF 2 PF.f_times_of (aCons (var 1) (aCons (var 4) aNil))) aNil))))) (seqS (setF 2 (op2 addD (var 2) (kst (.int 1)))) (setF 3 (callF 2 PF.f_doable (aCons (var 0) (aCons (var 1) aNil))))))))
def g_end_of : S → Option RS := (seqS (setF 2 (kst (.int 0))) (seqS (setF 3 (callF 2 PF.f_doable (aCons (var 0) (aCons (var 1) aNil)))) (seqS (whS (toB (op2 neD (var 3) (callV mkLst aNil))) PF.b_end_of_1) (retS (var 1)))))
def f_end_of : FnD := runF 5 (g_end_of)
def c_step_1 : S → Option (R EV) := lcE [7] (bE (aCons (var 2) (aCons (callT lenD (aCons (var 0) aNil)) aNil)) (withVals range2D)) (bName 7) (toB (op2 neD (op2 ixD (op2 ixD (var 0) (var 7)) (var 1)) (kst (.int 0)))) (var 7)
def c_step_2 : S → Option (R EV) := lcE [7] (bE (fz (var 3)) (asD listD)) (bName 7) yesT (callV mkTup (aCons (callT absD (aCons (op2 ixD (op2 ixD (var 0) (var 7)) (var 1)) aNil)) (aCons (var 7) aNil)))
def c_step_3 : S → Option (R EV) := lcE [10, 11] (bE (aCons (var 8) (aCons (var 5) aNil)) (withVals zipD)) (bTup 2 (bCons (bName 10) (bCons (bName 11) bNil))) yesT (op2 subD (var 10) (op2 mulD (var 9) (var 11)))
def b_step_4 : S → Option RS := (seqS (ifS (andT (toB (op2 geD (var 7) (var 2))) (toB (op2 neD (var 7) (var 4)))) (seqS (setF 9 (op2 fdivD (op2 ixD (var 8) (var 1)) (op2 ixD (var 5) (var 1)))) (setF 8 PF.c_step_3)) skip) (exprS (appE 6 (var 8))))
def c_step_5 : S → Option (R EV) := lcE [7] (bE (aCons (op2 addD (var 2) (kst (.int 1))) (aCons (callT lenD (aCons (var 0) aNil)) aNil)) (withVals range2D)) (bName 7) (toB (op2 neD (op2 ixD (op2 ixD (var 0) (var 7)) (var 1)) (kst (.int 0)))) (var 7)
def b_step_6 : S → Option RS := (seqS (setF 3 PF.c_step_1) (seqS (ifS (toB (op2 eqD (var 3) (callV mkLst aNil))) (retS (var 0)) skip) (seqS (setF 4 (op2 ixD (callT minTD (aCons PF.c_step_2 aNil)) (kst (.int 1)))) (seqS (setF 5 (op2 ixD (var 0) (var 4))) (seqS (setC 6 (callV mkLst aNil)) (seqS (forS (bE (aCons (var 0) aNil) (withVals enumD)) (bTup 2 (bCons (bName 7) (bCons (bName 8) bNil))) PF.b_step_4) (seqS (setF 0 (op2 addD (op2 addD (op2 addD (slE (var 6) noP (someP (var 2))) (callV mkLst (aCons (var 5) aNil))) (slE (var 6) (someP (var 2)) (someP (var 4)))) (slE (var 6) (someP (op2 addD (var 4) (kst (.int 1)))) noP))) (ifS (toB (op2 eqD PF.c_step_5 (callV mkLst aNil))) (retS (var 0)) skip))))))))
def g_step : S → Option RS := (whS (toB (kst (.bool true))) PF.b_step_6)
def f_step : FnD := runF 12 (g_step)
def b_echelon_1 : S → Option RS := (seqS (setF 0 (callF 3 PF.f_step (aCons (var 0) (aCons (var 3) (aCons (var 2) aNil))))) (ifS (andT (toB (op2 ltD (var 2) (callT lenD (aCons (var 0) aNil)))) (toB (op2 neD (op2 ixD (op2 ixD (var 0) (var 2)) (var 3)) (kst (.int 0))))) (setF 2 (op2 addD (var 2) (kst (.int 1)))) skip))
def g_echelon : S → Option RS := (seqS (setF 2 (kst (.int 0))) (seqS (forS (bE (aCons (var 1) aNil) (withVals range1D)) (bName 3) PF.b_echelon_1) (retS (callV mkTup (aCons (var 0) (aCons (var 2) aNil))))))
def f_echelon : FnD := runF 4 (g_echelon)
def c_least_basis_1 : S → Option (R EV) := lcE [9] (bE (aCons (var 1) aNil) (withVals range1D)) (bName 9) (toB (op2 neD (op2 ixD (var 4) (var 9)) (kst (.int 0)))) (var 9)
def c_least_basis_2 : S → Option (R EV) := lcE [10] (bE (fz (var 4)) (asD listD)) (bName 10) yesT (op1 negD (var 10))
def c_least_basis_3 : S → Option (R EV) := lcE [11, 12] (bE (aCons (var 7) (aCons (var 4) aNil)) (withVals zipD)) (bTup 2 (bCons (bName 11) (bCons (bName 12) bNil))) yesT (op2 subD (var 11) (op2 mulD (var 8) (var 12)))
def b_least_basis_4 : S → Option RS := (seqS (setF 8 (op2 divD (op2 ixD (var 7) (var 5)) (op2 ixD (var 4) (var 5)))) (exprS (appE 6 PF.c_least_basis_3)))
def b_least_basis_5 : S → Option RS := (seqS (setF 5 (op2 ixD PF.c_least_basis_1 (kst (.int 0)))) (seqS (setF 4 (ifV (toB (op2 ltD (op2 ixD (var 4) (var 5)) (kst (.int 0)))) PF.c_least_basis_2 (var 4))) (seqS (setC 6 (callV mkLst aNil)) (seqS (forS (bE (fz (var 3)) (asD listD)) (bName 7) PF.b_least_basis_4) (setF 3 (op2 addD (var 6) (callV mkLst (aCons (var 4) aNil))))))))
def g_least_basis : S → Option RS := (seqS (ifS (toB (op2 eqD (var 0) (callV mkLst aNil))) (retS (callV mkLst aNil)) skip) (seqS (setF 1 (callT lenD (aCons (op2 ixD (var 0) (kst (.int 0))) aNil))) (seqS (asgS (bTup 2 (bCons (bName 0) (bCons (bName 2) bNil))) (callF 2 PF.f_echelon (aCons (var 0) (aCons (var 1) aNil)))) (seqS (setF 3 (callV mkLst aNil)) (seqS (forS (bE (fz (slE (var 0) noP (someP (var 2)))) (asD listD)) (bName 4) PF.b_least_basis_5) (retS (var 3)))))))
def f_least_basis : FnD := runF 13 (g_least_basis)
def c_basis_of_1 : S → Option (R EV) := lcE [5] (bE (fz (op2 ixD (var 0) (kst (.int 1)))) (asD tupD)) (bName 5) yesT (callF 1 PF.f_change_of (aCons (var 5) aNil))
def c_basis_of_2 : S → Option (R EV) := lcE [6] (bE (fz (var 1)) (asD listD)) (bName 6) yesT (op2 ixD (var 6) (var 3))
def c_basis_of_3 : S → Option (R EV) := lcE [7] (bE (aCons (op2 ixD (var 0) (kst (.int 0))) aNil) (withVals range1D)) (bName 7) yesT (ifV (toB (op2 eqD (var 7) (var 3))) (kst (.int 1)) (kst (.int 0)))
def b_basis_of_4 : S → Option RS := (exprS (appE 2 (op2 addD PF.c_basis_of_2 PF.c_basis_of_3)))
def c_basis_of_5 : S → Option (R EV) := lcE [8] (bE (fz (slE (var 2) (someP (var 4)) noP)) (asD listD)) (bName 8) yesT (slE (var 8) (someP (callT lenD (aCons (var 1) aNil))) noP)
def c_basis_of_6 : S → Option (R EV) := lcE [8] (bE (fz (callF 1 PF.f_least_basis (aCons PF.c_basis_of_5 aNil))) (asD listD)) (bName 8) yesT (callT tupleD (aCons (var 8) aNil))
def g_basis_of : S → Option RS := (seqS (setF 1 PF.c_basis_of_1) (seqS (setC 2 (callV mkLst aNil)) (seqS (forS (bE (aCons (op2 ixD (var 0) (kst (.int 0))) aNil) (withVals range1D)) (bName 3) PF.b_basis_of_4) (seqS (asgS (bTup 2 (bCons (bName 2) (bCons (bName 4) bNil))) (callF 2 PF.f_echelon (aCons (varF 2) (aCons (callT lenD (aCons (var 1) aNil)) aNil)))) (retS PF.c_basis_of_6)))))
def f_basis_of : FnD := runF 9 (g_basis_of)
def c_sum_by_1 : S → Option (R EV) := lcE [2, 3] (bE (aCons (var 0) (aCons (var 1) aNil)) (withVals zipD)) (bTup 2 (bCons (bName 2) (bCons (bName 3) bNil))) yesT (op2 mulD (var 2) (var 3))
def g_sum_by : S → Option RS := (retS (callT sumD (aCons PF.c_sum_by_1 aNil)))
def f_sum_by : FnD := runF 4 (g_sum_by)
def c_agree_1 : S → Option (R EV) := lcE [3] (bE (fz (callF 1 PF.f_basis_of (aCons (var 0) aNil))) (asD listD)) (bName 3) yesT (op2 eqD (callF 2 PF.f_sum_by (aCons (var 3) (aCons (var 1) aNil))) (callF 2 PF.f_sum_by (aCons (var 3) (aCons (var 2) aNil))))
def g_agree : S → Option RS := (seqS (exprS (callF 1 PF.f_need_book (aCons (var 0) aNil))) (seqS (exprS (callF 2 PF.f_need_heap (aCons (var 0) (aCons (var 1) aNil)))) (seqS (exprS (callF 2 PF.f_need_heap (aCons (var 0) (aCons (var 2) aNil)))) (retS (callT allD (aCons PF.c_agree_1 aNil))))))
def f_agree : FnD := runF 4 (g_agree)
def g_kept_sums : S → Option RS := (seqS (exprS (callF 1 PF.f_need_book (aCons (var 0) aNil))) (retS (callF 1 PF.f_basis_of (aCons (var 0) aNil))))
def f_kept_sums : FnD := runF 1 (g_kept_sums)
def c_is_kept_1 : S → Option (R EV) := lcE [2] (bE (fz (var 1)) (asD tupD)) (bName 2) yesT (andV (op1 (isiD "int") (var 2)) (notV (op1 (isiD "bool") (var 2))))
def c_is_kept_2 : S → Option (R EV) := lcE [3] (bE (fz (op2 ixD (var 0) (kst (.int 1)))) (asD tupD)) (bName 3) yesT (op2 eqD (callF 2 PF.f_sum_by (aCons (var 1) (aCons (callF 1 PF.f_change_of (aCons (var 3) aNil)) aNil))) (kst (.int 0)))
def g_is_kept : S → Option RS := (seqS (exprS (callF 1 PF.f_need_book (aCons (var 0) aNil))) (seqS (ifS (orT (notT (toB (op1 (isiD "tuple") (var 1)))) (toB (op2 neD (callT lenD (aCons (var 1) aNil)) (op2 ixD (var 0) (kst (.int 0)))))) (raiseS ⟨"InvalidPaper", none⟩) skip) (seqS (ifS (notT (toB (callT allD (aCons PF.c_is_kept_1 aNil)))) (raiseS ⟨"InvalidPaper", none⟩) skip) (retS (callT allD (aCons PF.c_is_kept_2 aNil))))))
def f_is_kept : FnD := runF 4 (g_is_kept)
def c__law_is_kept_1 : S → Option (R EV) := lcE [3, 4] (bE (aCons (var 1) (aCons (callF 1 PF.f__law_change (aCons (var 2) aNil)) aNil)) (withVals zipD)) (bTup 2 (bCons (bName 3) (bCons (bName 4) bNil))) yesT (op2 mulD (var 3) (var 4))
def b__law_is_kept_2 : S → Option RS := (ifS (toB (op2 neD (callT sumD (aCons PF.c__law_is_kept_1 aNil)) (kst (.int 0)))) (retS (kst (.bool false))) skip)
def g__law_is_kept : S → Option RS := (seqS (forS (bE (fz (op2 ixD (var 0) (kst (.int 1)))) (asD tupD)) (bName 2) PF.b__law_is_kept_2) (retS (kst (.bool true))))
def f__law_is_kept : FnD := runF 5 (g__law_is_kept)
def c__law_first_1 : S → Option (R EV) := lcE [1, 2] (bE (aCons (var 0) aNil) (withVals enumD)) (bTup 2 (bCons (bName 1) (bCons (bName 2) bNil))) (toB (op2 neD (var 2) (kst (.int 0)))) (var 1)
def g__law_first : S → Option RS := (retS (op2 ixD PF.c__law_first_1 (kst (.int 0))))
def f__law_first : FnD := runF 3 (g__law_first)
def c__law_in_steps_1 : S → Option (R EV) := lcE [5] (bE (fz (var 4)) (asD tupD)) (bName 5) (notT (toB (callF 3 PF.f__law_from (aCons (var 5) (aCons (op1 negD (op2 powD (kst (.int 10)) (kst (.int 9)))) (aCons (op2 powD (kst (.int 10)) (kst (.int 9))) aNil)))))) (var 5)
def c__law_in_steps_2 : S → Option (R EV) := lcE [6] (bE (fz (var 4)) (asD tupD)) (bName 6) yesT (callT absD (aCons (var 6) aNil))
def c__law_in_steps_3 : S → Option (R EV) := lcE [7] (bE (fz (slE (var 0) noP (someP (var 3)))) (asD listD)) (bName 7) (notT (toB (chain leD ltD (kst (.int 0)) (op2 ixD (var 7) (var 2)) (op2 ixD (var 4) (var 2))))) (var 7)
def b__law_in_steps_4 : S → Option RS := (seqS (ifS (orT (notT (toB (op1 (isiD "tuple") (var 4)))) (toB (op2 neD (callT lenD (aCons (var 4) aNil)) (var 1)))) (retS (kst (.bool false))) skip) (seqS (ifS (toB (op2 neD PF.c__law_in_steps_1 (callV mkLst aNil))) (retS (kst (.bool false))) skip) (seqS (ifS (orT (toB (op2 eqD (callT sumD (aCons PF.c__law_in_steps_2 aNil)) (kst (.int 0)))) (orT (toB (op2 leD (callF 1 PF.f__law_first (aCons (var 4) aNil)) (var 2))) (toB (op2 ltD (op2 ixD (var 4) (callF 1 PF.f__law_first (aCons (var 4) aNil))) (kst (.int 1)))))) (retS (kst (.bool false))) skip) (seqS (setF 2 (callF 1 PF.f__law_first (aCons (var 4) aNil))) (ifS (toB (op2 neD PF.c__law_in_steps_3 (callV mkLst aNil))) (retS (kst (.bool false))) skip)))))
def g__law_in_steps : S → Option RS := (seqS (setF 2 (op1 negD (kst (.int 1)))) (seqS (forS (bE (aCons (var 0) aNil) (withVals enumD)) (bTup 2 (bCons (bName 3) (bCons (bName 4) bNil))) PF.b__law_in_steps_4) (retS (kst (.bool true)))))
def f__law_in_steps : FnD := runF 8 (g__law_in_steps)
def c__law_is_made_1 : S → Option (R EV) := lcE [5, 6] (bE (aCons (var 1) (aCons (var 2) aNil)) (withVals zipD)) (bTup 2 (bCons (bName 5) (bCons (bName 6) bNil))) yesT (op2 subD (var 5) (op2 mulD (var 4) (var 6)))
def b__law_is_made_2 : S → Option RS := (seqS (setF 3 (callF 1 PF.f__law_first (aCons (var 2) aNil))) (seqS (setF 4 (op2 divD (op2 ixD (var 1) (var 3)) (op2 ixD (var 2) (var 3)))) (setF 1 (callT tupleD (aCons PF.c__law_is_made_1 aNil)))))
def c__law_is_made_3 : S → Option (R EV) := lcE [5] (bE (fz (var 1)) (asD tupD)) (bName 5) yesT (callT absD (aCons (var 5) aNil))
def g__law_is_made : S → Option RS := (seqS (forS (bE (fz (var 0)) (asD listD)) (bName 2) PF.b__law_is_made_2) (retS (op2 eqD (callT sumD (aCons PF.c__law_is_made_3 aNil)) (kst (.int 0)))))
def f__law_is_made : FnD := runF 7 (g__law_is_made)
def c__law_small_sums_1 : S → Option (R EV) := lcE [5] (bE (fz (var 1)) (asD listD)) (bName 5) yesT (op2 addD (var 5) (callV mkTup (aCons (var 4) aNil)))
def b__law_small_sums_2 : S → Option RS := (setF 3 (op2 addD (var 3) PF.c__law_small_sums_1))
def b__law_small_sums_3 : S → Option RS := (seqS (setF 3 (callV mkLst aNil)) (seqS (forS (bE (aCons (op1 negD (kst (.int 3))) (aCons (kst (.int 4)) aNil)) (withVals range2D)) (bName 4) PF.b__law_small_sums_2) (setF 1 (var 3))))
def g__law_small_sums : S → Option RS := (seqS (setF 1 (callV mkLst (aCons (callV mkTup aNil) aNil))) (seqS (forS (bE (aCons (var 0) aNil) (withVals range1D)) (bName 2) PF.b__law_small_sums_3) (retS (var 1))))
def f__law_small_sums : FnD := runF 6 (g__law_small_sums)
def c__law_right_6_1 : S → Option (R EV) := lcE [11] (bE (fz (var 2)) (asD listD)) (bName 11) (notT (toB (callF 2 PF.f__law_is_kept (aCons (var 1) (aCons (var 11) aNil))))) (var 11)
def b__law_right_6_2 : S → Option RS := (seqS (setF 4 (callF 2 PF.f__law_is_kept (aCons (var 1) (aCons (var 3) aNil)))) (ifS (orT (toB (op2 neD (callF 2 PF.f_is_kept (aCons (var 1) (aCons (var 3) aNil))) (var 4))) (andT (toB (var 4)) (notT (toB (callF 2 PF.f__law_is_made (aCons (var 2) (aCons (var 3) aNil))))))) (retS (kst (.bool false))) skip))
def c__law_right_6_3 : S → Option (R EV) := lcE [12, 13] (bE (aCons (var 6) (aCons (var 7) aNil)) (withVals zipD)) (bTup 2 (bCons (bName 12) (bCons (bName 13) bNil))) yesT (op2 subD (var 12) (var 13))
def c__law_right_6_4 : S → Option (R EV) := lcE [14, 15] (bE (aCons (var 11) (aCons (var 9) aNil)) (withVals zipD)) (bTup 2 (bCons (bName 14) (bCons (bName 15) bNil))) yesT (op2 mulD (var 14) (var 15))
def c__law_right_6_5 : S → Option (R EV) := lcE [11] (bE (fz (var 2)) (asD listD)) (bName 11) (toB (op2 neD (callT sumD (aCons PF.c__law_right_6_4 aNil)) (kst (.int 0)))) (var 11)
def b__law_right_6_6 : S → Option RS := (seqS (parS 6 7 (callF 3 PF.f__law_heap (aCons (var 0) (aCons (op2 ixD (var 1) (kst (.int 0))) (aCons (kst (.int 4)) aNil)))) (callF 3 PF.f__law_heap (aCons (var 0) (aCons (op2 ixD (var 1) (kst (.int 0))) (aCons (kst (.int 4)) aNil))))) (seqS (setF 8 (callF 2 PF.f__law_can (aCons (var 1) (aCons (var 6) aNil)))) (seqS (ifS (andT (toB (op2 neD (var 8) (callV mkLst aNil))) (notT (toB (callF 3 PF.f_agree (aCons (var 1) (aCons (var 6) (aCons (callF 3 PF.f__law_after (aCons (var 1) (aCons (var 6) (aCons (op2 ixD (var 8) (kst (.int 0))) aNil)))) aNil))))))) (retS (kst (.bool false))) skip) (seqS (setF 9 (callT tupleD (aCons PF.c__law_right_6_3 aNil))) (seqS (setF 10 (op2 eqD PF.c__law_right_6_5 (callV mkLst aNil))) (ifS (toB (op2 neD (callF 3 PF.f_agree (aCons (var 1) (aCons (var 6) (aCons (var 7) aNil)))) (var 10))) (retS (kst (.bool false))) skip))))))
def g__law_right_6 : S → Option RS := (seqS (setF 2 (callF 1 PF.f_kept_sums (aCons (var 1) aNil))) (seqS (ifS (orT (notT (toB (op1 (isiD "list") (var 2)))) (notT (toB (callF 2 PF.f__law_in_steps (aCons (var 2) (aCons (op2 ixD (var 1) (kst (.int 0))) aNil)))))) (retS (kst (.bool false))) skip) (seqS (ifS (toB (op2 neD PF.c__law_right_6_1 (callV mkLst aNil))) (retS (kst (.bool false))) skip) (seqS (forS (bE (fz (callF 1 PF.f__law_small_sums (aCons (op2 ixD (var 1) (kst (.int 0))) aNil))) (asD listD)) (bName 3) PF.b__law_right_6_2) (seqS (forS (bE (aCons (kst (.int 4)) aNil) (withVals range1D)) (bName 5) PF.b__law_right_6_6) (retS (kst (.bool true))))))))
def f__law_right_6 : FnD := runF 16 (g__law_right_6)
def G__law_word_2 (f : Addr) (φ : LamF) : S → Option RS := (seqS (setF 1 (kst (.str ""))) (seqS (tryS ["InvalidPaper", "InvalidHeap"] (exprS (actE f φ)) [("InvalidPaper", (setF 1 (kst (.str "paper")))), ("InvalidHeap", (setF 1 (kst (.str "heap"))))]) (retS (var 1))))
def R__law_word_2 : LamF → LamF := fun φ st => finF st.length (G__law_word_2 0 φ ⟨.val (fnD 0) :: List.replicate 1 .un, st⟩)
def b_law_k09_1 (ns : List Int) : S → Option RS := (seqS (setF 4 (callF 2 PF.f__law_book (aCons (var 2) (aCons (kst (.int 3)) aNil)))) (ifS (notT (toB (callF 2 PF.f__law_right_6 (aCons (var 2) (aCons (var 4) aNil))))) (retS (kst (.bool false))) skip))
def l_law_k09_2 (ns : List Int) : S → Option (R EV) := lamE PF.R__law_word_2 (callF 2 PF.f_is_kept (aCons (var 4) (aCons (var 6) aNil)))
def l_law_k09_3 (ns : List Int) : S → Option (R EV) := lamE PF.R__law_word_2 (callF 3 PF.f_agree (aCons (var 4) (aCons (var 6) (aCons (kst .none) aNil))))
def l_law_k09_4 (ns : List Int) : S → Option (R EV) := lamE PF.R__law_word_2 (callF 3 PF.f_agree (aCons (var 4) (aCons (var 5) (aCons (var 6) aNil))))
def b_law_k09_5 (ns : List Int) : S → Option RS := (seqS (ifS (toB (op2 neD (PF.l_law_k09_2 ns) (kst (.str "paper")))) (retS (kst (.bool false))) skip) (seqS (ifS (toB (op2 neD (PF.l_law_k09_3 ns) (kst (.str "heap")))) (retS (kst (.bool false))) skip) (ifS (toB (op2 neD (PF.l_law_k09_4 ns) (kst (.str "heap")))) (retS (kst (.bool false))) skip)))
def b_law_k09_6 (ns : List Int) : S → Option RS := (seqS (setC 2 (callF 2 (PF.f__law_source ns) (aScr 0 (aCons (var 1) aNil)))) (seqS (forS (bE (aCons (kst (.int 2)) aNil) (withVals range1D)) (bName 3) (PF.b_law_k09_1 ns)) (seqS (setF 5 (op2 mulD (callV mkTup (aCons (kst (.int 0)) aNil)) (op2 ixD (var 4) (kst (.int 0))))) (forS (bE (fz (callV mkLst (aCons (kst .none) (aCons (callT listD2 (aCons (var 5) aNil)) (aCons (op2 addD (var 5) (callV mkTup (aCons (kst (.int 0)) aNil))) (aCons (op2 mulD (callV mkTup (aCons (kst (.str "0")) aNil)) (op2 ixD (var 4) (kst (.int 0)))) (aCons (op2 mulD (callV mkTup (aCons (kst (.bool true)) aNil)) (op2 ixD (var 4) (kst (.int 0)))) aNil))))))) (asD listD)) (bName 6) (PF.b_law_k09_5 ns)))))
def c_law_k09_7 (ns : List Int) : S → Option (R EV) := lcE [4] (bE (fz (callV mkLst (aCons (var 7) (aCons (var 8) (aCons (var 9) (aCons (var 10) (aCons (var 11) aNil))))))) (asD listD)) (bName 4) yesT (callF 1 PF.f_kept_sums (aCons (var 4) aNil))
def g_law_k09 (ns : List Int) : S → Option RS := (seqS (forS (bE (aCons (op2 addD (kst (.int 1)) (callT minD (aCons (lenScr 0 ns) (aCons (kst (.int 8)) aNil)))) aNil) (withVals range1D)) (bName 1) (PF.b_law_k09_6 ns)) (seqS (asgS (bTup 2 (bCons (bName 7) (bCons (bName 8) bNil))) (callV mkTup (aCons (callV mkTup (aCons (kst (.int 2)) (aCons (callV mkTup (aCons (callV mkTup (aCons (callV mkTup (aCons (kst (.int 2)) (aCons (kst (.int 0)) aNil))) (aCons (callV mkTup (aCons (kst (.int 0)) (aCons (kst (.int 1)) aNil))) aNil))) aNil)) aNil))) (aCons (callV mkTup (aCons (kst (.int 2)) (aCons (callV mkTup (aCons (callV mkTup (aCons (callV mkTup (aCons (kst (.int 2)) (aCons (kst (.int 0)) aNil))) (aCons (callV mkTup (aCons (kst (.int 0)) (aCons (kst (.int 1)) aNil))) aNil))) (aCons (callV mkTup (aCons (callV mkTup (aCons (kst (.int 0)) (aCons (kst (.int 2)) aNil))) (aCons (callV mkTup (aCons (kst (.int 1)) (aCons (kst (.int 0)) aNil))) aNil))) aNil))) aNil))) aNil)))) (seqS (setF 9 (callV mkTup (aCons (kst (.int 3)) (aCons (callV mkTup (aCons (callV mkTup (aCons (callV mkTup (aCons (kst (.int 1)) (aCons (kst (.int 1)) (aCons (kst (.int 0)) aNil)))) (aCons (callV mkTup (aCons (kst (.int 0)) (aCons (kst (.int 0)) (aCons (kst (.int 1)) aNil)))) aNil))) (aCons (callV mkTup (aCons (callV mkTup (aCons (kst (.int 1)) (aCons (kst (.int 0)) (aCons (kst (.int 1)) aNil)))) (aCons (callV mkTup (aCons (kst (.int 0)) (aCons (kst (.int 1)) (aCons (kst (.int 0)) aNil)))) aNil))) aNil))) aNil)))) (seqS (asgS (bTup 2 (bCons (bName 10) (bCons (bName 11) bNil))) (callV mkTup (aCons (callV mkTup (aCons (kst (.int 4)) (aCons (callV mkTup (aCons (callV mkTup (aCons (callV mkTup (aCons (kst (.int 6)) (aCons (kst (.int 0)) (aCons (kst (.int 0)) (aCons (kst (.int 0)) aNil))))) (aCons (callV mkTup (aCons (kst (.int 0)) (aCons (kst (.int 4)) (aCons (kst (.int 0)) (aCons (kst (.int 0)) aNil))))) aNil))) aNil)) aNil))) (aCons (callV mkTup (aCons (kst (.int 3)) (aCons (callV mkTup (aCons (callV mkTup (aCons (callV mkTup (aCons (kst (.int 2)) (aCons (kst (.int 0)) (aCons (kst (.int 0)) aNil)))) (aCons (callV mkTup (aCons (kst (.int 0)) (aCons (kst (.int 1)) (aCons (kst (.int 1)) aNil)))) aNil))) aNil)) aNil))) aNil)))) (seqS (setF 12 (PF.c_law_k09_7 ns)) (seqS (setF 13 (callV mkLst (aCons (callV mkLst (aCons (callV mkTup (aCons (kst (.int 1)) (aCons (kst (.int 2)) aNil))) aNil)) (aCons (callV mkLst aNil) (aCons (callV mkLst (aCons (callV mkTup (aCons (kst (.int 0)) (aCons (kst (.int 1)) (aCons (kst (.int 1)) aNil)))) aNil)) (aCons (callV mkLst (aCons (callV mkTup (aCons (kst (.int 2)) (aCons (kst (.int 3)) (aCons (kst (.int 0)) (aCons (kst (.int 0)) aNil))))) (aCons (callV mkTup (aCons (kst (.int 0)) (aCons (kst (.int 0)) (aCons (kst (.int 1)) (aCons (kst (.int 0)) aNil))))) (aCons (callV mkTup (aCons (kst (.int 0)) (aCons (kst (.int 0)) (aCons (kst (.int 0)) (aCons (kst (.int 1)) aNil))))) aNil)))) (aCons (callV mkLst (aCons (callV mkTup (aCons (kst (.int 1)) (aCons (kst (.int 0)) (aCons (kst (.int 2)) aNil)))) (aCons (callV mkTup (aCons (kst (.int 0)) (aCons (kst (.int 1)) (aCons (op1 negD (kst (.int 1))) aNil)))) aNil))) aNil))))))) (seqS (ifS (orT (toB (op2 neD (var 12) (var 13))) (orT (notT (toB (callF 3 PF.f_agree (aCons (var 8) (aCons (callV mkTup (aCons (kst (.int 7)) (aCons (kst (.int 0)) aNil))) (aCons (callV mkTup (aCons (kst (.int 0)) (aCons (kst (.int 0)) aNil))) aNil)))))) (toB (callF 3 PF.f_agree (aCons (var 7) (aCons (callV mkTup (aCons (kst (.int 1)) (aCons (kst (.int 0)) aNil))) (aCons (callV mkTup (aCons (kst (.int 0)) (aCons (kst (.int 1)) aNil))) aNil))))))) (retS (kst (.bool false))) skip) (seqS (ifS (notT (toB (callF 3 PF.f_agree (aCons (var 7) (aCons (callV mkTup (aCons (kst (.int 2)) (aCons (kst (.int 0)) aNil))) (aCons (callV mkTup (aCons (kst (.int 0)) (aCons (kst (.int 1)) aNil))) aNil)))))) (retS (kst (.bool false))) skip) (seqS (ifS (orT (toB (op2 notBD (callF 2 PF.f_is_kept (aCons (var 7) (aCons (callV mkTup (aCons (kst (.int 2)) (aCons (kst (.int 4)) aNil))) aNil))) (kst (.bool true)))) (toB (op2 notBD (callF 2 PF.f_is_kept (aCons (var 9) (aCons (callV mkTup (aCons (kst (.int 1)) (aCons (kst (.int 1)) (aCons (kst (.int 1)) aNil)))) aNil))) (kst (.bool false))))) (retS (kst (.bool false))) skip) (retS (op2 eqD (callF 1 PF.f_kept_sums (aCons (callV mkTup (aCons (kst (.int 1)) (aCons (callV mkTup (aCons (callV mkTup (aCons (callV mkTup (aCons (kst (.int 1)) aNil)) (aCons (callV mkTup (aCons (kst (.int 2)) aNil)) aNil))) aNil)) aNil))) aNil)) (callV mkLst aNil))))))))))))
def f_law_k09 (ns : List Int) : FnD := runF 14 (g_law_k09 ns)
def c_need_offers_1 : S → Option (R EV) := lcE [4] (bE (fz (var 1)) (asD tupD)) (bName 4) yesT (callF 2 PF.f_has_rule (aCons (var 2) (aCons (var 4) aNil)))
def g_need_offers : S → Option RS := (seqS (asgS (bTup 2 (bCons (bName 2) (bCons (bName 3) bNil))) (var 0)) (seqS (ifS (orT (notT (toB (op1 (isiD "tuple") (var 1)))) (orT (toB (op2 gtD (callT lenD (aCons (var 1) aNil)) (kst (.int 4)))) (notT (toB (callT allD (aCons PF.c_need_offers_1 aNil)))))) (raiseS ⟨"InvalidOffers", none⟩) skip) (ifS (notT (toB (callF 1 PF.f_is_unlike (aCons (op2 addD (var 3) (var 1)) aNil)))) (raiseS ⟨"InvalidOffers", none⟩) skip)))
def f_need_offers : FnD := runF 5 (g_need_offers)
def c__law_lots_1 : S → Option (R EV) := lcE [3] (bE (fz (var 1)) (asD listD)) (bName 3) yesT (op2 addD (var 3) (callV mkTup (aCons (var 2) aNil)))
def b__law_lots_2 : S → Option RS := (setF 1 (op2 addD (var 1) PF.c__law_lots_1))
def g__law_lots : S → Option RS := (seqS (setF 1 (callV mkLst (aCons (callV mkTup aNil) aNil))) (seqS (forS (bE (aCons (var 0) aNil) (withVals range1D)) (bName 2) PF.b__law_lots_2) (retS (var 1))))
def f__law_lots : FnD := runF 4 (g__law_lots)
def c_rest_of_1 : S → Option (R EV) := lcE [2, 3] (bE (aCons (op2 ixD (var 0) (kst (.int 1))) aNil) (withVals enumD)) (bTup 2 (bCons (bName 2) (bCons (bName 3) bNil))) (toB (op2 notInD (var 2) (var 1))) (var 3)
def g_rest_of : S → Option RS := (retS (callV mkTup (aCons (op2 ixD (var 0) (kst (.int 0))) (aCons (callT tupleD (aCons PF.c_rest_of_1 aNil)) aNil))))
def f_rest_of : FnD := runF 4 (g_rest_of)
def g_need_like : S → Option RS := (ifS (toB (op2 neD (op2 ixD (var 0) (kst (.int 0))) (op2 ixD (var 1) (kst (.int 0))))) (raiseS ⟨"Unlike", none⟩) skip)
def f_need_like : FnD := runF 2 (g_need_like)
def c_is_left_1 : S → Option (R EV) := lcE [2] (bE (fz (op2 ixD (var 0) (kst (.int 1)))) (asD tupD)) (bName 2) yesT (callF 2 PF.f_is_within (aCons (op2 ixD (var 2) (kst (.int 0))) (aCons (var 1) aNil)))
def g_is_left : S → Option RS := (retS (notV (callT anyD (aCons PF.c_is_left_1 aNil))))
def f_is_left : FnD := runF 3 (g_is_left)
def b_heap_between_1 : S → Option RS := (ifS (toB (callF 2 PF.f_is_left (aCons (var 3) (aCons (var 4) aNil)))) (retS (var 4)) skip)
def b_heap_between_2 : S → Option RS := (forS (bE (fz (op2 ixD (var 2) (kst (.int 1)))) (asD tupD)) (bTup 2 (bCons (bName 4) (bCons (bName 5) bNil))) PF.b_heap_between_1)
def b_heap_between_3 : S → Option RS := (ifS (toB (op2 neD (callF 2 PF.f_end_of (aCons (var 3) (aCons (var 4) aNil))) (callF 2 PF.f_end_of (aCons (var 3) (aCons (var 5) aNil))))) (retS (ifV (toB (op2 neD (callF 2 PF.f_end_of (aCons (var 2) (aCons (var 4) aNil))) (callF 2 PF.f_end_of (aCons (var 3) (aCons (var 4) aNil))))) (var 4) (var 5))) skip)
def b_heap_between_4 : S → Option RS := (forS (bE (fz (op2 ixD (var 2) (kst (.int 1)))) (asD tupD)) (bTup 2 (bCons (bName 4) (bCons (bName 5) bNil))) PF.b_heap_between_3)
def g_heap_between : S → Option RS := (seqS (forS (bE (fz (callV mkTup (aCons (callV mkTup (aCons (var 0) (aCons (var 1) aNil))) (aCons (callV mkTup (aCons (var 1) (aCons (var 0) aNil))) aNil)))) (asD tupD)) (bTup 2 (bCons (bName 2) (bCons (bName 3) bNil))) PF.b_heap_between_2) (seqS (forS (bE (fz (callV mkTup (aCons (callV mkTup (aCons (var 0) (aCons (var 1) aNil))) (aCons (callV mkTup (aCons (var 1) (aCons (var 0) aNil))) aNil)))) (asD tupD)) (bTup 2 (bCons (bName 2) (bCons (bName 3) bNil))) PF.b_heap_between_4) (retS (kst .none))))
def f_heap_between : FnD := runF 6 (g_heap_between)
def c__law_near_1 : S → Option (R EV) := lcE [8] (bE (fz (var 6)) (asD tupD)) (bName 8) yesT (callT minD (aCons (kst (.int 6)) (aCons (op2 addD (var 8) (kst (.int 1))) aNil)))
def c__law_near_2 : S → Option (R EV) := lcE [8] (bE (fz (var 5)) (asD tupD)) (bName 8) yesT (callT minD (aCons (kst (.int 6)) (aCons (op2 addD (var 8) (kst (.int 1))) aNil)))
def g__law_near : S → Option RS := (seqS (asgS (bTup 2 (bCons (bName 2) (bCons (bName 3) bNil))) (var 1)) (seqS (setF 4 (callF 2 PF.f__law_draw (aCons (var 0) (aCons (kst (.int 5)) aNil)))) (seqS (ifS (toB (op2 eqD (var 4) (kst (.int 0)))) (retS (callV mkTup (aCons (var 2) (aCons (op1 revD (var 3)) aNil)))) skip) (seqS (ifS (andT (toB (op2 eqD (var 4) (kst (.int 1)))) (toB (op2 gtD (callT lenD (aCons (var 3) aNil)) (kst (.int 1))))) (retS (callV mkTup (aCons (var 2) (aCons (slE (var 3) (someP (kst (.int 1))) noP) aNil)))) skip) (seqS (ifS (toB (op2 eqD (var 4) (kst (.int 2)))) (seqS (asgS (bTup 2 (bCons (bName 5) (bCons (bName 6) bNil))) (op2 ixD (var 3) (kst (.int 0)))) (seqS (setF 7 (callV mkTup (aCons (callT tupleD (aCons PF.c__law_near_2 aNil)) (aCons (callT tupleD (aCons PF.c__law_near_1 aNil)) aNil)))) (retS (ifV (andT (toB (op2 notInD (var 7) (var 3))) (toB (op2 neD (op2 ixD (var 7) (kst (.int 0))) (op2 ixD (var 7) (kst (.int 1)))))) (callV mkTup (aCons (var 2) (aCons (op2 addD (var 3) (callV mkTup (aCons (var 7) aNil))) aNil))) (var 1))))) skip) (seqS (setF 7 (callF 2 PF.f__law_rule (aCons (var 0) (aCons (var 2) aNil)))) (retS (ifV (andT (toB (op2 eqD (var 4) (kst (.int 3)))) (toB (op2 notInD (var 7) (var 3)))) (callV mkTup (aCons (var 2) (aCons (op2 addD (var 3) (callV mkTup (aCons (var 7) aNil))) aNil))) (callV mkTup (aCons (var 2) (aCons (op2 addD (callV mkTup (aCons (var 7) aNil)) (slE (var 3) (someP (kst (.int 1))) noP)) aNil)))))))))))
def f__law_near : FnD := runF 9 (g__law_near)
def c__law_heaps_1_1 : S → Option (R EV) := lcE [6] (bE (fz (var 2)) (asD listD)) (bName 6) yesT (op2 addD (var 6) (callV mkTup (aCons (var 5) aNil)))
def b__law_heaps_1_2 : S → Option RS := (setF 4 (op2 addD (var 4) PF.c__law_heaps_1_1))
def b__law_heaps_1_3 : S → Option RS := (seqS (setF 4 (callV mkLst aNil)) (seqS (forS (bE (aCons (op2 addD (var 1) (kst (.int 1))) aNil) (withVals range1D)) (bName 5) PF.b__law_heaps_1_2) (setF 2 (var 4))))
def g__law_heaps_1 : S → Option RS := (seqS (setF 2 (callV mkLst (aCons (callV mkTup aNil) aNil))) (seqS (forS (bE (aCons (var 0) aNil) (withVals range1D)) (bName 3) PF.b__law_heaps_1_3) (retS (var 2))))
def f__law_heaps_1 : FnD := runF 7 (g__law_heaps_1)
def c_counts_word_1 : S → Option (R EV) := lcE [1] (bE (fz (var 0)) (asD tupD)) (bName 1) yesT (callT strD (aCons (var 1) aNil))
def g_counts_word : S → Option RS := (retS (opM joinD (kst (.str ",")) PF.c_counts_word_1))
def f_counts_word : FnD := runF 2 (g_counts_word)
def g_rule_line : S → Option RS := (retS (op2 addD (op2 addD (op2 addD (kst (.str "rule ")) (callF 1 PF.f_counts_word (aCons (op2 ixD (var 0) (kst (.int 0))) aNil))) (kst (.str " > "))) (callF 1 PF.f_counts_word (aCons (op2 ixD (var 0) (kst (.int 1))) aNil))))
def f_rule_line : FnD := runF 1 (g_rule_line)
def c_book_lines_1 : S → Option (R EV) := lcE [1] (bE (fz (op2 ixD (var 0) (kst (.int 1)))) (asD tupD)) (bName 1) yesT (callF 1 PF.f_rule_line (aCons (var 1) aNil))
def g_book_lines : S → Option RS := (retS (op2 addD (callV mkLst (aCons (op2 addD (kst (.str "kinds ")) (callT strD (aCons (op2 ixD (var 0) (kst (.int 0))) aNil))) aNil)) PF.c_book_lines_1))
def f_book_lines : FnD := runF 2 (g_book_lines)
def g_book_text : S → Option RS := (seqS (exprS (callF 1 PF.f_need_book (aCons (var 0) aNil))) (retS (opM joinD (kst (.str "\n")) (callF 1 PF.f_book_lines (aCons (var 0) aNil)))))
def f_book_text : FnD := runF 1 (g_book_text)
def c_read_counts_1 : S → Option (R EV) := lcE [2] (bE (fz (var 1)) (asD listD)) (bName 2) yesT (op2 inD (var 2) (kst (.tuple [(.str "0"), (.str "1"), (.str "2"), (.str "3"), (.str "4"), (.str "5"), (.str "6")])))
def c_read_counts_2 : S → Option (R EV) := lcE [2] (bE (fz (var 1)) (asD listD)) (bName 2) yesT (callT intD (aCons (var 2) aNil))
def g_read_counts : S → Option RS := (seqS (setF 1 (opM splitD (var 0) (kst (.str ",")))) (seqS (ifS (notT (toB (callT allD (aCons PF.c_read_counts_1 aNil)))) (retS (kst .none)) skip) (retS (callT tupleD (aCons PF.c_read_counts_2 aNil)))))
def f_read_counts : FnD := runF 3 (g_read_counts)
def g_read_line : S → Option RS := (seqS (setF 1 (opM splitD (var 0) (kst (.str " ")))) (seqS (ifS (andT (toB (op2 eqD (callT lenD (aCons (var 1) aNil)) (kst (.int 2)))) (toB (op2 eqD (op2 ixD (var 1) (kst (.int 0))) (kst (.str "kinds"))))) (retS (ifV (toB (op2 inD (op2 ixD (var 1) (kst (.int 1))) (slE (kst (.tuple [(.str "0"), (.str "1"), (.str "2"), (.str "3"), (.str "4"), (.str "5"), (.str "6")])) (someP (kst (.int 1))) (someP (kst (.int 5)))))) (callT intD (aCons (op2 ixD (var 1) (kst (.int 1))) aNil)) (kst .none))) skip) (seqS (ifS (orT (toB (op2 neD (callT lenD (aCons (var 1) aNil)) (kst (.int 4)))) (orT (toB (op2 neD (op2 ixD (var 1) (kst (.int 0))) (kst (.str "rule")))) (toB (op2 neD (op2 ixD (var 1) (kst (.int 2))) (kst (.str ">")))))) (retS (kst .none)) skip) (seqS (setF 2 (callV mkTup (aCons (callF 1 PF.f_read_counts (aCons (op2 ixD (var 1) (kst (.int 1))) aNil)) (aCons (callF 1 PF.f_read_counts (aCons (op2 ixD (var 1) (kst (.int 3))) aNil)) aNil)))) (seqS (ifS (orT (toB (op2 isND (op2 ixD (var 2) (kst (.int 0))) (kst .none))) (orT (toB (op2 gtD (callT lenD (aCons (op2 ixD (var 2) (kst (.int 0))) aNil)) (kst (.int 4)))) (notT (toB (callF 2 PF.f_has_rule (aCons (callT lenD (aCons (op2 ixD (var 2) (kst (.int 0))) aNil)) (aCons (var 2) aNil))))))) (retS (kst .none)) skip) (retS (var 2)))))))
def f_read_line : FnD := runF 3 (g_read_line)
def b_read_book_1 : S → Option RS := (seqS (setF 4 (callF 1 PF.f_read_line (aCons (var 3) aNil))) (seqS (ifS (toB (op2 isND (var 4) (kst .none))) (raiseXS "InvalidText" "line" (op2 addD (var 2) (kst (.int 1)))) skip) (exprS (appE 1 (var 4)))))
def g_read_book : S → Option RS := (seqS (ifS (notT (toB (op1 (isiD "str") (var 0)))) (raiseXS "InvalidText" "line" (kst (.int 0))) skip) (seqS (setC 1 (callV mkLst aNil)) (seqS (forS (bE (aCons (opM splitD (var 0) (kst (.str "\n"))) aNil) (withVals enumD)) (bTup 2 (bCons (bName 2) (bCons (bName 3) bNil))) PF.b_read_book_1) (seqS (setF 5 (callV mkTup (aCons (op2 ixD (var 1) (kst (.int 0))) (aCons (callT tupleD (aCons (slE (var 1) (someP (kst (.int 1))) noP) aNil)) aNil)))) (seqS (ifS (notT (toB (callF 1 PF.f_has_book (aCons (var 5) aNil)))) (raiseXS "InvalidText" "line" (op2 addD (callT lenD (aCons (var 1) aNil)) (kst (.int 1)))) skip) (retS (var 5)))))))
def f_read_book : FnD := runF 6 (g_read_book)
def c__law_word_of_1 : S → Option (R EV) := lcE [1] (bE (fz (var 0)) (asD tupD)) (bName 1) yesT (callT strD (aCons (var 1) aNil))
def g__law_word_of : S → Option RS := (retS (opM joinD (kst (.str ",")) PF.c__law_word_of_1))
def f__law_word_of : FnD := runF 2 (g__law_word_of)
def b__law_text_1 : S → Option RS := (exprS (appE 1 (opM joinD (kst (.str " ")) (callV mkLst (aCons (kst (.str "rule")) (aCons (callF 1 PF.f__law_word_of (aCons (var 2) aNil)) (aCons (kst (.str ">")) (aCons (callF 1 PF.f__law_word_of (aCons (var 3) aNil)) aNil))))))))
def g__law_text : S → Option RS := (seqS (setC 1 (callV mkLst (aCons (op2 addD (kst (.str "kinds ")) (callT strD (aCons (op2 ixD (var 0) (kst (.int 0))) aNil))) aNil))) (seqS (forS (bE (fz (op2 ixD (var 0) (kst (.int 1)))) (asD tupD)) (bTup 2 (bCons (bName 2) (bCons (bName 3) bNil))) PF.b__law_text_1) (retS (opM joinD (kst (.str "\n")) (var 1)))))
def f__law_text : FnD := runF 4 (g__law_text)
def c__law_counts_of_1 : S → Option (R EV) := lcE [2] (bE (fz (var 1)) (asD listD)) (bName 2) (toB (op2 notInD (var 2) (callT listD2 (aCons (kst (.str "0123456")) aNil)))) (var 2)
def c__law_counts_of_2 : S → Option (R EV) := lcE [2] (bE (fz (var 1)) (asD listD)) (bName 2) yesT (callT intD (aCons (var 2) aNil))
def g__law_counts_of : S → Option RS := (seqS (setF 1 (opM splitD (var 0) (kst (.str ",")))) (seqS (ifS (orT (toB (op2 neD PF.c__law_counts_of_1 (callV mkLst aNil))) (toB (op2 gtD (callT lenD (aCons (var 1) aNil)) (kst (.int 4))))) (retS (kst .none)) skip) (retS (callT tupleD (aCons PF.c__law_counts_of_2 aNil)))))
def f__law_counts_of : FnD := runF 3 (g__law_counts_of)
def g__law_line_of : S → Option RS := (seqS (setF 1 (opM splitD (var 0) (kst (.str " ")))) (seqS (ifS (toB (op2 eqD (op2 ixD (var 1) (kst (.int 0))) (kst (.str "kinds")))) (retS (ifV (andT (toB (op2 eqD (callT lenD (aCons (var 1) aNil)) (kst (.int 2)))) (toB (op2 inD (op2 ixD (var 1) (kst (.int 1))) (callT listD2 (aCons (kst (.str "1234")) aNil))))) (callT intD (aCons (op2 ixD (var 1) (kst (.int 1))) aNil)) (kst .none))) skip) (seqS (ifS (orT (toB (op2 neD (callT lenD (aCons (var 1) aNil)) (kst (.int 4)))) (orT (toB (op2 neD (op2 ixD (var 1) (kst (.int 0))) (kst (.str "rule")))) (toB (op2 neD (op2 ixD (var 1) (kst (.int 2))) (kst (.str ">")))))) (retS (kst .none)) skip) (seqS (parS 2 3 (callF 1 PF.f__law_counts_of (aCons (op2 ixD (var 1) (kst (.int 1))) aNil)) (callF 1 PF.f__law_counts_of (aCons (op2 ixD (var 1) (kst (.int 3))) aNil))) (seqS (ifS (orT (toB (op2 isND (var 2) (kst .none))) (orT (toB (op2 isND (var 3) (kst .none))) (orT (toB (op2 neD (callT lenD (aCons (var 2) aNil)) (callT lenD (aCons (var 3) aNil)))) (orT (toB (op2 eqD (callT sumD (aCons (var 2) aNil)) (kst (.int 0)))) (toB (op2 eqD (var 2) (var 3))))))) (retS (kst .none)) skip) (retS (callV mkTup (aCons (var 2) (aCons (var 3) aNil)))))))))
def f__law_line_of : FnD := runF 4 (g__law_line_of)
def c__law_due_3_1 : S → Option (R EV) := lcE [3] (bE (fz (opM splitD (var 0) (kst (.str "\n")))) (asD listD)) (bName 3) yesT (callF 1 PF.f__law_line_of (aCons (var 3) aNil))
def g__law_due_3 : S → Option RS := (seqS (setF 1 PF.c__law_due_3_1) (seqS (ifS (toB (op2 inD (kst .none) (var 1))) (retS (op2 addD (indexE (var 1) (kst .none)) (kst (.int 1)))) skip) (seqS (setF 2 (callV mkTup (aCons (op2 ixD (var 1) (kst (.int 0))) (aCons (callT tupleD (aCons (slE (var 1) (someP (kst (.int 1))) noP) aNil)) aNil)))) (retS (ifV (toB (callF 1 PF.f_is_book (aCons (var 2) aNil))) (var 2) (op2 addD (callT lenD (aCons (var 1) aNil)) (kst (.int 1))))))))
def f__law_due_3 : FnD := runF 4 (g__law_due_3)
def g__law_bent_1 : S → Option RS := (seqS (setF 2 (callV mkLst (aCons (kst (.str " ")) (aCons (kst (.str "0")) (aCons (kst (.str "1")) (aCons (kst (.str "2")) (aCons (kst (.str "7")) (aCons (kst (.str "")) (aCons (kst (.str "\n")) (aCons (kst (.str ",")) (aCons (kst (.str ">")) (aCons (kst (.str "rule")) (aCons (kst (.str "\nrule 1,0 > 0,1")) (aCons (kst (.str "\nkinds 2")) (aCons (kst (.str "-")) (aCons (kst (.str ",1")) (aCons (kst (.str "kinds")) aNil))))))))))))))))) (seqS (setF 3 (callF 2 PF.f__law_draw (aCons (var 0) (aCons (op2 addD (callT lenD (aCons (var 1) aNil)) (kst (.int 1))) aNil)))) (seqS (setF 1 (op2 addD (op2 addD (slE (var 1) noP (someP (var 3))) (callF 2 PF.f__law_choice (aCons (var 0) (aCons (var 2) aNil)))) (slE (var 1) (someP (op2 addD (var 3) (callF 2 PF.f__law_draw (aCons (var 0) (aCons (kst (.int 3)) aNil))))) noP))) (seqS (setF 4 (opM splitD (var 1) (kst (.str "\n")))) (seqS (setF 5 (callV mkLst (aCons (var 1) (aCons (var 1) (aCons (var 1) (aCons (opM joinD (kst (.str "\n")) (op1 revD (var 4))) (aCons (opM joinD (kst (.str "\n")) (slE (var 4) noP (someP (kst (.int 2))))) aNil))))))) (retS (callF 2 PF.f__law_choice (aCons (var 0) (aCons (op2 addD (var 5) (callV mkLst (aCons (opM joinD (kst (.str "\n")) (op2 addD (var 4) (slE (var 4) (someP (kst (.int 1))) (someP (kst (.int 2)))))) aNil))) aNil)))))))))
def f__law_bent_1 : FnD := runF 6 (g__law_bent_1)
def h__law_tried_4_1 (a : Addr) (er : Er) : S → Option RS := (setF 1 (xfE 2 a "line" er))
def g__law_tried_4 : S → Option RS := (seqS (setF 1 (kst .none)) (seqS (tryAsS ["InvalidText"] 2 (setF 1 (callF 1 PF.f_read_book (aCons (var 0) aNil))) "InvalidText" PF.h__law_tried_4_1) (retS (var 1))))
def f__law_tried_4 : FnD := runF 3 (g__law_tried_4)
def b_law_k14_1 (ns : List Int) : S → Option RS := (seqS (setF 5 (slE (callF 2 PF.f__law_bent_1 (aCons (var 2) (aCons (ifV (toB (op2 eqD (op2 modD (var 6) (kst (.int 3))) (kst (.int 0)))) (var 4) (var 5)) aNil))) noP (someP (kst (.int 400))))) (ifS (toB (op2 neD (callF 1 PF.f__law_tried_4 (aCons (var 5) aNil)) (callF 1 PF.f__law_due_3 (aCons (var 5) aNil)))) (retS (kst (.bool false))) skip))
def b_law_k14_2 (ns : List Int) : S → Option RS := (ifS (toB (op2 neD (callF 1 PF.f__law_tried_4 (aCons (var 7) aNil)) (kst (.int 0)))) (retS (kst (.bool false))) skip)
def b_law_k14_3 (ns : List Int) : S → Option RS := (seqS (setC 2 (callF 2 (PF.f__law_source ns) (aScr 0 (aCons (var 1) aNil)))) (seqS (setF 3 (callF 2 PF.f__law_book (aCons (var 2) (aCons (kst (.int 5)) aNil)))) (seqS (setF 4 (callF 1 PF.f__law_text (aCons (var 3) aNil))) (seqS (ifS (orT (toB (op2 neD (callF 1 PF.f_book_text (aCons (var 3) aNil)) (var 4))) (toB (op2 neD (callF 1 PF.f_read_book (aCons (var 4) aNil)) (var 3)))) (retS (kst (.bool false))) skip) (seqS (setF 5 (var 4)) (seqS (forS (bE (aCons (kst (.int 20)) aNil) (withVals range1D)) (bName 6) (PF.b_law_k14_1 ns)) (forS (bE (fz (callV mkLst (aCons (kst .none) (aCons (kst (.int 5)) (aCons (callV mkTup (aCons (var 5) aNil)) (aCons (callV mkLst (aCons (var 5) aNil)) (aCons (kst (.bool true)) (aCons (var 3) aNil)))))))) (asD listD)) (bName 7) (PF.b_law_k14_2 ns))))))))
def c_law_k14_4 (ns : List Int) : S → Option (R EV) := lcE [11] (bE (fz (var 9)) (asD listD)) (bName 11) yesT (callF 1 PF.f__law_tried_4 (aCons (var 11) aNil))
def g_law_k14 (ns : List Int) : S → Option RS := (seqS (forS (bE (aCons (op2 addD (kst (.int 1)) (callT minD (aCons (lenScr 0 ns) (aCons (kst (.int 8)) aNil)))) aNil) (withVals range1D)) (bName 1) (PF.b_law_k14_3 ns)) (seqS (setF 8 (kst (.str "kinds 2\nrule 2,0 > 0,1"))) (seqS (setF 9 (callV mkLst (aCons (kst (.str "")) (aCons (kst (.str "kinds 2")) (aCons (var 8) (aCons (op2 addD (var 8) (kst (.str "\nrule 2,0 > 0,1"))) (aCons (op2 addD (var 8) (kst (.str "\nrule 1 > 0"))) (aCons (kst (.str "rule 2,0 > 0,1\nkinds 2")) (aCons (kst (.str "kinds 5")) aNil))))))))) (seqS (setF 9 (op2 addD (var 9) (callV mkLst (aCons (op2 addD (var 8) (kst (.str "\n"))) (aCons (kst (.str "kinds 2\nrule 0,0 > 0,1")) (aCons (kst (.str "kinds 2\nrule 1,0 > 1,0")) (aCons (kst (.str "kinds 2\nrule 7,0 > 0,1")) aNil))))))) (seqS (setF 9 (op2 addD (var 9) (callV mkLst (aCons (kst (.str "kinds 2\nrule 1,0,0,0,0 > 0,0,0,0,1")) (aCons (kst (.str "kinds 2\nrule 2,0 >  0,1")) (aCons (kst (.str "kinds 1\nrule 2,0 > 0,1")) aNil)))))) (seqS (setF 10 (callV mkLst (aCons (kst (.int 1)) (aCons (kst (.int 2)) (aCons (callV mkTup (aCons (kst (.int 2)) (aCons (callV mkTup (aCons (callV mkTup (aCons (callV mkTup (aCons (kst (.int 2)) (aCons (kst (.int 0)) aNil))) (aCons (callV mkTup (aCons (kst (.int 0)) (aCons (kst (.int 1)) aNil))) aNil))) aNil)) aNil))) (aCons (kst (.int 4)) (aCons (kst (.int 4)) (aCons (kst (.int 3)) (aCons (kst (.int 1)) (aCons (kst (.int 3)) (aCons (kst (.int 2)) (aCons (kst (.int 2)) (aCons (kst (.int 2)) (aCons (kst (.int 2)) (aCons (kst (.int 2)) (aCons (kst (.int 3)) aNil)))))))))))))))) (seqS (ifS (toB (op2 neD (PF.c_law_k14_4 ns) (var 10))) (retS (kst (.bool false))) skip) (retS (op2 eqD (callF 1 PF.f_book_text (aCons (callV mkTup (aCons (kst (.int 3)) (aCons (callV mkTup (aCons (callV mkTup (aCons (callV mkTup (aCons (kst (.int 1)) (aCons (kst (.int 1)) (aCons (kst (.int 0)) aNil)))) (aCons (callV mkTup (aCons (kst (.int 0)) (aCons (kst (.int 0)) (aCons (kst (.int 6)) aNil)))) aNil))) aNil)) aNil))) aNil)) (kst (.str "kinds 3\nrule 1,1,0 > 0,0,6")))))))))))
def f_law_k14 (ns : List Int) : FnD := runF 12 (g_law_k14 ns)
def b__wall_1 : S → Option RS := skip
def g__wall : S → Option RS := (whS (toB (kst (.bool true))) PF.b__wall_1)
def f__wall : FnD := runF 1 (g__wall)
def g__law_next : S → Option RS := (seqS (asgS (bTup 2 (bCons (bName 3) (bCons (bName 4) bNil))) (var 1)) (seqS (ifS (toB (op2 eqD (op2 ixD (var 2) (kst (.int 0))) (kst (.str "do")))) (seqS (ifS (orT (notT (toB (callF 3 PF.f__law_from (aCons (op2 ixD (var 2) (kst (.int 1))) (aCons (kst (.int 0)) (aCons (kst (.int 9)) aNil)))))) (toB (op2 notInD (op2 ixD (var 2) (kst (.int 1))) (callF 2 PF.f__law_can (aCons (var 0) (aCons (var 3) aNil)))))) (retS (callV mkTup (aCons (kst (.str "rule")) (aCons (kst .none) aNil)))) skip) (seqS (setF 5 (callF 3 PF.f__law_after (aCons (var 0) (aCons (var 3) (aCons (op2 ixD (var 2) (kst (.int 1))) aNil))))) (retS (callV mkTup (aCons (var 5) (aCons (callV mkTup (aCons (var 5) (aCons (op2 addD (var 4) (callV mkTup (aCons (op2 ixD (var 2) (kst (.int 1))) aNil))) aNil))) aNil)))))) skip) (seqS (ifS (toB (op2 eqD (op2 ixD (var 2) (kst (.int 0))) (kst (.str "add")))) (seqS (ifS (orT (notT (toB (callF 2 PF.f__law_is_row (aCons (var 0) (aCons (op2 ixD (var 2) (kst (.int 1))) aNil))))) (orT (toB (op2 gtD (callT lenD (aCons (op2 ixD (var 2) (kst (.int 1))) aNil)) (kst (.int 100)))) (toB (op2 isND (callF 3 PF.f__law_led (aCons (var 0) (aCons (var 3) (aCons (op2 ixD (var 2) (kst (.int 1))) aNil)))) (kst .none))))) (retS (callV mkTup (aCons (kst (.str "row")) (aCons (kst .none) aNil)))) skip) (retS (callV mkTup (aCons (kst .none) (aCons (callV mkTup (aCons (callF 3 PF.f__law_led (aCons (var 0) (aCons (var 3) (aCons (op2 ixD (var 2) (kst (.int 1))) aNil)))) (aCons (op2 addD (var 4) (op2 ixD (var 2) (kst (.int 1)))) aNil))) aNil))))) skip) (seqS (ifS (notT (toB (callF 3 PF.f__law_from (aCons (op2 ixD (var 2) (kst (.int 1))) (aCons (kst (.int 0)) (aCons (op2 subD (op2 ixD (var 0) (kst (.int 0))) (kst (.int 1))) aNil)))))) (retS (callV mkTup (aCons (kst (.str "part")) (aCons (kst .none) aNil)))) skip) (seqS (ifS (notT (toB (callF 3 PF.f__law_from (aCons (op2 ixD (var 2) (kst (.int 2))) (aCons (kst (.int 1)) (aCons (kst (.int 1000)) aNil)))))) (retS (callV mkTup (aCons (kst (.str "number")) (aCons (kst .none) aNil)))) skip) (seqS (setF 5 (op2 addD (op2 addD (slE (var 3) noP (someP (op2 ixD (var 2) (kst (.int 1))))) (callV mkTup (aCons (op2 addD (op2 ixD (var 3) (op2 ixD (var 2) (kst (.int 1)))) (op2 ixD (var 2) (kst (.int 2)))) aNil))) (slE (var 3) (someP (op2 addD (op2 ixD (var 2) (kst (.int 1))) (kst (.int 1)))) noP))) (retS (ifV (toB (op2 gtD (callT maxD (aCons (var 5) aNil)) (op2 powD (kst (.int 10)) (kst (.int 30))))) (callV mkTup (aCons (kst (.str "heap")) (aCons (kst .none) aNil))) (callV mkTup (aCons (op2 ixD (var 5) (op2 ixD (var 2) (kst (.int 1)))) (aCons (callV mkTup (aCons (var 5) (aCons (var 4) aNil))) aNil)))))))))))
def f__law_next : FnD := runF 6 (g__law_next)
def c__law_line_1 : S → Option (R EV) := lcE [5] (bE (fz (var 6)) (asD tupD)) (bName 5) yesT (callT strD (aCons (var 5) aNil))
def c__law_line_2 : S → Option (R EV) := lcE [6] (bE (fz (callV mkTup (aCons (var 2) (aCons (var 3) aNil)))) (asD tupD)) (bName 6) yesT (opM joinD (kst (.str ",")) PF.c__law_line_1)
def g__law_line : S → Option RS := (seqS (asgS (bTup 2 (bCons (bName 2) (bCons (bName 3) bNil))) (op2 ixD (op2 ixD (var 0) (kst (.int 1))) (var 1))) (seqS (setF 4 PF.c__law_line_2) (retS (op2 addD (op2 addD (op2 addD (op2 addD (callT strD (aCons (var 1) aNil)) (kst (.str ": "))) (op2 ixD (var 4) (kst (.int 0)))) (kst (.str " > "))) (op2 ixD (var 4) (kst (.int 1)))))))
def f__law_line : FnD := runF 7 (g__law_line)
def c__law_calls_1 : S → Option (R EV) := lcE [6] (bE (fz (callF 2 PF.f__law_can (aCons (var 1) (aCons (var 2) aNil)))) (asD listD)) (bName 6) yesT (callV mkTup (aCons (kst (.str "do")) (aCons (var 6) aNil)))
def b__law_calls_2 : S → Option RS := (seqS (exprS (appE 4 (callV mkTup (aCons (kst (.str "do")) (aCons (callF 2 PF.f__law_draw (aCons (var 0) (aCons (op2 addD (var 3) (kst (.int 1))) aNil))) aNil))))) (exprS (appE 4 (callV mkTup (aCons (kst (.str "put")) (aCons (callF 2 PF.f__law_draw (aCons (var 0) (aCons (op2 addD (op2 ixD (var 1) (kst (.int 0))) (kst (.int 1))) aNil))) (aCons (callF 2 PF.f__law_choice (aCons (var 0) (aCons (callV mkLst (aCons (kst (.int 1)) (aCons (kst (.int 3)) (aCons (kst (.int 1000)) (aCons (kst (.int 0)) (aCons (kst (.int 1001)) (aCons (kst (.bool true)) aNil))))))) aNil))) aNil)))))))
def g__law_calls : S → Option RS := (seqS (setF 3 (callT lenD (aCons (op2 ixD (var 1) (kst (.int 1))) aNil))) (seqS (setC 4 (op2 mulD PF.c__law_calls_1 (kst (.int 2)))) (seqS (forS (bE (aCons (kst (.int 3)) aNil) (withVals range1D)) (bName 5) PF.b__law_calls_2) (seqS (setC 4 (op2 addD (var 4) (callV mkLst (aCons (callV mkTup (aCons (kst (.str "undo")) aNil)) (aCons (callV mkTup (aCons (kst (.str "undo")) aNil)) (aCons (callV mkTup (aCons (kst (.str "add")) (aCons (callV mkTup aNil) aNil))) (aCons (callV mkTup (aCons (kst (.str "add")) (aCons (callV mkTup (aCons (kst (.int 0)) (aCons (callF 2 PF.f__law_draw (aCons (var 0) (aCons (var 3) aNil))) aNil))) aNil))) (aCons (callV mkTup (aCons (kst (.str "add")) (aCons (kst .none) aNil))) aNil)))))))) (retS (op2 addD (var 4) (callV mkLst (aCons (callV mkTup (aCons (kst (.str "add")) (aCons (callV mkTup (aCons (var 3) aNil)) aNil))) (aCons (callV mkTup (aCons (kst (.str "do")) (aCons (kst .none) aNil))) (aCons (callV mkTup (aCons (kst (.str "do")) (aCons (kst (.bool true)) aNil))) (aCons (callV mkTup (aCons (kst (.str "put")) (aCons (kst .none) (aCons (kst (.int 1)) aNil)))) (aCons (callV mkTup (aCons (kst (.str "add")) (aCons (callV mkLst (aCons (kst (.int 0)) aNil)) aNil))) (aCons (callV mkTup (aCons (kst (.str "add")) (aCons (op2 mulD (callV mkTup (aCons (kst (.int 0)) aNil)) (kst (.int 101))) aNil))) aNil)))))))))))))
def f__law_calls : FnD := runF 7 (g__law_calls)
def g__law_kinds : S → Option RS := (seqS (ifS (orT (notT (toB (op1 (isiD "PartsError") (var 0)))) (notT (toB (op1 (isiD "ValueError") (var 0))))) (retS (callV mkLst aNil)) skip) (seqS (setF 1 (callV mkLst (aCons (op1 (isiD "InvalidBook") (var 0)) (aCons (op1 (isiD "InvalidHeap") (var 0)) (aCons (op1 (isiD "InvalidRow") (var 0)) aNil))))) (seqS (setF 1 (op2 addD (var 1) (callV mkLst (aCons (op1 (isiD "InvalidRule") (var 0)) (aCons (op1 (isiD "InvalidPaper") (var 0)) (aCons (op1 (isiD "InvalidOffers") (var 0)) aNil)))))) (seqS (setF 1 (op2 addD (var 1) (callV mkLst (aCons (op1 (isiD "InvalidNumber") (var 0)) (aCons (op1 (isiD "InvalidPart") (var 0)) (aCons (op1 (isiD "Endless") (var 0)) aNil)))))) (seqS (setF 1 (op2 addD (var 1) (callV mkLst (aCons (op1 (isiD "OrdersMatter") (var 0)) (aCons (op1 (isiD "Unlike") (var 0)) (aCons (op1 (isiD "NothingToUndo") (var 0)) aNil)))))) (retS (op2 addD (var 1) (callV mkLst (aCons (op1 (isiD "InvalidText") (var 0)) (aCons (op1 (isiD "TooMany") (var 0)) aNil))))))))))
def f__law_kinds : FnD := runF 2 (g__law_kinds)
def g__law_turned : S → Option RS := (retS (op2 addD (slE (var 0) (someP (var 1)) noP) (slE (var 0) noP (someP (var 1)))))
def f__law_turned : FnD := runF 2 (g__law_turned)
def c__law_other_1 : S → Option (R EV) := lcE [3, 4] (bE (fz (op2 ixD (var 0) (kst (.int 1)))) (asD tupD)) (bTup 2 (bCons (bName 3) (bCons (bName 4) bNil))) yesT (callV mkTup (aCons (callF 2 PF.f__law_turned (aCons (var 3) (aCons (var 1) aNil))) (aCons (callF 2 PF.f__law_turned (aCons (var 4) (aCons (var 1) aNil))) aNil)))
def g__law_other : S → Option RS := (seqS (setF 2 (callT tupleD (aCons PF.c__law_other_1 aNil))) (retS (callV mkTup (aCons (op2 ixD (var 0) (kst (.int 0))) (aCons (op1 revD (var 2)) aNil)))))
def f__law_other : FnD := runF 5 (g__law_other)
end PF
end
namespace PF
open PySem PySem.Spec PyProof.Rows L2 DL
/-! ### what is called with a lambda -/
theorem hR__law_tried : ∀ (f : Addr) (φ : LamF) (st : List MO) (r : R EV), R__law_tried φ st = some r → finF st.length (G__law_tried f φ ⟨.val (fnD f) :: List.replicate ((["call", "found"] : List Str).length - 1) .un, st⟩) = some r := by
  intro f φ st r h
  rw [← h]
  unfold R__law_tried G__law_tried
  simp [bE, fz, var, kst, op2, op1, lift1, lift2, rd, EV.frz, toB, ofB, andV, orV, andT, orT, ifV, chain, aNil, aCons, toSV, callV, withVals, valsOf, callT, withTops, rds, seqS, bS, retS, exprS, setF, setC, storeF, storeC, ifS, asgS, bName, bNil, bCons, bTup, parS, skip, asD, listD, tupD, seqD, mkTup, mkLst, notV, notT, yesT, raiseS, iOp, cOp, negD, isiD, tyName, isiB, List.getElem?_cons_zero, List.getElem?_cons_succ, List.getElem?_nil, List.set_cons_zero, List.set_cons_succ, List.length_cons, List.length_nil, List.replicate, List.cons_append, List.nil_append, List.append_nil, if_true, if_false, Option.map_some, Option.map_none, tryS, actE, fnD]
  cases e : φ st with
  | none => rfl
  | some q =>
    cases q with
    | ok ev s' => cases ev <;> rfl
    | err x s' =>
      by_cases h1 : x.cls = "InvalidRow"
      · simp [h1, clauses, noErr, bE, fz, var, kst, op2, op1, lift1, lift2, rd, EV.frz, toB, ofB, andV, orV, andT, orT, ifV, chain, aNil, aCons, toSV, callV, withVals, valsOf, callT, withTops, rds, seqS, bS, retS, exprS, setF, setC, storeF, storeC, ifS, asgS, bName, bNil, bCons, bTup, parS, skip, asD, listD, tupD, seqD, mkTup, mkLst, notV, notT, yesT, raiseS, iOp, cOp, negD, isiD, tyName, isiB, List.getElem?_cons_zero, List.getElem?_cons_succ, List.getElem?_nil, List.set_cons_zero, List.set_cons_succ, List.length_cons, List.length_nil, List.replicate, List.cons_append, List.nil_append, List.append_nil, if_true, if_false, Option.map_some, Option.map_none, finF]
      · by_cases h2 : x.cls = "InvalidHeap"
        · simp (decide := true) [h2, clauses, noErr, bE, fz, var, kst, op2, op1, lift1, lift2, rd, EV.frz, toB, ofB, andV, orV, andT, orT, ifV, chain, aNil, aCons, toSV, callV, withVals, valsOf, callT, withTops, rds, seqS, bS, retS, exprS, setF, setC, storeF, storeC, ifS, asgS, bName, bNil, bCons, bTup, parS, skip, asD, listD, tupD, seqD, mkTup, mkLst, notV, notT, yesT, raiseS, iOp, cOp, negD, isiD, tyName, isiB, List.getElem?_cons_zero, List.getElem?_cons_succ, List.getElem?_nil, List.set_cons_zero, List.set_cons_succ, List.length_cons, List.length_nil, List.replicate, List.cons_append, List.nil_append, List.append_nil, if_true, if_false, Option.map_some, Option.map_none, finF]
        · simp [h1, h2, finF]
theorem hR__law_word_2 : ∀ (f : Addr) (φ : LamF) (st : List MO) (r : R EV), R__law_word_2 φ st = some r → finF st.length (G__law_word_2 f φ ⟨.val (fnD f) :: List.replicate ((["call", "found"] : List Str).length - 1) .un, st⟩) = some r := by
  intro f φ st r h
  rw [← h]
  unfold R__law_word_2 G__law_word_2
  simp [bE, fz, var, kst, op2, op1, lift1, lift2, rd, EV.frz, toB, ofB, andV, orV, andT, orT, ifV, chain, aNil, aCons, toSV, callV, withVals, valsOf, callT, withTops, rds, seqS, bS, retS, exprS, setF, setC, storeF, storeC, ifS, asgS, bName, bNil, bCons, bTup, parS, skip, asD, listD, tupD, seqD, mkTup, mkLst, notV, notT, yesT, raiseS, iOp, cOp, negD, isiD, tyName, isiB, List.getElem?_cons_zero, List.getElem?_cons_succ, List.getElem?_nil, List.set_cons_zero, List.set_cons_succ, List.length_cons, List.length_nil, List.replicate, List.cons_append, List.nil_append, List.append_nil, if_true, if_false, Option.map_some, Option.map_none, tryS, actE, fnD]
  cases e : φ st with
  | none => rfl
  | some q =>
    cases q with
    | ok ev s' => cases ev <;> rfl
    | err x s' =>
      by_cases h1 : x.cls = "InvalidPaper"
      · simp [h1, clauses, noErr, bE, fz, var, kst, op2, op1, lift1, lift2, rd, EV.frz, toB, ofB, andV, orV, andT, orT, ifV, chain, aNil, aCons, toSV, callV, withVals, valsOf, callT, withTops, rds, seqS, bS, retS, exprS, setF, setC, storeF, storeC, ifS, asgS, bName, bNil, bCons, bTup, parS, skip, asD, listD, tupD, seqD, mkTup, mkLst, notV, notT, yesT, raiseS, iOp, cOp, negD, isiD, tyName, isiB, List.getElem?_cons_zero, List.getElem?_cons_succ, List.getElem?_nil, List.set_cons_zero, List.set_cons_succ, List.length_cons, List.length_nil, List.replicate, List.cons_append, List.nil_append, List.append_nil, if_true, if_false, Option.map_some, Option.map_none, finF]
      · by_cases h2 : x.cls = "InvalidHeap"
        · simp (decide := true) [h2, clauses, noErr, bE, fz, var, kst, op2, op1, lift1, lift2, rd, EV.frz, toB, ofB, andV, orV, andT, orT, ifV, chain, aNil, aCons, toSV, callV, withVals, valsOf, callT, withTops, rds, seqS, bS, retS, exprS, setF, setC, storeF, storeC, ifS, asgS, bName, bNil, bCons, bTup, parS, skip, asD, listD, tupD, seqD, mkTup, mkLst, notV, notT, yesT, raiseS, iOp, cOp, negD, isiD, tyName, isiB, List.getElem?_cons_zero, List.getElem?_cons_succ, List.getElem?_nil, List.set_cons_zero, List.set_cons_succ, List.length_cons, List.length_nil, List.replicate, List.cons_append, List.nil_append, List.append_nil, if_true, if_false, Option.map_some, Option.map_none, finF]
        · simp [h1, h2, finF]
theorem xf_I {i : Nat} {a : Addr} {fld : Str} {er : Er} {env : List SV} {st : List MO} {b : Addr} : (xfE i b fld er ⟨env.set i (.val (fnD b)), st⟩) = (match xfE i a fld er ⟨env.set i (.val (fnD a)), st⟩ with
    | some (.ok ev s) => some (.ok ev ⟨env.set i (.val (fnD b)), st⟩)
    | _ => none) := by
  unfold xfE
  by_cases h : i < env.length
  · simp only [List.getElem?_set_self h, fnD, if_true]
    cases er.fs with
    | none => rfl
    | some fs =>
      simp only
      cases fs.lookup fld <;> rfl
  · have e : ∀ x : SV, (env.set i x)[i]? = none := fun x => List.getElem?_eq_none_iff.mpr (by simp; omega)
    simp [e]
theorem h__law_tried_4_1_I : ∀ (a : Addr) (er : Er) (env : List SV) (st : List MO) (r : RS), h__law_tried_4_1 0 er ⟨env.set 2 (.val (fnD 0)), st⟩ = some r → ∃ r', h__law_tried_4_1 a er ⟨env.set 2 (.val (fnD a)), st⟩ = some r' ∧ resetS 2 r' = resetS 2 r := by
  intro a er env st r h
  unfold h__law_tried_4_1 setF bS at h ⊢
  rw [xf_I (a := 0) (b := a)]
  cases e : xfE 2 0 "line" er ⟨env.set 2 (.val (fnD 0)), st⟩ with
  | none => rw [e] at h; cases h
  | some q =>
    rw [e] at h
    cases q with
    | err x s =>
      exfalso
      unfold xfE at e
      split at e
      · split at e
        · split at e
          · split at e <;> cases e
          · cases e
        · cases e
      · cases e
    | ok ev s =>
      have es : s = ⟨env.set 2 (.val (fnD 0)), st⟩ := by
        unfold xfE at e
        split at e
        · split at e
          · split at e
            · split at e
              · cases e; rfl
              · cases e
            · cases e
          · cases e
        · cases e
      subst es
      simp only at h ⊢
      refine ⟨_, rfl, ?_⟩
      cases h
      cases ev <;> simp [storeF, resetS, List.set_comm]
end PF
set_option maxHeartbeats 1000000
namespace PF
open PySem PySem.Spec PyProof.Rows L2 DL
/-! ### what the program's checks say -/
theorem ty_ne {d : D} (h : d.canLay0 = true) : tyName d ≠ none := by
  cases d <;> simp [tyName]
  simp [PyData.canLay0] at h
theorem run_of {nl : Nat} {g : S → Option RS} {args : List SV} {st st' : List MO} {env : List SV} {d : D} (e : g ⟨args ++ List.replicate (nl - args.length) .un, st⟩ = some (.ret (.val d) ⟨env, st'⟩)) (h : Pl st') (hl : st'.length = st.length) : runF nl g args st = some (.ok (.val d) ⟨[], st'⟩) := by
  unfold runF
  rw [e, fin_val h hl]
theorem run_fresh {nl : Nat} {g : S → Option RS} {args : List SV} {st st' : List MO} {env : List SV} {ds : List D} (e : g ⟨args ++ List.replicate (nl - args.length) .un, st⟩ = some (.ret (.fresh ds) ⟨env, st'⟩)) (h : Pl st') (hl : st'.length = st.length) : runF nl g args st = some (.ok (.fresh ds) ⟨[], st'⟩) := by
  unfold runF
  rw [e, fin_fresh h hl]
theorem run_next {nl : Nat} {g : S → Option RS} {args : List SV} {st st' : List MO} {env : List SV} (e : g ⟨args ++ List.replicate (nl - args.length) .un, st⟩ = some (.next ⟨env, st'⟩)) (h : Pl st') (hl : st'.length = st.length) : runF nl g args st = some (.ok (.val .none) ⟨[], st'⟩) := by
  unfold runF
  rw [e, fin_next h hl]
theorem run_err {nl : Nat} {g : S → Option RS} {args : List SV} {st st' : List MO} {env : List SV} {x : Er} (e : g ⟨args ++ List.replicate (nl - args.length) .un, st⟩ = some (.err x ⟨env, st'⟩)) (h : Pl st') (hl : st'.length = st.length) : runF nl g args st = some (.err x ⟨[], st'⟩) := by
  unfold runF
  rw [e, fin_err h hl]
def isFrom (d : D) (lo hi : Int) : Bool := match d with
  | .int v => decide (lo ≤ v) && decide (v ≤ hi)
  | _ => false
theorem e_is_from {d : D} {lo hi : Int} {st : List MO} (h : Pl st) (hd : d.canLay0 = true) : f_is_from [.val d, .val (.int lo), .val (.int hi)] st = some (.ok (.val (.bool (isFrom d lo hi))) ⟨[], st⟩) := by
  refine run_of (env := [.val d, .val (.int lo), .val (.int hi)]) ?_ h rfl
  cases d with
  | int v =>
    by_cases h1 : lo ≤ v <;> simp [g_is_from, isFrom, bE, fz, var, kst, op2, op1, lift1, lift2, rd, EV.frz, toB, ofB, andV, orV, andT, orT, ifV, chain, aNil, aCons, toSV, callV, withVals, valsOf, callT, withTops, rds, seqS, bS, retS, exprS, setF, setC, storeF, storeC, ifS, asgS, bName, bNil, bCons, bTup, parS, skip, asD, listD, tupD, seqD, mkTup, mkLst, notV, notT, yesT, raiseS, iOp, cOp, negD, isiD, tyName, isiB, List.getElem?_cons_zero, List.getElem?_cons_succ, List.getElem?_nil, List.set_cons_zero, List.set_cons_succ, List.length_cons, List.length_nil, List.replicate, List.cons_append, List.nil_append, List.append_nil, if_true, if_false, Option.map_some, Option.map_none, h1]
  | dict _ => exact absurd rfl (ty_ne hd)
  | _ => simp [g_is_from, isFrom, bE, fz, var, kst, op2, op1, lift1, lift2, rd, EV.frz, toB, ofB, andV, orV, andT, orT, ifV, chain, aNil, aCons, toSV, callV, withVals, valsOf, callT, withTops, rds, seqS, bS, retS, exprS, setF, setC, storeF, storeC, ifS, asgS, bName, bNil, bCons, bTup, parS, skip, asD, listD, tupD, seqD, mkTup, mkLst, notV, notT, yesT, raiseS, iOp, cOp, negD, isiD, tyName, isiB, List.getElem?_cons_zero, List.getElem?_cons_succ, List.getElem?_nil, List.set_cons_zero, List.set_cons_succ, List.length_cons, List.length_nil, List.replicate, List.cons_append, List.nil_append, List.append_nil, if_true, if_false, Option.map_some, Option.map_none]
theorem boolsOf_mapB {α : Type} (p : α → Bool) (l : List α) : boolsOf (l.map fun x => .bool (p x)) = some (l.map p) := by
  have := boolsOf_map (l.map p)
  rw [List.map_map] at this
  exact this
theorem all_id {α : Type} (p : α → Bool) (l : List α) : (l.map p).all id = l.all p := by
  induction l with
  | nil => rfl
  | cons x r ih => simp
def isCounts (d : D) (k most : Int) : Bool := match d with
  | .tuple ds => decide ((ds.length : Int) = k) && ds.all fun x => isFrom x 0 most
  | _ => false
theorem layAll_mem : ∀ {ds : List D}, PyData.canLayAll0 ds = true → ∀ d ∈ ds, d.canLay0 = true
  | [], _, d, h => by simp at h
  | x :: r, h, d, hd => by
    have h : x.canLay0 = true ∧ PyData.canLayAll0 r = true := by simpa [PyData.canLayAll0] using h
    rcases List.mem_cons.mp hd with e | e
    · rw [e]; exact h.1
    · exact layAll_mem h.2 d e
theorem c_counts {d1 d2 : SV} {ds : List D} {most : Int} {st : List MO} (h : Pl st) (hd : PyData.canLayAll0 ds = true) (hl : ds.length ≤ 1000000) :
    c_is_counts_1 ⟨[.val (.tuple ds), d1, .val (.int most), d2], st⟩ = some (.ok (.fresh (ds.map fun x => .bool (isFrom x 0 most))) ⟨[.val (.tuple ds), d1, .val (.int most), d2], st⟩) := by
  have e := lcL_map (vs := [3]) (b := bName 3) (t := yesT) (f := callF 3 f_is_from (aCons (var 3) (aCons (kst (.int 0)) (aCons (var 2) aNil)))) (s := ⟨[.val (.tuple ds), d1, .val (.int most), d2], st⟩) (fun x => .bool (isFrom x 0 most)) ds [] (by simpa using hl)
    (fun d hm => ⟨_, _, _, by simp [bName]; rfl, by simp [yesT]; rfl, by simp [bE, fz, var, kst, op2, op1, lift1, lift2, rd, EV.frz, toB, ofB, andV, orV, andT, orT, ifV, chain, aNil, aCons, toSV, callV, withVals, valsOf, callT, withTops, rds, seqS, bS, retS, exprS, setF, setC, storeF, storeC, ifS, asgS, bName, bNil, bCons, bTup, parS, skip, asD, listD, tupD, seqD, mkTup, mkLst, notV, notT, yesT, raiseS, iOp, cOp, negD, isiD, tyName, isiB, List.getElem?_cons_zero, List.getElem?_cons_succ, List.getElem?_nil, List.set_cons_zero, List.set_cons_succ, List.length_cons, List.length_nil, List.replicate, List.cons_append, List.nil_append, List.append_nil, if_true, if_false, Option.map_some, Option.map_none, callF, wipeE, e_is_from h (layAll_mem hd d hm)]; rfl⟩)
  simp [c_is_counts_1, lcE, bE, fz, var, kst, op2, op1, lift1, lift2, rd, EV.frz, toB, ofB, andV, orV, andT, orT, ifV, chain, aNil, aCons, toSV, callV, withVals, valsOf, callT, withTops, rds, seqS, bS, retS, exprS, setF, setC, storeF, storeC, ifS, asgS, bName, bNil, bCons, bTup, parS, skip, asD, listD, tupD, seqD, mkTup, mkLst, notV, notT, yesT, raiseS, iOp, cOp, negD, isiD, tyName, isiB, List.getElem?_cons_zero, List.getElem?_cons_succ, List.getElem?_nil, List.set_cons_zero, List.set_cons_succ, List.length_cons, List.length_nil, List.replicate, List.cons_append, List.nil_append, List.append_nil, if_true, if_false, Option.map_some, Option.map_none] at e ⊢
  exact e
theorem eqD_int {i j : Int} : eqD (.int i) (.int j) = some (.val (.bool (decide (i = j)))) := by
  simp only [eqD]
  rw [Bool.beq_eq_decide_eq]
theorem e_is_counts {d : D} {k most : Int} {st : List MO} (h : Pl st) (hd : d.canLay0 = true) (hk : k ≤ 1000000) : f_is_counts [.val d, .val (.int k), .val (.int most)] st = some (.ok (.val (.bool (isCounts d k most))) ⟨[], st⟩) := by
  refine run_of (env := [.val d, .val (.int k), .val (.int most), .un]) ?_ h rfl
  cases d with
  | tuple ds =>
    by_cases h1 : (ds.length : Int) = k
    · have e := c_counts (d1 := .val (.int k)) (d2 := .un) (most := most) h (show PyData.canLayAll0 ds = true by simpa [PyData.canLay0] using hd) (by omega)
      simp [g_is_counts, isCounts, bE, fz, var, kst, op2, op1, lift1, lift2, rd, EV.frz, toB, ofB, andV, orV, andT, orT, ifV, chain, aNil, aCons, toSV, callV, withVals, valsOf, callT, withTops, rds, seqS, bS, retS, exprS, setF, setC, storeF, storeC, ifS, asgS, bName, bNil, bCons, bTup, parS, skip, asD, listD, tupD, seqD, mkTup, mkLst, notV, notT, yesT, raiseS, iOp, cOp, negD, isiD, tyName, isiB, List.getElem?_cons_zero, List.getElem?_cons_succ, List.getElem?_nil, List.set_cons_zero, List.set_cons_succ, List.length_cons, List.length_nil, List.replicate, List.cons_append, List.nil_append, List.append_nil, if_true, if_false, Option.map_some, Option.map_none, lenD, h1, e, allD, boolsOf_mapB, eqD_int]
    · simp [g_is_counts, isCounts, bE, fz, var, kst, op2, op1, lift1, lift2, rd, EV.frz, toB, ofB, andV, orV, andT, orT, ifV, chain, aNil, aCons, toSV, callV, withVals, valsOf, callT, withTops, rds, seqS, bS, retS, exprS, setF, setC, storeF, storeC, ifS, asgS, bName, bNil, bCons, bTup, parS, skip, asD, listD, tupD, seqD, mkTup, mkLst, notV, notT, yesT, raiseS, iOp, cOp, negD, isiD, tyName, isiB, List.getElem?_cons_zero, List.getElem?_cons_succ, List.getElem?_nil, List.set_cons_zero, List.set_cons_succ, List.length_cons, List.length_nil, List.replicate, List.cons_append, List.nil_append, List.append_nil, if_true, if_false, Option.map_some, Option.map_none, lenD, h1, eqD_int]
  | dict _ => exact absurd rfl (ty_ne hd)
  | _ => simp [g_is_counts, isCounts, bE, fz, var, kst, op2, op1, lift1, lift2, rd, EV.frz, toB, ofB, andV, orV, andT, orT, ifV, chain, aNil, aCons, toSV, callV, withVals, valsOf, callT, withTops, rds, seqS, bS, retS, exprS, setF, setC, storeF, storeC, ifS, asgS, bName, bNil, bCons, bTup, parS, skip, asD, listD, tupD, seqD, mkTup, mkLst, notV, notT, yesT, raiseS, iOp, cOp, negD, isiD, tyName, isiB, List.getElem?_cons_zero, List.getElem?_cons_succ, List.getElem?_nil, List.set_cons_zero, List.set_cons_succ, List.length_cons, List.length_nil, List.replicate, List.cons_append, List.nil_append, List.append_nil, if_true, if_false, Option.map_some, Option.map_none]
theorem layAll_tup {ds : List D} (h : (PyData.tuple ds).canLay0 = true) : PyData.canLayAll0 ds = true := by simpa [PyData.canLay0] using h
theorem layAll_lst {ds : List D} (h : (PyData.list ds).canLay0 = true) : PyData.canLayAll0 ds = true := by simpa [PyData.canLay0] using h
def intsD (d : D) : List Int := match d with
  | .tuple ds => (intsOf ds).getD []
  | _ => []
def hasRule (k : Int) (d : D) : Bool := match d with
  | .tuple [a, b] => isCounts a k 6 && isCounts b k 6 && decide (0 < (intsD a).sum) && !PyData.eqv a b
  | _ => false
theorem c_rule {d1 : SV} {ds : List D} {k : Int} {st : List MO} (h : Pl st) (hd : PyData.canLayAll0 ds = true) (hk : k ≤ 1000000) (hl : ds.length ≤ 1000000) :
    c_has_rule_1 ⟨[.val (.int k), .val (.tuple ds), d1], st⟩ = some (.ok (.fresh (ds.map fun x => .bool (isCounts x k 6))) ⟨[.val (.int k), .val (.tuple ds), d1], st⟩) := by
  have e := lcL_map (vs := [2]) (b := bName 2) (t := yesT) (f := callF 3 f_is_counts (aCons (var 2) (aCons (var 0) (aCons (kst (.int 6)) aNil)))) (s := ⟨[.val (.int k), .val (.tuple ds), d1], st⟩) (fun x => .bool (isCounts x k 6)) ds [] (by simpa using hl)
    (fun d hm => ⟨_, _, _, by simp [bName]; rfl, by simp [yesT]; rfl, by simp [bE, fz, var, kst, op2, op1, lift1, lift2, rd, EV.frz, toB, ofB, andV, orV, andT, orT, ifV, chain, aNil, aCons, toSV, callV, withVals, valsOf, callT, withTops, rds, seqS, bS, retS, exprS, setF, setC, storeF, storeC, ifS, asgS, bName, bNil, bCons, bTup, parS, skip, asD, listD, tupD, seqD, mkTup, mkLst, notV, notT, yesT, raiseS, iOp, cOp, negD, isiD, tyName, isiB, List.getElem?_cons_zero, List.getElem?_cons_succ, List.getElem?_nil, List.set_cons_zero, List.set_cons_succ, List.length_cons, List.length_nil, List.replicate, List.cons_append, List.nil_append, List.append_nil, if_true, if_false, Option.map_some, Option.map_none, callF, wipeE, e_is_counts h (layAll_mem hd d hm) hk]; rfl⟩)
  simp [c_has_rule_1, lcE, bE, fz, var, kst, op2, op1, lift1, lift2, rd, EV.frz, toB, ofB, andV, orV, andT, orT, ifV, chain, aNil, aCons, toSV, callV, withVals, valsOf, callT, withTops, rds, seqS, bS, retS, exprS, setF, setC, storeF, storeC, ifS, asgS, bName, bNil, bCons, bTup, parS, skip, asD, listD, tupD, seqD, mkTup, mkLst, notV, notT, yesT, raiseS, iOp, cOp, negD, isiD, tyName, isiB, List.getElem?_cons_zero, List.getElem?_cons_succ, List.getElem?_nil, List.set_cons_zero, List.set_cons_succ, List.length_cons, List.length_nil, List.replicate, List.cons_append, List.nil_append, List.append_nil, if_true, if_false, Option.map_some, Option.map_none] at e ⊢
  exact e
theorem counts_ints {d : D} {k most : Int} (h : isCounts d k most = true) : ∃ ns : List Int, d = .tuple (ns.map .int) ∧ (ns.length : Int) = k ∧ ∀ n ∈ ns, 0 ≤ n ∧ n ≤ most := by
  cases d with
  | tuple ds =>
    simp only [isCounts, Bool.and_eq_true, decide_eq_true_eq] at h
    obtain ⟨h1, h2⟩ := h
    have key : ∀ ds : List D, (ds.all fun x => isFrom x 0 most) = true → ∃ ns : List Int, ds = ns.map .int ∧ ∀ n ∈ ns, 0 ≤ n ∧ n ≤ most := by
      intro ds
      induction ds with
      | nil => exact fun _ => ⟨[], rfl, by simp⟩
      | cons x r ih =>
        intro h
        simp only [List.all_cons, Bool.and_eq_true] at h
        obtain ⟨ns, e, hn⟩ := ih h.2
        cases x with
        | int v =>
          have h1 := h.1
          simp only [isFrom, Bool.and_eq_true, decide_eq_true_eq] at h1
          refine ⟨v :: ns, by rw [e] <;> rfl, fun n hm => ?_⟩
          rcases List.mem_cons.mp hm with z | z
          · rw [z]; exact h1
          · exact hn n z
        | _ => exact absurd h.1 (by simp [isFrom])
    obtain ⟨ns, e, hn⟩ := key ds h2
    refine ⟨ns, by rw [e], ?_, hn⟩
    rw [e, List.length_map] at h1
    exact h1
  | _ => simp [isCounts] at h
theorem depth_ints : ∀ ns : List Int, PyData.depthAll (ns.map PyData.int) = 0
  | [] => rfl
  | n :: r => by simp [PyData.depthAll, PyData.depth, depth_ints r]
theorem lay_ints : ∀ ns : List Int, PyData.canLayAll0 (ns.map PyData.int) = true
  | [] => rfl
  | n :: r => by simp [PyData.canLayAll0, PyData.canLay0, lay_ints r]
theorem shp_ints (ns : List Int) : shp (.tuple (ns.map .int)) = true := by
  unfold shp SeqAt.shaped
  simp [PyData.canLay0, PyData.depth, depth_ints, lay_ints]
theorem eqD_ints (xs ys : List Int) : eqD (.tuple (xs.map .int)) (.tuple (ys.map .int)) = some (.val (.bool (PyData.eqv (.tuple (xs.map .int)) (.tuple (ys.map .int))))) := by
  simp [eqD, shp_ints]
theorem e_has_rule {d : D} {k : Int} {st : List MO} (h : Pl st) (hd : d.canLay0 = true) (hk : k ≤ 1000000) : f_has_rule [.val (.int k), .val d] st = some (.ok (.val (.bool (hasRule k d))) ⟨[], st⟩) := by
  refine run_of (env := [.val (.int k), .val d, .un]) ?_ h rfl
  cases d with
  | tuple ds =>
    by_cases h1 : ds.length = 2
    · obtain ⟨a, b, rfl⟩ : ∃ a b, ds = [a, b] := by
        match ds, h1 with
        | [a, b], _ => exact ⟨a, b, rfl⟩
      have e := c_rule (d1 := .un) (k := k) h (layAll_tup hd) hk (by simp)
      cases ha : isCounts a k 6 with
      | false => simp [g_has_rule, hasRule, bE, fz, var, kst, op2, op1, lift1, lift2, rd, EV.frz, toB, ofB, andV, orV, andT, orT, ifV, chain, aNil, aCons, toSV, callV, withVals, valsOf, callT, withTops, rds, seqS, bS, retS, exprS, setF, setC, storeF, storeC, ifS, asgS, bName, bNil, bCons, bTup, parS, skip, asD, listD, tupD, seqD, mkTup, mkLst, notV, notT, yesT, raiseS, iOp, cOp, negD, isiD, tyName, isiB, List.getElem?_cons_zero, List.getElem?_cons_succ, List.getElem?_nil, List.set_cons_zero, List.set_cons_succ, List.length_cons, List.length_nil, List.replicate, List.cons_append, List.nil_append, List.append_nil, if_true, if_false, Option.map_some, Option.map_none, lenD, neD, eqD_int, e, allD, boolsOf, ha]
      | true =>
        cases hb : isCounts b k 6 with
        | false => simp [g_has_rule, hasRule, bE, fz, var, kst, op2, op1, lift1, lift2, rd, EV.frz, toB, ofB, andV, orV, andT, orT, ifV, chain, aNil, aCons, toSV, callV, withVals, valsOf, callT, withTops, rds, seqS, bS, retS, exprS, setF, setC, storeF, storeC, ifS, asgS, bName, bNil, bCons, bTup, parS, skip, asD, listD, tupD, seqD, mkTup, mkLst, notV, notT, yesT, raiseS, iOp, cOp, negD, isiD, tyName, isiB, List.getElem?_cons_zero, List.getElem?_cons_succ, List.getElem?_nil, List.set_cons_zero, List.set_cons_succ, List.length_cons, List.length_nil, List.replicate, List.cons_append, List.nil_append, List.append_nil, if_true, if_false, Option.map_some, Option.map_none, lenD, neD, eqD_int, e, allD, boolsOf, ha, hb]
        | true =>
          obtain ⟨xs, rfl, _, _⟩ := counts_ints ha
          obtain ⟨ys, rfl, _, _⟩ := counts_ints hb
          by_cases hs : 0 < xs.sum
          · simp [g_has_rule, hasRule, bE, fz, var, kst, op2, op1, lift1, lift2, rd, EV.frz, toB, ofB, andV, orV, andT, orT, ifV, chain, aNil, aCons, toSV, callV, withVals, valsOf, callT, withTops, rds, seqS, bS, retS, exprS, setF, setC, storeF, storeC, ifS, asgS, bName, bNil, bCons, bTup, parS, skip, asD, listD, tupD, seqD, mkTup, mkLst, notV, notT, yesT, raiseS, iOp, cOp, negD, isiD, tyName, isiB, List.getElem?_cons_zero, List.getElem?_cons_succ, List.getElem?_nil, List.set_cons_zero, List.set_cons_succ, List.length_cons, List.length_nil, List.replicate, List.cons_append, List.nil_append, List.append_nil, if_true, if_false, Option.map_some, Option.map_none, lenD, neD, eqD_int, eqD_ints, e, allD, boolsOf, ha, hb, ixD, atI, ixN, sumD, intsOf_map, intsD, hs]
          · simp [g_has_rule, hasRule, bE, fz, var, kst, op2, op1, lift1, lift2, rd, EV.frz, toB, ofB, andV, orV, andT, orT, ifV, chain, aNil, aCons, toSV, callV, withVals, valsOf, callT, withTops, rds, seqS, bS, retS, exprS, setF, setC, storeF, storeC, ifS, asgS, bName, bNil, bCons, bTup, parS, skip, asD, listD, tupD, seqD, mkTup, mkLst, notV, notT, yesT, raiseS, iOp, cOp, negD, isiD, tyName, isiB, List.getElem?_cons_zero, List.getElem?_cons_succ, List.getElem?_nil, List.set_cons_zero, List.set_cons_succ, List.length_cons, List.length_nil, List.replicate, List.cons_append, List.nil_append, List.append_nil, if_true, if_false, Option.map_some, Option.map_none, lenD, neD, eqD_int, eqD_ints, e, allD, boolsOf, ha, hb, ixD, atI, ixN, sumD, intsOf_map, intsD, hs]
    · have h2 : ¬ ((ds.length : Int) = 2) := by omega
      have h3 : hasRule k (.tuple ds) = false := by
        match ds, h1 with
        | [], _ => rfl
        | [a], _ => rfl
        | [a, b], h => exact absurd rfl h
        | a :: b :: c :: r, _ => rfl
      simp [g_has_rule, h3, bE, fz, var, kst, op2, op1, lift1, lift2, rd, EV.frz, toB, ofB, andV, orV, andT, orT, ifV, chain, aNil, aCons, toSV, callV, withVals, valsOf, callT, withTops, rds, seqS, bS, retS, exprS, setF, setC, storeF, storeC, ifS, asgS, bName, bNil, bCons, bTup, parS, skip, asD, listD, tupD, seqD, mkTup, mkLst, notV, notT, yesT, raiseS, iOp, cOp, negD, isiD, tyName, isiB, List.getElem?_cons_zero, List.getElem?_cons_succ, List.getElem?_nil, List.set_cons_zero, List.set_cons_succ, List.length_cons, List.length_nil, List.replicate, List.cons_append, List.nil_append, List.append_nil, if_true, if_false, Option.map_some, Option.map_none, lenD, neD, eqD_int, h2]
  | dict _ => exact absurd rfl (ty_ne hd)
  | _ => simp [g_has_rule, hasRule, bE, fz, var, kst, op2, op1, lift1, lift2, rd, EV.frz, toB, ofB, andV, orV, andT, orT, ifV, chain, aNil, aCons, toSV, callV, withVals, valsOf, callT, withTops, rds, seqS, bS, retS, exprS, setF, setC, storeF, storeC, ifS, asgS, bName, bNil, bCons, bTup, parS, skip, asD, listD, tupD, seqD, mkTup, mkLst, notV, notT, yesT, raiseS, iOp, cOp, negD, isiD, tyName, isiB, List.getElem?_cons_zero, List.getElem?_cons_succ, List.getElem?_nil, List.set_cons_zero, List.set_cons_succ, List.length_cons, List.length_nil, List.replicate, List.cons_append, List.nil_append, List.append_nil, if_true, if_false, Option.map_some, Option.map_none]
/-! vectors, rules, books as typed data -/
abbrev Vec := List Int
abbrev RuleT := Vec × Vec
def T (v : Vec) : D := .tuple (v.map .int)
def Rl (r : RuleT) : D := .tuple [T r.1, T r.2]
def Rs (rs : List RuleT) : D := .tuple (rs.map Rl)
def Bk (n : Int) (rs : List RuleT) : D := .tuple [.int n, Rs rs]
theorem eqvAll_ints (xs ys : Vec) : PyData.eqvAll (xs.map .int) (ys.map .int) = decide (xs = ys) := PySem.W.eqvAll_map xs ys
theorem eqv_T (xs ys : Vec) : PyData.eqv (T xs) (T ys) = decide (xs = ys) := by
  simp only [T, PyData.eqv]
  exact eqvAll_ints xs ys
theorem eqv_Rl (r r' : RuleT) : PyData.eqv (Rl r) (Rl r') = decide (r = r') := by
  simp only [Rl, PyData.eqv, PyData.eqvAll, eqv_T, Bool.and_true]
  rw [← Bool.decide_and]
  exact decide_eq_decide.mpr ⟨fun e => Prod.ext e.1 e.2, fun e => by rw [e]; exact ⟨rfl, rfl⟩⟩
theorem lay_T (v : Vec) : (T v).canLay0 = true := by simp [T, PyData.canLay0, lay_ints]
theorem dep_T (v : Vec) : (T v).depth = 1 := by simp [T, PyData.depth, depth_ints]
theorem lay_Rl (r : RuleT) : (Rl r).canLay0 = true := by simp [Rl, PyData.canLay0, PyData.canLayAll0, lay_T]
theorem dep_Rl (r : RuleT) : (Rl r).depth = 2 := by simp [Rl, PyData.depth, PyData.depthAll, dep_T]
theorem layAll_map {α : Type} {g : α → D} (h : ∀ a, (g a).canLay0 = true) : ∀ l : List α, PyData.canLayAll0 (l.map g) = true
  | [] => rfl
  | a :: r => by simp [PyData.canLayAll0, h, layAll_map h r]
theorem depAll_map {α : Type} {g : α → D} {n : Nat} (h : ∀ a, (g a).depth ≤ n) : ∀ l : List α, PyData.depthAll (l.map g) ≤ n
  | [] => Nat.zero_le _
  | a :: r => by
    simp only [List.map_cons, PyData.depthAll]
    exact Nat.max_le.mpr ⟨h a, depAll_map h r⟩
theorem shp_of {d : D} (h1 : d.canLay0 = true) (h2 : d.depth ≤ 64) : shp d = true := by
  unfold shp SeqAt.shaped
  rw [h1, decide_eq_true h2] <;> rfl
theorem shp_T (v : Vec) : shp (T v) = true := shp_of (lay_T v) (by rw [dep_T]; decide)
theorem shp_Rl (r : RuleT) : shp (Rl r) = true := shp_of (lay_Rl r) (by rw [dep_Rl]; decide)
theorem shp_mapT {α : Type} {g : α → D} {n : Nat} (h1 : ∀ a, (g a).canLay0 = true) (h2 : ∀ a, (g a).depth ≤ n) (hn : n ≤ 60) (l : List α) : shp (.tuple (l.map g)) = true :=
  shp_of (by simp [PyData.canLay0, layAll_map h1]) (by simp only [PyData.depth]; have := depAll_map h2 l; omega)
theorem shp_mapL {α : Type} {g : α → D} {n : Nat} (h1 : ∀ a, (g a).canLay0 = true) (h2 : ∀ a, (g a).depth ≤ n) (hn : n ≤ 60) (l : List α) : shp (.list (l.map g)) = true :=
  shp_of (by simp [PyData.canLay0, layAll_map h1]) (by simp only [PyData.depth]; have := depAll_map h2 l; omega)
theorem lay_Rs (rs : List RuleT) : (Rs rs).canLay0 = true := by simp [Rs, PyData.canLay0, layAll_map lay_Rl]
theorem lay_Bk (n : Int) (rs : List RuleT) : (Bk n rs).canLay0 = true := by simp [Bk, PyData.canLay0, PyData.canLayAll0, lay_Rs]
theorem anyEq_map {α : Type} [DecidableEq α] {g : α → D} (h : ∀ a b, PyData.eqv (g a) (g b) = decide (a = b)) (a : α) (l : List α) : anyEq (g a) (l.map g) = decide (a ∈ l) := by
  unfold anyEq
  induction l with
  | nil => rfl
  | cons x r ih =>
    rw [List.map_cons, List.any_cons, ih, h, ← Bool.decide_or]
    exact decide_eq_decide.mpr (by rw [List.mem_cons, eq_comm])
theorem cut_take {α : Type} (xs : List α) (n : Nat) (h : n ≤ xs.length) : cutL xs none (some (n : Int)) = xs.take n := by
  unfold cutL
  rw [HT.sIx_nat, Nat.min_eq_left h]
  simp [HT.sIx]
/-- all unlike -/
def unlike (ds : List D) : Bool := (enumFrom 0 ds).all fun d => match d with
  | .tuple [.int n, one] => !anyEq one (ds.take n.toNat)
  | _ => false
theorem shp_tup_mem {ds : List D} (h : shp (.tuple ds) = true) : ∀ d ∈ ds, shp d = true := by
  have h' := h
  unfold shp SeqAt.shaped at h
  rw [Bool.and_eq_true, decide_eq_true_eq] at h
  intro d hd
  have hl := layAll_mem (layAll_tup h.1) d hd
  refine shp_of hl ?_
  have key : ∀ ds : List D, d ∈ ds → d.depth ≤ PyData.depthAll ds := by
    intro ds
    induction ds with
    | nil => simp
    | cons x r ih =>
      intro hm
      rw [PyData.depthAll]
      rcases List.mem_cons.mp hm with z | z
      · rw [z]; exact Nat.le_max_left _ _
      · exact Nat.le_trans (ih z) (Nat.le_max_right _ _)
  have h2 := h.2
  simp only [PyData.depth] at h2
  have := key ds hd
  omega
theorem layAll_take : ∀ (ds : List D) (n : Nat), PyData.canLayAll0 ds = true → PyData.canLayAll0 (ds.take n) = true
  | _, 0, _ => by simp [PyData.canLayAll0]
  | [], n + 1, _ => rfl
  | d :: r, n + 1, h => by
    have h : d.canLay0 = true ∧ PyData.canLayAll0 r = true := by simpa [PyData.canLayAll0] using h
    simp [PyData.canLayAll0, h.1, layAll_take r n h.2]
theorem depAll_take : ∀ (ds : List D) (n : Nat), PyData.depthAll (ds.take n) ≤ PyData.depthAll ds
  | _, 0 => by simp [PyData.depthAll]
  | [], n + 1 => by simp
  | d :: r, n + 1 => by
    simp only [List.take_succ_cons, PyData.depthAll]
    have := depAll_take r n
    omega
theorem shp_take {ds : List D} (h : shp (.tuple ds) = true) (n : Nat) : shp (.tuple (ds.take n)) = true := by
  unfold shp SeqAt.shaped at h
  rw [Bool.and_eq_true, decide_eq_true_eq] at h
  refine shp_of (by simp [PyData.canLay0, layAll_take ds n (layAll_tup h.1)]) ?_
  have h2 := h.2
  simp only [PyData.depth] at h2 ⊢
  have := depAll_take ds n
  omega
theorem enum_mem : ∀ (ds : List D) (k : Nat) (x : D), x ∈ enumFrom k ds → ∃ n d, x = .tuple [.int (n : Nat), d] ∧ d ∈ ds ∧ k ≤ n ∧ n < k + ds.length ∧ ds[n - k]? = some d
  | [], k, x, h => by simp [enumFrom] at h
  | d :: r, k, x, h => by
    simp only [enumFrom] at h
    rcases List.mem_cons.mp h with z | z
    · exact ⟨k, d, z, List.mem_cons_self, Nat.le_refl _, by simp, by simp⟩
    · obtain ⟨n, e, h1, h2, h3, h4, h5⟩ := enum_mem r (k + 1) x z
      refine ⟨n, e, h1, List.mem_cons_of_mem _ h2, by omega, by simp; omega, ?_⟩
      have : n - k = (n - (k + 1)) + 1 := by omega
      rw [this, List.getElem?_cons_succ]
      exact h5
theorem e_is_unlike {ds : List D} {st : List MO} (h : Pl st) (hs : shp (.tuple ds) = true) (hl : ds.length ≤ 1000000) : f_is_unlike [.val (.tuple ds)] st = some (.ok (.val (.bool (unlike ds))) ⟨[], st⟩) := by
  refine run_of (env := [.val (.tuple ds), .un, .un]) ?_ h rfl
  have e := lcL_map (vs := [1, 2]) (b := bTup 2 (bCons (bName 1) (bCons (bName 2) bNil))) (t := yesT) (f := op2 notInD (var 2) (slE (var 0) noP (someP (var 1)))) (s := ⟨[.val (.tuple ds), .un, .un], st⟩)
    (fun d => .bool (match d with
      | .tuple [.int n, one] => !anyEq one (ds.take n.toNat)
      | _ => false)) (enumFrom 0 ds) [] (by simpa [enumFrom_length] using hl)
    (fun x hm => by
      obtain ⟨n, d, rfl, h1, _, h3, _⟩ := enum_mem ds 0 x hm
      have hn : n ≤ ds.length := by omega
      have s1 := shp_tup_mem hs d h1
      have s2 := shp_take hs n
      exact ⟨_, _, _, by simp [bTup, bCons, bName, bNil, wipeE]; rfl, by simp [yesT]; rfl, by simp [bE, fz, var, kst, op2, op1, lift1, lift2, rd, EV.frz, toB, ofB, andV, orV, andT, orT, ifV, chain, aNil, aCons, toSV, callV, withVals, valsOf, callT, withTops, rds, seqS, bS, retS, exprS, setF, setC, storeF, storeC, ifS, asgS, bName, bNil, bCons, bTup, parS, skip, asD, listD, tupD, seqD, mkTup, mkLst, notV, notT, yesT, raiseS, iOp, cOp, negD, isiD, tyName, isiB, List.getElem?_cons_zero, List.getElem?_cons_succ, List.getElem?_nil, List.set_cons_zero, List.set_cons_succ, List.length_cons, List.length_nil, List.replicate, List.cons_append, List.nil_append, List.append_nil, if_true, if_false, Option.map_some, Option.map_none, slE, noP, someP, sliceD, cut_take _ _ hn, notInD, inD, s1, s2]; rfl⟩)
  have e2 : c_is_unlike_1 ⟨[.val (.tuple ds), .un, .un], st⟩ = some (.ok (.fresh ((enumFrom 0 ds).map fun d => .bool (match d with
      | .tuple [.int n, one] => !anyEq one (ds.take n.toNat)
      | _ => false))) ⟨[.val (.tuple ds), .un, .un], st⟩) := by
    simp [c_is_unlike_1, lcE, bE, fz, var, kst, op2, op1, lift1, lift2, rd, EV.frz, toB, ofB, andV, orV, andT, orT, ifV, chain, aNil, aCons, toSV, callV, withVals, valsOf, callT, withTops, rds, seqS, bS, retS, exprS, setF, setC, storeF, storeC, ifS, asgS, bName, bNil, bCons, bTup, parS, skip, asD, listD, tupD, seqD, mkTup, mkLst, notV, notT, yesT, raiseS, iOp, cOp, negD, isiD, tyName, isiB, List.getElem?_cons_zero, List.getElem?_cons_succ, List.getElem?_nil, List.set_cons_zero, List.set_cons_succ, List.length_cons, List.length_nil, List.replicate, List.cons_append, List.nil_append, List.append_nil, if_true, if_false, Option.map_some, Option.map_none, enumD] at e ⊢
    exact e
  simp [g_is_unlike, bE, fz, var, kst, op2, op1, lift1, lift2, rd, EV.frz, toB, ofB, andV, orV, andT, orT, ifV, chain, aNil, aCons, toSV, callV, withVals, valsOf, callT, withTops, rds, seqS, bS, retS, exprS, setF, setC, storeF, storeC, ifS, asgS, bName, bNil, bCons, bTup, parS, skip, asD, listD, tupD, seqD, mkTup, mkLst, notV, notT, yesT, raiseS, iOp, cOp, negD, isiD, tyName, isiB, List.getElem?_cons_zero, List.getElem?_cons_succ, List.getElem?_nil, List.set_cons_zero, List.set_cons_succ, List.length_cons, List.length_nil, List.replicate, List.cons_append, List.nil_append, List.append_nil, if_true, if_false, Option.map_some, Option.map_none, e2, allD, boolsOf_mapB, unlike]
theorem enum_all {p : D → Bool} : ∀ (ds : List D) (k : Nat), (enumFrom k ds).all p = true ↔ ∀ i d, ds[i]? = some d → p (.tuple [.int ((k + i : Nat) : Int), d]) = true
  | [], k => by simp [enumFrom]
  | d :: r, k => by
    simp only [enumFrom, List.all_cons, Bool.and_eq_true]
    rw [enum_all r (k + 1)]
    constructor
    · rintro ⟨h1, h2⟩ i d' hd
      cases i with
      | zero => cases hd; exact h1
      | succ i =>
        have := h2 i d' hd
        have e : k + 1 + i = k + (i + 1) := by omega
        rw [e] at this
        exact this
    · intro h
      refine ⟨h 0 d rfl, fun i d' hd => ?_⟩
      have := h (i + 1) d' hd
      have e : k + 1 + i = k + (i + 1) := by omega
      rw [e]
      exact this
theorem nodup_iff_take {α : Type} : ∀ l : List α, l.Nodup ↔ ∀ i a, l[i]? = some a → a ∉ l.take i := by
  intro l
  constructor
  · intro h i a hi hm
    obtain ⟨j, hj⟩ := List.mem_iff_getElem?.mp hm
    rw [List.getElem?_take] at hj
    split at hj
    · rename_i hji
      have := nd_ix h hj hi
      omega
    · cases hj
  · intro h
    refine List.pairwise_iff_getElem.mpr fun i j hi hj hij e => ?_
    have e2 : l[j]? = some l[j] := List.getElem?_eq_getElem hj
    refine h j _ e2 (List.mem_iff_getElem?.mpr ⟨i, ?_⟩)
    rw [List.getElem?_take, if_pos hij, ← e]
    exact List.getElem?_eq_getElem hi
theorem unlike_map {α : Type} [DecidableEq α] {g : α → D} (h : ∀ a b, PyData.eqv (g a) (g b) = decide (a = b)) (l : List α) : unlike (l.map g) = decide l.Nodup := by
  rw [Bool.eq_iff_iff, decide_eq_true_iff, nodup_iff_take]
  unfold unlike
  rw [enum_all]
  constructor
  · intro hh i a hi hm
    have := hh i (g a) (by rw [List.getElem?_map, hi] <;> rfl)
    simp only [Nat.zero_add, Int.toNat_natCast, ← List.map_take, anyEq_map h, Bool.not_eq_true', decide_eq_false_iff_not] at this
    exact this hm
  · intro hh i d hd
    rw [List.getElem?_map] at hd
    cases e : l[i]? with
    | none => rw [e] at hd; cases hd
    | some a =>
      rw [e] at hd
      cases hd
      simp only [Nat.zero_add, Int.toNat_natCast, ← List.map_take, anyEq_map h, Bool.not_eq_true', decide_eq_false_iff_not]
      exact hh i a e
def hasBook (d : D) : Bool := match d with
  | .tuple [.int n, .tuple ds] => decide (1 ≤ n) && decide (n ≤ 4) && decide ((1 : Int) ≤ (ds.length : Nat)) && decide (((ds.length : Nat) : Int) ≤ 5) && ds.all (fun x => hasRule n x) && unlike ds
  | _ => false
theorem c_book {d1 d2 : SV} {ds : List D} {k : Int} {st : List MO} (h : Pl st) (hd : PyData.canLayAll0 ds = true) (hk : k ≤ 1000000) (hl : ds.length ≤ 1000000) :
    c_has_book_1 ⟨[d1, .val (.int k), .val (.tuple ds), d2], st⟩ = some (.ok (.fresh (ds.map fun x => .bool (hasRule k x))) ⟨[d1, .val (.int k), .val (.tuple ds), d2], st⟩) := by
  have e := lcL_map (vs := [3]) (b := bName 3) (t := yesT) (f := callF 2 f_has_rule (aCons (var 1) (aCons (var 3) aNil))) (s := ⟨[d1, .val (.int k), .val (.tuple ds), d2], st⟩) (fun x => .bool (hasRule k x)) ds [] (by simpa using hl)
    (fun d hm => ⟨_, _, _, by simp [bName]; rfl, by simp [yesT]; rfl, by simp [bE, fz, var, kst, op2, op1, lift1, lift2, rd, EV.frz, toB, ofB, andV, orV, andT, orT, ifV, chain, aNil, aCons, toSV, callV, withVals, valsOf, callT, withTops, rds, seqS, bS, retS, exprS, setF, setC, storeF, storeC, ifS, asgS, bName, bNil, bCons, bTup, parS, skip, asD, listD, tupD, seqD, mkTup, mkLst, notV, notT, yesT, raiseS, iOp, cOp, negD, isiD, tyName, isiB, List.getElem?_cons_zero, List.getElem?_cons_succ, List.getElem?_nil, List.set_cons_zero, List.set_cons_succ, List.length_cons, List.length_nil, List.replicate, List.cons_append, List.nil_append, List.append_nil, if_true, if_false, Option.map_some, Option.map_none, callF, wipeE, e_has_rule h (layAll_mem hd d hm) hk]; rfl⟩)
  simp [c_has_book_1, lcE, bE, fz, var, kst, op2, op1, lift1, lift2, rd, EV.frz, toB, ofB, andV, orV, andT, orT, ifV, chain, aNil, aCons, toSV, callV, withVals, valsOf, callT, withTops, rds, seqS, bS, retS, exprS, setF, setC, storeF, storeC, ifS, asgS, bName, bNil, bCons, bTup, parS, skip, asD, listD, tupD, seqD, mkTup, mkLst, notV, notT, yesT, raiseS, iOp, cOp, negD, isiD, tyName, isiB, List.getElem?_cons_zero, List.getElem?_cons_succ, List.getElem?_nil, List.set_cons_zero, List.set_cons_succ, List.length_cons, List.length_nil, List.replicate, List.cons_append, List.nil_append, List.append_nil, if_true, if_false, Option.map_some, Option.map_none] at e ⊢
  exact e
theorem rule_typed {k : Int} {d : D} (h : hasRule k d = true) : ∃ r : RuleT, d = Rl r ∧ (r.1.length : Int) = k ∧ (r.2.length : Int) = k ∧ (∀ n ∈ r.1, 0 ≤ n ∧ n ≤ 6) ∧ (∀ n ∈ r.2, 0 ≤ n ∧ n ≤ 6) ∧ 0 < r.1.sum ∧ r.1 ≠ r.2 := by
  unfold hasRule at h
  split at h
  · rename_i a b
    simp only [Bool.and_eq_true, decide_eq_true_eq, Bool.not_eq_true'] at h
    obtain ⟨⟨⟨h1, h2⟩, h3⟩, h4⟩ := h
    obtain ⟨xs, rfl, hx, hx2⟩ := counts_ints h1
    obtain ⟨ys, rfl, hy, hy2⟩ := counts_ints h2
    refine ⟨(xs, ys), rfl, hx, hy, hx2, hy2, ?_, ?_⟩
    · simpa [intsD, intsOf_map] using h3
    · have := eqv_T xs ys
      simp only [T] at this
      rw [this, decide_eq_false_iff_not] at h4
      exact h4
  · cases h
theorem rules_typed {k : Int} : ∀ {ds : List D}, (ds.all fun x => hasRule k x) = true → ∃ rs : List RuleT, ds = rs.map Rl ∧ ∀ r ∈ rs, (r.1.length : Int) = k ∧ (r.2.length : Int) = k ∧ (∀ n ∈ r.1, 0 ≤ n ∧ n ≤ 6) ∧ (∀ n ∈ r.2, 0 ≤ n ∧ n ≤ 6) ∧ 0 < r.1.sum ∧ r.1 ≠ r.2
  | [], _ => ⟨[], rfl, by simp⟩
  | d :: ds, h => by
    rw [List.all_cons, Bool.and_eq_true] at h
    obtain ⟨r, e, hr⟩ := rule_typed h.1
    obtain ⟨rs, e2, hrs⟩ := rules_typed h.2
    refine ⟨r :: rs, by rw [e, e2] <;> rfl, fun x hx => ?_⟩
    rcases List.mem_cons.mp hx with z | z
    · rw [z]; exact hr
    · exact hrs x z
theorem e_has_book {d : D} {st : List MO} (h : Pl st) (hd : d.canLay0 = true) : f_has_book [.val d] st = some (.ok (.val (.bool (hasBook d))) ⟨[], st⟩) := by
  have key : ∃ env, g_has_book ⟨[.val d, .un, .un, .un], st⟩ = some (.ret (.val (.bool (hasBook d))) ⟨env, st⟩) := by
    cases d with
    | tuple ds =>
      by_cases h1 : ds.length = 2
      · obtain ⟨a, b, rfl⟩ : ∃ a b, ds = [a, b] := by
          match ds, h1 with
          | [a, b], _ => exact ⟨a, b, rfl⟩
        have hla := layAll_mem (layAll_tup hd) a (by simp)
        have hlb := layAll_mem (layAll_tup hd) b (by simp)
        have ef := e_is_from (lo := 1) (hi := 4) h hla
        cases hf : isFrom a 1 4 with
        | false =>
          have hb : hasBook (.tuple [a, b]) = false := by
            cases a with
            | int n =>
              cases b with
              | tuple ds =>
                simp only [isFrom] at hf
                simp only [hasBook, hf, Bool.false_and]
              | _ => rfl
            | _ => rfl
          rw [hb]
          rw [hf] at ef
          simp [g_has_book, bE, fz, var, kst, op2, op1, lift1, lift2, rd, EV.frz, toB, ofB, andV, orV, andT, orT, ifV, chain, aNil, aCons, toSV, callV, withVals, valsOf, callT, withTops, rds, seqS, bS, retS, exprS, setF, setC, storeF, storeC, ifS, asgS, bName, bNil, bCons, bTup, parS, skip, asD, listD, tupD, seqD, mkTup, mkLst, notV, notT, yesT, raiseS, iOp, cOp, negD, isiD, tyName, isiB, List.getElem?_cons_zero, List.getElem?_cons_succ, List.getElem?_nil, List.set_cons_zero, List.set_cons_succ, List.length_cons, List.length_nil, List.replicate, List.cons_append, List.nil_append, List.append_nil, if_true, if_false, Option.map_some, Option.map_none, lenD, neD, eqD_int, callF, ixD, atI, ixN, ef]
        | true =>
          cases a with
          | int n =>
            rw [hf] at ef
            simp only [isFrom, Bool.and_eq_true, decide_eq_true_eq] at hf
            cases b with
            | tuple ds =>
              by_cases hl1 : (1 : Int) ≤ (ds.length : Nat)
              · by_cases hl2 : ((ds.length : Nat) : Int) ≤ 5
                · have e2 := c_book (d1 := .val (.tuple [.int n, .tuple ds])) (d2 := .un) (k := n) h (layAll_tup hlb) (by omega) (by omega)
                  cases hall : ds.all (fun x => hasRule n x) with
                  | false => simp [g_has_book, hasBook, bE, fz, var, kst, op2, op1, lift1, lift2, rd, EV.frz, toB, ofB, andV, orV, andT, orT, ifV, chain, aNil, aCons, toSV, callV, withVals, valsOf, callT, withTops, rds, seqS, bS, retS, exprS, setF, setC, storeF, storeC, ifS, asgS, bName, bNil, bCons, bTup, parS, skip, asD, listD, tupD, seqD, mkTup, mkLst, notV, notT, yesT, raiseS, iOp, cOp, negD, isiD, tyName, isiB, List.getElem?_cons_zero, List.getElem?_cons_succ, List.getElem?_nil, List.set_cons_zero, List.set_cons_succ, List.length_cons, List.length_nil, List.replicate, List.cons_append, List.nil_append, List.append_nil, if_true, if_false, Option.map_some, Option.map_none, lenD, neD, eqD_int, callF, ixD, atI, ixN, ef, hf, hl1, hl2, e2, allD, boolsOf_mapB, all_id, hall]
                  | true =>
                    obtain ⟨rs, ers, hrs⟩ := rules_typed hall
                    have es : shp (.tuple ds) = true := by rw [ers]; exact shp_mapT lay_Rl (fun r => Nat.le_of_eq (dep_Rl r)) (by decide) rs
                    have eu := e_is_unlike h es (by omega)
                    simp [g_has_book, hasBook, bE, fz, var, kst, op2, op1, lift1, lift2, rd, EV.frz, toB, ofB, andV, orV, andT, orT, ifV, chain, aNil, aCons, toSV, callV, withVals, valsOf, callT, withTops, rds, seqS, bS, retS, exprS, setF, setC, storeF, storeC, ifS, asgS, bName, bNil, bCons, bTup, parS, skip, asD, listD, tupD, seqD, mkTup, mkLst, notV, notT, yesT, raiseS, iOp, cOp, negD, isiD, tyName, isiB, List.getElem?_cons_zero, List.getElem?_cons_succ, List.getElem?_nil, List.set_cons_zero, List.set_cons_succ, List.length_cons, List.length_nil, List.replicate, List.cons_append, List.nil_append, List.append_nil, if_true, if_false, Option.map_some, Option.map_none, lenD, neD, eqD_int, callF, ixD, atI, ixN, ef, hf, hl1, hl2, e2, allD, boolsOf_mapB, all_id, hall, eu]
                · simp [g_has_book, hasBook, bE, fz, var, kst, op2, op1, lift1, lift2, rd, EV.frz, toB, ofB, andV, orV, andT, orT, ifV, chain, aNil, aCons, toSV, callV, withVals, valsOf, callT, withTops, rds, seqS, bS, retS, exprS, setF, setC, storeF, storeC, ifS, asgS, bName, bNil, bCons, bTup, parS, skip, asD, listD, tupD, seqD, mkTup, mkLst, notV, notT, yesT, raiseS, iOp, cOp, negD, isiD, tyName, isiB, List.getElem?_cons_zero, List.getElem?_cons_succ, List.getElem?_nil, List.set_cons_zero, List.set_cons_succ, List.length_cons, List.length_nil, List.replicate, List.cons_append, List.nil_append, List.append_nil, if_true, if_false, Option.map_some, Option.map_none, lenD, neD, eqD_int, callF, ixD, atI, ixN, ef, hf, hl1, hl2]
              · simp [g_has_book, hasBook, bE, fz, var, kst, op2, op1, lift1, lift2, rd, EV.frz, toB, ofB, andV, orV, andT, orT, ifV, chain, aNil, aCons, toSV, callV, withVals, valsOf, callT, withTops, rds, seqS, bS, retS, exprS, setF, setC, storeF, storeC, ifS, asgS, bName, bNil, bCons, bTup, parS, skip, asD, listD, tupD, seqD, mkTup, mkLst, notV, notT, yesT, raiseS, iOp, cOp, negD, isiD, tyName, isiB, List.getElem?_cons_zero, List.getElem?_cons_succ, List.getElem?_nil, List.set_cons_zero, List.set_cons_succ, List.length_cons, List.length_nil, List.replicate, List.cons_append, List.nil_append, List.append_nil, if_true, if_false, Option.map_some, Option.map_none, lenD, neD, eqD_int, callF, ixD, atI, ixN, ef, hf, hl1]
            | dict _ => exact absurd rfl (ty_ne hlb)
            | _ => simp [g_has_book, hasBook, bE, fz, var, kst, op2, op1, lift1, lift2, rd, EV.frz, toB, ofB, andV, orV, andT, orT, ifV, chain, aNil, aCons, toSV, callV, withVals, valsOf, callT, withTops, rds, seqS, bS, retS, exprS, setF, setC, storeF, storeC, ifS, asgS, bName, bNil, bCons, bTup, parS, skip, asD, listD, tupD, seqD, mkTup, mkLst, notV, notT, yesT, raiseS, iOp, cOp, negD, isiD, tyName, isiB, List.getElem?_cons_zero, List.getElem?_cons_succ, List.getElem?_nil, List.set_cons_zero, List.set_cons_succ, List.length_cons, List.length_nil, List.replicate, List.cons_append, List.nil_append, List.append_nil, if_true, if_false, Option.map_some, Option.map_none, lenD, neD, eqD_int, callF, ixD, atI, ixN, ef, hf]
          | _ => simp [isFrom] at hf
      · have h2 : ¬ ((ds.length : Int) = 2) := by omega
        have h3 : hasBook (.tuple ds) = false := by
          match ds, h1 with
          | [], _ => rfl
          | [a], _ => cases a <;> rfl
          | [a, b], h => exact absurd rfl h
          | a :: b :: c :: r, _ => cases a <;> cases b <;> rfl
        simp [g_has_book, h3, bE, fz, var, kst, op2, op1, lift1, lift2, rd, EV.frz, toB, ofB, andV, orV, andT, orT, ifV, chain, aNil, aCons, toSV, callV, withVals, valsOf, callT, withTops, rds, seqS, bS, retS, exprS, setF, setC, storeF, storeC, ifS, asgS, bName, bNil, bCons, bTup, parS, skip, asD, listD, tupD, seqD, mkTup, mkLst, notV, notT, yesT, raiseS, iOp, cOp, negD, isiD, tyName, isiB, List.getElem?_cons_zero, List.getElem?_cons_succ, List.getElem?_nil, List.set_cons_zero, List.set_cons_succ, List.length_cons, List.length_nil, List.replicate, List.cons_append, List.nil_append, List.append_nil, if_true, if_false, Option.map_some, Option.map_none, lenD, neD, eqD_int, h2]
    | dict _ => exact absurd rfl (ty_ne hd)
    | _ => simp [g_has_book, hasBook, bE, fz, var, kst, op2, op1, lift1, lift2, rd, EV.frz, toB, ofB, andV, orV, andT, orT, ifV, chain, aNil, aCons, toSV, callV, withVals, valsOf, callT, withTops, rds, seqS, bS, retS, exprS, setF, setC, storeF, storeC, ifS, asgS, bName, bNil, bCons, bTup, parS, skip, asD, listD, tupD, seqD, mkTup, mkLst, notV, notT, yesT, raiseS, iOp, cOp, negD, isiD, tyName, isiB, List.getElem?_cons_zero, List.getElem?_cons_succ, List.getElem?_nil, List.set_cons_zero, List.set_cons_succ, List.length_cons, List.length_nil, List.replicate, List.cons_append, List.nil_append, List.append_nil, if_true, if_false, Option.map_some, Option.map_none]
  obtain ⟨env, e⟩ := key
  exact run_of e h rfl
end PF
set_option maxHeartbeats 1000000
namespace PF
open PySem PySem.Spec PyProof.Rows L2 DL
/-! ### the law's draws -/
theorem log2_lt {i : Int} {k : Nat} (h0 : 0 ≤ i) (h : i < 2 ^ k) (hk : 0 < k) : i.natAbs.log2 < k := by
  by_cases h1 : i.natAbs = 0
  · rw [h1]; simpa using hk
  · refine (Nat.log2_lt h1).mpr ?_
    have h3 : ((i.natAbs : Nat) : Int) < ((2 ^ k : Nat) : Int) := by
      rw [Int.natAbs_of_nonneg h0]
      simpa using h
    exact Int.ofNat_lt.mp h3
def Src (n : Nat) (st : List MO) : Prop := ∃ a b : Int, st[n]? = some (.lst [.int a, .int b]) ∧ 0 ≤ a ∧ 0 ≤ b ∧ b < 2147483237
/-- only the source at n may have changed -/
structure Dr (n : Nat) (st st' : List MO) : Prop where
  src : Src n st'
  pl : Pl st'
  len : st'.length = st.length
  same : ∀ m, m ≠ n → st'[m]? = st[m]?
theorem Dr.trans {n : Nat} {st st1 st2 : List MO} (a : Dr n st st1) (b : Dr n st1 st2) : Dr n st st2 := ⟨b.src, b.pl, b.len.trans a.len, fun m h => (b.same m h).trans (a.same m h)⟩
theorem Dr.refl {n : Nat} {st : List MO} (h : Pl st) (s : Src n st) : Dr n st st := ⟨s, h, rfl, fun _ _ => rfl⟩
theorem set_get {α : Type} {l : List α} {n : Nat} {x y : α} (h : l[n]? = some y) : (l.set n x)[n]? = some x := List.getElem?_set_self (List.getElem?_eq_some_iff.mp h).1
theorem dr_set {n : Nat} {st : List MO} {y : MO} {a b : Int} (h : Pl st) (e : st[n]? = some y) (ha : 0 ≤ a) (hb : 0 ≤ b) (hb2 : b < 2147483237) : Dr n st (st.set n (.lst [.int a, .int b])) :=
  ⟨⟨a, b, set_get e, ha, hb, hb2⟩, pl_set h, by simp, fun m hm => List.getElem?_set_ne (Ne.symm hm)⟩
theorem e_draw {n : Nat} {m : Int} {st : List MO} (h : Pl st) (s : Src n st) (hm : 0 < m) (hl : m.natAbs.log2 < 9000) : ∃ r st', f__law_draw [.cell n, .val (.int m)] st = some (.ok (.val (.int r)) ⟨[], st'⟩) ∧ 0 ≤ r ∧ r < m ∧ Dr n st st' := by
  obtain ⟨a, b, e, ha, hb, hb2⟩ := s
  by_cases h0 : 0 < a
  · refine ⟨a % m, st.set n (.lst [.int (a / m), .int b]), run_of (env := [.cell n, .val (.int m), .val (.int (a % m)), .un]) ?_ (pl_set h) (by simp), Int.emod_nonneg _ (by omega), Int.emod_lt_of_pos _ hm, dr_set h e (Int.ediv_nonneg ha (by omega)) hb hb2⟩
    simp [g__law_draw, bE, fz, var, kst, op2, op1, lift1, lift2, rd, EV.frz, toB, ofB, andV, orV, andT, orT, ifV, chain, aNil, aCons, toSV, callV, withVals, valsOf, callT, withTops, rds, seqS, bS, retS, exprS, setF, setC, storeF, storeC, ifS, asgS, bName, bNil, bCons, bTup, parS, skip, asD, listD, tupD, seqD, mkTup, mkLst, notV, notT, yesT, raiseS, iOp, cOp, negD, isiD, tyName, isiB, List.getElem?_cons_zero, List.getElem?_cons_succ, List.getElem?_nil, List.set_cons_zero, List.set_cons_succ, List.length_cons, List.length_nil, List.replicate, List.cons_append, List.nil_append, List.append_nil, if_true, if_false, Option.map_some, Option.map_none, e, ixD, atI, ixN, h0, modD, iOp, DL.intD, divD, setIxS, hm, hl]
  · have l1 : (48271 : Int).natAbs.log2 < 20 := by decide
    have l2 : b.natAbs.log2 < 31 := log2_lt hb (by omega) (by decide)
    obtain ⟨b', hb'⟩ : ∃ b', (b * 48271 + 83) % 2147483237 = b' := ⟨_, rfl⟩
    have hb1 : 0 ≤ b' := by rw [← hb']; exact Int.emod_nonneg _ (by decide)
    have hb3 : b' < 2147483237 := by rw [← hb']; exact Int.emod_lt_of_pos _ (by decide)
    have l3 : b'.natAbs.log2 < 31 := log2_lt hb1 (by omega) (by decide)
    have l4 : (b' / 41 + 26).natAbs.log2 < 31 := log2_lt (by omega) (by omega) (by decide)
    have c1 : b.natAbs.log2 + (48271 : Int).natAbs.log2 < 100000000 := by omega
    have c2 : b'.natAbs.log2 + (b' / 41 + 26).natAbs.log2 < 100000000 := by omega
    have c3 : (41 : Int).natAbs.log2 < 9000 := by decide
    have c4 : (32 : Int).natAbs.log2 < 9000 := by decide
    have e2 : (st.set n (.lst [.int a, .int b']))[n]? = some (.lst [.int a, .int b']) := set_get e
    refine ⟨(b' * (b' / 41 + 26)) % 2147483179 / 32 % m, st.set n (.lst [.int a, .int b']), run_of (env := [.cell n, .val (.int m), .un, .val (.int ((b' * (b' / 41 + 26)) % 2147483179))]) ?_ (pl_set h) (by simp), Int.emod_nonneg _ (by omega), Int.emod_lt_of_pos _ hm, dr_set h e ha hb1 hb3⟩
    have m1 : mulD (.int b) (.int 48271) = some (.val (.int (b * 48271))) := by simp only [mulD]; rw [if_pos c1]
    have m2 : mulD (.int b') (.int (b' / 41 + 26)) = some (.val (.int (b' * (b' / 41 + 26)))) := by simp only [mulD]; rw [if_pos c2]
    have m3 : divD (.int b') (.int 41) = some (.val (.int (b' / 41))) := by simp [divD, iOp]; decide
    have m4 : ∀ x : Int, divD (.int x) (.int 32) = some (.val (.int (x / 32))) := fun x => by simp [divD, iOp]; decide
    have m5 : ∀ x : Int, modD (.int x) (.int 2147483237) = some (.val (.int (x % 2147483237))) := fun x => by simp [modD, iOp]
    have m6 : ∀ x : Int, modD (.int x) (.int 2147483179) = some (.val (.int (x % 2147483179))) := fun x => by simp [modD, iOp]
    have m7 : ∀ x : Int, modD (.int x) (.int m) = some (.val (.int (x % m))) := fun x => by simp [modD, iOp, hm]
    have gt : gtD (.int a) (.int 0) = some (.val (.bool false)) := by simp [gtD, cOp, h0]
    simp [g__law_draw, bE, fz, var, kst, op2, op1, lift1, lift2, rd, EV.frz, toB, ofB, andV, orV, andT, orT, ifV, chain, aNil, aCons, toSV, callV, withVals, valsOf, callT, withTops, rds, seqS, bS, retS, exprS, setF, setC, storeF, storeC, ifS, asgS, bName, bNil, bCons, bTup, parS, skip, asD, listD, tupD, seqD, mkTup, mkLst, notV, notT, yesT, raiseS, iOp, cOp, negD, isiD, tyName, isiB, List.getElem?_cons_zero, List.getElem?_cons_succ, List.getElem?_nil, List.set_cons_zero, List.set_cons_succ, List.length_cons, List.length_nil, List.replicate, List.cons_append, List.nil_append, List.append_nil, if_true, if_false, Option.map_some, Option.map_none, e, ixD, atI, ixN, gt, DL.intD, setIxS, m1, addD, m5, hb', e2, m3, m2, m6, m4, m7, h0]
theorem atI_lt {α : Type} {l : List α} {i : Int} (h0 : 0 ≤ i) (h : i < l.length) : ∃ x, atI l i = some x ∧ x ∈ l ∧ l[i.toNat]? = some x := by
  have hn : i.toNat < l.length := by omega
  refine ⟨l[i.toNat], ?_, List.getElem_mem hn, List.getElem?_eq_getElem hn⟩
  unfold atI ixN
  rw [if_pos h0, if_pos h]
  exact List.getElem?_eq_getElem hn
/-- a list or a tuple -/
def Sq (c : D) (ds : List D) : Prop := c = .list ds ∨ c = .tuple ds
theorem e_choice {n : Nat} {c : D} {ds : List D} {st : List MO} (h : Pl st) (s : Src n st) (hc : Sq c ds) (h0 : ds ≠ []) (hl : ds.length ≤ 1000000) : ∃ d st', f__law_choice [.cell n, .val c] st = some (.ok (.val d) ⟨[], st'⟩) ∧ d ∈ ds ∧ Dr n st st' := by
  have hp : 0 < ds.length := List.length_pos_iff.mpr h0
  obtain ⟨r, st', e, h1, h2, dr⟩ := e_draw (m := (ds.length : Nat)) h s (by omega) (by
    have := log2_lt (i := (ds.length : Nat)) (k := 20) (by omega) (by omega) (by decide)
    omega)
  obtain ⟨d, e2, hm, _⟩ := atI_lt h1 h2
  refine ⟨d, st', run_of (env := [.cell n, .val c]) ?_ dr.pl dr.len, hm, dr⟩
  rcases hc with rfl | rfl
  · simp [g__law_choice, bE, fz, var, kst, op2, op1, lift1, lift2, rd, EV.frz, toB, ofB, andV, orV, andT, orT, ifV, chain, aNil, aCons, toSV, callV, withVals, valsOf, callT, withTops, rds, seqS, bS, retS, exprS, setF, setC, storeF, storeC, ifS, asgS, bName, bNil, bCons, bTup, parS, skip, asD, listD, tupD, seqD, mkTup, mkLst, notV, notT, yesT, raiseS, iOp, cOp, negD, isiD, tyName, isiB, List.getElem?_cons_zero, List.getElem?_cons_succ, List.getElem?_nil, List.set_cons_zero, List.set_cons_succ, List.length_cons, List.length_nil, List.replicate, List.cons_append, List.nil_append, List.append_nil, if_true, if_false, Option.map_some, Option.map_none, lenD, callF, e, ixD, e2]
  · simp [g__law_choice, bE, fz, var, kst, op2, op1, lift1, lift2, rd, EV.frz, toB, ofB, andV, orV, andT, orT, ifV, chain, aNil, aCons, toSV, callV, withVals, valsOf, callT, withTops, rds, seqS, bS, retS, exprS, setF, setC, storeF, storeC, ifS, asgS, bName, bNil, bCons, bTup, parS, skip, asD, listD, tupD, seqD, mkTup, mkLst, notV, notT, yesT, raiseS, iOp, cOp, negD, isiD, tyName, isiB, List.getElem?_cons_zero, List.getElem?_cons_succ, List.getElem?_nil, List.set_cons_zero, List.set_cons_succ, List.length_cons, List.length_nil, List.replicate, List.cons_append, List.nil_append, List.append_nil, if_true, if_false, Option.map_some, Option.map_none, lenD, callF, e, ixD, e2]
theorem e_heap {n : Nat} {k m : Int} {st : List MO} (h : Pl st) (s : Src n st) (hk0 : 0 ≤ k) (hk : k ≤ 1000) (hm : 0 ≤ m) (hl : (m + 1).natAbs.log2 < 9000) : ∃ (v : Vec) (st' : List MO), f__law_heap [.cell n, .val (.int k), .val (.int m)] st = some (.ok (.val (T v)) ⟨[], st'⟩) ∧ v.length = k.toNat ∧ (∀ x ∈ v, 0 ≤ x ∧ x ≤ m) ∧ Dr n st st' := by
  have key := lcL_inv (vs := [3]) (b := bName 3) (t := yesT) (f := callF 2 f__law_draw (aCons (var 0) (aCons (op2 addD (var 2) (kst (.int 1))) aNil))) (env := [.cell n, .val (.int k), .val (.int m), .un])
    (fun r acc st' => ∃ v : Vec, acc = v.map .int ∧ v.length + r.length = k.toNat ∧ (∀ x ∈ v, 0 ≤ x ∧ x ≤ m) ∧ Dr n st st')
    ((List.range k.toNat).map fun i => .int ((i : Nat) : Int)) [] st (by simp; omega) ⟨[], rfl, by simp, by simp, Dr.refl h s⟩ (by
      rintro d r acc st1 ⟨v, rfl, hv, hx, dr⟩
      obtain ⟨x, st2, e, h1, h2, dr2⟩ := e_draw (m := m + 1) dr.pl dr.src (by omega) hl
      refine ⟨_, _, _, ⟨[.cell n, .val (.int k), .val (.int m), .val d], st2⟩, .int x, by simp [bName, wipeE]; rfl, by simp [yesT]; exact ⟨rfl, rfl⟩, by simp [bE, fz, var, kst, op2, op1, lift1, lift2, rd, EV.frz, toB, ofB, andV, orV, andT, orT, ifV, chain, aNil, aCons, toSV, callV, withVals, valsOf, callT, withTops, rds, seqS, bS, retS, exprS, setF, setC, storeF, storeC, ifS, asgS, bName, bNil, bCons, bTup, parS, skip, asD, listD, tupD, seqD, mkTup, mkLst, notV, notT, yesT, raiseS, iOp, cOp, negD, isiD, tyName, isiB, List.getElem?_cons_zero, List.getElem?_cons_succ, List.getElem?_nil, List.set_cons_zero, List.set_cons_succ, List.length_cons, List.length_nil, List.replicate, List.cons_append, List.nil_append, List.append_nil, if_true, if_false, Option.map_some, Option.map_none, callF, addD, e], v ++ [x], by simp, by simp at hv ⊢; omega, fun y hy => ?_, dr.trans dr2⟩
      rcases List.mem_append.mp hy with z | z
      · exact hx y z
      · have : y = x := by simpa using z
        omega)
  obtain ⟨out, st', e, v, rfl, hv, hx, dr⟩ := key
  refine ⟨v, st', run_of (env := [.cell n, .val (.int k), .val (.int m), .un]) ?_ dr.pl dr.len, by simpa using hv, hx, dr⟩
  have hr : range1D [.int k] = some ((List.range k.toNat).map fun i => .int ((i : Nat) : Int)) := by
    simp only [range1D]
    rw [if_pos (by omega)]
  have e2 : c__law_heap_1 ⟨[.cell n, .val (.int k), .val (.int m), .un], st⟩ = some (.ok (.fresh (v.map .int)) ⟨[.cell n, .val (.int k), .val (.int m), .un], st'⟩) := by
    simp [c__law_heap_1, lcE, bE, fz, var, kst, op2, op1, lift1, lift2, rd, EV.frz, toB, ofB, andV, orV, andT, orT, ifV, chain, aNil, aCons, toSV, callV, withVals, valsOf, callT, withTops, rds, seqS, bS, retS, exprS, setF, setC, storeF, storeC, ifS, asgS, bName, bNil, bCons, bTup, parS, skip, asD, listD, tupD, seqD, mkTup, mkLst, notV, notT, yesT, raiseS, iOp, cOp, negD, isiD, tyName, isiB, List.getElem?_cons_zero, List.getElem?_cons_succ, List.getElem?_nil, List.set_cons_zero, List.set_cons_succ, List.length_cons, List.length_nil, List.replicate, List.cons_append, List.nil_append, List.append_nil, if_true, if_false, Option.map_some, Option.map_none, hr] at e ⊢
    exact e
  simp [g__law_heap, bE, fz, var, kst, op2, op1, lift1, lift2, rd, EV.frz, toB, ofB, andV, orV, andT, orT, ifV, chain, aNil, aCons, toSV, callV, withVals, valsOf, callT, withTops, rds, seqS, bS, retS, exprS, setF, setC, storeF, storeC, ifS, asgS, bName, bNil, bCons, bTup, parS, skip, asD, listD, tupD, seqD, mkTup, mkLst, notV, notT, yesT, raiseS, iOp, cOp, negD, isiD, tyName, isiB, List.getElem?_cons_zero, List.getElem?_cons_succ, List.getElem?_nil, List.set_cons_zero, List.set_cons_succ, List.length_cons, List.length_nil, List.replicate, List.cons_append, List.nil_append, List.append_nil, if_true, if_false, Option.map_some, Option.map_none, e2, tupleD, T]
theorem range1_eq {k : Int} (h0 : 0 ≤ k) (h : k ≤ 100000) : range1D [.int k] = some ((List.range k.toNat).map fun i => .int ((i : Nat) : Int)) := by
  simp only [range1D]
  rw [if_pos (by omega)]
/-- a rule as the law draws it -/
structure OkR (k : Nat) (r : RuleT) : Prop where
  l1 : r.1.length = k
  l2 : r.2.length = k
  t : ∀ x ∈ r.1, 0 ≤ x ∧ x ≤ 2
  g : ∀ x ∈ r.2, 0 ≤ x ∧ x ≤ 2
  s : 0 < r.1.sum
  ne : r.1 ≠ r.2
theorem sum_nn : ∀ {v : Vec}, (∀ x ∈ v, 0 ≤ x) → 0 ≤ v.sum
  | [], _ => by simp
  | x :: r, h => by
    have h1 := h x List.mem_cons_self
    have h2 := sum_nn (v := r) fun y hy => h y (List.mem_cons_of_mem _ hy)
    simp only [List.sum_cons]
    omega
theorem rep_flat {d : D} : ∀ k : Nat, (List.replicate k [d]).flatten = List.replicate k d
  | 0 => rfl
  | k + 1 => by rw [List.replicate_succ, List.flatten_cons, rep_flat k]; rfl
theorem mul_one_tup {d : D} {k : Int} (h0 : 0 ≤ k) (h : k ≤ 1000) : mulD (.tuple [d]) (.int k) = some (.val (.tuple (List.replicate k.toNat d))) := by
  simp only [mulD]
  rw [if_pos ⟨by simp, by omega, h⟩, rep_flat]
theorem rep_T (k : Nat) (i : Int) : PyData.tuple (List.replicate k (.int i)) = T (List.replicate k i) := by
  unfold T
  rw [List.map_replicate]
theorem sumT (v : Vec) : sumD [T v] = some (.val (.int v.sum)) := by simp [sumD, T, intsOf_map]
theorem eqD_T (v w : Vec) : eqD (T v) (T w) = some (.val (.bool (decide (v = w)))) := by
  have e := eqv_T v w
  have h1 := shp_T v
  have h2 := shp_T w
  unfold T at e h1 h2 ⊢
  simp only [eqD, h1, h2, e, Bool.and_self, if_true]
theorem neD_T (v w : Vec) : neD (T v) (T w) = some (.val (.bool (!decide (v = w)))) := by
  simp only [neD, eqD_T]
theorem addT (v w : Vec) (h : v.length + w.length ≤ 1000000) : addD (T v) (T w) = some (.val (T (v ++ w))) := by
  simp only [addD, T, List.length_map]
  rw [if_pos h, List.map_append]
theorem rep_sum : ∀ k : Nat, (List.replicate k (1 : Int)).sum = k
  | 0 => rfl
  | k + 1 => by
    rw [List.replicate_succ, List.sum_cons, rep_sum k]
    omega
theorem tupT (v : Vec) : tupleD [.list (v.map .int)] = some (.val (T v)) := rfl
theorem rule_ret {t g : Vec} {n : Nat} {k : Int} {st : List MO} (hk0 : 1 ≤ k) (hk : k ≤ 100) (ht : t.length = k.toNat) (hg : g.length = k.toNat) (tx : ∀ x ∈ t, 0 ≤ x ∧ x ≤ 2) (gx : ∀ x ∈ g, 0 ≤ x ∧ x ≤ 2) (hs : 0 < t.sum) :
    ∃ (r : RuleT), (retS (ifV (toB (op2 neD (var 2) (var 3))) (callV mkTup (aCons (var 2) (aCons (var 3) aNil))) (callV mkTup (aCons (var 2) (aCons (op2 mulD (callV mkTup (aCons (kst (.int 0)) aNil)) (var 1)) aNil))))) ⟨[.cell n, .val (.int k), .val (T t), .val (T g), .un], st⟩ =
      some (.ret (.val (Rl r)) ⟨[.cell n, .val (.int k), .val (T t), .val (T g), .un], st⟩) ∧ OkR k.toNat r := by
  by_cases hne : t = g
  · refine ⟨(t, List.replicate k.toNat 0), ?_, ht, by simp, tx, fun x hx => ?_, hs, fun e => ?_⟩
    · have m1 := mul_one_tup (d := .int 0) (k := k) (by omega) (by omega)
      rw [rep_T] at m1
      simp [bE, fz, var, kst, op2, op1, lift1, lift2, rd, EV.frz, toB, ofB, andV, orV, andT, orT, ifV, chain, aNil, aCons, toSV, callV, withVals, valsOf, callT, withTops, rds, seqS, bS, retS, exprS, setF, setC, storeF, storeC, ifS, asgS, bName, bNil, bCons, bTup, parS, skip, asD, listD, tupD, seqD, mkTup, mkLst, notV, notT, yesT, raiseS, iOp, cOp, negD, isiD, tyName, isiB, List.getElem?_cons_zero, List.getElem?_cons_succ, List.getElem?_nil, List.set_cons_zero, List.set_cons_succ, List.length_cons, List.length_nil, List.replicate, List.cons_append, List.nil_append, List.append_nil, if_true, if_false, Option.map_some, Option.map_none, neD_T, hne, m1, Rl]
    · have := (List.mem_replicate.mp hx).2
      omega
    · have e : t = List.replicate k.toNat 0 := e
      rw [e] at hs
      simp at hs
  · refine ⟨(t, g), ?_, ht, hg, tx, gx, hs, hne⟩
    simp [bE, fz, var, kst, op2, op1, lift1, lift2, rd, EV.frz, toB, ofB, andV, orV, andT, orT, ifV, chain, aNil, aCons, toSV, callV, withVals, valsOf, callT, withTops, rds, seqS, bS, retS, exprS, setF, setC, storeF, storeC, ifS, asgS, bName, bNil, bCons, bTup, parS, skip, asD, listD, tupD, seqD, mkTup, mkLst, notV, notT, yesT, raiseS, iOp, cOp, negD, isiD, tyName, isiB, List.getElem?_cons_zero, List.getElem?_cons_succ, List.getElem?_nil, List.set_cons_zero, List.set_cons_succ, List.length_cons, List.length_nil, List.replicate, List.cons_append, List.nil_append, List.append_nil, if_true, if_false, Option.map_some, Option.map_none, neD_T, hne, Rl]
theorem sub1 {k : Int} : subD (.int k) (.int 1) = some (.val (.int (k - 1))) := by simp [subD, iOp]
theorem rule_tail {t g : Vec} {n : Nat} {k : Int} {st : List MO} (h : Pl st) (s : Src n st) (hk0 : 1 ≤ k) (hk : k ≤ 100) (ht : t.length = k.toNat) (hg : g.length = k.toNat) (tx : ∀ x ∈ t, 0 ≤ x ∧ x ≤ 2) (gx : ∀ x ∈ g, 0 ≤ x ∧ x ≤ 2) (hs : 0 < t.sum) :
    ∃ (r : RuleT) (st' : List MO) (env : List SV), (seqS (ifS (andT (toB (op2 geD (callT sumD (aCons (var 3) aNil)) (callT sumD (aCons (var 2) aNil)))) (toB (op2 gtD (callF 2 PF.f__law_draw (aCons (var 0) (aCons (kst (.int 4)) aNil))) (kst (.int 0))))) (setF 3 (op2 addD (op2 mulD (callV mkTup (aCons (kst (.int 0)) aNil)) (op2 subD (var 1) (kst (.int 1)))) (callV mkTup (aCons (kst (.int 1)) aNil)))) skip) (retS (ifV (toB (op2 neD (var 2) (var 3))) (callV mkTup (aCons (var 2) (aCons (var 3) aNil))) (callV mkTup (aCons (var 2) (aCons (op2 mulD (callV mkTup (aCons (kst (.int 0)) aNil)) (var 1)) aNil)))))) ⟨[.cell n, .val (.int k), .val (T t), .val (T g), .un], st⟩ = some (.ret (.val (Rl r)) ⟨env, st'⟩) ∧ OkR k.toNat r ∧ Dr n st st' := by
  by_cases hge : t.sum ≤ g.sum
  · obtain ⟨x, st1, e, h1, h2, dr⟩ := e_draw (m := 4) h s (by decide) (by decide)
    by_cases hx : 0 < x
    · have m1 := mul_one_tup (d := .int 0) (k := k - 1) (by omega) (by omega)
      rw [rep_T, show (k - 1).toNat = k.toNat - 1 by omega] at m1
      have a1 := addT (List.replicate (k.toNat - 1) 0) [1] (by simp; omega)
      have a1 : addD (T (List.replicate (k.toNat - 1) 0)) (.tuple [.int 1]) = some (.val (T (List.replicate (k.toNat - 1) 0 ++ [1]))) := a1
      obtain ⟨r, e2, ok⟩ := rule_ret (t := t) (g := List.replicate (k.toNat - 1) 0 ++ [1]) (n := n) (st := st1) hk0 hk ht (by simp; omega) tx (fun y hy => by
        rcases List.mem_append.mp hy with z | z
        · have := (List.mem_replicate.mp z).2
          omega
        · have : y = 1 := by simpa using z
          omega) hs
      refine ⟨r, st1, [.cell n, .val (.int k), .val (T t), .val (T (List.replicate (k.toNat - 1) 0 ++ [1])), .un], ?_, ok, dr⟩
      rw [← e2]
      simp [bE, fz, var, kst, op2, op1, lift1, lift2, rd, EV.frz, toB, ofB, andV, orV, andT, orT, ifV, chain, aNil, aCons, toSV, callV, withVals, valsOf, callT, withTops, rds, seqS, bS, retS, exprS, setF, setC, storeF, storeC, ifS, asgS, bName, bNil, bCons, bTup, parS, skip, asD, listD, tupD, seqD, mkTup, mkLst, notV, notT, yesT, raiseS, iOp, cOp, negD, isiD, tyName, isiB, List.getElem?_cons_zero, List.getElem?_cons_succ, List.getElem?_nil, List.set_cons_zero, List.set_cons_succ, List.length_cons, List.length_nil, List.replicate, List.cons_append, List.nil_append, List.append_nil, if_true, if_false, Option.map_some, Option.map_none, sumT, hge, callF, e, hx, sub1, m1, a1]
    · obtain ⟨r, e2, ok⟩ := rule_ret (t := t) (g := g) (n := n) (st := st1) hk0 hk ht hg tx gx hs
      refine ⟨r, st1, [.cell n, .val (.int k), .val (T t), .val (T g), .un], ?_, ok, dr⟩
      rw [← e2]
      simp [bE, fz, var, kst, op2, op1, lift1, lift2, rd, EV.frz, toB, ofB, andV, orV, andT, orT, ifV, chain, aNil, aCons, toSV, callV, withVals, valsOf, callT, withTops, rds, seqS, bS, retS, exprS, setF, setC, storeF, storeC, ifS, asgS, bName, bNil, bCons, bTup, parS, skip, asD, listD, tupD, seqD, mkTup, mkLst, notV, notT, yesT, raiseS, iOp, cOp, negD, isiD, tyName, isiB, List.getElem?_cons_zero, List.getElem?_cons_succ, List.getElem?_nil, List.set_cons_zero, List.set_cons_succ, List.length_cons, List.length_nil, List.replicate, List.cons_append, List.nil_append, List.append_nil, if_true, if_false, Option.map_some, Option.map_none, sumT, hge, callF, e, hx]
  · obtain ⟨r, e2, ok⟩ := rule_ret (t := t) (g := g) (n := n) (st := st) hk0 hk ht hg tx gx hs
    refine ⟨r, st, [.cell n, .val (.int k), .val (T t), .val (T g), .un], ?_, ok, Dr.refl h s⟩
    rw [← e2]
    simp [bE, fz, var, kst, op2, op1, lift1, lift2, rd, EV.frz, toB, ofB, andV, orV, andT, orT, ifV, chain, aNil, aCons, toSV, callV, withVals, valsOf, callT, withTops, rds, seqS, bS, retS, exprS, setF, setC, storeF, storeC, ifS, asgS, bName, bNil, bCons, bTup, parS, skip, asD, listD, tupD, seqD, mkTup, mkLst, notV, notT, yesT, raiseS, iOp, cOp, negD, isiD, tyName, isiB, List.getElem?_cons_zero, List.getElem?_cons_succ, List.getElem?_nil, List.set_cons_zero, List.set_cons_succ, List.length_cons, List.length_nil, List.replicate, List.cons_append, List.nil_append, List.append_nil, if_true, if_false, Option.map_some, Option.map_none, sumT, hge]
theorem e_rule {n : Nat} {k : Int} {st : List MO} (h : Pl st) (s : Src n st) (hk0 : 1 ≤ k) (hk : k ≤ 100) : ∃ (r : RuleT) (st' : List MO), f__law_rule [.cell n, .val (.int k)] st = some (.ok (.val (Rl r)) ⟨[], st'⟩) ∧ OkR k.toNat r ∧ Dr n st st' := by
  obtain ⟨v, st1, e1, hv, hx, dr1⟩ := e_heap (k := k) (m := 2) h s (by omega) (by omega) (by decide) (by decide)
  -- given
  have key := lcL_inv (vs := [4]) (b := bName 4) (t := yesT) (f := callF 2 f__law_choice (aCons (var 0) (aCons (callV mkLst (aCons (kst (.int 0)) (aCons (kst (.int 0)) (aCons (kst (.int 0)) (aCons (kst (.int 1)) (aCons (kst (.int 1)) (aCons (kst (.int 2)) aNil))))))) aNil))) (env := [.cell n, .val (.int k), .val (T v), .un, .un])
    (fun r acc st' => ∃ v : Vec, acc = v.map .int ∧ v.length + r.length = k.toNat ∧ (∀ x ∈ v, 0 ≤ x ∧ x ≤ 2) ∧ Dr n st1 st')
    ((List.range k.toNat).map fun i => .int ((i : Nat) : Int)) [] st1 (by simp; omega) ⟨[], rfl, by simp, by simp, Dr.refl dr1.pl dr1.src⟩ (by
      rintro d r acc st2 ⟨v, rfl, hv, hx, dr⟩
      obtain ⟨x, st3, e, hm, dr2⟩ := e_choice (c := .list [.int 0, .int 0, .int 0, .int 1, .int 1, .int 2]) dr.pl dr.src (.inl rfl) (by simp) (by simp)
      obtain ⟨y, rfl, hy⟩ : ∃ y : Int, x = .int y ∧ 0 ≤ y ∧ y ≤ 2 := by
        simp only [List.mem_cons, List.not_mem_nil, or_false] at hm
        rcases hm with rfl | rfl | rfl | rfl | rfl | rfl
        all_goals exact ⟨_, rfl, by decide, by decide⟩
      refine ⟨_, _, _, ⟨_, st3⟩, .int y, by simp [bName, wipeE]; rfl, by simp [yesT]; exact ⟨rfl, rfl⟩, by simp [bE, fz, var, kst, op2, op1, lift1, lift2, rd, EV.frz, toB, ofB, andV, orV, andT, orT, ifV, chain, aNil, aCons, toSV, callV, withVals, valsOf, callT, withTops, rds, seqS, bS, retS, exprS, setF, setC, storeF, storeC, ifS, asgS, bName, bNil, bCons, bTup, parS, skip, asD, listD, tupD, seqD, mkTup, mkLst, notV, notT, yesT, raiseS, iOp, cOp, negD, isiD, tyName, isiB, List.getElem?_cons_zero, List.getElem?_cons_succ, List.getElem?_nil, List.set_cons_zero, List.set_cons_succ, List.length_cons, List.length_nil, List.replicate, List.cons_append, List.nil_append, List.append_nil, if_true, if_false, Option.map_some, Option.map_none, callF, e]; rfl, v ++ [y], by simp, by simp at hv ⊢; omega, fun z hz => ?_, dr.trans dr2⟩
      rcases List.mem_append.mp hz with q | q
      · exact hx z q
      · have : z = y := by simpa using q
        omega)
  obtain ⟨out, st2, e2, g, rfl, hg, hgx, dr2⟩ := key
  have e3 : c__law_rule_1 ⟨[.cell n, .val (.int k), .val (T v), .un, .un], st1⟩ = some (.ok (.fresh (g.map .int)) ⟨[.cell n, .val (.int k), .val (T v), .un, .un], st2⟩) := by
    simp [c__law_rule_1, lcE, bE, fz, var, kst, op2, op1, lift1, lift2, rd, EV.frz, toB, ofB, andV, orV, andT, orT, ifV, chain, aNil, aCons, toSV, callV, withVals, valsOf, callT, withTops, rds, seqS, bS, retS, exprS, setF, setC, storeF, storeC, ifS, asgS, bName, bNil, bCons, bTup, parS, skip, asD, listD, tupD, seqD, mkTup, mkLst, notV, notT, yesT, raiseS, iOp, cOp, negD, isiD, tyName, isiB, List.getElem?_cons_zero, List.getElem?_cons_succ, List.getElem?_nil, List.set_cons_zero, List.set_cons_succ, List.length_cons, List.length_nil, List.replicate, List.cons_append, List.nil_append, List.append_nil, if_true, if_false, Option.map_some, Option.map_none, range1_eq (show 0 ≤ k by omega) (show k ≤ 100000 by omega)] at e2 ⊢
    exact e2
  by_cases hs : v.sum = 0
  · have m1 := mul_one_tup (d := .int 1) (k := k) (by omega) (by omega)
    rw [rep_T] at m1
    obtain ⟨r, st3, env, e4, ok, dr3⟩ := rule_tail (t := List.replicate k.toNat 1) (g := g) dr2.pl dr2.src hk0 hk (by simp) (by simpa using hg) (fun x hx => by have := (List.mem_replicate.mp hx).2; omega) hgx (by rw [rep_sum]; omega)
    refine ⟨r, st3, run_of (env := env) ?_ dr3.pl ((dr3.len.trans dr2.len).trans dr1.len), ok, (dr1.trans dr2).trans dr3⟩
    rw [← e4]
    simp [g__law_rule, bE, fz, var, kst, op2, op1, lift1, lift2, rd, EV.frz, toB, ofB, andV, orV, andT, orT, ifV, chain, aNil, aCons, toSV, callV, withVals, valsOf, callT, withTops, rds, seqS, bS, retS, exprS, setF, setC, storeF, storeC, ifS, asgS, bName, bNil, bCons, bTup, parS, skip, asD, listD, tupD, seqD, mkTup, mkLst, notV, notT, yesT, raiseS, iOp, cOp, negD, isiD, tyName, isiB, List.getElem?_cons_zero, List.getElem?_cons_succ, List.getElem?_nil, List.set_cons_zero, List.set_cons_succ, List.length_cons, List.length_nil, List.replicate, List.cons_append, List.nil_append, List.append_nil, if_true, if_false, Option.map_some, Option.map_none, callF, e1, e3, tupT, sumT, hs, m1, eqD_int]
  · have hs2 : 0 < v.sum := by
      have := sum_nn (v := v) fun x hm => (hx x hm).1
      omega
    obtain ⟨r, st3, env, e4, ok, dr3⟩ := rule_tail (t := v) (g := g) dr2.pl dr2.src hk0 hk hv (by simpa using hg) hx hgx hs2
    refine ⟨r, st3, run_of (env := env) ?_ dr3.pl ((dr3.len.trans dr2.len).trans dr1.len), ok, (dr1.trans dr2).trans dr3⟩
    rw [← e4]
    simp [g__law_rule, bE, fz, var, kst, op2, op1, lift1, lift2, rd, EV.frz, toB, ofB, andV, orV, andT, orT, ifV, chain, aNil, aCons, toSV, callV, withVals, valsOf, callT, withTops, rds, seqS, bS, retS, exprS, setF, setC, storeF, storeC, ifS, asgS, bName, bNil, bCons, bTup, parS, skip, asD, listD, tupD, seqD, mkTup, mkLst, notV, notT, yesT, raiseS, iOp, cOp, negD, isiD, tyName, isiB, List.getElem?_cons_zero, List.getElem?_cons_succ, List.getElem?_nil, List.set_cons_zero, List.set_cons_succ, List.length_cons, List.length_nil, List.replicate, List.cons_append, List.nil_append, List.append_nil, if_true, if_false, Option.map_some, Option.map_none, callF, e1, e3, tupT, sumT, hs, eqD_int]
theorem run_valT {nl : Nat} {g : S → Option RS} {args : List SV} {st st' : List MO} {env : List SV} {d : D} (e : g ⟨args ++ List.replicate (nl - args.length) .un, st⟩ = some (.ret (.val d) ⟨env, st'⟩)) (h : Pl st') : runF nl g args st = some (.ok (.val d) ⟨[], st'.take st.length⟩) := by
  unfold runF
  rw [e]
  have h2 : (st'.take st.length).all plainMO = true := pl_take h
  simp only [finF, h2, if_true]
theorem run_freshT {nl : Nat} {g : S → Option RS} {args : List SV} {st st' : List MO} {env : List SV} {ds : List D} (e : g ⟨args ++ List.replicate (nl - args.length) .un, st⟩ = some (.ret (.fresh ds) ⟨env, st'⟩)) (h : Pl st') : runF nl g args st = some (.ok (.fresh ds) ⟨[], st'.take st.length⟩) := by
  unfold runF
  rw [e]
  have h2 : (st'.take st.length).all plainMO = true := pl_take h
  simp only [finF, h2, if_true]
theorem run_cellT {nl m : Nat} {g : S → Option RS} {args : List SV} {st st' : List MO} {env : List SV} {ds : List D} (e : g ⟨args ++ List.replicate (nl - args.length) .un, st⟩ = some (.ret (.cell m) ⟨env, st'⟩)) (h : Pl st') (hm : st.length ≤ m) (hd : st'[m]? = some (.lst ds)) : runF nl g args st = some (.ok (.fresh ds) ⟨[], st'.take st.length⟩) := by
  unfold runF
  rw [e]
  have h2 : (st'.take st.length).all plainMO = true := pl_take h
  have h3 : ¬ m < st.length := by omega
  simp only [finF, h2, h3, hd, if_true, if_false]
/-- the source at n, and cells of one's own behind -/
structure Dx (n : Nat) (st st' : List MO) : Prop where
  src : Src n st'
  pl : Pl st'
  len : st.length ≤ st'.length
  same : ∀ m, m < st.length → m ≠ n → st'[m]? = st[m]?
theorem Dr.dx {n : Nat} {st st' : List MO} (d : Dr n st st') : Dx n st st' := ⟨d.src, d.pl, Nat.le_of_eq d.len.symm, fun m _ h => d.same m h⟩
theorem Dx.dr {n : Nat} {st st1 st2 : List MO} (a : Dx n st st1) (b : Dr n st1 st2) : Dx n st st2 := ⟨b.src, b.pl, by rw [b.len]; exact a.len, fun m h1 h2 => (b.same m h2).trans (a.same m h1 h2)⟩
theorem src_lt {n : Nat} {st : List MO} (s : Src n st) : n < st.length := by
  obtain ⟨a, b, e, _⟩ := s
  exact (List.getElem?_eq_some_iff.mp e).1
theorem Dx.take {n : Nat} {st st' : List MO} (d : Dx n st st') (hn : n < st.length) : Dr n st (st'.take st.length) := by
  obtain ⟨a, b, e, h⟩ := d.src
  refine ⟨⟨a, b, by rw [List.getElem?_take, if_pos hn]; exact e, h⟩, pl_take d.pl, ?_, fun m hm => ?_⟩
  · rw [List.length_take]
    have := d.len
    omega
  · rw [List.getElem?_take]
    by_cases hl : m < st.length
    · rw [if_pos hl]; exact d.same m hl hm
    · rw [if_neg hl]
      exact (List.getElem?_eq_none_iff.mpr (by omega)).symm
theorem Dx.snoc {n : Nat} {st st1 : List MO} {ds : List D} (d : Dr n st st1) : Dx n st (st1 ++ [.lst ds]) := by
  have hn := src_lt d.src
  obtain ⟨a, b, e, h⟩ := d.src
  refine ⟨⟨a, b, by rw [List.getElem?_append_left hn]; exact e, h⟩, pl_snoc d.pl, by rw [List.length_append, d.len]; simp, fun m h1 h2 => ?_⟩
  rw [List.getElem?_append_left (by rw [d.len]; exact h1)]
  exact d.same m h2
theorem Dx.set {n c : Nat} {st st1 : List MO} {ds : List D} (d : Dx n st st1) (hc : st.length ≤ c) (hn : n < st.length) : Dx n st (st1.set c (.lst ds)) := by
  obtain ⟨a, b, e, h⟩ := d.src
  exact ⟨⟨a, b, by rw [List.getElem?_set_ne (by omega)]; exact e, h⟩, pl_set d.pl, by simpa using d.len, fun m h1 h2 => by rw [List.getElem?_set_ne (by omega)]; exact d.same m h1 h2⟩
/-- a book as the law draws it -/
structure OkB (k most : Int) (rs : List RuleT) : Prop where
  k1 : 1 ≤ k
  k3 : k ≤ 3
  ne : rs ≠ []
  nd : rs.Nodup
  len : (rs.length : Int) ≤ most
  ok : ∀ r ∈ rs, OkR k.toNat r
theorem e_book {n : Nat} {most : Int} {st : List MO} (h : Pl st) (s : Src n st) (h0 : 1 ≤ most) (h1 : most ≤ 100) : ∃ (k : Int) (rs : List RuleT) (st' : List MO), f__law_book [.cell n, .val (.int most)] st = some (.ok (.val (Bk k rs)) ⟨[], st'⟩) ∧ OkB k most rs ∧ Dr n st st' := by
  obtain ⟨x, st1, e1, x0, x3, dr1⟩ := e_draw (m := 3) h s (by decide) (by decide)
  have hn := src_lt s
  have dx := Dx.snoc (ds := []) dr1
  have sl := src_lt dx.src
  obtain ⟨y, st2, e2, y0, y3, dr2⟩ := e_draw (m := most) dx.pl dx.src (by omega) (by
    have := log2_lt (i := most) (k := 20) (by omega) (by omega) (by decide)
    omega)
  have dx2 := dx.dr dr2
  obtain ⟨c, hcd⟩ : ∃ c, st1.length = c := ⟨_, rfl⟩
  have hc : c = st.length := by rw [← hcd]; exact dr1.len
  have hcell : st2[c]? = some (.lst (([] : List RuleT).map Rl)) := by
    rw [dr2.same c (by omega), List.getElem?_append_right (by omega), hcd]
    simp
  obtain ⟨k, hkd⟩ : ∃ k, 1 + x = k := ⟨_, rfl⟩
  obtain ⟨N, hNd⟩ : ∃ N, (1 + y).toNat = N := ⟨_, rfl⟩
  obtain ⟨s', es, hI⟩ := forL_next (b := bName 4) (body := b__law_book_1) (fun r s => ∃ (rs : List RuleT) (v4 v5 : SV), s.env = [.cell n, .val (.int most), .val (.int k), .cell c, v4, v5] ∧ Dx n st s.st ∧ s.st[c]? = some (.lst (rs.map Rl)) ∧ rs.Nodup ∧ (∀ q ∈ rs, OkR k.toNat q) ∧ rs.length + r.length ≤ N ∧ (rs = [] → r.length = N))
    ((List.range N).map fun i => .int ((i : Nat) : Int)) ⟨[.cell n, .val (.int most), .val (.int k), .cell c, .un, .un], st2⟩ ⟨[], .un, .un, rfl, dx2, hcell, by simp, by simp, by simp, by simp⟩ (by
      rintro d r ⟨env, st3⟩ ⟨rs, v4, v5, he, dx3, hcell3, nd, ok, hl, hz⟩
      have he : env = _ := he
      subst he
      obtain ⟨q, st4, e4, okq, dr4⟩ := e_rule (k := k) dx3.pl dx3.src (by omega) (by omega)
      have dx4 := dx3.dr dr4
      have hcell4 : st4[c]? = some (.lst (rs.map Rl)) := by rw [dr4.same c (by omega)]; exact hcell3
      have sh1 := shp_Rl q
      have sh2 : shp (.list (rs.map Rl)) = true := shp_mapL lay_Rl (fun r => Nat.le_of_eq (dep_Rl r)) (by decide) rs
      have ea := anyEq_map eqv_Rl q rs
      have hll : rs.length < 1000000 := by simp at hl; omega
      by_cases hm : q ∈ rs
      · refine ⟨[.cell n, .val (.int most), .val (.int k), .cell c, .val d, v5], ⟨[.cell n, .val (.int most), .val (.int k), .cell c, .val d, .val (Rl q)], st4⟩, by simp [bName], ?_, rs, .val d, .val (Rl q), rfl, dx4, hcell4, nd, ok, by simp at hl ⊢; omega, fun z => by rw [z] at hm; simp at hm⟩
        simp [b__law_book_1, bE, fz, var, kst, op2, op1, lift1, lift2, rd, EV.frz, toB, ofB, andV, orV, andT, orT, ifV, chain, aNil, aCons, toSV, callV, withVals, valsOf, callT, withTops, rds, seqS, bS, retS, exprS, setF, setC, storeF, storeC, ifS, asgS, bName, bNil, bCons, bTup, parS, skip, asD, listD, tupD, seqD, mkTup, mkLst, notV, notT, yesT, raiseS, iOp, cOp, negD, isiD, tyName, isiB, List.getElem?_cons_zero, List.getElem?_cons_succ, List.getElem?_nil, List.set_cons_zero, List.set_cons_succ, List.length_cons, List.length_nil, List.replicate, List.cons_append, List.nil_append, List.append_nil, if_true, if_false, Option.map_some, Option.map_none, callF, e4, notInD, inD, hcell4, sh1, sh2, ea, hm]
      · refine ⟨[.cell n, .val (.int most), .val (.int k), .cell c, .val d, v5], ⟨[.cell n, .val (.int most), .val (.int k), .cell c, .val d, .val (Rl q)], st4.set c (.lst ((rs ++ [q]).map Rl))⟩, by simp [bName], ?_, rs ++ [q], .val d, .val (Rl q), rfl, dx4.set (by omega) hn, set_get hcell4, ?_, fun w hw => ?_, by simp at hl ⊢; omega, fun z => by simp at z⟩
        · simp [b__law_book_1, bE, fz, var, kst, op2, op1, lift1, lift2, rd, EV.frz, toB, ofB, andV, orV, andT, orT, ifV, chain, aNil, aCons, toSV, callV, withVals, valsOf, callT, withTops, rds, seqS, bS, retS, exprS, setF, setC, storeF, storeC, ifS, asgS, bName, bNil, bCons, bTup, parS, skip, asD, listD, tupD, seqD, mkTup, mkLst, notV, notT, yesT, raiseS, iOp, cOp, negD, isiD, tyName, isiB, List.getElem?_cons_zero, List.getElem?_cons_succ, List.getElem?_nil, List.set_cons_zero, List.set_cons_succ, List.length_cons, List.length_nil, List.replicate, List.cons_append, List.nil_append, List.append_nil, if_true, if_false, Option.map_some, Option.map_none, callF, e4, notInD, inD, hcell4, sh1, sh2, ea, hm, appE, hll]
        · rw [List.nodup_append]
          exact ⟨nd, by simp, fun a ha b hb => by
            have : b = q := by simpa using hb
            rintro rfl
            rw [this] at ha
            exact hm ha⟩
        · rcases List.mem_append.mp hw with z | z
          · exact ok w z
          · have : w = q := by simpa using z
            rw [this]; exact okq)
  obtain ⟨rs, v4, v5, he, dx5, hcell5, nd, ok, hl, hz⟩ := hI
  obtain ⟨env5, st5⟩ := s'
  have he : env5 = _ := he
  subst he
  have hN : 0 < N := by omega
  refine ⟨k, rs, st5.take st.length, run_valT (env := [.cell n, .val (.int most), .val (.int k), .cell c, v4, v5]) ?_ dx5.pl, ⟨by omega, by omega, fun z => by have := hz z; simp at this; omega, nd, by simp at hl; omega, ok⟩, dx5.take hn⟩
  have a1 : ∀ z : Int, addD (.int 1) (.int z) = some (.val (.int (1 + z))) := fun z => rfl
  have hr := range1_eq (k := 1 + y) (by omega) (by omega)
  have hcell5 : st5[c]? = some (.lst (rs.map Rl)) := hcell5
  simp [g__law_book, forS, bE, fz, var, kst, op2, op1, lift1, lift2, rd, EV.frz, toB, ofB, andV, orV, andT, orT, ifV, chain, aNil, aCons, toSV, callV, withVals, valsOf, callT, withTops, rds, seqS, bS, retS, exprS, setF, setC, storeF, storeC, ifS, asgS, bName, bNil, bCons, bTup, parS, skip, asD, listD, tupD, seqD, mkTup, mkLst, notV, notT, yesT, raiseS, iOp, cOp, negD, isiD, tyName, isiB, List.getElem?_cons_zero, List.getElem?_cons_succ, List.getElem?_nil, List.set_cons_zero, List.set_cons_succ, List.length_cons, List.length_nil, List.replicate, List.cons_append, List.nil_append, List.append_nil, if_true, if_false, Option.map_some, Option.map_none, callF, e1, a1, hcd, hkd, e2, hr, hNd, es, hcell5, tupleD, Bk, Rs]
theorem bits_log {z : Int} (h : Builtin.Int.intBits z ≤ 1048576) : z.natAbs.log2 ≤ 1048576 := by
  unfold Builtin.Int.intBits at h
  split at h
  · rename_i hz
    have : z = 0 := by simpa using hz
    rw [this]
    decide
  · omega
theorem mul_ok {i j : Int} (h : i.natAbs.log2 + j.natAbs.log2 < 100000000) : mulD (.int i) (.int j) = some (.val (.int (i * j))) := by
  simp only [mulD]
  rw [if_pos h]
theorem source_tail {ns : List Int} {cell k : Int} {st : List MO} (hc0 : 0 ≤ cell) (hc : cell.natAbs.log2 ≤ 1048577) (hk0 : 0 ≤ k) (hk : k ≤ 1000) : ∃ a b : Int, (retS (callV mkLst (aCons (ifV (toB (op2 gtD (var 2) (op2 powD (kst (.int 10)) (kst (.int 17))))) (var 2) (kst (.int 0))) (aCons (op2 modD (callT DL.intD (aCons (op2 addD (op2 addD (op2 mulD (var 2) (kst (.int 16807))) (op2 mulD (kst (.int 10007)) (var 1))) (kst (.int 67))) aNil)) (kst (.int 2147483237))) aNil))))
    ⟨[.scr, .val (.int k), .val (.int cell)], st⟩ = some (.ret (.fresh [.int a, .int b]) ⟨[.scr, .val (.int k), .val (.int cell)], st⟩) ∧ 0 ≤ a ∧ 0 ≤ b ∧ b < 2147483237 := by
  have m1 : mulD (.int cell) (.int 16807) = some (.val (.int (cell * 16807))) := mul_ok (by
    have : (16807 : Int).natAbs.log2 < 20 := by decide
    omega)
  have m2 : mulD (.int 10007) (.int k) = some (.val (.int (10007 * k))) := mul_ok (by
    have : (10007 : Int).natAbs.log2 < 20 := by decide
    have := log2_lt (i := k) (k := 20) hk0 (by omega) (by decide)
    omega)
  have p1 : powD (.int 10) (.int 17) = some (.val (.int (100000000000000000))) := by simp [powD, iOp]
  have a1 : ∀ i j : Int, addD (.int i) (.int j) = some (.val (.int (i + j))) := fun _ _ => rfl
  have m5 : ∀ x : Int, modD (.int x) (.int 2147483237) = some (.val (.int (x % 2147483237))) := fun x => by simp [modD, iOp]
  by_cases hg : (100000000000000000 : Int) < cell
  · refine ⟨cell, (cell * 16807 + 10007 * k + 67) % 2147483237, ?_, hc0, Int.emod_nonneg _ (by decide), Int.emod_lt_of_pos _ (by decide)⟩
    simp [bE, fz, var, kst, op2, op1, lift1, lift2, rd, EV.frz, toB, ofB, andV, orV, andT, orT, ifV, chain, aNil, aCons, toSV, callV, withVals, valsOf, callT, withTops, rds, seqS, bS, retS, exprS, setF, setC, storeF, storeC, ifS, asgS, bName, bNil, bCons, bTup, parS, skip, asD, listD, tupD, seqD, mkTup, mkLst, notV, notT, yesT, raiseS, iOp, cOp, negD, isiD, tyName, isiB, List.getElem?_cons_zero, List.getElem?_cons_succ, List.getElem?_nil, List.set_cons_zero, List.set_cons_succ, List.length_cons, List.length_nil, List.replicate, List.cons_append, List.nil_append, List.append_nil, if_true, if_false, Option.map_some, Option.map_none, p1, hg, m1, m2, a1, DL.intD, m5]
  · refine ⟨0, (cell * 16807 + 10007 * k + 67) % 2147483237, ?_, by decide, Int.emod_nonneg _ (by decide), Int.emod_lt_of_pos _ (by decide)⟩
    simp [bE, fz, var, kst, op2, op1, lift1, lift2, rd, EV.frz, toB, ofB, andV, orV, andT, orT, ifV, chain, aNil, aCons, toSV, callV, withVals, valsOf, callT, withTops, rds, seqS, bS, retS, exprS, setF, setC, storeF, storeC, ifS, asgS, bName, bNil, bCons, bTup, parS, skip, asD, listD, tupD, seqD, mkTup, mkLst, notV, notT, yesT, raiseS, iOp, cOp, negD, isiD, tyName, isiB, List.getElem?_cons_zero, List.getElem?_cons_succ, List.getElem?_nil, List.set_cons_zero, List.set_cons_succ, List.length_cons, List.length_nil, List.replicate, List.cons_append, List.nil_append, List.append_nil, if_true, if_false, Option.map_some, Option.map_none, p1, hg, m1, m2, a1, DL.intD, m5]
theorem e_source {ns : List Int} {k : Nat} {st : List MO} (h : Pl st) (hb : ∀ z ∈ ns, Builtin.Int.intBits z ≤ 1048576) (hk : k ≤ 1000) : ∃ a b : Int, f__law_source ns [.scr, .val (.int (k : Nat))] st = some (.ok (.fresh [.int a, .int b]) ⟨[], st⟩) ∧ 0 ≤ a ∧ 0 ≤ b ∧ b < 2147483237 := by
  by_cases hl : k < ns.length
  · have hm : ns[k] ∈ ns := List.getElem_mem hl
    obtain ⟨cell, hcd⟩ : ∃ cell, (if ns[k] < 0 then -ns[k] else ns[k]) = cell := ⟨_, rfl⟩
    have hc0 : 0 ≤ cell := by rw [← hcd]; split <;> omega
    have hc1 : cell.natAbs = ns[k].natAbs := by rw [← hcd]; split <;> omega
    have hlog := bits_log (hb _ hm)
    obtain ⟨a, b, e, h1⟩ := source_tail (ns := ns) (cell := cell) (k := (k : Nat)) (st := st) hc0 (by rw [hc1]; omega) (by omega) (by omega)
    refine ⟨a, b, run_fresh (env := [.scr, .val (.int (k : Nat)), .val (.int cell)]) ?_ h rfl, h1⟩
    rw [← e]
    have hat : atI ns (k : Nat) = some ns[k] := by
      obtain ⟨x, e1, _, e2⟩ := atI_lt (l := ns) (i := (k : Nat)) (by omega) (by omega)
      rw [e1]
      rw [Int.toNat_natCast, List.getElem?_eq_getElem hl] at e2
      exact e2.symm
    have hlt : ltD (.int (k : Nat)) (.int (ns.length : Nat)) = some (.val (.bool true)) := by
      simp only [ltD, cOp]
      rw [decide_eq_true (by omega)]
    simp [g__law_source, bE, fz, var, kst, op2, op1, lift1, lift2, rd, EV.frz, toB, ofB, andV, orV, andT, orT, ifV, chain, aNil, aCons, toSV, callV, withVals, valsOf, callT, withTops, rds, seqS, bS, retS, exprS, setF, setC, storeF, storeC, ifS, asgS, bName, bNil, bCons, bTup, parS, skip, asD, listD, tupD, seqD, mkTup, mkLst, notV, notT, yesT, raiseS, iOp, cOp, negD, isiD, tyName, isiB, List.getElem?_cons_zero, List.getElem?_cons_succ, List.getElem?_nil, List.set_cons_zero, List.set_cons_succ, List.length_cons, List.length_nil, List.replicate, List.cons_append, List.nil_append, List.append_nil, if_true, if_false, Option.map_some, Option.map_none, lenScr, ixScr, hlt, hat, DL.intD, absD, hcd]
  · obtain ⟨a, b, e, h1⟩ := source_tail (ns := ns) (cell := 97 * (k : Nat) + 43) (k := (k : Nat)) (st := st) (by omega) (by
      have := log2_lt (i := 97 * (k : Nat) + 43) (k := 20) (by omega) (by omega) (by decide)
      omega) (by omega) (by omega)
    refine ⟨a, b, run_fresh (env := [.scr, .val (.int (k : Nat)), .val (.int (97 * (k : Nat) + 43))]) ?_ h rfl, h1⟩
    rw [← e]
    have hlt : ltD (.int (k : Nat)) (.int (ns.length : Nat)) = some (.val (.bool false)) := by
      simp only [ltD, cOp]
      rw [decide_eq_false (by omega)]
    have m2 : mulD (.int 97) (.int (k : Nat)) = some (.val (.int (97 * (k : Nat)))) := mul_ok (by
      have : (97 : Int).natAbs.log2 < 20 := by decide
      have := log2_lt (i := (k : Nat)) (k := 20) (by omega) (by omega) (by decide)
      omega)
    have a1 : ∀ i j : Int, addD (.int i) (.int j) = some (.val (.int (i + j))) := fun _ _ => rfl
    simp [g__law_source, bE, fz, var, kst, op2, op1, lift1, lift2, rd, EV.frz, toB, ofB, andV, orV, andT, orT, ifV, chain, aNil, aCons, toSV, callV, withVals, valsOf, callT, withTops, rds, seqS, bS, retS, exprS, setF, setC, storeF, storeC, ifS, asgS, bName, bNil, bCons, bTup, parS, skip, asD, listD, tupD, seqD, mkTup, mkLst, notV, notT, yesT, raiseS, iOp, cOp, negD, isiD, tyName, isiB, List.getElem?_cons_zero, List.getElem?_cons_succ, List.getElem?_nil, List.set_cons_zero, List.set_cons_succ, List.length_cons, List.length_nil, List.replicate, List.cons_append, List.nil_append, List.append_nil, if_true, if_false, Option.map_some, Option.map_none, lenScr, ixScr, hlt, m2, a1]
end PF
set_option maxHeartbeats 1000000
namespace PF
open PySem PySem.Spec PyProof.Rows L2 DL
/-! ### heaps and rules: what the program does with them -/
def pair (p : Int × Int) : D := .tuple [.int p.1, .int p.2]
theorem zip_ints : ∀ a b : Vec, zipT (a.map .int) (b.map .int) = (List.zip a b).map pair
  | [], _ => by simp [zipT]
  | _ :: _, [] => by simp [zipT]
  | x :: a, y :: b => by simp [zipT, zip_ints a b, pair]
theorem zipD_T (a b : Vec) : zipD [T a, T b] = some ((List.zip a b).map pair) := by simp [zipD, T, seqD, zip_ints]
theorem zip_len (a b : Vec) : (List.zip a b).length ≤ a.length := by rw [List.length_zip]; exact Nat.min_le_left _ _
def within (a b : Vec) : Bool := (List.zip a b).all fun p => decide (p.1 ≤ p.2)
/-- a comprehension over typed items -/
theorem lcT {α : Type} {vs : List Nat} {b : D → List SV → Option (List SV)} {f : S → Option (R EV)} {s : S} (g : α → D) (p : α → D) (l : List α) (hl : l.length ≤ 1000000)
    (h : ∀ a ∈ l, ∃ env' e3, b (p a) (wipeE s.env vs) = some env' ∧ fz f ⟨env', s.st⟩ = some (.ok (.val (g a)) ⟨e3, s.st⟩)) : lcL vs b yesT f (l.map p) [] s = some (.ok (.fresh (l.map g)) s) := by
  have gen : ∀ (l : List α) (acc : List D), acc.length + l.length ≤ 1000000 → (∀ a ∈ l, ∃ env' e3, b (p a) (wipeE s.env vs) = some env' ∧ fz f ⟨env', s.st⟩ = some (.ok (.val (g a)) ⟨e3, s.st⟩)) → lcL vs b yesT f (l.map p) acc s = some (.ok (.fresh (acc ++ l.map g)) s) := by
    intro l
    induction l with
    | nil => intro acc _ _; simp [lcL]
    | cons a r ih =>
      intro acc hl h
      obtain ⟨env', e3, h1, h3⟩ := h a List.mem_cons_self
      have hl' : acc.length < 1000000 := by simp at hl; omega
      have := ih (acc ++ [g a]) (by simp at hl ⊢; omega) fun x hx => h x (List.mem_cons_of_mem _ hx)
      simp only [List.map_cons, lcL, h1, yesT, h3, hl', if_true, this, List.append_assoc, List.cons_append, List.nil_append]
  exact gen l [] (by simpa using hl) h
/-- .. with a test -/
theorem lcTf {α : Type} {vs : List Nat} {b : D → List SV → Option (List SV)} {t : S → Option (R Bool)} {f : S → Option (R EV)} {s : S} (q : α → Bool) (g : α → D) (p : α → D) (l : List α) (hl : l.length ≤ 1000000)
    (h : ∀ a ∈ l, ∃ env' e2 e3, b (p a) (wipeE s.env vs) = some env' ∧ t ⟨env', s.st⟩ = some (.ok (q a) ⟨e2, s.st⟩) ∧ fz f ⟨e2, s.st⟩ = some (.ok (.val (g a)) ⟨e3, s.st⟩)) : lcL vs b t f (l.map p) [] s = some (.ok (.fresh ((l.filter q).map g)) s) := by
  have gen : ∀ (l : List α) (acc : List D), acc.length + l.length ≤ 1000000 → (∀ a ∈ l, ∃ env' e2 e3, b (p a) (wipeE s.env vs) = some env' ∧ t ⟨env', s.st⟩ = some (.ok (q a) ⟨e2, s.st⟩) ∧ fz f ⟨e2, s.st⟩ = some (.ok (.val (g a)) ⟨e3, s.st⟩)) → lcL vs b t f (l.map p) acc s = some (.ok (.fresh (acc ++ (l.filter q).map g)) s) := by
    intro l
    induction l with
    | nil => intro acc _ _; simp [lcL]
    | cons a r ih =>
      intro acc hl h
      obtain ⟨env', e2, e3, h1, h2, h3⟩ := h a List.mem_cons_self
      have hl' : acc.length < 1000000 := by simp at hl; omega
      cases hq : q a with
      | false =>
        have := ih acc (by simp at hl ⊢; omega) fun x hx => h x (List.mem_cons_of_mem _ hx)
        rw [hq] at h2
        simp only [List.map_cons, lcL, h1, h2, this, List.filter_cons, hq, Bool.false_eq_true, if_false]
      | true =>
        have := ih (acc ++ [g a]) (by simp at hl ⊢; omega) fun x hx => h x (List.mem_cons_of_mem _ hx)
        rw [hq] at h2
        simp only [List.map_cons, lcL, h1, h2, h3, hl', if_true, this, List.filter_cons, hq, List.append_assoc, List.cons_append, List.nil_append]
  exact gen l [] (by simpa using hl) h
theorem e_within {a b : Vec} {st : List MO} (h : Pl st) (hl : a.length ≤ 1000000) : f_is_within [.val (T a), .val (T b)] st = some (.ok (.val (.bool (within a b))) ⟨[], st⟩) := by
  refine run_of (env := [.val (T a), .val (T b), .un, .un]) ?_ h rfl
  have e := lcT (vs := [2, 3]) (b := bTup 2 (bCons (bName 2) (bCons (bName 3) bNil))) (f := op2 leD (var 2) (var 3)) (s := ⟨[.val (T a), .val (T b), .un, .un], st⟩) (fun p : Int × Int => .bool (decide (p.1 ≤ p.2))) pair (List.zip a b) (by have := zip_len a b; omega)
    (fun p _ => ⟨_, _, by simp [bTup, bCons, bName, bNil, wipeE, pair]; rfl, by simp [bE, fz, var, kst, op2, op1, lift1, lift2, rd, EV.frz, toB, ofB, andV, orV, andT, orT, ifV, chain, aNil, aCons, toSV, callV, withVals, valsOf, callT, withTops, rds, seqS, bS, retS, exprS, setF, setC, storeF, storeC, ifS, asgS, bName, bNil, bCons, bTup, parS, skip, asD, listD, tupD, seqD, mkTup, mkLst, notV, notT, yesT, raiseS, iOp, cOp, negD, isiD, tyName, isiB, List.getElem?_cons_zero, List.getElem?_cons_succ, List.getElem?_nil, List.set_cons_zero, List.set_cons_succ, List.length_cons, List.length_nil, List.replicate, List.cons_append, List.nil_append, List.append_nil, if_true, if_false, Option.map_some, Option.map_none]; rfl⟩)
  have e2 : c_is_within_1 ⟨[.val (T a), .val (T b), .un, .un], st⟩ = some (.ok (.fresh ((List.zip a b).map fun p => .bool (decide (p.1 ≤ p.2)))) ⟨[.val (T a), .val (T b), .un, .un], st⟩) := by
    simp only [c_is_within_1, lcE, bE, fz, var, kst, op2, op1, lift1, lift2, rd, EV.frz, toB, ofB, andV, orV, andT, orT, ifV, chain, aNil, aCons, toSV, callV, withVals, valsOf, callT, withTops, rds, seqS, bS, retS, exprS, setF, setC, storeF, storeC, ifS, asgS, bName, bNil, bCons, bTup, parS, skip, asD, listD, tupD, seqD, mkTup, mkLst, notV, notT, yesT, raiseS, iOp, cOp, negD, isiD, tyName, isiB, List.getElem?_cons_zero, List.getElem?_cons_succ, List.getElem?_nil, List.set_cons_zero, List.set_cons_succ, List.length_cons, List.length_nil, List.replicate, List.cons_append, List.nil_append, List.append_nil, if_true, if_false, Option.map_some, Option.map_none, zipD_T]
    exact e
  simp [g_is_within, bE, fz, var, kst, op2, op1, lift1, lift2, rd, EV.frz, toB, ofB, andV, orV, andT, orT, ifV, chain, aNil, aCons, toSV, callV, withVals, valsOf, callT, withTops, rds, seqS, bS, retS, exprS, setF, setC, storeF, storeC, ifS, asgS, bName, bNil, bCons, bTup, parS, skip, asD, listD, tupD, seqD, mkTup, mkLst, notV, notT, yesT, raiseS, iOp, cOp, negD, isiD, tyName, isiB, List.getElem?_cons_zero, List.getElem?_cons_succ, List.getElem?_nil, List.set_cons_zero, List.set_cons_succ, List.length_cons, List.length_nil, List.replicate, List.cons_append, List.nil_append, List.append_nil, if_true, if_false, Option.map_some, Option.map_none, e2, allD, boolsOf_mapB, all_id, within]
def change (r : RuleT) : Vec := (List.zip r.1 r.2).map fun p => p.2 - p.1
theorem ix0 {a b : D} : ixD (.tuple [a, b]) (.int 0) = some (.val a) := rfl
theorem ix1 {a b : D} : ixD (.tuple [a, b]) (.int 1) = some (.val b) := rfl
theorem mapT (l : List (Int × Int)) (g : Int × Int → Int) : tupleD [.list (l.map fun p => .int (g p))] = some (.val (T (l.map g))) := by
  simp [tupleD, T, List.map_map]
theorem e_change {r : RuleT} {st : List MO} (h : Pl st) (hl : r.1.length ≤ 1000000) : f_change_of [.val (Rl r)] st = some (.ok (.val (T (change r))) ⟨[], st⟩) := by
  refine run_of (env := [.val (Rl r), .un, .un]) ?_ h rfl
  have e := lcT (vs := [1, 2]) (b := bTup 2 (bCons (bName 1) (bCons (bName 2) bNil))) (f := op2 subD (var 2) (var 1)) (s := ⟨[.val (Rl r), .un, .un], st⟩) (fun p : Int × Int => .int (p.2 - p.1)) pair (List.zip r.1 r.2) (by have := zip_len r.1 r.2; omega)
    (fun p _ => ⟨_, _, by simp [bTup, bCons, bName, bNil, wipeE, pair]; rfl, by simp [bE, fz, var, kst, op2, op1, lift1, lift2, rd, EV.frz, toB, ofB, andV, orV, andT, orT, ifV, chain, aNil, aCons, toSV, callV, withVals, valsOf, callT, withTops, rds, seqS, bS, retS, exprS, setF, setC, storeF, storeC, ifS, asgS, bName, bNil, bCons, bTup, parS, skip, asD, listD, tupD, seqD, mkTup, mkLst, notV, notT, yesT, raiseS, iOp, cOp, negD, isiD, tyName, isiB, List.getElem?_cons_zero, List.getElem?_cons_succ, List.getElem?_nil, List.set_cons_zero, List.set_cons_succ, List.length_cons, List.length_nil, List.replicate, List.cons_append, List.nil_append, List.append_nil, if_true, if_false, Option.map_some, Option.map_none, subD, iOp]; rfl⟩)
  have e2 : c_change_of_1 ⟨[.val (Rl r), .un, .un], st⟩ = some (.ok (.fresh ((List.zip r.1 r.2).map fun p => .int (p.2 - p.1))) ⟨[.val (Rl r), .un, .un], st⟩) := by
    simp only [c_change_of_1, lcE, bE, fz, var, kst, op2, op1, lift1, lift2, rd, EV.frz, toB, ofB, andV, orV, andT, orT, ifV, chain, aNil, aCons, toSV, callV, withVals, valsOf, callT, withTops, rds, seqS, bS, retS, exprS, setF, setC, storeF, storeC, ifS, asgS, bName, bNil, bCons, bTup, parS, skip, asD, listD, tupD, seqD, mkTup, mkLst, notV, notT, yesT, raiseS, iOp, cOp, negD, isiD, tyName, isiB, List.getElem?_cons_zero, List.getElem?_cons_succ, List.getElem?_nil, List.set_cons_zero, List.set_cons_succ, List.length_cons, List.length_nil, List.replicate, List.cons_append, List.nil_append, List.append_nil, if_true, if_false, Option.map_some, Option.map_none, Rl, ix0, ix1, zipD_T]
    exact e
  simp only [g_change_of, bE, fz, var, kst, op2, op1, lift1, lift2, rd, EV.frz, toB, ofB, andV, orV, andT, orT, ifV, chain, aNil, aCons, toSV, callV, withVals, valsOf, callT, withTops, rds, seqS, bS, retS, exprS, setF, setC, storeF, storeC, ifS, asgS, bName, bNil, bCons, bTup, parS, skip, asD, listD, tupD, seqD, mkTup, mkLst, notV, notT, yesT, raiseS, iOp, cOp, negD, isiD, tyName, isiB, List.getElem?_cons_zero, List.getElem?_cons_succ, List.getElem?_nil, List.set_cons_zero, List.set_cons_succ, List.length_cons, List.length_nil, List.replicate, List.cons_append, List.nil_append, List.append_nil, if_true, if_false, Option.map_some, Option.map_none, e2, mapT, change]
def behind (h : Vec) (r : RuleT) (t : Int) : Vec := (List.zip h (change r)).map fun p => p.1 + t * p.2
theorem e_behind {v : Vec} {r : RuleT} {t : Int} {st : List MO} (h : Pl st) (hl : v.length ≤ 1000000) (hl2 : r.1.length ≤ 1000000) (hm : ∀ m ∈ change r, t.natAbs.log2 + m.natAbs.log2 < 100000000) : f_behind [.val (T v), .val (Rl r), .val (.int t)] st = some (.ok (.val (T (behind v r t))) ⟨[], st⟩) := by
  refine run_of (env := [.val (T v), .val (Rl r), .val (.int t), .un, .un]) ?_ h rfl
  have e := lcT (vs := [3, 4]) (b := bTup 2 (bCons (bName 3) (bCons (bName 4) bNil))) (f := op2 addD (var 3) (op2 mulD (var 2) (var 4))) (s := ⟨[.val (T v), .val (Rl r), .val (.int t), .un, .un], st⟩) (fun p : Int × Int => .int (p.1 + t * p.2)) pair (List.zip v (change r)) (by have := zip_len v (change r); omega)
    (fun p hp => by
      have hm2 := mul_ok (hm p.2 (List.of_mem_zip hp).2)
      exact ⟨_, _, by simp [bTup, bCons, bName, bNil, wipeE, pair]; rfl, by simp [bE, fz, var, kst, op2, op1, lift1, lift2, rd, EV.frz, toB, ofB, andV, orV, andT, orT, ifV, chain, aNil, aCons, toSV, callV, withVals, valsOf, callT, withTops, rds, seqS, bS, retS, exprS, setF, setC, storeF, storeC, ifS, asgS, bName, bNil, bCons, bTup, parS, skip, asD, listD, tupD, seqD, mkTup, mkLst, notV, notT, yesT, raiseS, iOp, cOp, negD, isiD, tyName, isiB, List.getElem?_cons_zero, List.getElem?_cons_succ, List.getElem?_nil, List.set_cons_zero, List.set_cons_succ, List.length_cons, List.length_nil, List.replicate, List.cons_append, List.nil_append, List.append_nil, if_true, if_false, Option.map_some, Option.map_none, hm2, addD]; rfl⟩)
  have e2 : c_behind_1 ⟨[.val (T v), .val (Rl r), .val (.int t), .un, .un], st⟩ = some (.ok (.fresh ((List.zip v (change r)).map fun p => .int (p.1 + t * p.2))) ⟨[.val (T v), .val (Rl r), .val (.int t), .un, .un], st⟩) := by
    simp only [c_behind_1, lcE, bE, fz, var, kst, op2, op1, lift1, lift2, rd, EV.frz, toB, ofB, andV, orV, andT, orT, ifV, chain, aNil, aCons, toSV, callV, withVals, valsOf, callT, withTops, rds, seqS, bS, retS, exprS, setF, setC, storeF, storeC, ifS, asgS, bName, bNil, bCons, bTup, parS, skip, asD, listD, tupD, seqD, mkTup, mkLst, notV, notT, yesT, raiseS, iOp, cOp, negD, isiD, tyName, isiB, List.getElem?_cons_zero, List.getElem?_cons_succ, List.getElem?_nil, List.set_cons_zero, List.set_cons_succ, List.length_cons, List.length_nil, List.replicate, List.cons_append, List.nil_append, List.append_nil, if_true, if_false, Option.map_some, Option.map_none, callF, e_change h hl2, zipD_T]
    exact e
  simp only [g_behind, bE, fz, var, kst, op2, op1, lift1, lift2, rd, EV.frz, toB, ofB, andV, orV, andT, orT, ifV, chain, aNil, aCons, toSV, callV, withVals, valsOf, callT, withTops, rds, seqS, bS, retS, exprS, setF, setC, storeF, storeC, ifS, asgS, bName, bNil, bCons, bTup, parS, skip, asD, listD, tupD, seqD, mkTup, mkLst, notV, notT, yesT, raiseS, iOp, cOp, negD, isiD, tyName, isiB, List.getElem?_cons_zero, List.getElem?_cons_succ, List.getElem?_nil, List.set_cons_zero, List.set_cons_succ, List.length_cons, List.length_nil, List.replicate, List.cons_append, List.nil_append, List.append_nil, if_true, if_false, Option.map_some, Option.map_none, e2, mapT, behind]
/-- the items of enumerate -/
def nth (p : RuleT × Nat) : D := .tuple [.int (p.2 : Nat), Rl p.1]
theorem enum_rules : ∀ (rs : List RuleT) (k : Nat), enumFrom k (rs.map Rl) = (rs.zipIdx k).map nth
  | [], _ => rfl
  | r :: rs, k => by simp [enumFrom, List.zipIdx_cons, enum_rules rs (k + 1), nth]
def doable (rs : List RuleT) (h : Vec) : List Int := (rs.zipIdx.filter fun p => within p.1.1 h).map fun p => (p.2 : Int)
def Ln (k : Nat) (rs : List RuleT) : Prop := ∀ r ∈ rs, r.1.length = k ∧ r.2.length = k
theorem zipIdx_mem {rs : List RuleT} {p : RuleT × Nat} (h : p ∈ rs.zipIdx) : p.1 ∈ rs := (List.mem_zipIdx' h).2 ▸ List.getElem_mem _
theorem bk_ix0 {n : Int} {rs : List RuleT} : ixD (Bk n rs) (.int 0) = some (.val (.int n)) := rfl
theorem bk_ix1 {n : Int} {rs : List RuleT} : ixD (Bk n rs) (.int 1) = some (.val (Rs rs)) := rfl
theorem enumD_Rs (rs : List RuleT) : enumD [Rs rs] = some (rs.zipIdx.map nth) := by simp [enumD, Rs, seqD, enum_rules]
theorem ints_map {α : Type} (l : List α) (g : α → Int) : l.map (fun a => PyData.int (g a)) = (l.map g).map .int := by rw [List.map_map]; rfl
theorem e_doable {n : Int} {rs : List RuleT} {v : Vec} {st : List MO} {k : Nat} (h : Pl st) (hl : rs.length ≤ 1000000) (hk : k ≤ 1000000) (ok : Ln k rs) : f_doable [.val (Bk n rs), .val (T v)] st = some (.ok (.fresh ((doable rs v).map .int)) ⟨[], st⟩) := by
  refine run_fresh (env := [.val (Bk n rs), .val (T v), .un, .un]) ?_ h rfl
  have e := lcTf (vs := [2, 3]) (b := bTup 2 (bCons (bName 2) (bCons (bName 3) bNil))) (t := toB (callF 2 f_is_within (aCons (op2 ixD (var 3) (kst (.int 0))) (aCons (var 1) aNil)))) (f := var 2) (s := ⟨[.val (Bk n rs), .val (T v), .un, .un], st⟩)
    (fun p : RuleT × Nat => within p.1.1 v) (fun p => .int (p.2 : Nat)) nth rs.zipIdx (by simpa using hl)
    (fun p hp => ⟨_, _, _, by simp [bTup, bCons, bName, bNil, wipeE, nth]; rfl, by
      have hw := e_within (a := p.1.1) (b := v) h (by rw [(ok p.1 (zipIdx_mem hp)).1]; exact hk)
      simp [bE, fz, var, kst, op2, op1, lift1, lift2, rd, EV.frz, toB, ofB, andV, orV, andT, orT, ifV, chain, aNil, aCons, toSV, callV, withVals, valsOf, callT, withTops, rds, seqS, bS, retS, exprS, setF, setC, storeF, storeC, ifS, asgS, bName, bNil, bCons, bTup, parS, skip, asD, listD, tupD, seqD, mkTup, mkLst, notV, notT, yesT, raiseS, iOp, cOp, negD, isiD, tyName, isiB, List.getElem?_cons_zero, List.getElem?_cons_succ, List.getElem?_nil, List.set_cons_zero, List.set_cons_succ, List.length_cons, List.length_nil, List.replicate, List.cons_append, List.nil_append, List.append_nil, if_true, if_false, Option.map_some, Option.map_none, Rl, ix0, callF, hw]; rfl, by simp [bE, fz, var, kst, op2, op1, lift1, lift2, rd, EV.frz, toB, ofB, andV, orV, andT, orT, ifV, chain, aNil, aCons, toSV, callV, withVals, valsOf, callT, withTops, rds, seqS, bS, retS, exprS, setF, setC, storeF, storeC, ifS, asgS, bName, bNil, bCons, bTup, parS, skip, asD, listD, tupD, seqD, mkTup, mkLst, notV, notT, yesT, raiseS, iOp, cOp, negD, isiD, tyName, isiB, List.getElem?_cons_zero, List.getElem?_cons_succ, List.getElem?_nil, List.set_cons_zero, List.set_cons_succ, List.length_cons, List.length_nil, List.replicate, List.cons_append, List.nil_append, List.append_nil, if_true, if_false, Option.map_some, Option.map_none]; rfl⟩)
  simp only [g_doable, c_doable_1, lcE, bE, fz, var, kst, op2, op1, lift1, lift2, rd, EV.frz, toB, ofB, andV, orV, andT, orT, ifV, chain, aNil, aCons, toSV, callV, withVals, valsOf, callT, withTops, rds, seqS, bS, retS, exprS, setF, setC, storeF, storeC, ifS, asgS, bName, bNil, bCons, bTup, parS, skip, asD, listD, tupD, seqD, mkTup, mkLst, notV, notT, yesT, raiseS, iOp, cOp, negD, isiD, tyName, isiB, List.getElem?_cons_zero, List.getElem?_cons_succ, List.getElem?_nil, List.set_cons_zero, List.set_cons_succ, List.length_cons, List.length_nil, List.replicate, List.cons_append, List.nil_append, List.append_nil, if_true, if_false, Option.map_some, Option.map_none, bk_ix1, enumD_Rs]
  simp only [bE, fz, var, kst, op2, op1, lift1, lift2, rd, EV.frz, toB, ofB, andV, orV, andT, orT, ifV, chain, aNil, aCons, toSV, callV, withVals, valsOf, callT, withTops, rds, seqS, bS, retS, exprS, setF, setC, storeF, storeC, ifS, asgS, bName, bNil, bCons, bTup, parS, skip, asD, listD, tupD, seqD, mkTup, mkLst, notV, notT, yesT, raiseS, iOp, cOp, negD, isiD, tyName, isiB, List.getElem?_cons_zero, List.getElem?_cons_succ, List.getElem?_nil, List.set_cons_zero, List.set_cons_succ, List.length_cons, List.length_nil, List.replicate, List.cons_append, List.nil_append, List.append_nil, if_true, if_false, Option.map_some, Option.map_none] at e
  rw [e, ints_map]
  rfl
end PF
set_option maxHeartbeats 1000000
namespace PF
open PySem PySem.Spec PyProof.Rows L2 DL
/-! ### needs, rows -/
theorem e_need_book {d : D} {st : List MO} (h : Pl st) (hd : d.canLay0 = true) : f_need_book [.val d] st = some (if hasBook d then .ok (.val .none) ⟨[], st⟩ else .err ⟨"InvalidBook", none⟩ ⟨[], st⟩) := by
  have e := e_has_book h hd
  cases hb : hasBook d with
  | true =>
    rw [hb] at e
    refine run_next (env := [.val d]) ?_ h rfl
    simp [g_need_book, bE, fz, var, kst, op2, op1, lift1, lift2, rd, EV.frz, toB, ofB, andV, orV, andT, orT, ifV, chain, aNil, aCons, toSV, callV, withVals, valsOf, callT, withTops, rds, seqS, bS, retS, exprS, setF, setC, storeF, storeC, ifS, asgS, bName, bNil, bCons, bTup, parS, skip, asD, listD, tupD, seqD, mkTup, mkLst, notV, notT, yesT, raiseS, iOp, cOp, negD, isiD, tyName, isiB, List.getElem?_cons_zero, List.getElem?_cons_succ, List.getElem?_nil, List.set_cons_zero, List.set_cons_succ, List.length_cons, List.length_nil, List.replicate, List.cons_append, List.nil_append, List.append_nil, if_true, if_false, Option.map_some, Option.map_none, callF, e]
  | false =>
    rw [hb] at e
    refine run_err (env := [.val d]) ?_ h rfl
    simp [g_need_book, bE, fz, var, kst, op2, op1, lift1, lift2, rd, EV.frz, toB, ofB, andV, orV, andT, orT, ifV, chain, aNil, aCons, toSV, callV, withVals, valsOf, callT, withTops, rds, seqS, bS, retS, exprS, setF, setC, storeF, storeC, ifS, asgS, bName, bNil, bCons, bTup, parS, skip, asD, listD, tupD, seqD, mkTup, mkLst, notV, notT, yesT, raiseS, iOp, cOp, negD, isiD, tyName, isiB, List.getElem?_cons_zero, List.getElem?_cons_succ, List.getElem?_nil, List.set_cons_zero, List.set_cons_succ, List.length_cons, List.length_nil, List.replicate, List.cons_append, List.nil_append, List.append_nil, if_true, if_false, Option.map_some, Option.map_none, callF, e]
def GREAT : Int := 1000000000000000000000000000000
theorem e_has_heap {n : Int} {rs : D} {d : D} {st : List MO} (h : Pl st) (hn : n ≤ 1000000) (hd : d.canLay0 = true) : f_has_heap [.val (.tuple [.int n, rs]), .val d] st = some (.ok (.val (.bool (isCounts d n GREAT))) ⟨[], st⟩) := by
  refine run_of (env := [.val (.tuple [.int n, rs]), .val d]) ?_ h rfl
  simp [g_has_heap, bE, fz, var, kst, op2, op1, lift1, lift2, rd, EV.frz, toB, ofB, andV, orV, andT, orT, ifV, chain, aNil, aCons, toSV, callV, withVals, valsOf, callT, withTops, rds, seqS, bS, retS, exprS, setF, setC, storeF, storeC, ifS, asgS, bName, bNil, bCons, bTup, parS, skip, asD, listD, tupD, seqD, mkTup, mkLst, notV, notT, yesT, raiseS, iOp, cOp, negD, isiD, tyName, isiB, List.getElem?_cons_zero, List.getElem?_cons_succ, List.getElem?_nil, List.set_cons_zero, List.set_cons_succ, List.length_cons, List.length_nil, List.replicate, List.cons_append, List.nil_append, List.append_nil, if_true, if_false, Option.map_some, Option.map_none, callF, ix0, e_is_counts h hd hn, GREAT]
theorem e_need_heap {n : Int} {rs : D} {d : D} {st : List MO} (h : Pl st) (hn : n ≤ 1000000) (hd : d.canLay0 = true) : f_need_heap [.val (.tuple [.int n, rs]), .val d] st = some (if isCounts d n GREAT then .ok (.val .none) ⟨[], st⟩ else .err ⟨"InvalidHeap", none⟩ ⟨[], st⟩) := by
  have e := e_has_heap (rs := rs) h hn hd
  cases hb : isCounts d n GREAT with
  | true =>
    rw [hb] at e
    refine run_next (env := [.val (.tuple [.int n, rs]), .val d]) ?_ h rfl
    simp [g_need_heap, bE, fz, var, kst, op2, op1, lift1, lift2, rd, EV.frz, toB, ofB, andV, orV, andT, orT, ifV, chain, aNil, aCons, toSV, callV, withVals, valsOf, callT, withTops, rds, seqS, bS, retS, exprS, setF, setC, storeF, storeC, ifS, asgS, bName, bNil, bCons, bTup, parS, skip, asD, listD, tupD, seqD, mkTup, mkLst, notV, notT, yesT, raiseS, iOp, cOp, negD, isiD, tyName, isiB, List.getElem?_cons_zero, List.getElem?_cons_succ, List.getElem?_nil, List.set_cons_zero, List.set_cons_succ, List.length_cons, List.length_nil, List.replicate, List.cons_append, List.nil_append, List.append_nil, if_true, if_false, Option.map_some, Option.map_none, callF, e]
  | false =>
    rw [hb] at e
    refine run_err (env := [.val (.tuple [.int n, rs]), .val d]) ?_ h rfl
    simp [g_need_heap, bE, fz, var, kst, op2, op1, lift1, lift2, rd, EV.frz, toB, ofB, andV, orV, andT, orT, ifV, chain, aNil, aCons, toSV, callV, withVals, valsOf, callT, withTops, rds, seqS, bS, retS, exprS, setF, setC, storeF, storeC, ifS, asgS, bName, bNil, bCons, bTup, parS, skip, asD, listD, tupD, seqD, mkTup, mkLst, notV, notT, yesT, raiseS, iOp, cOp, negD, isiD, tyName, isiB, List.getElem?_cons_zero, List.getElem?_cons_succ, List.getElem?_nil, List.set_cons_zero, List.set_cons_succ, List.length_cons, List.length_nil, List.replicate, List.cons_append, List.nil_append, List.append_nil, if_true, if_false, Option.map_some, Option.map_none, callF, e]
/-- a book that the program takes -/
structure OkBook (n : Int) (rs : List RuleT) : Prop where
  n1 : 1 ≤ n
  n4 : n ≤ 4
  ne : rs ≠ []
  len : rs.length ≤ 5
  nd : rs.Nodup
  l1 : ∀ r ∈ rs, (r.1.length : Int) = n
  l2 : ∀ r ∈ rs, (r.2.length : Int) = n
  t : ∀ r ∈ rs, ∀ x ∈ r.1, 0 ≤ x ∧ x ≤ 6
  g : ∀ r ∈ rs, ∀ x ∈ r.2, 0 ≤ x ∧ x ≤ 6
  s : ∀ r ∈ rs, 0 < r.1.sum
  un : ∀ r ∈ rs, r.1 ≠ r.2
theorem isCounts_T {v : Vec} {k most : Int} : isCounts (T v) k most = (decide ((v.length : Int) = k) && v.all fun x => decide (0 ≤ x) && decide (x ≤ most)) := by
  simp only [isCounts, T, List.length_map, List.all_map]
  rfl
theorem hasRule_Rl {r : RuleT} {k : Int} : hasRule k (Rl r) = (isCounts (T r.1) k 6 && isCounts (T r.2) k 6 && decide (0 < r.1.sum) && !decide (r.1 = r.2)) := by
  simp only [hasRule, Rl, eqv_T]
  simp [intsD, T, intsOf_map]
theorem hasBook_Bk {n : Int} {rs : List RuleT} (ok : OkBook n rs) : hasBook (Bk n rs) = true := by
  have h1 : rs.length ≠ 0 := fun z => ok.ne (List.eq_nil_of_length_eq_zero z)
  have hu : unlike (rs.map Rl) = true := by rw [unlike_map eqv_Rl, decide_eq_true ok.nd]
  have ha : (rs.map Rl).all (fun x => hasRule n x) = true := by
    rw [List.all_eq_true]
    intro d hd
    obtain ⟨r, hr, rfl⟩ := List.mem_map.mp hd
    rw [hasRule_Rl, isCounts_T, isCounts_T]
    simp only [Bool.and_eq_true, decide_eq_true_eq, List.all_eq_true, Bool.not_eq_true', decide_eq_false_iff_not]
    exact ⟨⟨⟨⟨ok.l1 r hr, ok.t r hr⟩, ok.l2 r hr, ok.g r hr⟩, ok.s r hr⟩, ok.un r hr⟩
  have hlen := ok.len
  simp only [hasBook, Bk, Rs, hu, ha, List.length_map, Bool.and_true, Bool.and_eq_true, decide_eq_true_eq]
  exact ⟨⟨⟨ok.n1, ok.n4⟩, by omega⟩, by omega⟩
theorem OkB.book {k most : Int} {rs : List RuleT} (b : OkB k most rs) (hm : most ≤ 5) : OkBook k rs where
  n1 := b.k1
  n4 := by have := b.k3; omega
  ne := b.ne
  len := by have := b.len; omega
  nd := b.nd
  l1 := fun r hr => by rw [(b.ok r hr).l1]; have := b.k1; omega
  l2 := fun r hr => by rw [(b.ok r hr).l2]; have := b.k1; omega
  t := fun r hr x hx => by have := (b.ok r hr).t x hx; omega
  g := fun r hr x hx => by have := (b.ok r hr).g x hx; omega
  s := fun r hr => (b.ok r hr).s
  un := fun r hr => (b.ok r hr).ne
theorem OkBook.ln {n : Int} {rs : List RuleT} (ok : OkBook n rs) : Ln n.toNat rs := fun r hr => ⟨by have := ok.l1 r hr; omega, by have := ok.l2 r hr; omega⟩
theorem e_need_both {n : Int} {rs : List RuleT} {d : D} {st : List MO} (h : Pl st) (ok : OkBook n rs) (hd : d.canLay0 = true) : f_need_both [.val (Bk n rs), .val d] st = some (if isCounts d n GREAT then .ok (.val .none) ⟨[], st⟩ else .err ⟨"InvalidHeap", none⟩ ⟨[], st⟩) := by
  have hn := ok.n4
  have e1 := e_need_book h (lay_Bk n rs)
  rw [hasBook_Bk ok] at e1
  have e2 := e_need_heap (rs := Rs rs) h (show n ≤ 1000000 by omega) hd
  have e2 : f_need_heap [.val (Bk n rs), .val d] st = _ := e2
  cases hb : isCounts d n GREAT with
  | true =>
    rw [hb] at e2
    refine run_next (env := [.val (Bk n rs), .val d]) ?_ h rfl
    simp [g_need_both, bE, fz, var, kst, op2, op1, lift1, lift2, rd, EV.frz, toB, ofB, andV, orV, andT, orT, ifV, chain, aNil, aCons, toSV, callV, withVals, valsOf, callT, withTops, rds, seqS, bS, retS, exprS, setF, setC, storeF, storeC, ifS, asgS, bName, bNil, bCons, bTup, parS, skip, asD, listD, tupD, seqD, mkTup, mkLst, notV, notT, yesT, raiseS, iOp, cOp, negD, isiD, tyName, isiB, List.getElem?_cons_zero, List.getElem?_cons_succ, List.getElem?_nil, List.set_cons_zero, List.set_cons_succ, List.length_cons, List.length_nil, List.replicate, List.cons_append, List.nil_append, List.append_nil, if_true, if_false, Option.map_some, Option.map_none, callF, e1, e2]
  | false =>
    rw [hb] at e2
    refine run_err (env := [.val (Bk n rs), .val d]) ?_ h rfl
    simp [g_need_both, bE, fz, var, kst, op2, op1, lift1, lift2, rd, EV.frz, toB, ofB, andV, orV, andT, orT, ifV, chain, aNil, aCons, toSV, callV, withVals, valsOf, callT, withTops, rds, seqS, bS, retS, exprS, setF, setC, storeF, storeC, ifS, asgS, bName, bNil, bCons, bTup, parS, skip, asD, listD, tupD, seqD, mkTup, mkLst, notV, notT, yesT, raiseS, iOp, cOp, negD, isiD, tyName, isiB, List.getElem?_cons_zero, List.getElem?_cons_succ, List.getElem?_nil, List.set_cons_zero, List.set_cons_succ, List.length_cons, List.length_nil, List.replicate, List.cons_append, List.nil_append, List.append_nil, if_true, if_false, Option.map_some, Option.map_none, callF, e1, e2]
theorem e_can_do {n : Int} {rs : List RuleT} {d : D} {st : List MO} (h : Pl st) (ok : OkBook n rs) (hd : d.canLay0 = true) : f_can_do [.val (Bk n rs), .val d] st = some (if isCounts d n GREAT then .ok (.fresh ((doable rs (intsD d)).map .int)) ⟨[], st⟩ else .err ⟨"InvalidHeap", none⟩ ⟨[], st⟩) := by
  have e1 := e_need_both h ok hd
  have hn := ok.n4
  have hl := ok.len
  cases hb : isCounts d n GREAT with
  | true =>
    rw [hb] at e1
    obtain ⟨v, rfl, hv, _⟩ := counts_ints hb
    have e2 := e_doable (n := n) (rs := rs) (v := v) (k := n.toNat) h (by omega) (by omega) ok.ln
    refine run_fresh (env := [.val (Bk n rs), .val (T v)]) ?_ h rfl
    have e3 : intsD (.tuple (v.map .int)) = v := by simp [intsD, intsOf_map]
    rw [e3]
    have e1 : f_need_both [.val (Bk n rs), .val (T v)] st = _ := e1
    show g_can_do ⟨[.val (Bk n rs), .val (T v)], st⟩ = _
    simp [g_can_do, bE, fz, var, kst, op2, op1, lift1, lift2, rd, EV.frz, toB, ofB, andV, orV, andT, orT, ifV, chain, aNil, aCons, toSV, callV, withVals, valsOf, callT, withTops, rds, seqS, bS, retS, exprS, setF, setC, storeF, storeC, ifS, asgS, bName, bNil, bCons, bTup, parS, skip, asD, listD, tupD, seqD, mkTup, mkLst, notV, notT, yesT, raiseS, iOp, cOp, negD, isiD, tyName, isiB, List.getElem?_cons_zero, List.getElem?_cons_succ, List.getElem?_nil, List.set_cons_zero, List.set_cons_succ, List.length_cons, List.length_nil, List.replicate, List.cons_append, List.nil_append, List.append_nil, if_true, if_false, Option.map_some, Option.map_none, callF, e1, e2]
  | false =>
    rw [hb] at e1
    refine run_err (env := [.val (Bk n rs), .val d]) ?_ h rfl
    simp [g_can_do, bE, fz, var, kst, op2, op1, lift1, lift2, rd, EV.frz, toB, ofB, andV, orV, andT, orT, ifV, chain, aNil, aCons, toSV, callV, withVals, valsOf, callT, withTops, rds, seqS, bS, retS, exprS, setF, setC, storeF, storeC, ifS, asgS, bName, bNil, bCons, bTup, parS, skip, asD, listD, tupD, seqD, mkTup, mkLst, notV, notT, yesT, raiseS, iOp, cOp, negD, isiD, tyName, isiB, List.getElem?_cons_zero, List.getElem?_cons_succ, List.getElem?_nil, List.set_cons_zero, List.set_cons_succ, List.length_cons, List.length_nil, List.replicate, List.cons_append, List.nil_append, List.append_nil, if_true, if_false, Option.map_some, Option.map_none, callF, e1]
/-- rows -/
def isRow (m : Nat) (d : D) : Bool := match d with
  | .tuple ds => decide ((ds.length : Int) ≤ 100) && ds.all fun x => isFrom x 0 ((m : Int) - 1)
  | _ => false
theorem e_is_row {n : Int} {rs : List RuleT} {d : D} {st : List MO} (h : Pl st) (hl : rs.length ≤ 1000000) (hd : d.canLay0 = true) : f_is_row [.val (Bk n rs), .val d] st = some (.ok (.val (.bool (isRow rs.length d))) ⟨[], st⟩) := by
  refine run_of (env := [.val (Bk n rs), .val d, .un]) ?_ h rfl
  cases d with
  | tuple ds =>
    by_cases h1 : (100 : Int) < (ds.length : Nat)
    · have h2 : isRow rs.length (.tuple ds) = false := by
        simp only [isRow]
        rw [decide_eq_false (by omega), Bool.false_and]
      simp [g_is_row, h2, bE, fz, var, kst, op2, op1, lift1, lift2, rd, EV.frz, toB, ofB, andV, orV, andT, orT, ifV, chain, aNil, aCons, toSV, callV, withVals, valsOf, callT, withTops, rds, seqS, bS, retS, exprS, setF, setC, storeF, storeC, ifS, asgS, bName, bNil, bCons, bTup, parS, skip, asD, listD, tupD, seqD, mkTup, mkLst, notV, notT, yesT, raiseS, iOp, cOp, negD, isiD, tyName, isiB, List.getElem?_cons_zero, List.getElem?_cons_succ, List.getElem?_nil, List.set_cons_zero, List.set_cons_succ, List.length_cons, List.length_nil, List.replicate, List.cons_append, List.nil_append, List.append_nil, if_true, if_false, Option.map_some, Option.map_none, lenD, h1]
    · have hla := layAll_tup hd
      have e := lcL_map (vs := [2]) (b := bName 2) (t := yesT) (f := callF 3 f_is_from (aCons (var 2) (aCons (kst (.int 0)) (aCons (op2 subD (callT lenD (aCons (op2 ixD (var 0) (kst (.int 1))) aNil)) (kst (.int 1))) aNil)))) (s := ⟨[.val (Bk n rs), .val (.tuple ds), .un], st⟩) (fun x => .bool (isFrom x 0 ((rs.length : Int) - 1))) ds [] (by simp; omega)
        (fun d hm => ⟨_, _, _, by simp [bName]; rfl, by simp [yesT]; rfl, by simp [bE, fz, var, kst, op2, op1, lift1, lift2, rd, EV.frz, toB, ofB, andV, orV, andT, orT, ifV, chain, aNil, aCons, toSV, callV, withVals, valsOf, callT, withTops, rds, seqS, bS, retS, exprS, setF, setC, storeF, storeC, ifS, asgS, bName, bNil, bCons, bTup, parS, skip, asD, listD, tupD, seqD, mkTup, mkLst, notV, notT, yesT, raiseS, iOp, cOp, negD, isiD, tyName, isiB, List.getElem?_cons_zero, List.getElem?_cons_succ, List.getElem?_nil, List.set_cons_zero, List.set_cons_succ, List.length_cons, List.length_nil, List.replicate, List.cons_append, List.nil_append, List.append_nil, if_true, if_false, Option.map_some, Option.map_none, callF, wipeE, bk_ix1, Rs, lenD, subD, e_is_from h (layAll_mem hla d hm)]; rfl⟩)
      have e2 : c_is_row_1 ⟨[.val (Bk n rs), .val (.tuple ds), .un], st⟩ = some (.ok (.fresh (ds.map fun x => .bool (isFrom x 0 ((rs.length : Int) - 1)))) ⟨[.val (Bk n rs), .val (.tuple ds), .un], st⟩) := by
        simp only [c_is_row_1, lcE, bE, fz, var, kst, op2, op1, lift1, lift2, rd, EV.frz, toB, ofB, andV, orV, andT, orT, ifV, chain, aNil, aCons, toSV, callV, withVals, valsOf, callT, withTops, rds, seqS, bS, retS, exprS, setF, setC, storeF, storeC, ifS, asgS, bName, bNil, bCons, bTup, parS, skip, asD, listD, tupD, seqD, mkTup, mkLst, notV, notT, yesT, raiseS, iOp, cOp, negD, isiD, tyName, isiB, List.getElem?_cons_zero, List.getElem?_cons_succ, List.getElem?_nil, List.set_cons_zero, List.set_cons_succ, List.length_cons, List.length_nil, List.replicate, List.cons_append, List.nil_append, List.append_nil, if_true, if_false, Option.map_some, Option.map_none]
        exact e
      have h2 : isRow rs.length (.tuple ds) = ds.all fun x => isFrom x 0 ((rs.length : Int) - 1) := by
        simp only [isRow]
        rw [decide_eq_true (by omega), Bool.true_and]
      simp [g_is_row, h2, bE, fz, var, kst, op2, op1, lift1, lift2, rd, EV.frz, toB, ofB, andV, orV, andT, orT, ifV, chain, aNil, aCons, toSV, callV, withVals, valsOf, callT, withTops, rds, seqS, bS, retS, exprS, setF, setC, storeF, storeC, ifS, asgS, bName, bNil, bCons, bTup, parS, skip, asD, listD, tupD, seqD, mkTup, mkLst, notV, notT, yesT, raiseS, iOp, cOp, negD, isiD, tyName, isiB, List.getElem?_cons_zero, List.getElem?_cons_succ, List.getElem?_nil, List.set_cons_zero, List.set_cons_succ, List.length_cons, List.length_nil, List.replicate, List.cons_append, List.nil_append, List.append_nil, if_true, if_false, Option.map_some, Option.map_none, lenD, h1, e2, allD, boolsOf_mapB, all_id]
  | dict _ => exact absurd rfl (ty_ne hd)
  | _ => simp [g_is_row, isRow, bE, fz, var, kst, op2, op1, lift1, lift2, rd, EV.frz, toB, ofB, andV, orV, andT, orT, ifV, chain, aNil, aCons, toSV, callV, withVals, valsOf, callT, withTops, rds, seqS, bS, retS, exprS, setF, setC, storeF, storeC, ifS, asgS, bName, bNil, bCons, bTup, parS, skip, asD, listD, tupD, seqD, mkTup, mkLst, notV, notT, yesT, raiseS, iOp, cOp, negD, isiD, tyName, isiB, List.getElem?_cons_zero, List.getElem?_cons_succ, List.getElem?_nil, List.set_cons_zero, List.set_cons_succ, List.length_cons, List.length_nil, List.replicate, List.cons_append, List.nil_append, List.append_nil, if_true, if_false, Option.map_some, Option.map_none]
def led (rs : List RuleT) : Vec → List Int → Option Vec
  | h, [] => some h
  | h, n :: r => match rs[n.toNat]? with
    | none => none
    | some q => if within q.1 h then led rs (behind h q 1) r else none
end PF
set_option maxHeartbeats 1000000
namespace PF
open PySem PySem.Spec PyProof.Rows L2 DL
/-! ### rows that are done -/
theorem change_len {k : Nat} {r : RuleT} (h : r.1.length = k ∧ r.2.length = k) : (change r).length = k := by
  unfold change
  rw [List.length_map, List.length_zip, h.1, h.2, Nat.min_self]
theorem behind_len {k : Nat} {v : Vec} {r : RuleT} {t : Int} (hv : v.length = k) (h : r.1.length = k ∧ r.2.length = k) : (behind v r t).length = k := by
  unfold behind
  rw [List.length_map, List.length_zip, change_len h, hv, Nat.min_self]
/-- small entries -/
def Sm (rs : List RuleT) : Prop := ∀ r ∈ rs, (∀ x ∈ r.1, 0 ≤ x ∧ x ≤ 6) ∧ ∀ x ∈ r.2, 0 ≤ x ∧ x ≤ 6
theorem OkBook.sm {n : Int} {rs : List RuleT} (ok : OkBook n rs) : Sm rs := fun r hr => ⟨ok.t r hr, ok.g r hr⟩
theorem change_small {rs : List RuleT} (s : Sm rs) {r : RuleT} (hr : r ∈ rs) : ∀ m ∈ change r, -6 ≤ m ∧ m ≤ 6 := fun m hm => by
  unfold change at hm
  obtain ⟨p, hp, rfl⟩ := List.mem_map.mp hm
  have h1 := (s r hr).1 p.1 (List.of_mem_zip hp).1
  have h2 := (s r hr).2 p.2 (List.of_mem_zip hp).2
  omega
theorem log_small {m : Int} (h : -6 ≤ m ∧ m ≤ 6) : m.natAbs.log2 < 10 := by
  have h1 : m.natAbs ≤ 6 := by omega
  by_cases h0 : m.natAbs = 0
  · rw [h0]; decide
  · exact (Nat.log2_lt h0).mpr (by omega)
theorem e_behind1 {v : Vec} {rs : List RuleT} {r : RuleT} {t : Int} {k : Nat} {st : List MO} (h : Pl st) (hk : k ≤ 1000000) (hv : v.length = k) (ln : Ln k rs) (sm : Sm rs) (hr : r ∈ rs) (ht : t.natAbs.log2 ≤ 10000000) : f_behind [.val (T v), .val (Rl r), .val (.int t)] st = some (.ok (.val (T (behind v r t))) ⟨[], st⟩) :=
  e_behind h (by rw [hv]; exact hk) (by rw [(ln r hr).1]; exact hk) fun m hm => by
    have := log_small (change_small sm hr m hm)
    omega
theorem at_rule {rs : List RuleT} {n : Int} (h0 : 0 ≤ n) (h : n < rs.length) : ∃ q, rs[n.toNat]? = some q ∧ q ∈ rs ∧ ixD (Rs rs) (.int n) = some (.val (Rl q)) := by
  obtain ⟨x, e1, e2, e3⟩ := atI_lt (l := rs.map Rl) h0 (by simpa using h)
  rw [List.getElem?_map] at e3
  cases e : rs[n.toNat]? with
  | none => rw [e] at e3; cases e3
  | some q =>
    rw [e] at e3
    cases e3
    exact ⟨q, rfl, List.mem_of_getElem? e, by simp only [Rs, ixD, e1]; rfl⟩
theorem led_loop {n : Int} {rs : List RuleT} {k : Nat} {st : List MO} {row : D} (h : Pl st) (hk : k ≤ 1000000) (ln : Ln k rs) (sm : Sm rs) : ∀ (r : List Int) (v : Vec) (sv : SV), v.length = k → (∀ x ∈ r, 0 ≤ x ∧ x < rs.length) →
    ∃ env, forL (bName 3) b_led_1 (r.map .int) ⟨[.val (Bk n rs), .val (T v), .val row, sv], st⟩ = (match led rs v r with
      | some w => some (.next ⟨[.val (Bk n rs), .val (T w), .val row, env], st⟩)
      | none => some (.ret (.val .none) ⟨[.val (Bk n rs), .un, .val row, env], st⟩)) ∨
      ∃ v' : Vec, led rs v r = none ∧ forL (bName 3) b_led_1 (r.map .int) ⟨[.val (Bk n rs), .val (T v), .val row, sv], st⟩ = some (.ret (.val .none) ⟨[.val (Bk n rs), .val (T v'), .val row, env], st⟩)
  | [], v, sv, _, _ => ⟨sv, .inl (by simp [forL, led])⟩
  | x :: r, v, sv, hv, hx => by
    obtain ⟨h0, h1⟩ := hx x List.mem_cons_self
    obtain ⟨q, e1, e2, e3⟩ := at_rule h0 h1
    have ew := e_within (a := q.1) (b := v) h (by rw [(ln q e2).1]; exact hk)
    have ix : ixD (Rl q) (.int 0) = some (.val (T q.1)) := rfl
    cases hw : within q.1 v with
    | false =>
      rw [hw] at ew
      refine ⟨.val (.int x), .inr ⟨v, by simp [led, e1, hw], ?_⟩⟩
      simp [forL, bName, b_led_1, bE, fz, var, kst, op2, op1, lift1, lift2, rd, EV.frz, toB, ofB, andV, orV, andT, orT, ifV, chain, aNil, aCons, toSV, callV, withVals, valsOf, callT, withTops, rds, seqS, bS, retS, exprS, setF, setC, storeF, storeC, ifS, asgS, bName, bNil, bCons, bTup, parS, skip, asD, listD, tupD, seqD, mkTup, mkLst, notV, notT, yesT, raiseS, iOp, cOp, negD, isiD, tyName, isiB, List.getElem?_cons_zero, List.getElem?_cons_succ, List.getElem?_nil, List.set_cons_zero, List.set_cons_succ, List.length_cons, List.length_nil, List.replicate, List.cons_append, List.nil_append, List.append_nil, if_true, if_false, Option.map_some, Option.map_none, bk_ix1, e3, ix, callF, ew]
    | true =>
      rw [hw] at ew
      have eb := e_behind1 (t := 1) h hk hv ln sm e2 (by decide)
      obtain ⟨env, ih⟩ := led_loop h hk ln sm r (behind v q 1) (.val (.int x)) (behind_len hv (ln q e2)) (fun y hy => hx y (List.mem_cons_of_mem _ hy))
      have step : forL (bName 3) b_led_1 ((x :: r).map .int) ⟨[.val (Bk n rs), .val (T v), .val row, sv], st⟩ = forL (bName 3) b_led_1 (r.map .int) ⟨[.val (Bk n rs), .val (T (behind v q 1)), .val row, .val (.int x)], st⟩ := by
        simp [forL, bName, b_led_1, bE, fz, var, kst, op2, op1, lift1, lift2, rd, EV.frz, toB, ofB, andV, orV, andT, orT, ifV, chain, aNil, aCons, toSV, callV, withVals, valsOf, callT, withTops, rds, seqS, bS, retS, exprS, setF, setC, storeF, storeC, ifS, asgS, bName, bNil, bCons, bTup, parS, skip, asD, listD, tupD, seqD, mkTup, mkLst, notV, notT, yesT, raiseS, iOp, cOp, negD, isiD, tyName, isiB, List.getElem?_cons_zero, List.getElem?_cons_succ, List.getElem?_nil, List.set_cons_zero, List.set_cons_succ, List.length_cons, List.length_nil, List.replicate, List.cons_append, List.nil_append, List.append_nil, if_true, if_false, Option.map_some, Option.map_none, bk_ix1, e3, ix, callF, ew, eb]
      have hl : led rs v (x :: r) = led rs (behind v q 1) r := by simp [led, e1, hw]
      rw [step, hl]
      exact ⟨env, ih⟩
theorem e_led {n : Int} {rs : List RuleT} {k : Nat} {v : Vec} {row : List Int} {st : List MO} (h : Pl st) (hk : k ≤ 1000000) (ln : Ln k rs) (sm : Sm rs) (hv : v.length = k) (hx : ∀ x ∈ row, 0 ≤ x ∧ x < rs.length) :
    f_led [.val (Bk n rs), .val (T v), .val (T row)] st = some (.ok (.val (match led rs v row with | some w => T w | none => .none)) ⟨[], st⟩) := by
  obtain ⟨env, e⟩ := led_loop (n := n) (row := T row) h hk ln sm row v .un hv hx
  rcases e with e | ⟨v', e0, e⟩
  · cases hl : led rs v row with
    | some w =>
      rw [hl] at e
      refine run_of (env := [.val (Bk n rs), .val (T w), .val (T row), env]) ?_ h rfl
      simp only [g_led, forS, bE, fz, var, kst, op2, op1, lift1, lift2, rd, EV.frz, toB, ofB, andV, orV, andT, orT, ifV, chain, aNil, aCons, toSV, callV, withVals, valsOf, callT, withTops, rds, seqS, bS, retS, exprS, setF, setC, storeF, storeC, ifS, asgS, bName, bNil, bCons, bTup, parS, skip, asD, listD, tupD, seqD, mkTup, mkLst, notV, notT, yesT, raiseS, iOp, cOp, negD, isiD, tyName, isiB, List.getElem?_cons_zero, List.getElem?_cons_succ, List.getElem?_nil, List.set_cons_zero, List.set_cons_succ, List.length_cons, List.length_nil, List.replicate, List.cons_append, List.nil_append, List.append_nil, if_true, if_false, Option.map_some, Option.map_none, T]
      simp only [T] at e
      simp [e]
    | none =>
      rw [hl] at e
      refine run_of (env := [.val (Bk n rs), .un, .val (T row), env]) ?_ h rfl
      simp only [g_led, forS, bE, fz, var, kst, op2, op1, lift1, lift2, rd, EV.frz, toB, ofB, andV, orV, andT, orT, ifV, chain, aNil, aCons, toSV, callV, withVals, valsOf, callT, withTops, rds, seqS, bS, retS, exprS, setF, setC, storeF, storeC, ifS, asgS, bName, bNil, bCons, bTup, parS, skip, asD, listD, tupD, seqD, mkTup, mkLst, notV, notT, yesT, raiseS, iOp, cOp, negD, isiD, tyName, isiB, List.getElem?_cons_zero, List.getElem?_cons_succ, List.getElem?_nil, List.set_cons_zero, List.set_cons_succ, List.length_cons, List.length_nil, List.replicate, List.cons_append, List.nil_append, List.append_nil, if_true, if_false, Option.map_some, Option.map_none, T]
      simp only [T] at e
      simp [e]
  · rw [e0]
    refine run_of (env := [.val (Bk n rs), .val (T v'), .val (T row), env]) ?_ h rfl
    simp only [g_led, forS, bE, fz, var, kst, op2, op1, lift1, lift2, rd, EV.frz, toB, ofB, andV, orV, andT, orT, ifV, chain, aNil, aCons, toSV, callV, withVals, valsOf, callT, withTops, rds, seqS, bS, retS, exprS, setF, setC, storeF, storeC, ifS, asgS, bName, bNil, bCons, bTup, parS, skip, asD, listD, tupD, seqD, mkTup, mkLst, notV, notT, yesT, raiseS, iOp, cOp, negD, isiD, tyName, isiB, List.getElem?_cons_zero, List.getElem?_cons_succ, List.getElem?_nil, List.set_cons_zero, List.set_cons_succ, List.length_cons, List.length_nil, List.replicate, List.cons_append, List.nil_append, List.append_nil, if_true, if_false, Option.map_some, Option.map_none, T]
    simp only [T] at e
    simp [e]
theorem row_ints {m : Nat} {d : D} (h : isRow m d = true) : ∃ ns : List Int, d = T ns ∧ ∀ x ∈ ns, 0 ≤ x ∧ x < m := by
  cases d with
  | tuple ds =>
    simp only [isRow, Bool.and_eq_true] at h
    have key : ∀ ds : List D, (ds.all fun x => isFrom x 0 ((m : Int) - 1)) = true → ∃ ns : List Int, ds = ns.map .int ∧ ∀ n ∈ ns, 0 ≤ n ∧ n < m := by
      intro ds
      induction ds with
      | nil => exact fun _ => ⟨[], rfl, by simp⟩
      | cons x r ih =>
        intro h
        simp only [List.all_cons, Bool.and_eq_true] at h
        obtain ⟨ns, e, hn⟩ := ih h.2
        cases x with
        | int v =>
          have h1 := h.1
          simp only [isFrom, Bool.and_eq_true, decide_eq_true_eq] at h1
          refine ⟨v :: ns, by rw [e] <;> rfl, fun n hm => ?_⟩
          rcases List.mem_cons.mp hm with z | z
          · omega
          · exact hn n z
        | _ => exact absurd h.1 (by simp [isFrom])
    obtain ⟨ns, e, hn⟩ := key ds h.2
    exact ⟨ns, by rw [e] <;> rfl, hn⟩
  | _ => simp [isRow] at h
theorem e_done {n : Int} {rs : List RuleT} {d w : D} {st : List MO} (h : Pl st) (ok : OkBook n rs) (hd : d.canLay0 = true) (hw : w.canLay0 = true) : f_done [.val (Bk n rs), .val d, .val w] st =
    some (if isCounts d n GREAT then (if isRow rs.length w then (match led rs (intsD d) (intsD w) with | some v => .ok (.val (T v)) ⟨[], st⟩ | none => .err ⟨"InvalidRow", none⟩ ⟨[], st⟩) else .err ⟨"InvalidRow", none⟩ ⟨[], st⟩) else .err ⟨"InvalidHeap", none⟩ ⟨[], st⟩) := by
  have e1 := e_need_both h ok hd
  have e2 := e_is_row (n := n) (rs := rs) h (by have := ok.len; omega) hw
  have hn := ok.n4
  cases hb : isCounts d n GREAT with
  | false =>
    rw [hb] at e1
    refine run_err (env := [.val (Bk n rs), .val d, .val w, .un]) ?_ h rfl
    simp [g_done, bE, fz, var, kst, op2, op1, lift1, lift2, rd, EV.frz, toB, ofB, andV, orV, andT, orT, ifV, chain, aNil, aCons, toSV, callV, withVals, valsOf, callT, withTops, rds, seqS, bS, retS, exprS, setF, setC, storeF, storeC, ifS, asgS, bName, bNil, bCons, bTup, parS, skip, asD, listD, tupD, seqD, mkTup, mkLst, notV, notT, yesT, raiseS, iOp, cOp, negD, isiD, tyName, isiB, List.getElem?_cons_zero, List.getElem?_cons_succ, List.getElem?_nil, List.set_cons_zero, List.set_cons_succ, List.length_cons, List.length_nil, List.replicate, List.cons_append, List.nil_append, List.append_nil, if_true, if_false, Option.map_some, Option.map_none, callF, e1]
  | true =>
    rw [hb] at e1
    cases hr : isRow rs.length w with
    | false =>
      rw [hr] at e2
      refine run_err (env := [.val (Bk n rs), .val d, .val w, .un]) ?_ h rfl
      simp [g_done, bE, fz, var, kst, op2, op1, lift1, lift2, rd, EV.frz, toB, ofB, andV, orV, andT, orT, ifV, chain, aNil, aCons, toSV, callV, withVals, valsOf, callT, withTops, rds, seqS, bS, retS, exprS, setF, setC, storeF, storeC, ifS, asgS, bName, bNil, bCons, bTup, parS, skip, asD, listD, tupD, seqD, mkTup, mkLst, notV, notT, yesT, raiseS, iOp, cOp, negD, isiD, tyName, isiB, List.getElem?_cons_zero, List.getElem?_cons_succ, List.getElem?_nil, List.set_cons_zero, List.set_cons_succ, List.length_cons, List.length_nil, List.replicate, List.cons_append, List.nil_append, List.append_nil, if_true, if_false, Option.map_some, Option.map_none, callF, e1, e2]
    | true =>
      rw [hr] at e2
      obtain ⟨v, rfl, hv, _⟩ := counts_ints hb
      obtain ⟨ns, rfl, hns⟩ := row_ints hr
      have i1 : intsD (.tuple (v.map .int)) = v := by simp [intsD, intsOf_map]
      have i2 : intsD (T ns) = ns := by simp [intsD, T, intsOf_map]
      rw [i1, i2]
      have e3 := e_led (n := n) (rs := rs) (k := n.toNat) (v := v) (row := ns) h (by omega) ok.ln ok.sm (by omega) hns
      have e1 : f_need_both [.val (Bk n rs), .val (T v)] st = _ := e1
      cases hl : led rs v ns with
      | some u =>
        rw [hl] at e3
        refine run_of (env := [.val (Bk n rs), .val (T v), .val (T ns), .val (T u)]) ?_ h rfl
        have q : isND (T u) .none = some (.val (.bool false)) := rfl
        show g_done ⟨[.val (Bk n rs), .val (T v), .val (T ns), .un], st⟩ = _
        simp [g_done, bE, fz, var, kst, op2, op1, lift1, lift2, rd, EV.frz, toB, ofB, andV, orV, andT, orT, ifV, chain, aNil, aCons, toSV, callV, withVals, valsOf, callT, withTops, rds, seqS, bS, retS, exprS, setF, setC, storeF, storeC, ifS, asgS, bName, bNil, bCons, bTup, parS, skip, asD, listD, tupD, seqD, mkTup, mkLst, notV, notT, yesT, raiseS, iOp, cOp, negD, isiD, tyName, isiB, List.getElem?_cons_zero, List.getElem?_cons_succ, List.getElem?_nil, List.set_cons_zero, List.set_cons_succ, List.length_cons, List.length_nil, List.replicate, List.cons_append, List.nil_append, List.append_nil, if_true, if_false, Option.map_some, Option.map_none, callF, e1, e2, e3, q]
      | none =>
        rw [hl] at e3
        refine run_err (env := [.val (Bk n rs), .val (T v), .val (T ns), .val .none]) ?_ h rfl
        have q : isND .none .none = some (.val (.bool true)) := rfl
        show g_done ⟨[.val (Bk n rs), .val (T v), .val (T ns), .un], st⟩ = _
        simp [g_done, bE, fz, var, kst, op2, op1, lift1, lift2, rd, EV.frz, toB, ofB, andV, orV, andT, orT, ifV, chain, aNil, aCons, toSV, callV, withVals, valsOf, callT, withTops, rds, seqS, bS, retS, exprS, setF, setC, storeF, storeC, ifS, asgS, bName, bNil, bCons, bTup, parS, skip, asD, listD, tupD, seqD, mkTup, mkLst, notV, notT, yesT, raiseS, iOp, cOp, negD, isiD, tyName, isiB, List.getElem?_cons_zero, List.getElem?_cons_succ, List.getElem?_nil, List.set_cons_zero, List.set_cons_succ, List.length_cons, List.length_nil, List.replicate, List.cons_append, List.nil_append, List.append_nil, if_true, if_false, Option.map_some, Option.map_none, callF, e1, e2, e3, q]
end PF
set_option maxHeartbeats 1000000
namespace PF
open PySem PySem.Spec PyProof.Rows L2 DL
/-! ### the law's own steps -/
theorem within_filter : ∀ (h t : Vec), ((List.zip h t).filter fun p => decide (p.1 < p.2)) = [] ↔ within t h = true
  | [], t => by cases t <;> simp [within]
  | _ :: _, [] => by simp [within]
  | c :: h, l :: t => by
    have ih := within_filter h t
    have hw : within (l :: t) (c :: h) = (decide (l ≤ c) && within t h) := by simp [within]
    rw [hw, Bool.and_eq_true, decide_eq_true_eq, ← ih]
    by_cases hc : c < l
    · simp only [List.zip_cons_cons, List.filter_cons, hc, decide_true, if_true]
      exact ⟨fun z => (List.cons_ne_nil _ _ z).elim, fun z => absurd z.1 (by omega)⟩
    · simp only [List.zip_cons_cons, List.filter_cons, hc, decide_false, Bool.false_eq_true, if_false]
      exact ⟨fun z => ⟨by omega, z⟩, fun z => z.2⟩
theorem c_can {bk d2 d3 d5 d6 d7 : SV} {h t : Vec} {st : List MO} (hl : h.length ≤ 1000000) :
    c__law_can_1 ⟨[bk, .val (T h), d2, d3, .val (T t), d5, d6, d7], st⟩ = some (.ok (.fresh (((List.zip h t).filter fun p => decide (p.1 < p.2)).map fun _ => .int 1)) ⟨[bk, .val (T h), d2, d3, .val (T t), d5, d6, d7], st⟩) := by
  have e := lcTf (vs := [6, 7]) (b := bTup 2 (bCons (bName 6) (bCons (bName 7) bNil))) (t := toB (op2 ltD (var 6) (var 7))) (f := kst (.int 1)) (s := ⟨[bk, .val (T h), d2, d3, .val (T t), d5, d6, d7], st⟩) (fun p : Int × Int => decide (p.1 < p.2)) (fun _ => .int 1) pair (List.zip h t) (by have := zip_len h t; omega)
    (fun p _ => ⟨_, _, _, by simp [bTup, bCons, bName, bNil, wipeE, pair]; rfl, by simp [bE, fz, var, kst, op2, op1, lift1, lift2, rd, EV.frz, toB, ofB, andV, orV, andT, orT, ifV, chain, aNil, aCons, toSV, callV, withVals, valsOf, callT, withTops, rds, seqS, bS, retS, exprS, setF, setC, storeF, storeC, ifS, asgS, bName, bNil, bCons, bTup, parS, skip, asD, listD, tupD, seqD, mkTup, mkLst, notV, notT, yesT, raiseS, iOp, cOp, negD, isiD, tyName, isiB, List.getElem?_cons_zero, List.getElem?_cons_succ, List.getElem?_nil, List.set_cons_zero, List.set_cons_succ, List.length_cons, List.length_nil, List.replicate, List.cons_append, List.nil_append, List.append_nil, if_true, if_false, Option.map_some, Option.map_none]; rfl, by simp [bE, fz, var, kst, op2, op1, lift1, lift2, rd, EV.frz, toB, ofB, andV, orV, andT, orT, ifV, chain, aNil, aCons, toSV, callV, withVals, valsOf, callT, withTops, rds, seqS, bS, retS, exprS, setF, setC, storeF, storeC, ifS, asgS, bName, bNil, bCons, bTup, parS, skip, asD, listD, tupD, seqD, mkTup, mkLst, notV, notT, yesT, raiseS, iOp, cOp, negD, isiD, tyName, isiB, List.getElem?_cons_zero, List.getElem?_cons_succ, List.getElem?_nil, List.set_cons_zero, List.set_cons_succ, List.length_cons, List.length_nil, List.replicate, List.cons_append, List.nil_append, List.append_nil, if_true, if_false, Option.map_some, Option.map_none]; rfl⟩)
  simp only [c__law_can_1, lcE, bE, fz, var, kst, op2, op1, lift1, lift2, rd, EV.frz, toB, ofB, andV, orV, andT, orT, ifV, chain, aNil, aCons, toSV, callV, withVals, valsOf, callT, withTops, rds, seqS, bS, retS, exprS, setF, setC, storeF, storeC, ifS, asgS, bName, bNil, bCons, bTup, parS, skip, asD, listD, tupD, seqD, mkTup, mkLst, notV, notT, yesT, raiseS, iOp, cOp, negD, isiD, tyName, isiB, List.getElem?_cons_zero, List.getElem?_cons_succ, List.getElem?_nil, List.set_cons_zero, List.set_cons_succ, List.length_cons, List.length_nil, List.replicate, List.cons_append, List.nil_append, List.append_nil, if_true, if_false, Option.map_some, Option.map_none, zipD_T]
  simp only [bE, fz, var, kst, op2, op1, lift1, lift2, rd, EV.frz, toB, ofB, andV, orV, andT, orT, ifV, chain, aNil, aCons, toSV, callV, withVals, valsOf, callT, withTops, rds, seqS, bS, retS, exprS, setF, setC, storeF, storeC, ifS, asgS, bName, bNil, bCons, bTup, parS, skip, asD, listD, tupD, seqD, mkTup, mkLst, notV, notT, yesT, raiseS, iOp, cOp, negD, isiD, tyName, isiB, List.getElem?_cons_zero, List.getElem?_cons_succ, List.getElem?_nil, List.set_cons_zero, List.set_cons_succ, List.length_cons, List.length_nil, List.replicate, List.cons_append, List.nil_append, List.append_nil, if_true, if_false, Option.map_some, Option.map_none] at e
  exact e
theorem eqD_nil {α : Type} (l : List α) (g : α → Int) : eqD (.list (l.map fun a => .int (g a))) (.list []) = some (.val (.bool (decide (l = [])))) := by
  have h1 : shp (.list (l.map fun a => PyData.int (g a))) = true := by
    refine shp_of ?_ ?_
    · rw [ints_map]; simp only [PyData.canLay0]; exact lay_ints _
    · rw [ints_map]; simp only [PyData.depth]; rw [depth_ints]; decide
  have h2 : shp (.list []) = true := by decide
  simp only [eqD, h1, h2, Bool.and_self, if_true]
  cases l with
  | nil => simp [PyData.eqv, PyData.eqvAll]
  | cons a r => simp [PyData.eqv, PyData.eqvAll]
theorem doable_step (rs : List (RuleT × Nat)) (p : RuleT × Nat) (h : Vec) : (((p :: rs).filter fun p => within p.1.1 h).map fun p => (p.2 : Int)) = (if within p.1.1 h then [(p.2 : Int)] else []) ++ ((rs.filter fun p => within p.1.1 h).map fun p => (p.2 : Int)) := by
  rw [List.filter_cons]
  split <;> simp
theorem e_can {n : Int} {rs : List RuleT} {v : Vec} {st : List MO} (h : Pl st) (hl : rs.length ≤ 1000) (hv : v.length ≤ 1000000) : f__law_can [.val (Bk n rs), .val (T v)] st = some (.ok (.fresh ((doable rs v).map .int)) ⟨[], st⟩) := by
  obtain ⟨c, hcd⟩ : ∃ c, st.length = c := ⟨_, rfl⟩
  have loop : ∀ (l : List (RuleT × Nat)) (acc : List Int) (a3 a4 a5 : SV), acc.length + l.length ≤ 1000 → ∃ b3 b4 b5 : SV, forL (bTup 2 (bCons (bName 3) (bCons (bTup 2 (bCons (bName 4) (bCons (bName 5) bNil))) bNil))) b__law_can_2 (l.map nth) ⟨[.val (Bk n rs), .val (T v), .cell c, a3, a4, a5, .un, .un], st ++ [.lst (acc.map .int)]⟩ =
      some (.next ⟨[.val (Bk n rs), .val (T v), .cell c, b3, b4, b5, .un, .un], st ++ [.lst ((acc ++ (l.filter fun p => within p.1.1 v).map fun p => (p.2 : Int)).map .int)]⟩) := by
    intro l
    induction l with
    | nil => intro acc a3 a4 a5 _; exact ⟨a3, a4, a5, by simp [forL]⟩
    | cons p l ih =>
      intro acc a3 a4 a5 hl
      have e1 := c_can (bk := .val (Bk n rs)) (d2 := .cell c) (d3 := .val (.int (p.2 : Nat))) (d5 := .val (T p.1.2)) (d6 := .un) (d7 := .un) (h := v) (t := p.1.1) (st := st ++ [.lst (acc.map .int)]) hv
      have e2 := eqD_nil ((List.zip v p.1.1).filter fun p => decide (p.1 < p.2)) (fun _ => 1)
      have hget : (st ++ [MO.lst (acc.map PyData.int)])[c]? = some (.lst (acc.map .int)) := by rw [← hcd]; simp
      have hset : ∀ x, (st ++ [MO.lst (acc.map PyData.int)]).set c x = st ++ [x] := fun x => by
        rw [List.set_append_right _ _ (by omega), hcd, Nat.sub_self] <;> rfl
      have hal : acc.length < 1000000 := by simp at hl; omega
      by_cases hw : within p.1.1 v = true
      · have hz := (within_filter v p.1.1).mpr hw
        rw [hz] at e2 e1
        obtain ⟨b3, b4, b5, e⟩ := ih (acc ++ [(p.2 : Int)]) (.val (.int (p.2 : Nat))) (.val (T p.1.1)) (.val (T p.1.2)) (by simp at hl ⊢; omega)
        refine ⟨b3, b4, b5, ?_⟩
        rw [doable_step, if_pos hw, ← List.append_assoc, ← e]
        simp [forL, bTup, bCons, bName, bNil, nth, Rl, b__law_can_2, bE, fz, var, kst, op2, op1, lift1, lift2, rd, EV.frz, toB, ofB, andV, orV, andT, orT, ifV, chain, aNil, aCons, toSV, callV, withVals, valsOf, callT, withTops, rds, seqS, bS, retS, exprS, setF, setC, storeF, storeC, ifS, asgS, bName, bNil, bCons, bTup, parS, skip, asD, listD, tupD, seqD, mkTup, mkLst, notV, notT, yesT, raiseS, iOp, cOp, negD, isiD, tyName, isiB, List.getElem?_cons_zero, List.getElem?_cons_succ, List.getElem?_nil, List.set_cons_zero, List.set_cons_succ, List.length_cons, List.length_nil, List.replicate, List.cons_append, List.nil_append, List.append_nil, if_true, if_false, Option.map_some, Option.map_none, e1, eqD, shp_none, appE, hget, hset, hal]
        simp [PyData.eqv, PyData.eqvAll, show shp (.list []) = true by decide, hget, hset, hal]
      · have hz : ¬ ((List.zip v p.1.1).filter fun p => decide (p.1 < p.2)) = [] := fun z => hw ((within_filter v p.1.1).mp z)
        obtain ⟨b3, b4, b5, e⟩ := ih acc (.val (.int (p.2 : Nat))) (.val (T p.1.1)) (.val (T p.1.2)) (by simp at hl ⊢; omega)
        refine ⟨b3, b4, b5, ?_⟩
        rw [decide_eq_false hz] at e2
        rw [doable_step, if_neg hw, List.nil_append, ← e]
        simp [forL, bTup, bCons, bName, bNil, nth, Rl, b__law_can_2, bE, fz, var, kst, op2, op1, lift1, lift2, rd, EV.frz, toB, ofB, andV, orV, andT, orT, ifV, chain, aNil, aCons, toSV, callV, withVals, valsOf, callT, withTops, rds, seqS, bS, retS, exprS, setF, setC, storeF, storeC, ifS, asgS, bName, bNil, bCons, bTup, parS, skip, asD, listD, tupD, seqD, mkTup, mkLst, notV, notT, yesT, raiseS, iOp, cOp, negD, isiD, tyName, isiB, List.getElem?_cons_zero, List.getElem?_cons_succ, List.getElem?_nil, List.set_cons_zero, List.set_cons_succ, List.length_cons, List.length_nil, List.replicate, List.cons_append, List.nil_append, List.append_nil, if_true, if_false, Option.map_some, Option.map_none, e1, e2]
  obtain ⟨b3, b4, b5, e⟩ := loop rs.zipIdx [] .un .un .un (by simpa using hl)
  have hget : (st ++ [MO.lst ((doable rs v).map PyData.int)])[c]? = some (.lst ((doable rs v).map .int)) := by rw [← hcd]; simp
  have run := run_cellT (nl := 8) (g := g__law_can) (args := [.val (Bk n rs), .val (T v)]) (st := st) (m := c) (env := [.val (Bk n rs), .val (T v), .cell c, b3, b4, b5, .un, .un]) (st' := st ++ [.lst ((doable rs v).map .int)]) (ds := (doable rs v).map .int) (by
    simp [g__law_can, forS, bE, fz, var, kst, op2, op1, lift1, lift2, rd, EV.frz, toB, ofB, andV, orV, andT, orT, ifV, chain, aNil, aCons, toSV, callV, withVals, valsOf, callT, withTops, rds, seqS, bS, retS, exprS, setF, setC, storeF, storeC, ifS, asgS, bName, bNil, bCons, bTup, parS, skip, asD, listD, tupD, seqD, mkTup, mkLst, notV, notT, yesT, raiseS, iOp, cOp, negD, isiD, tyName, isiB, List.getElem?_cons_zero, List.getElem?_cons_succ, List.getElem?_nil, List.set_cons_zero, List.set_cons_succ, List.length_cons, List.length_nil, List.replicate, List.cons_append, List.nil_append, List.append_nil, if_true, if_false, Option.map_some, Option.map_none, bk_ix1, enumD_Rs, hcd]
    simp at e
    simp [e, doable, List.map_map]) (pl_snoc h) (by omega) hget
  have ht : (st ++ [MO.lst ((doable rs v).map PyData.int)]).take st.length = st := by simp
  rw [ht] at run
  exact run
def trip (p : Int × Int × Int) : D := .tuple [.int p.1, .int p.2.1, .int p.2.2]
theorem zip3_ints : ∀ a b c : Vec, zipT3 (a.map .int) (b.map .int) (c.map .int) = (List.zip a (List.zip b c)).map trip
  | [], _, _ => by simp [zipT3]
  | _ :: _, [], _ => by simp [zipT3]
  | _ :: _, _ :: _, [] => by simp [zipT3]
  | x :: a, y :: b, z :: c => by simp [zipT3, zip3_ints a b c, trip]
theorem zip3D_T (a b c : Vec) : zip3D [T a, T b, T c] = some ((List.zip a (List.zip b c)).map trip) := by simp [zip3D, T, seqD, zip3_ints]
theorem after_eq (v : Vec) (q : RuleT) : ((List.zip v (List.zip q.1 q.2)).map fun p => p.1 - p.2.1 + p.2.2) = behind v q 1 := by
  unfold behind change
  rw [List.zip_map_right, List.map_map]
  refine List.map_congr_left fun p _ => ?_
  simp only [Function.comp, Prod.map, id]
  omega
theorem map3T (l : List (Int × Int × Int)) (g : Int × Int × Int → Int) : tupleD [.list (l.map fun p => .int (g p))] = some (.val (T (l.map g))) := by
  simp [tupleD, T, List.map_map]
theorem e_after {n : Int} {rs : List RuleT} {v : Vec} {x : Int} {q : RuleT} {st : List MO} (h : Pl st) (hv : v.length ≤ 1000000) (h0 : 0 ≤ x) (h1 : x < rs.length) (hq : rs[x.toNat]? = some q) : f__law_after [.val (Bk n rs), .val (T v), .val (.int x)] st = some (.ok (.val (T (behind v q 1))) ⟨[], st⟩) := by
  obtain ⟨q', e1, e2, e3⟩ := at_rule h0 h1
  rw [hq] at e1
  cases e1
  refine run_of (env := [.val (Bk n rs), .val (T v), .val (.int x), .val (T q.1), .val (T q.2), .un, .un, .un]) ?_ h rfl
  have e := lcT (vs := [5, 6, 7]) (b := bTup 3 (bCons (bName 5) (bCons (bName 6) (bCons (bName 7) bNil)))) (f := op2 addD (op2 subD (var 5) (var 6)) (var 7)) (s := ⟨[.val (Bk n rs), .val (T v), .val (.int x), .val (T q.1), .val (T q.2), .un, .un, .un], st⟩) (fun p : Int × Int × Int => .int (p.1 - p.2.1 + p.2.2)) trip (List.zip v (List.zip q.1 q.2)) (by rw [List.length_zip]; omega)
    (fun p _ => ⟨_, _, by simp [bTup, bCons, bName, bNil, wipeE, trip]; rfl, by simp [bE, fz, var, kst, op2, op1, lift1, lift2, rd, EV.frz, toB, ofB, andV, orV, andT, orT, ifV, chain, aNil, aCons, toSV, callV, withVals, valsOf, callT, withTops, rds, seqS, bS, retS, exprS, setF, setC, storeF, storeC, ifS, asgS, bName, bNil, bCons, bTup, parS, skip, asD, listD, tupD, seqD, mkTup, mkLst, notV, notT, yesT, raiseS, iOp, cOp, negD, isiD, tyName, isiB, List.getElem?_cons_zero, List.getElem?_cons_succ, List.getElem?_nil, List.set_cons_zero, List.set_cons_succ, List.length_cons, List.length_nil, List.replicate, List.cons_append, List.nil_append, List.append_nil, if_true, if_false, Option.map_some, Option.map_none, subD, iOp, addD]; rfl⟩)
  have e5 : c__law_after_1 ⟨[.val (Bk n rs), .val (T v), .val (.int x), .val (T q.1), .val (T q.2), .un, .un, .un], st⟩ = some (.ok (.fresh ((List.zip v (List.zip q.1 q.2)).map fun p => .int (p.1 - p.2.1 + p.2.2))) ⟨[.val (Bk n rs), .val (T v), .val (.int x), .val (T q.1), .val (T q.2), .un, .un, .un], st⟩) := by
    simp only [c__law_after_1, lcE, bE, fz, var, kst, op2, op1, lift1, lift2, rd, EV.frz, toB, ofB, andV, orV, andT, orT, ifV, chain, aNil, aCons, toSV, callV, withVals, valsOf, callT, withTops, rds, seqS, bS, retS, exprS, setF, setC, storeF, storeC, ifS, asgS, bName, bNil, bCons, bTup, parS, skip, asD, listD, tupD, seqD, mkTup, mkLst, notV, notT, yesT, raiseS, iOp, cOp, negD, isiD, tyName, isiB, List.getElem?_cons_zero, List.getElem?_cons_succ, List.getElem?_nil, List.set_cons_zero, List.set_cons_succ, List.length_cons, List.length_nil, List.replicate, List.cons_append, List.nil_append, List.append_nil, if_true, if_false, Option.map_some, Option.map_none, zip3D_T]
    exact e
  simp [g__law_after, bE, fz, var, kst, op2, op1, lift1, lift2, rd, EV.frz, toB, ofB, andV, orV, andT, orT, ifV, chain, aNil, aCons, toSV, callV, withVals, valsOf, callT, withTops, rds, seqS, bS, retS, exprS, setF, setC, storeF, storeC, ifS, asgS, bName, bNil, bCons, bTup, parS, skip, asD, listD, tupD, seqD, mkTup, mkLst, notV, notT, yesT, raiseS, iOp, cOp, negD, isiD, tyName, isiB, List.getElem?_cons_zero, List.getElem?_cons_succ, List.getElem?_nil, List.set_cons_zero, List.set_cons_succ, List.length_cons, List.length_nil, List.replicate, List.cons_append, List.nil_append, List.append_nil, if_true, if_false, Option.map_some, Option.map_none, bk_ix1, e3, Rl, e5]
  have := map3T (List.zip v (List.zip q.1 q.2)) (fun p => p.1 - p.2.1 + p.2.2)
  simp [this, after_eq]
theorem mem_doable {rs : List RuleT} {v : Vec} {x : Int} (h0 : 0 ≤ x) : x ∈ doable rs v ↔ ∃ q, rs[x.toNat]? = some q ∧ within q.1 v = true := by
  unfold doable
  rw [List.mem_map]
  constructor
  · rintro ⟨p, hp, rfl⟩
    obtain ⟨h1, h2⟩ := List.mem_filter.mp hp
    refine ⟨p.1, ?_, h2⟩
    obtain ⟨q, i⟩ := p
    have := List.mem_zipIdx_iff_getElem?.mp h1
    simpa using this
  · rintro ⟨q, hq, hw⟩
    refine ⟨(q, x.toNat), List.mem_filter.mpr ⟨List.mem_zipIdx_iff_getElem?.mpr (by simpa using hq), hw⟩, by simp; omega⟩
theorem doable_lt {rs : List RuleT} {v : Vec} {x : Int} (h : x ∈ doable rs v) : 0 ≤ x ∧ x < rs.length := by
  unfold doable at h
  obtain ⟨p, hp, rfl⟩ := List.mem_map.mp h
  obtain ⟨h1, _⟩ := List.mem_filter.mp hp
  obtain ⟨q, i⟩ := p
  have := List.mem_zipIdx_iff_getElem?.mp h1
  have := (List.getElem?_eq_some_iff.mp this).1
  simp at this ⊢
  omega
theorem eqv_int (a b : Int) : PyData.eqv (.int a) (.int b) = decide (a = b) := by
  simp only [PyData.eqv]
  rw [Bool.beq_eq_decide_eq]
theorem notIn_ints (x : Int) (xs : List Int) : notInD (.int x) (.list (xs.map .int)) = some (.val (.bool (!decide (x ∈ xs)))) := by
  have h1 : shp (.list (xs.map .int)) = true := shp_of (by simp only [PyData.canLay0]; exact lay_ints _) (by simp only [PyData.depth]; rw [depth_ints]; decide)
  simp only [notInD, inD, shp_int, h1, Bool.and_self, if_true]
  rw [anyEq_map (g := PyData.int) eqv_int]
end PF
set_option maxHeartbeats 1000000
namespace PF
open PySem PySem.Spec PyProof.Rows L2 DL
/-! ### the law's rows -/
theorem lled_loop {n : Int} {rs : List RuleT} {k : Nat} {st : List MO} {row : D} (h : Pl st) (hk : k ≤ 1000000) (hl : rs.length ≤ 1000) (ln : Ln k rs) : ∀ (r : List Int) (v : Vec) (sv : SV), v.length = k → (∀ x ∈ r, 0 ≤ x ∧ x < rs.length) →
    ∃ env, (∃ w, led rs v r = some w ∧ forL (bName 3) b__law_led_1 (r.map .int) ⟨[.val (Bk n rs), .val (T v), .val row, sv], st⟩ = some (.next ⟨[.val (Bk n rs), .val (T w), .val row, env], st⟩)) ∨
      ∃ v' : Vec, led rs v r = none ∧ forL (bName 3) b__law_led_1 (r.map .int) ⟨[.val (Bk n rs), .val (T v), .val row, sv], st⟩ = some (.ret (.val .none) ⟨[.val (Bk n rs), .val (T v'), .val row, env], st⟩)
  | [], v, sv, _, _ => ⟨sv, .inl ⟨v, by simp [led], by simp [forL]⟩⟩
  | x :: r, v, sv, hv, hx => by
    obtain ⟨h0, h1⟩ := hx x List.mem_cons_self
    obtain ⟨q, e1, e2, e3⟩ := at_rule h0 h1
    have ec := e_can (n := n) (rs := rs) (v := v) h hl (by omega)
    have em := mem_doable (rs := rs) (v := v) h0
    have hnotin := notIn_ints x (doable rs v)
    have hneg : (x ∈ doable rs v) ↔ within q.1 v = true := by
      rw [em, e1]
      exact ⟨fun ⟨q', z, w⟩ => by cases z; exact w, fun w => ⟨q, rfl, w⟩⟩
    cases hw : within q.1 v with
    | false =>
      have hm : ¬ x ∈ doable rs v := by rw [hneg, hw]; simp
      rw [decide_eq_false hm] at hnotin
      refine ⟨.val (.int x), .inr ⟨v, by simp [led, e1, hw], ?_⟩⟩
      simp [forL, bName, b__law_led_1, bE, fz, var, kst, op2, op1, lift1, lift2, rd, EV.frz, toB, ofB, andV, orV, andT, orT, ifV, chain, aNil, aCons, toSV, callV, withVals, valsOf, callT, withTops, rds, seqS, bS, retS, exprS, setF, setC, storeF, storeC, ifS, asgS, bName, bNil, bCons, bTup, parS, skip, asD, listD, tupD, seqD, mkTup, mkLst, notV, notT, yesT, raiseS, iOp, cOp, negD, isiD, tyName, isiB, List.getElem?_cons_zero, List.getElem?_cons_succ, List.getElem?_nil, List.set_cons_zero, List.set_cons_succ, List.length_cons, List.length_nil, List.replicate, List.cons_append, List.nil_append, List.append_nil, if_true, if_false, Option.map_some, Option.map_none, callF, ec, hnotin]
    | true =>
      have hm : x ∈ doable rs v := by rw [hneg, hw]
      rw [decide_eq_true hm] at hnotin
      have eb := e_after (n := n) (rs := rs) (v := v) (x := x) (q := q) h (by omega) h0 h1 e1
      obtain ⟨env, ih⟩ := lled_loop h hk hl ln r (behind v q 1) (.val (.int x)) (behind_len hv (ln q e2)) (fun y hy => hx y (List.mem_cons_of_mem _ hy))
      have step : forL (bName 3) b__law_led_1 ((x :: r).map .int) ⟨[.val (Bk n rs), .val (T v), .val row, sv], st⟩ = forL (bName 3) b__law_led_1 (r.map .int) ⟨[.val (Bk n rs), .val (T (behind v q 1)), .val row, .val (.int x)], st⟩ := by
        simp [forL, bName, b__law_led_1, bE, fz, var, kst, op2, op1, lift1, lift2, rd, EV.frz, toB, ofB, andV, orV, andT, orT, ifV, chain, aNil, aCons, toSV, callV, withVals, valsOf, callT, withTops, rds, seqS, bS, retS, exprS, setF, setC, storeF, storeC, ifS, asgS, bName, bNil, bCons, bTup, parS, skip, asD, listD, tupD, seqD, mkTup, mkLst, notV, notT, yesT, raiseS, iOp, cOp, negD, isiD, tyName, isiB, List.getElem?_cons_zero, List.getElem?_cons_succ, List.getElem?_nil, List.set_cons_zero, List.set_cons_succ, List.length_cons, List.length_nil, List.replicate, List.cons_append, List.nil_append, List.append_nil, if_true, if_false, Option.map_some, Option.map_none, callF, ec, hnotin, eb]
      have hl : led rs v (x :: r) = led rs (behind v q 1) r := by simp [led, e1, hw]
      rw [step, hl]
      exact ⟨env, ih⟩
def optT : Option Vec → D
  | some w => T w
  | none => .none
theorem e_lled {n : Int} {rs : List RuleT} {k : Nat} {v : Vec} {row : List Int} {st : List MO} (h : Pl st) (hk : k ≤ 1000000) (hl : rs.length ≤ 1000) (ln : Ln k rs) (hv : v.length = k) (hx : ∀ x ∈ row, 0 ≤ x ∧ x < rs.length) :
    f__law_led [.val (Bk n rs), .val (T v), .val (T row)] st = some (.ok (.val (optT (led rs v row))) ⟨[], st⟩) := by
  obtain ⟨env, e⟩ := lled_loop (n := n) (row := T row) h hk hl ln row v .un hv hx
  rcases e with ⟨w, e0, e⟩ | ⟨v', e0, e⟩
  · rw [e0]
    refine run_of (env := [.val (Bk n rs), .val (T w), .val (T row), env]) ?_ h rfl
    simp only [g__law_led, forS, bE, fz, var, kst, op2, op1, lift1, lift2, rd, EV.frz, toB, ofB, andV, orV, andT, orT, ifV, chain, aNil, aCons, toSV, callV, withVals, valsOf, callT, withTops, rds, seqS, bS, retS, exprS, setF, setC, storeF, storeC, ifS, asgS, bName, bNil, bCons, bTup, parS, skip, asD, listD, tupD, seqD, mkTup, mkLst, notV, notT, yesT, raiseS, iOp, cOp, negD, isiD, tyName, isiB, List.getElem?_cons_zero, List.getElem?_cons_succ, List.getElem?_nil, List.set_cons_zero, List.set_cons_succ, List.length_cons, List.length_nil, List.replicate, List.cons_append, List.nil_append, List.append_nil, if_true, if_false, Option.map_some, Option.map_none, T]
    simp only [T] at e
    simp [e, optT, T]
  · rw [e0]
    refine run_of (env := [.val (Bk n rs), .val (T v'), .val (T row), env]) ?_ h rfl
    simp only [g__law_led, forS, bE, fz, var, kst, op2, op1, lift1, lift2, rd, EV.frz, toB, ofB, andV, orV, andT, orT, ifV, chain, aNil, aCons, toSV, callV, withVals, valsOf, callT, withTops, rds, seqS, bS, retS, exprS, setF, setC, storeF, storeC, ifS, asgS, bName, bNil, bCons, bTup, parS, skip, asD, listD, tupD, seqD, mkTup, mkLst, notV, notT, yesT, raiseS, iOp, cOp, negD, isiD, tyName, isiB, List.getElem?_cons_zero, List.getElem?_cons_succ, List.getElem?_nil, List.set_cons_zero, List.set_cons_succ, List.length_cons, List.length_nil, List.replicate, List.cons_append, List.nil_append, List.append_nil, if_true, if_false, Option.map_some, Option.map_none, T]
    simp only [T] at e
    simp [e, optT]
theorem led_append {rs : List RuleT} : ∀ {a : List Int} {v w : Vec} {b : List Int}, led rs v a = some w → led rs v (a ++ b) = led rs w b
  | [], v, w, b, h => by cases h; rfl
  | x :: a, v, w, b, h => by
    simp only [led, List.cons_append] at h ⊢
    cases e : rs[x.toNat]? with
    | none => rw [e] at h; cases h
    | some q =>
      rw [e] at h
      simp only at h ⊢
      cases hw : within q.1 v with
      | false => rw [hw] at h; cases h
      | true =>
        rw [hw, if_pos rfl] at h
        simp only [if_true]
        exact led_append h
theorem neD_ints (xs : List Int) : neD (.list (xs.map .int)) (.list []) = some (.val (.bool (!decide (xs = [])))) := by
  have h := eqD_nil xs id
  have e : (xs.map fun a => PyData.int (id a)) = xs.map .int := rfl
  rw [e] at h
  simp only [neD, h]
theorem e_row {n : Nat} {kk : Int} {rs : List RuleT} {k : Nat} {v : Vec} {m : Int} {st : List MO} (h : Pl st) (s : Src n st) (hk : k ≤ 1000000) (hl : rs.length ≤ 1000) (ln : Ln k rs) (hv : v.length = k) (m0 : 0 ≤ m) (m1 : m ≤ 90) :
    ∃ (row : List Int) (w : Vec) (st' : List MO), f__law_row [.cell n, .val (Bk kk rs), .val (T v), .val (.int m)] st = some (.ok (.val (T row)) ⟨[], st'⟩) ∧ led rs v row = some w ∧ (∀ x ∈ row, 0 ≤ x ∧ x < rs.length) ∧ (row.length : Int) ≤ m ∧ Dr n st st' := by
  obtain ⟨s', es, hI⟩ := forL_next (b := bName 5) (body := b__law_row_1) (fun r s => ∃ (row : List Int) (w : Vec) (a5 a6 a7 : SV), s.env = [.cell n, .val (Bk kk rs), .val (T w), .val (.int m), .val (T row), a5, a6, a7] ∧ Dr n st s.st ∧ led rs v row = some w ∧ w.length = k ∧ (∀ x ∈ row, 0 ≤ x ∧ x < rs.length) ∧ row.length + r.length ≤ m.toNat)
    ((List.range m.toNat).map fun i => .int ((i : Nat) : Int)) ⟨[.cell n, .val (Bk kk rs), .val (T v), .val (.int m), .val (T []), .un, .un, .un], st⟩ ⟨[], v, .un, .un, .un, rfl, Dr.refl h s, rfl, hv, by simp, by simp⟩ (by
      rintro d r ⟨env, st3⟩ ⟨row, w, a5, a6, a7, he, dr, hled, hw, hx, hlen⟩
      have he : env = _ := he
      subst he
      have ec := e_can (n := kk) (rs := rs) (v := w) dr.pl hl (by omega)
      have en := neD_ints (doable rs w)
      cases hd : doable rs w with
      | nil =>
        rw [hd] at ec en
        refine ⟨_, ⟨[.cell n, .val (Bk kk rs), .val (T w), .val (.int m), .val (T row), .val d, .val (.list []), a7], st3⟩, by simp [bName]; rfl, ?_, row, w, .val d, .val (.list []), a7, rfl, dr, hled, hw, hx, by simp at hlen ⊢; omega⟩
        simp at en ec
        simp [b__law_row_1, bE, fz, var, kst, op2, op1, lift1, lift2, rd, EV.frz, toB, ofB, andV, orV, andT, orT, ifV, chain, aNil, aCons, toSV, callV, withVals, valsOf, callT, withTops, rds, seqS, bS, retS, exprS, setF, setC, storeF, storeC, ifS, asgS, bName, bNil, bCons, bTup, parS, skip, asD, listD, tupD, seqD, mkTup, mkLst, notV, notT, yesT, raiseS, iOp, cOp, negD, isiD, tyName, isiB, List.getElem?_cons_zero, List.getElem?_cons_succ, List.getElem?_nil, List.set_cons_zero, List.set_cons_succ, List.length_cons, List.length_nil, List.replicate, List.cons_append, List.nil_append, List.append_nil, if_true, if_false, Option.map_some, Option.map_none, callF, ec, en]
      | cons y ys =>
        rw [hd] at ec en
        obtain ⟨c, st4, e4, hc, dr4⟩ := e_choice (c := .list ((y :: ys).map .int)) dr.pl dr.src (.inl rfl) (by simp) (by
          have : (doable rs w).length ≤ rs.length := by
            unfold doable
            rw [List.length_map]
            exact Nat.le_trans (List.length_filter_le _ _) (by simp)
          rw [hd] at this
          simp at this ⊢
          omega)
        obtain ⟨x, hx2, rfl⟩ := List.mem_map.mp hc
        have hxd : x ∈ doable rs w := by rw [hd]; exact hx2
        obtain ⟨x0, x1⟩ := doable_lt hxd
        obtain ⟨q, hq, hwi⟩ := (mem_doable x0).mp hxd
        have ea := e_after (n := kk) (rs := rs) (v := w) (x := x) (q := q) dr4.pl (by omega) x0 x1 hq
        have hadd := addT row [x] (by simp at hlen ⊢; omega)
        have hadd : addD (T row) (.tuple [.int x]) = some (.val (T (row ++ [x]))) := hadd
        refine ⟨_, ⟨[.cell n, .val (Bk kk rs), .val (T (behind w q 1)), .val (.int m), .val (T (row ++ [x])), .val d, .val (.list ((y :: ys).map .int)), .val (.int x)], st4⟩, by simp [bName]; rfl, ?_, row ++ [x], behind w q 1, .val d, _, _, rfl, dr.trans dr4, ?_, behind_len hw (ln q (List.mem_of_getElem? hq)), fun z hz => ?_, by simp at hlen ⊢; omega⟩
        · simp at en ec e4
          simp [b__law_row_1, bE, fz, var, kst, op2, op1, lift1, lift2, rd, EV.frz, toB, ofB, andV, orV, andT, orT, ifV, chain, aNil, aCons, toSV, callV, withVals, valsOf, callT, withTops, rds, seqS, bS, retS, exprS, setF, setC, storeF, storeC, ifS, asgS, bName, bNil, bCons, bTup, parS, skip, asD, listD, tupD, seqD, mkTup, mkLst, notV, notT, yesT, raiseS, iOp, cOp, negD, isiD, tyName, isiB, List.getElem?_cons_zero, List.getElem?_cons_succ, List.getElem?_nil, List.set_cons_zero, List.set_cons_succ, List.length_cons, List.length_nil, List.replicate, List.cons_append, List.nil_append, List.append_nil, if_true, if_false, Option.map_some, Option.map_none, callF, ec, en, e4, ea, hadd]
        · rw [led_append hled]
          simp [led, hq, hwi]
        · rcases List.mem_append.mp hz with z1 | z1
          · exact hx z z1
          · have : z = x := by simpa using z1
            omega)
  obtain ⟨row, w, a5, a6, a7, he, dr, hled, hw, hx, hlen⟩ := hI
  obtain ⟨env, st2⟩ := s'
  have he : env = _ := he
  subst he
  refine ⟨row, w, st2, run_of (env := [.cell n, .val (Bk kk rs), .val (T w), .val (.int m), .val (T row), a5, a6, a7]) ?_ dr.pl dr.len, hled, hx, by simp at hlen; omega, dr⟩
  have hr := range1_eq m0 (show m ≤ 100000 by omega)
  have t0 : (PyData.tuple []) = T [] := rfl
  simp only [g__law_row, forS, bE, fz, var, kst, op2, op1, lift1, lift2, rd, EV.frz, toB, ofB, andV, orV, andT, orT, ifV, chain, aNil, aCons, toSV, callV, withVals, valsOf, callT, withTops, rds, seqS, bS, retS, exprS, setF, setC, storeF, storeC, ifS, asgS, bName, bNil, bCons, bTup, parS, skip, asD, listD, tupD, seqD, mkTup, mkLst, notV, notT, yesT, raiseS, iOp, cOp, negD, isiD, tyName, isiB, List.getElem?_cons_zero, List.getElem?_cons_succ, List.getElem?_nil, List.set_cons_zero, List.set_cons_succ, List.length_cons, List.length_nil, List.replicate, List.cons_append, List.nil_append, List.append_nil, if_true, if_false, Option.map_some, Option.map_none, callF, hr]
  rw [t0]
  simp [es, bE, fz, var, kst, op2, op1, lift1, lift2, rd, EV.frz, toB, ofB, andV, orV, andT, orT, ifV, chain, aNil, aCons, toSV, callV, withVals, valsOf, callT, withTops, rds, seqS, bS, retS, exprS, setF, setC, storeF, storeC, ifS, asgS, bName, bNil, bCons, bTup, parS, skip, asD, listD, tupD, seqD, mkTup, mkLst, notV, notT, yesT, raiseS, iOp, cOp, negD, isiD, tyName, isiB, List.getElem?_cons_zero, List.getElem?_cons_succ, List.getElem?_nil, List.set_cons_zero, List.set_cons_succ, List.length_cons, List.length_nil, List.replicate, List.cons_append, List.nil_append, List.append_nil, if_true, if_false, Option.map_some, Option.map_none, hr]
end PF
set_option maxHeartbeats 1000000
namespace P1
open PySem PySem.Spec PyProof.Rows L2 DL PF
/-! ### values at any depth -/
def okw : Nat → Nat → D → Bool
  | _, _, .none => true
  | _, _, .bool _ => true
  | _, _, .int _ => true
  | _, _, .str s => PyData.strOk s
  | n + 1, w, .tuple ds => decide (ds.length ≤ w) && ds.all (okw n w)
  | n + 1, w, .list ds => decide (ds.length ≤ w) && ds.all (okw n w)
  | _, _, _ => false
theorem okw_tup {n w : Nat} {ds : List D} : okw (n + 1) w (.tuple ds) = (decide (ds.length ≤ w) && ds.all (okw n w)) := rfl
theorem okw_lst {n w : Nat} {ds : List D} : okw (n + 1) w (.list ds) = (decide (ds.length ≤ w) && ds.all (okw n w)) := rfl
theorem okw_int {n w : Nat} {i : Int} : okw n w (.int i) = true := by cases n <;> rfl
theorem okw_mono : ∀ (n w n' w' : Nat) (d : D), okw n w d = true → n ≤ n' → w ≤ w' → okw n' w' d = true
  | n, w, n', w', .none, _, _, _ => by cases n' <;> rfl
  | n, w, n', w', .bool _, _, _, _ => by cases n' <;> rfl
  | n, w, n', w', .int _, _, _, _ => by cases n' <;> rfl
  | n, w, n', w', .str s, h, _, _ => by
    have h : PyData.strOk s = true := by cases n <;> exact h
    cases n' <;> exact h
  | 0, w, n', w', .tuple _, h, _, _ => by cases h
  | 0, w, n', w', .list _, h, _, _ => by cases h
  | n, w, n', w', .dict _, h, _, _ => by cases n <;> cases h
  | n + 1, w, n', w', .tuple ds, h, h1, h2 => by
    obtain ⟨m, rfl⟩ : ∃ m, n' = m + 1 := ⟨n' - 1, by omega⟩
    rw [okw_tup, Bool.and_eq_true, decide_eq_true_eq, List.all_eq_true] at h
    rw [okw_tup, Bool.and_eq_true, decide_eq_true_eq, List.all_eq_true]
    exact ⟨by omega, fun x hx => okw_mono n w m w' x (h.2 x hx) (by omega) h2⟩
  | n + 1, w, n', w', .list ds, h, h1, h2 => by
    obtain ⟨m, rfl⟩ : ∃ m, n' = m + 1 := ⟨n' - 1, by omega⟩
    rw [okw_lst, Bool.and_eq_true, decide_eq_true_eq, List.all_eq_true] at h
    rw [okw_lst, Bool.and_eq_true, decide_eq_true_eq, List.all_eq_true]
    exact ⟨by omega, fun x hx => okw_mono n w m w' x (h.2 x hx) (by omega) h2⟩
theorem okw_lay : ∀ (n w : Nat) (d : D), okw n w d = true → d.canLay0 = true ∧ d.depth ≤ n
  | n, w, .none, _ => by simp [PyData.canLay0, PyData.depth]
  | n, w, .bool _, _ => by simp [PyData.canLay0, PyData.depth]
  | n, w, .int _, _ => by simp [PyData.canLay0, PyData.depth]
  | n, w, .str s, h => by
    have h : PyData.strOk s = true := by cases n <;> exact h
    simp [PyData.canLay0, PyData.depth, h]
  | 0, w, .tuple _, h => by cases h
  | 0, w, .list _, h => by cases h
  | n, w, .dict _, h => by cases n <;> cases h
  | n + 1, w, .tuple ds, h => by
    rw [okw_tup, Bool.and_eq_true, List.all_eq_true] at h
    have key : ∀ l : List D, (∀ d ∈ l, okw n w d = true) → PyData.canLayAll0 l = true ∧ PyData.depthAll l ≤ n := by
      intro l
      induction l with
      | nil => intro _; simp [PyData.canLayAll0, PyData.depthAll]
      | cons d l ih =>
        intro hl
        obtain ⟨a1, a2⟩ := okw_lay n w d (hl d List.mem_cons_self)
        obtain ⟨b1, b2⟩ := ih fun x hx => hl x (List.mem_cons_of_mem _ hx)
        simp only [PyData.canLayAll0, PyData.depthAll, a1, b1, Bool.and_self, true_and]
        omega
    obtain ⟨k1, k2⟩ := key ds h.2
    simp only [PyData.canLay0, PyData.depth, k1, true_and]
    omega
  | n + 1, w, .list ds, h => by
    rw [okw_lst, Bool.and_eq_true, List.all_eq_true] at h
    have key : ∀ l : List D, (∀ d ∈ l, okw n w d = true) → PyData.canLayAll0 l = true ∧ PyData.depthAll l ≤ n := by
      intro l
      induction l with
      | nil => intro _; simp [PyData.canLayAll0, PyData.depthAll]
      | cons d l ih =>
        intro hl
        obtain ⟨a1, a2⟩ := okw_lay n w d (hl d List.mem_cons_self)
        obtain ⟨b1, b2⟩ := ih fun x hx => hl x (List.mem_cons_of_mem _ hx)
        simp only [PyData.canLayAll0, PyData.depthAll, a1, b1, Bool.and_self, true_and]
        omega
    obtain ⟨k1, k2⟩ := key ds h.2
    simp only [PyData.canLay0, PyData.depth, k1, true_and]
    omega
theorem okw_shp {n w : Nat} {d : D} (h : okw n w d = true) (hn : n ≤ 64) : shp d = true := by
  obtain ⟨a, b⟩ := okw_lay n w d h
  exact shp_of a (by omega)
theorem okw_mem {n w : Nat} {ds : List D} (h : okw (n + 1) w (.tuple ds) = true) : ds.length ≤ w ∧ ∀ d ∈ ds, okw n w d = true := by
  rw [okw_tup, Bool.and_eq_true, decide_eq_true_eq, List.all_eq_true] at h
  exact h
theorem okw_T {n w : Nat} {v : Vec} (h : v.length ≤ w) : okw (n + 1) w (T v) = true := by
  unfold T
  rw [okw_tup, Bool.and_eq_true, decide_eq_true_eq, List.all_eq_true]
  refine ⟨by simpa using h, fun x hx => ?_⟩
  obtain ⟨i, _, rfl⟩ := List.mem_map.mp hx
  exact okw_int
theorem okw_Bk {n w : Nat} {k : Int} {rs : List RuleT} (h : rs.length ≤ w) (h2 : 2 ≤ w) (hr : ∀ r ∈ rs, r.1.length ≤ w ∧ r.2.length ≤ w) : okw (n + 4) w (Bk k rs) = true := by
  unfold Bk
  rw [okw_tup, Bool.and_eq_true, decide_eq_true_eq, List.all_eq_true]
  refine ⟨h2, fun x hx => ?_⟩
  rcases List.mem_cons.mp hx with rfl | hx
  · exact okw_int
  · rw [List.mem_singleton.mp hx]
    unfold Rs
    rw [okw_tup, Bool.and_eq_true, decide_eq_true_eq, List.all_eq_true]
    refine ⟨by simpa using h, fun y hy => ?_⟩
    obtain ⟨r, m, rfl⟩ := List.mem_map.mp hy
    unfold Rl
    rw [okw_tup, Bool.and_eq_true, decide_eq_true_eq, List.all_eq_true]
    refine ⟨h2, fun z hz => ?_⟩
    simp only [List.mem_cons, List.not_mem_nil, or_false] at hz
    rcases hz with rfl | rfl
    · exact okw_T (hr r m).1
    · exact okw_T (hr r m).2
/-! ### the law's checks -/
theorem eqL_none {l : List D} (h : shp (.list l) = true) : eqD (.list l) (.list []) = some (.val (.bool (decide (l = [])))) := by
  have s : shp (.list []) = true := by decide +kernel
  have e : PyData.eqv (.list l) (.list []) = decide (l = []) := by
    cases l <;> simp [PyData.eqv, PyData.eqvAll]
  simp only [eqD, h, s, Bool.and_self, if_true, e]
theorem e_lfrom {d : D} {lo hi : Int} {st : List MO} (h : Pl st) (hd : d.canLay0 = true) : f__law_from [.val d, .val (.int lo), .val (.int hi)] st = some (.ok (.val (.bool (isFrom d lo hi))) ⟨[], st⟩) := by
  refine run_of (env := [.val d, .val (.int lo), .val (.int hi)]) ?_ h rfl
  cases d with
  | int v =>
    by_cases h1 : lo ≤ v <;> simp [g__law_from, isFrom, bE, fz, var, kst, op2, op1, lift1, lift2, rd, EV.frz, toB, ofB, andV, orV, andT, orT, ifV, chain, aNil, aCons, toSV, callV, withVals, valsOf, callT, withTops, rds, seqS, bS, retS, exprS, setF, setC, storeF, storeC, ifS, asgS, bName, bNil, bCons, bTup, parS, skip, asD, listD, tupD, seqD, mkTup, mkLst, notV, notT, yesT, raiseS, iOp, cOp, negD, isiD, tyName, isiB, List.getElem?_cons_zero, List.getElem?_cons_succ, List.getElem?_nil, List.set_cons_zero, List.set_cons_succ, List.length_cons, List.length_nil, List.replicate, List.cons_append, List.nil_append, List.append_nil, if_true, if_false, Option.map_some, Option.map_none, h1]
  | dict _ => exact absurd rfl (ty_ne hd)
  | _ => simp [g__law_from, isFrom, bE, fz, var, kst, op2, op1, lift1, lift2, rd, EV.frz, toB, ofB, andV, orV, andT, orT, ifV, chain, aNil, aCons, toSV, callV, withVals, valsOf, callT, withTops, rds, seqS, bS, retS, exprS, setF, setC, storeF, storeC, ifS, asgS, bName, bNil, bCons, bTup, parS, skip, asD, listD, tupD, seqD, mkTup, mkLst, notV, notT, yesT, raiseS, iOp, cOp, negD, isiD, tyName, isiB, List.getElem?_cons_zero, List.getElem?_cons_succ, List.getElem?_nil, List.set_cons_zero, List.set_cons_succ, List.length_cons, List.length_nil, List.replicate, List.cons_append, List.nil_append, List.append_nil, if_true, if_false, Option.map_some, Option.map_none]
theorem neD_int {i j : Int} : neD (.int i) (.int j) = some (.val (.bool (!decide (i = j)))) := by
  simp only [neD, eqD_int]
theorem e_lcounts {n w : Nat} {d : D} {k most : Int} {st : List MO} (h : Pl st) (hd : okw n w d = true) (hn : n ≤ 60) (hw : w ≤ 1000) : f__law_is_counts [.val (.int k), .val (.int most), .val d] st = some (.ok (.val (.bool (isCounts d k most))) ⟨[], st⟩) := by
  refine run_of (env := [.val (.int k), .val (.int most), .val d, .un]) ?_ h rfl
  cases d with
  | tuple ds =>
    obtain ⟨m, rfl⟩ : ∃ m, n = m + 1 := by
      cases n with
      | zero => cases hd
      | succ m => exact ⟨m, rfl⟩
    obtain ⟨q1, q2⟩ := okw_mem hd
    by_cases h1 : (ds.length : Int) = k
    · have e := lcTf (vs := [3]) (b := bName 3) (t := notT (toB (callF 3 f__law_from (aCons (var 3) (aCons (kst (.int 0)) (aCons (var 1) aNil)))))) (f := var 3) (s := ⟨[.val (.int k), .val (.int most), .val (.tuple ds), .un], st⟩) (fun x => !isFrom x 0 most) id id ds (by omega)
        (fun d hm => ⟨[.val (.int k), .val (.int most), .val (.tuple ds), .val d], [.val (.int k), .val (.int most), .val (.tuple ds), .val d], [.val (.int k), .val (.int most), .val (.tuple ds), .val d], rfl, by
          have e1 := e_lfrom (lo := 0) (hi := most) h (okw_lay _ _ _ (q2 d hm)).1
          simp only [bE, fz, var, kst, op2, op1, lift1, lift2, rd, EV.frz, toB, ofB, andV, orV, andT, orT, ifV, chain, aNil, aCons, toSV, callV, withVals, valsOf, callT, withTops, rds, seqS, bS, retS, exprS, setF, setC, storeF, storeC, ifS, asgS, bName, bNil, bCons, bTup, parS, skip, asD, listD, tupD, seqD, mkTup, mkLst, notV, notT, yesT, raiseS, iOp, cOp, negD, isiD, tyName, isiB, List.getElem?_cons_zero, List.getElem?_cons_succ, List.getElem?_nil, List.set_cons_zero, List.set_cons_succ, List.length_cons, List.length_nil, List.replicate, List.cons_append, List.nil_append, List.append_nil, if_true, if_false, Option.map_some, Option.map_none, callF, e1], by simp only [bE, fz, var, kst, op2, op1, lift1, lift2, rd, EV.frz, toB, ofB, andV, orV, andT, orT, ifV, chain, aNil, aCons, toSV, callV, withVals, valsOf, callT, withTops, rds, seqS, bS, retS, exprS, setF, setC, storeF, storeC, ifS, asgS, bName, bNil, bCons, bTup, parS, skip, asD, listD, tupD, seqD, mkTup, mkLst, notV, notT, yesT, raiseS, iOp, cOp, negD, isiD, tyName, isiB, List.getElem?_cons_zero, List.getElem?_cons_succ, List.getElem?_nil, List.set_cons_zero, List.set_cons_succ, List.length_cons, List.length_nil, List.replicate, List.cons_append, List.nil_append, List.append_nil, if_true, if_false, Option.map_some, Option.map_none, id]⟩)
      have sh : shp (.list (ds.filter fun x => !isFrom x 0 most)) = true := by
        refine okw_shp (n := m + 1) (w := w) ?_ (by omega)
        rw [okw_lst, Bool.and_eq_true, decide_eq_true_eq, List.all_eq_true]
        exact ⟨Nat.le_trans (List.length_filter_le _ _) q1, fun x hx => q2 x (List.mem_filter.mp hx).1⟩
      have e2 : decide ((ds.filter fun x => !isFrom x 0 most) = []) = ds.all fun x => isFrom x 0 most := by
        rw [Bool.eq_iff_iff, decide_eq_true_eq, List.filter_eq_nil_iff, List.all_eq_true]
        constructor
        · intro z x hx
          have := z x hx
          simpa using this
        · intro z x hx
          simp [z x hx]
      have e3 := eqL_none sh
      rw [e2] at e3
      simp only [List.map_id] at e
      have c1 : c__law_is_counts_1 ⟨[.val (.int k), .val (.int most), .val (.tuple ds), .un], st⟩ = some (.ok (.fresh (ds.filter fun x => !isFrom x 0 most)) ⟨[.val (.int k), .val (.int most), .val (.tuple ds), .un], st⟩) := by
        simp only [c__law_is_counts_1, lcE, bE, fz, var, EV.frz, asD, tupD, List.getElem?_cons_zero, List.getElem?_cons_succ]
        exact e
      simp [g__law_is_counts, isCounts, bE, fz, var, kst, op2, op1, lift1, lift2, rd, EV.frz, toB, ofB, andV, orV, andT, orT, ifV, chain, aNil, aCons, toSV, callV, withVals, valsOf, callT, withTops, rds, seqS, bS, retS, exprS, setF, setC, storeF, storeC, ifS, asgS, bName, bNil, bCons, bTup, parS, skip, asD, listD, tupD, seqD, mkTup, mkLst, notV, notT, yesT, raiseS, iOp, cOp, negD, isiD, tyName, isiB, List.getElem?_cons_zero, List.getElem?_cons_succ, List.getElem?_nil, List.set_cons_zero, List.set_cons_succ, List.length_cons, List.length_nil, List.replicate, List.cons_append, List.nil_append, List.append_nil, if_true, if_false, Option.map_some, Option.map_none, lenD, h1, c1, e3, neD_int]
    · simp [g__law_is_counts, isCounts, bE, fz, var, kst, op2, op1, lift1, lift2, rd, EV.frz, toB, ofB, andV, orV, andT, orT, ifV, chain, aNil, aCons, toSV, callV, withVals, valsOf, callT, withTops, rds, seqS, bS, retS, exprS, setF, setC, storeF, storeC, ifS, asgS, bName, bNil, bCons, bTup, parS, skip, asD, listD, tupD, seqD, mkTup, mkLst, notV, notT, yesT, raiseS, iOp, cOp, negD, isiD, tyName, isiB, List.getElem?_cons_zero, List.getElem?_cons_succ, List.getElem?_nil, List.set_cons_zero, List.set_cons_succ, List.length_cons, List.length_nil, List.replicate, List.cons_append, List.nil_append, List.append_nil, if_true, if_false, Option.map_some, Option.map_none, lenD, h1, neD_int]
  | dict _ => cases n <;> cases hd
  | _ => simp [g__law_is_counts, isCounts, bE, fz, var, kst, op2, op1, lift1, lift2, rd, EV.frz, toB, ofB, andV, orV, andT, orT, ifV, chain, aNil, aCons, toSV, callV, withVals, valsOf, callT, withTops, rds, seqS, bS, retS, exprS, setF, setC, storeF, storeC, ifS, asgS, bName, bNil, bCons, bTup, parS, skip, asD, listD, tupD, seqD, mkTup, mkLst, notV, notT, yesT, raiseS, iOp, cOp, negD, isiD, tyName, isiB, List.getElem?_cons_zero, List.getElem?_cons_succ, List.getElem?_nil, List.set_cons_zero, List.set_cons_succ, List.length_cons, List.length_nil, List.replicate, List.cons_append, List.nil_append, List.append_nil, if_true, if_false, Option.map_some, Option.map_none]
end P1
set_option maxHeartbeats 1000000
namespace P1
open PySem PySem.Spec PyProof.Rows L2 DL PF
/-! ### the law's book -/
theorem okw_pos {n w : Nat} {ds : List D} (h : okw n w (.tuple ds) = true) : ∃ m, n = m + 1 := by
  cases n with
  | zero => cases h
  | succ m => exact ⟨m, rfl⟩
theorem rule_case (one : D) : (∃ a b, one = .tuple [a, b]) ∨ ((∀ k, hasRule k one = false) ∧ ∀ a b, one ≠ .tuple [a, b]) := by
  cases one with
  | tuple ds =>
    match ds with
    | [a, b] => exact .inl ⟨a, b, rfl⟩
    | [] => exact .inr ⟨fun _ => rfl, fun a b h => by cases h⟩
    | [a] => exact .inr ⟨fun _ => rfl, fun a b h => by cases h⟩
    | a :: b :: c :: r => exact .inr ⟨fun _ => rfl, fun a b h => by cases h⟩
  | _ => exact .inr ⟨fun _ => rfl, fun a b h => by cases h⟩
theorem lrule {n w : Nat} {k : Int} {R one : D} {st : List MO} (h : Pl st) (hd : okw n w one = true) (hn : n ≤ 60) (hw : w ≤ 1000) :
    b__law_is_book_1 ⟨[.val (.tuple [.int k, R]), .val one], st⟩ = if hasRule k one then some (.next ⟨[.val (.tuple [.int k, R]), .val one], st⟩) else some (.ret (.val (.bool false)) ⟨[.val (.tuple [.int k, R]), .val one], st⟩) := by
  have k0 : ixD (.tuple [.int k, R]) (.int 0) = some (.val (.int k)) := rfl
  rcases rule_case one with ⟨a, b, rfl⟩ | ⟨hf, hne⟩
  · obtain ⟨m, rfl⟩ := okw_pos hd
    obtain ⟨_, q⟩ := okw_mem hd
    have ca := e_lcounts (k := k) (most := 6) h (q a (by simp)) (by omega) hw
    have cb := e_lcounts (k := k) (most := 6) h (q b (by simp)) (by omega) hw
    have i0 : ixD (.tuple [a, b]) (.int 0) = some (.val a) := rfl
    have i1 : ixD (.tuple [a, b]) (.int 1) = some (.val b) := rfl
    have l2 : lenD [.tuple [a, b]] = some (.val (.int 2)) := rfl
    have n2 : neD (.int 2) (.int 2) = some (.val (.bool false)) := by rw [neD_int] <;> rfl
    cases h1 : isCounts a k 6 with
    | false =>
      rw [h1] at ca
      have hr : hasRule k (.tuple [a, b]) = false := by simp only [hasRule, h1, Bool.false_and]
      rw [hr]
      simp [b__law_is_book_1, bE, fz, var, kst, op2, op1, lift1, lift2, rd, EV.frz, toB, ofB, andV, orV, andT, orT, ifV, chain, aNil, aCons, toSV, callV, withVals, valsOf, callT, withTops, rds, seqS, bS, retS, exprS, setF, setC, storeF, storeC, ifS, asgS, bName, bNil, bCons, bTup, parS, skip, asD, listD, tupD, seqD, mkTup, mkLst, notV, notT, yesT, raiseS, iOp, cOp, negD, isiD, tyName, isiB, List.getElem?_cons_zero, List.getElem?_cons_succ, List.getElem?_nil, List.set_cons_zero, List.set_cons_succ, List.length_cons, List.length_nil, List.replicate, List.cons_append, List.nil_append, List.append_nil, if_true, if_false, Option.map_some, Option.map_none, callF, k0, i0, i1, l2, n2, ca]
    | true =>
      rw [h1] at ca
      cases h2 : isCounts b k 6 with
      | false =>
        rw [h2] at cb
        have hr : hasRule k (.tuple [a, b]) = false := by simp only [hasRule, h2, Bool.false_and, Bool.and_false]
        rw [hr]
        simp [b__law_is_book_1, bE, fz, var, kst, op2, op1, lift1, lift2, rd, EV.frz, toB, ofB, andV, orV, andT, orT, ifV, chain, aNil, aCons, toSV, callV, withVals, valsOf, callT, withTops, rds, seqS, bS, retS, exprS, setF, setC, storeF, storeC, ifS, asgS, bName, bNil, bCons, bTup, parS, skip, asD, listD, tupD, seqD, mkTup, mkLst, notV, notT, yesT, raiseS, iOp, cOp, negD, isiD, tyName, isiB, List.getElem?_cons_zero, List.getElem?_cons_succ, List.getElem?_nil, List.set_cons_zero, List.set_cons_succ, List.length_cons, List.length_nil, List.replicate, List.cons_append, List.nil_append, List.append_nil, if_true, if_false, Option.map_some, Option.map_none, callF, k0, i0, i1, l2, n2, ca, cb]
      | true =>
        rw [h2] at cb
        obtain ⟨xs, rfl, hx, hx2⟩ := counts_ints h1
        obtain ⟨ys, rfl, hy, hy2⟩ := counts_ints h2
        have se : sumD [T xs] = some (.val (.int xs.sum)) := sumT xs
        have ee := eqD_T xs ys
        have nn := sum_nn fun x hx' => (hx2 x hx').1
        have hr : hasRule k (.tuple [T xs, T ys]) = (decide (0 < xs.sum) && !decide (xs = ys)) := by
          have e1 : isCounts (T xs) k 6 = true := h1
          have e2 : isCounts (T ys) k 6 = true := h2
          have e3 : intsD (T xs) = xs := by simp [intsD, T, intsOf_map]
          simp only [hasRule, e1, e2, e3, Bool.true_and, eqv_T]
        change b__law_is_book_1 ⟨[.val (.tuple [.int k, R]), .val (.tuple [T xs, T ys])], st⟩ = (if hasRule k (.tuple [T xs, T ys]) = true then some (.next ⟨[.val (.tuple [.int k, R]), .val (.tuple [T xs, T ys])], st⟩) else some (.ret (.val (.bool false)) ⟨[.val (.tuple [.int k, R]), .val (.tuple [T xs, T ys])], st⟩))
        rw [hr]
        change ixD (.tuple [T xs, T ys]) (.int 0) = some (.val (T xs)) at i0
        change ixD (.tuple [T xs, T ys]) (.int 1) = some (.val (T ys)) at i1
        change lenD [.tuple [T xs, T ys]] = some (.val (.int 2)) at l2
        change f__law_is_counts [.val (.int k), .val (.int 6), .val (T xs)] st = _ at ca
        change f__law_is_counts [.val (.int k), .val (.int 6), .val (T ys)] st = _ at cb
        generalize T xs = tx at *
        generalize T ys = ty at *
        by_cases z1 : xs.sum = 0
        · have z2 : ¬ 0 < xs.sum := by omega
          simp [b__law_is_book_1, bE, fz, var, kst, op2, op1, lift1, lift2, rd, EV.frz, toB, ofB, andV, orV, andT, orT, ifV, chain, aNil, aCons, toSV, callV, withVals, valsOf, callT, withTops, rds, seqS, bS, retS, exprS, setF, setC, storeF, storeC, ifS, asgS, bName, bNil, bCons, bTup, parS, skip, asD, listD, tupD, seqD, mkTup, mkLst, notV, notT, yesT, raiseS, iOp, cOp, negD, isiD, tyName, isiB, List.getElem?_cons_zero, List.getElem?_cons_succ, List.getElem?_nil, List.set_cons_zero, List.set_cons_succ, List.length_cons, List.length_nil, List.replicate, List.cons_append, List.nil_append, List.append_nil, if_true, if_false, Option.map_some, Option.map_none, callF, k0, i0, i1, l2, n2, ca, cb, se, eqD_int, z1]
        · have z2 : 0 < xs.sum := by omega
          by_cases z3 : xs = ys
          · have e2 : eqD tx ty = some (.val (.bool true)) := by rw [ee, decide_eq_true z3]
            have e3 : decide (xs = ys) = true := decide_eq_true z3
            rw [e3]
            simp [b__law_is_book_1, bE, fz, var, kst, op2, op1, lift1, lift2, rd, EV.frz, toB, ofB, andV, orV, andT, orT, ifV, chain, aNil, aCons, toSV, callV, withVals, valsOf, callT, withTops, rds, seqS, bS, retS, exprS, setF, setC, storeF, storeC, ifS, asgS, bName, bNil, bCons, bTup, parS, skip, asD, listD, tupD, seqD, mkTup, mkLst, notV, notT, yesT, raiseS, iOp, cOp, negD, isiD, tyName, isiB, List.getElem?_cons_zero, List.getElem?_cons_succ, List.getElem?_nil, List.set_cons_zero, List.set_cons_succ, List.length_cons, List.length_nil, List.replicate, List.cons_append, List.nil_append, List.append_nil, if_true, if_false, Option.map_some, Option.map_none, callF, k0, i0, i1, l2, n2, ca, cb, se, eqD_int, e2, z1]
          · simp [b__law_is_book_1, bE, fz, var, kst, op2, op1, lift1, lift2, rd, EV.frz, toB, ofB, andV, orV, andT, orT, ifV, chain, aNil, aCons, toSV, callV, withVals, valsOf, callT, withTops, rds, seqS, bS, retS, exprS, setF, setC, storeF, storeC, ifS, asgS, bName, bNil, bCons, bTup, parS, skip, asD, listD, tupD, seqD, mkTup, mkLst, notV, notT, yesT, raiseS, iOp, cOp, negD, isiD, tyName, isiB, List.getElem?_cons_zero, List.getElem?_cons_succ, List.getElem?_nil, List.set_cons_zero, List.set_cons_succ, List.length_cons, List.length_nil, List.replicate, List.cons_append, List.nil_append, List.append_nil, if_true, if_false, Option.map_some, Option.map_none, callF, k0, i0, i1, l2, n2, ca, cb, se, eqD_int, ee, z1, z2, z3]
  · rw [hf k]
    cases one with
    | tuple ds =>
      have hl : ¬ ((ds.length : Int) = 2) := by
        intro hl
        match ds, hl with
        | [a, b], _ => exact hne a b rfl
        | [], hl => simp at hl
        | [_], hl => simp at hl
        | _ :: _ :: _ :: _, hl => simp at hl; omega
      simp [b__law_is_book_1, bE, fz, var, kst, op2, op1, lift1, lift2, rd, EV.frz, toB, ofB, andV, orV, andT, orT, ifV, chain, aNil, aCons, toSV, callV, withVals, valsOf, callT, withTops, rds, seqS, bS, retS, exprS, setF, setC, storeF, storeC, ifS, asgS, bName, bNil, bCons, bTup, parS, skip, asD, listD, tupD, seqD, mkTup, mkLst, notV, notT, yesT, raiseS, iOp, cOp, negD, isiD, tyName, isiB, List.getElem?_cons_zero, List.getElem?_cons_succ, List.getElem?_nil, List.set_cons_zero, List.set_cons_succ, List.length_cons, List.length_nil, List.replicate, List.cons_append, List.nil_append, List.append_nil, if_true, if_false, Option.map_some, Option.map_none, lenD, neD_int, hl]
    | dict _ => cases n <;> cases hd
    | _ => simp [b__law_is_book_1, bE, fz, var, kst, op2, op1, lift1, lift2, rd, EV.frz, toB, ofB, andV, orV, andT, orT, ifV, chain, aNil, aCons, toSV, callV, withVals, valsOf, callT, withTops, rds, seqS, bS, retS, exprS, setF, setC, storeF, storeC, ifS, asgS, bName, bNil, bCons, bTup, parS, skip, asD, listD, tupD, seqD, mkTup, mkLst, notV, notT, yesT, raiseS, iOp, cOp, negD, isiD, tyName, isiB, List.getElem?_cons_zero, List.getElem?_cons_succ, List.getElem?_nil, List.set_cons_zero, List.set_cons_succ, List.length_cons, List.length_nil, List.replicate, List.cons_append, List.nil_append, List.append_nil, if_true, if_false, Option.map_some, Option.map_none]
theorem lrules {n w : Nat} {k : Int} {R : D} {st : List MO} (h : Pl st) (hn : n ≤ 60) (hw : w ≤ 1000) : ∀ (ds : List D) (sv : SV), (∀ d ∈ ds, okw n w d = true) →
    ∃ sv', forL (bName 1) b__law_is_book_1 ds ⟨[.val (.tuple [.int k, R]), sv], st⟩ = if ds.all (hasRule k) then some (.next ⟨[.val (.tuple [.int k, R]), sv'], st⟩) else some (.ret (.val (.bool false)) ⟨[.val (.tuple [.int k, R]), sv'], st⟩)
  | [], sv, _ => ⟨sv, rfl⟩
  | d :: r, sv, hd => by
    have e := lrule (k := k) (R := R) h (hd d List.mem_cons_self) hn hw
    have ev : bName 1 d ([.val (.tuple [.int k, R]), sv] : List SV) = some [.val (.tuple [.int k, R]), .val d] := rfl
    cases h1 : hasRule k d with
    | false =>
      rw [h1] at e
      refine ⟨.val d, ?_⟩
      simp only [forL, ev, e, List.all_cons, h1, Bool.false_and, Bool.false_eq_true, if_false]
    | true =>
      rw [h1] at e
      obtain ⟨sv', ih⟩ := lrules (k := k) (R := R) h hn hw r (.val d) fun x hx => hd x (List.mem_cons_of_mem _ hx)
      refine ⟨sv', ?_⟩
      simp only [forL, ev, e, List.all_cons, h1, Bool.true_and, if_true, ih]
/-! ### how many there are -/
theorem uniq_le : ∀ ds : List D, (DLS.uniq ds).length ≤ ds.length
  | [] => Nat.le_refl _
  | d :: ds => by
    have := uniq_le ds
    unfold DLS.uniq
    split
    · simp
      omega
    · simp
      exact this
theorem uniq_len {n : Nat} : ∀ {ds : List D}, (∀ d ∈ ds, DLS.nst n d = true) → ((DLS.uniq ds).length = ds.length ↔ ds.Nodup)
  | [], _ => by simp [DLS.uniq]
  | d :: ds, h => by
    have hd := h d List.mem_cons_self
    have hr : ∀ e ∈ ds, DLS.nst n e = true := fun e m => h e (List.mem_cons_of_mem _ m)
    have ih := uniq_len hr
    have le := uniq_le ds
    rw [List.nodup_cons]
    unfold DLS.uniq
    split
    · rename_i z
      rw [DLS.any_eqv hd hr] at z
      constructor
      · intro e
        simp at e
        omega
      · exact fun e => absurd z e.1
    · rename_i z
      rw [DLS.any_eqv hd hr] at z
      simp only [List.length_cons, Nat.add_right_cancel_iff, ih]
      exact ⟨fun e => ⟨z, e⟩, fun e => e.2⟩
theorem nst_Rl (r : RuleT) : DLS.nst 8 (Rl r) = true := by
  have hT : ∀ (v : Vec) (n : Nat), DLS.nst (n + 1) (T v) = true := fun v n => by
    unfold T
    rw [DLS.nst_tup, List.all_eq_true]
    intro x hx
    obtain ⟨i, _, rfl⟩ := List.mem_map.mp hx
    exact DLS.nst_int
  unfold Rl
  rw [show (8 : Nat) = 7 + 1 from rfl, DLS.nst_tup, List.all_eq_true]
  intro x hx
  simp only [List.mem_cons, List.not_mem_nil, or_false] at hx
  rcases hx with rfl | rfl
  · exact hT _ 6
  · exact hT _ 6
theorem Rl_inj {r q : RuleT} (h : Rl r = Rl q) : r = q := by
  have e := eqv_Rl r q
  have s : PyData.eqv (Rl r) (Rl r) = true := by rw [eqv_Rl]; exact decide_eq_true rfl
  rw [← h, s] at e
  exact of_decide_eq_true e.symm
theorem nodup_Rl (rs : List RuleT) : (rs.map Rl).Nodup ↔ rs.Nodup := by
  constructor
  · exact fun h => List.Pairwise.of_map Rl (fun a b hne e => hne (congrArg Rl e)) h
  · exact fun h => List.Pairwise.map Rl (fun a b hne e => hne (Rl_inj e)) h
theorem lenSet_Rs {rs : List RuleT} (h : rs.length ≤ 5) : ∃ m : Nat, DLS.lenSetD (.tuple (rs.map Rl)) = some (.val (.int (m : Nat))) ∧ (m = rs.length ↔ rs.Nodup) := by
  refine ⟨(DLS.uniq (rs.map Rl)).length, ?_, ?_⟩
  · unfold DLS.lenSetD
    have a : (rs.map Rl).all (fun d => DLS.isTupD d && DLS.nst 8 d) = true := by
      rw [List.all_eq_true]
      intro d hd
      obtain ⟨r, _, rfl⟩ := List.mem_map.mp hd
      rw [nst_Rl] <;> rfl
    simp only [a, Bool.true_and]
    rw [if_pos (by simp; omega)]
  · have := uniq_len (n := 8) (ds := rs.map Rl) fun d hd => by
      obtain ⟨r, _, rfl⟩ := List.mem_map.mp hd
      exact nst_Rl r
    rw [List.length_map, nodup_Rl] at this
    exact this
theorem e_lbook {n w : Nat} {d : D} {st : List MO} (h : Pl st) (hd : okw n w d = true) (hn : n ≤ 60) (hw : w ≤ 1000) : f__law_is_book [.val d] st = some (.ok (.val (.bool (hasBook d))) ⟨[], st⟩) := by
  have key : ∃ env, g__law_is_book ⟨[.val d, .un], st⟩ = some (.ret (.val (.bool (hasBook d))) ⟨env, st⟩) := by
    cases d with
    | tuple ds =>
      obtain ⟨m, rfl⟩ := okw_pos hd
      obtain ⟨_, q⟩ := okw_mem hd
      by_cases h1 : ds.length = 2
      · obtain ⟨a, b, rfl⟩ : ∃ a b, ds = [a, b] := by
          match ds, h1 with
          | [a, b], _ => exact ⟨a, b, rfl⟩
        have ef := e_lfrom (lo := 1) (hi := 4) h (okw_lay _ _ _ (q a (by simp))).1
        have i0 : ixD (.tuple [a, b]) (.int 0) = some (.val a) := rfl
        have i1 : ixD (.tuple [a, b]) (.int 1) = some (.val b) := rfl
        have l2 : lenD [.tuple [a, b]] = some (.val (.int 2)) := rfl
        have n2 : neD (.int 2) (.int 2) = some (.val (.bool false)) := by rw [neD_int] <;> rfl
        cases hf : isFrom a 1 4 with
        | false =>
          have hb : hasBook (.tuple [a, b]) = false := by
            cases a with
            | int n =>
              cases b with
              | tuple ds =>
                simp only [isFrom] at hf
                simp only [hasBook, hf, Bool.false_and]
              | _ => rfl
            | _ => rfl
          rw [hb]
          rw [hf] at ef
          simp [g__law_is_book, bE, fz, var, kst, op2, op1, lift1, lift2, rd, EV.frz, toB, ofB, andV, orV, andT, orT, ifV, chain, aNil, aCons, toSV, callV, withVals, valsOf, callT, withTops, rds, seqS, bS, retS, exprS, setF, setC, storeF, storeC, ifS, asgS, bName, bNil, bCons, bTup, parS, skip, asD, listD, tupD, seqD, mkTup, mkLst, notV, notT, yesT, raiseS, iOp, cOp, negD, isiD, tyName, isiB, List.getElem?_cons_zero, List.getElem?_cons_succ, List.getElem?_nil, List.set_cons_zero, List.set_cons_succ, List.length_cons, List.length_nil, List.replicate, List.cons_append, List.nil_append, List.append_nil, if_true, if_false, Option.map_some, Option.map_none, callF, i0, i1, l2, n2, ef]
        | true =>
          cases a with
          | int k =>
            rw [hf] at ef
            simp only [isFrom, Bool.and_eq_true, decide_eq_true_eq] at hf
            cases b with
            | tuple ds =>
              have qb := q (.tuple ds) (by simp)
              obtain ⟨m', rfl⟩ := okw_pos qb
              obtain ⟨_, qd⟩ := okw_mem qb
              have ll : lenD [.tuple ds] = some (.val (.int (ds.length : Nat))) := rfl
              have hbN : hasBook (.tuple [.int k, .tuple ds]) = (decide (1 ≤ k) && decide (k ≤ 4) && decide ((1 : Int) ≤ (ds.length : Nat)) && decide (((ds.length : Nat) : Int) ≤ 5) && ds.all (fun x => hasRule k x) && unlike ds) := rfl
              obtain ⟨N, hN⟩ : ∃ N : Int, ((ds.length : Nat) : Int) = N := ⟨_, rfl⟩
              rw [hN] at ll hbN
              by_cases hl1 : (0 : Int) < N
              · by_cases hl2 : N < 6
                · have g1 : (1 : Int) ≤ N := by omega
                  have g2 : N ≤ 5 := by omega
                  obtain ⟨sv, el⟩ := lrules (k := k) (R := .tuple ds) h (by omega) hw ds .un qd
                  cases hall : ds.all (hasRule k) with
                  | false =>
                    have hb : hasBook (.tuple [.int k, .tuple ds]) = false := by
                      have hall : ds.all (fun x => hasRule k x) = false := hall
                      rw [hbN, hall]
                      simp only [Bool.and_false, Bool.false_and]
                    rw [hb]
                    rw [hall] at el
                    refine ⟨[.val (.tuple [.int k, .tuple ds]), sv], ?_⟩
                    simp [g__law_is_book, forS, bE, fz, var, kst, op2, op1, lift1, lift2, rd, EV.frz, toB, ofB, andV, orV, andT, orT, ifV, chain, aNil, aCons, toSV, callV, withVals, valsOf, callT, withTops, rds, seqS, bS, retS, exprS, setF, setC, storeF, storeC, ifS, asgS, bName, bNil, bCons, bTup, parS, skip, asD, listD, tupD, seqD, mkTup, mkLst, notV, notT, yesT, raiseS, iOp, cOp, negD, isiD, tyName, isiB, List.getElem?_cons_zero, List.getElem?_cons_succ, List.getElem?_nil, List.set_cons_zero, List.set_cons_succ, List.length_cons, List.length_nil, List.replicate, List.cons_append, List.nil_append, List.append_nil, if_true, if_false, Option.map_some, Option.map_none, callF, i0, i1, l2, n2, ll, ef, hl1, hl2, el]
                  | true =>
                    have hall2 : ds.all (fun x => hasRule k x) = true := hall
                    obtain ⟨rs, ers, hrs⟩ := rules_typed hall2
                    have len5 : rs.length ≤ 5 := by
                      have := congrArg List.length ers
                      simp at this
                      omega
                    obtain ⟨u, eu, hu⟩ := lenSet_Rs len5
                    rw [← ers] at eu
                    have lds : rs.length = ds.length := by rw [ers, List.length_map]
                    have hun : unlike ds = decide ((u : Int) = N) := by
                      rw [← hN, ers, unlike_map eqv_Rl, List.length_map]
                      rw [decide_eq_decide, ← hu]
                      omega
                    have hb : hasBook (.tuple [.int k, .tuple ds]) = decide ((u : Int) = N) := by
                      rw [hbN]
                      simp only [hall2, hf, g1, g2, decide_true, Bool.and_self, Bool.true_and, hun]
                    rw [hb]
                    rw [hall] at el
                    refine ⟨[.val (.tuple [.int k, .tuple ds]), sv], ?_⟩
                    obtain ⟨U, hU⟩ : ∃ U : Int, (u : Int) = U := ⟨_, rfl⟩
                    rw [hU] at eu ⊢
                    simp [g__law_is_book, forS, bE, fz, var, kst, op2, op1, lift1, lift2, rd, EV.frz, toB, ofB, andV, orV, andT, orT, ifV, chain, aNil, aCons, toSV, callV, withVals, valsOf, callT, withTops, rds, seqS, bS, retS, exprS, setF, setC, storeF, storeC, ifS, asgS, bName, bNil, bCons, bTup, parS, skip, asD, listD, tupD, seqD, mkTup, mkLst, notV, notT, yesT, raiseS, iOp, cOp, negD, isiD, tyName, isiB, List.getElem?_cons_zero, List.getElem?_cons_succ, List.getElem?_nil, List.set_cons_zero, List.set_cons_succ, List.length_cons, List.length_nil, List.replicate, List.cons_append, List.nil_append, List.append_nil, if_true, if_false, Option.map_some, Option.map_none, callF, i0, i1, l2, n2, ll, ef, hl1, hl2, el, eu, eqD_int]
                · have hb : hasBook (.tuple [.int k, .tuple ds]) = false := by
                    have z : ¬ N ≤ 5 := by omega
                    rw [hbN]
                    simp [z]
                  rw [hb]
                  simp [g__law_is_book, bE, fz, var, kst, op2, op1, lift1, lift2, rd, EV.frz, toB, ofB, andV, orV, andT, orT, ifV, chain, aNil, aCons, toSV, callV, withVals, valsOf, callT, withTops, rds, seqS, bS, retS, exprS, setF, setC, storeF, storeC, ifS, asgS, bName, bNil, bCons, bTup, parS, skip, asD, listD, tupD, seqD, mkTup, mkLst, notV, notT, yesT, raiseS, iOp, cOp, negD, isiD, tyName, isiB, List.getElem?_cons_zero, List.getElem?_cons_succ, List.getElem?_nil, List.set_cons_zero, List.set_cons_succ, List.length_cons, List.length_nil, List.replicate, List.cons_append, List.nil_append, List.append_nil, if_true, if_false, Option.map_some, Option.map_none, callF, i0, i1, l2, n2, ll, ef, hl1, hl2]
              · have hb : hasBook (.tuple [.int k, .tuple ds]) = false := by
                  have z : ¬ (1 : Int) ≤ N := by omega
                  rw [hbN]
                  simp [z]
                rw [hb]
                simp [g__law_is_book, bE, fz, var, kst, op2, op1, lift1, lift2, rd, EV.frz, toB, ofB, andV, orV, andT, orT, ifV, chain, aNil, aCons, toSV, callV, withVals, valsOf, callT, withTops, rds, seqS, bS, retS, exprS, setF, setC, storeF, storeC, ifS, asgS, bName, bNil, bCons, bTup, parS, skip, asD, listD, tupD, seqD, mkTup, mkLst, notV, notT, yesT, raiseS, iOp, cOp, negD, isiD, tyName, isiB, List.getElem?_cons_zero, List.getElem?_cons_succ, List.getElem?_nil, List.set_cons_zero, List.set_cons_succ, List.length_cons, List.length_nil, List.replicate, List.cons_append, List.nil_append, List.append_nil, if_true, if_false, Option.map_some, Option.map_none, callF, i0, i1, l2, n2, ll, ef, hl1]
            | dict kv =>
              have qb := q (.dict kv) (by simp)
              cases m <;> cases qb
            | _ => simp [g__law_is_book, hasBook, bE, fz, var, kst, op2, op1, lift1, lift2, rd, EV.frz, toB, ofB, andV, orV, andT, orT, ifV, chain, aNil, aCons, toSV, callV, withVals, valsOf, callT, withTops, rds, seqS, bS, retS, exprS, setF, setC, storeF, storeC, ifS, asgS, bName, bNil, bCons, bTup, parS, skip, asD, listD, tupD, seqD, mkTup, mkLst, notV, notT, yesT, raiseS, iOp, cOp, negD, isiD, tyName, isiB, List.getElem?_cons_zero, List.getElem?_cons_succ, List.getElem?_nil, List.set_cons_zero, List.set_cons_succ, List.length_cons, List.length_nil, List.replicate, List.cons_append, List.nil_append, List.append_nil, if_true, if_false, Option.map_some, Option.map_none, callF, i0, i1, l2, n2, ef]
          | _ => simp [isFrom] at hf
      · have h2 : ¬ ((ds.length : Int) = 2) := by omega
        have h3 : hasBook (.tuple ds) = false := by
          match ds, h1 with
          | [], _ => rfl
          | [a], _ => cases a <;> rfl
          | [a, b], h => exact absurd rfl h
          | a :: b :: c :: r, _ => cases a <;> cases b <;> rfl
        rw [h3]
        simp [g__law_is_book, bE, fz, var, kst, op2, op1, lift1, lift2, rd, EV.frz, toB, ofB, andV, orV, andT, orT, ifV, chain, aNil, aCons, toSV, callV, withVals, valsOf, callT, withTops, rds, seqS, bS, retS, exprS, setF, setC, storeF, storeC, ifS, asgS, bName, bNil, bCons, bTup, parS, skip, asD, listD, tupD, seqD, mkTup, mkLst, notV, notT, yesT, raiseS, iOp, cOp, negD, isiD, tyName, isiB, List.getElem?_cons_zero, List.getElem?_cons_succ, List.getElem?_nil, List.set_cons_zero, List.set_cons_succ, List.length_cons, List.length_nil, List.replicate, List.cons_append, List.nil_append, List.append_nil, if_true, if_false, Option.map_some, Option.map_none, lenD, neD_int, h1, h2]
    | dict _ => cases n <;> cases hd
    | _ => simp [g__law_is_book, hasBook, bE, fz, var, kst, op2, op1, lift1, lift2, rd, EV.frz, toB, ofB, andV, orV, andT, orT, ifV, chain, aNil, aCons, toSV, callV, withVals, valsOf, callT, withTops, rds, seqS, bS, retS, exprS, setF, setC, storeF, storeC, ifS, asgS, bName, bNil, bCons, bTup, parS, skip, asD, listD, tupD, seqD, mkTup, mkLst, notV, notT, yesT, raiseS, iOp, cOp, negD, isiD, tyName, isiB, List.getElem?_cons_zero, List.getElem?_cons_succ, List.getElem?_nil, List.set_cons_zero, List.set_cons_succ, List.length_cons, List.length_nil, List.replicate, List.cons_append, List.nil_append, List.append_nil, if_true, if_false, Option.map_some, Option.map_none]
  obtain ⟨env, e⟩ := key
  exact run_of (env := env) e h rfl
end P1
set_option maxHeartbeats 2000000
namespace P1
open PySem PySem.Spec PyProof.Rows L2 DL PF
/-! ### a bent value -/
theorem cut_drop {α : Type} (xs : List α) (n : Nat) (h : n ≤ xs.length) : cutL xs (some (n : Int)) none = xs.drop n := by
  unfold cutL
  rw [HT.sIx_nat, Nat.min_eq_left h, HT.sIx_none, List.take_of_length_le (by simp)]
theorem okw_list {n w : Nat} {ds : List D} (h : ds.length ≤ w) (hd : ∀ d ∈ ds, okw n w d = true) : okw (n + 1) w (.tuple ds) = true := by
  rw [okw_tup, Bool.and_eq_true, decide_eq_true_eq, List.all_eq_true]
  exact ⟨h, hd⟩
def oddL : List D := [.none, .bool true, .bool false, .int 0, .int 1, .int 2, .int 4, .int 5, .int 6, .int 7, .int (-1), .str "", .tuple [], .list [], .tuple [.int 0], .tuple [.int 1, .int 0], .tuple [.int 0, .int 0], .int 1000000000000000000000000000000, .int 1000000000000000000000000000001,
  .tuple [.tuple [.int 1, .int 0], .tuple [.int 0, .int 1]], .tuple [.tuple [.int 0], .tuple [.int 1]], .tuple [.int 2, .tuple []], .str "rule"]
theorem odd_okw : ∀ d ∈ oddL, okw 2 5 d = true := by decide +kernel
/-- what the recursion promises -/
def Bent (c n w : Nat) (F : FnD) : Prop := ∀ (d : D) (st : List MO), Pl st → Src c st → okw n w d = true → ∃ d' st', F [.cell c, .val d] st = some (.ok (.val d') ⟨[], st'⟩) ∧ okw (n + 2) (w + 1) d' = true ∧ Dr c st st'
theorem bent_odd {c n w : Nat} {F : FnD} (hw : 5 ≤ w) {d x2 x3 x4 : SV} {st : List MO} (h : Pl st) (s : Src c st) :
    ∃ d' st' env, (seqS (setF 4 (callV mkLst (aCons (kst .none) (aCons (kst (.bool true)) (aCons (kst (.bool false)) (aCons (kst (.int 0)) (aCons (kst (.int 1)) (aCons (kst (.int 2)) (aCons (kst (.int 4)) (aCons (kst (.int 5)) (aCons (kst (.int 6)) (aCons (kst (.int 7)) (aCons (op1 negD (kst (.int 1))) (aCons (kst (.str "")) (aCons (callV mkTup aNil) (aCons (callV mkLst aNil) (aCons (callV mkTup (aCons (kst (.int 0)) aNil)) (aCons (callV mkTup (aCons (kst (.int 1)) (aCons (kst (.int 0)) aNil))) (aCons (callV mkTup (aCons (kst (.int 0)) (aCons (kst (.int 0)) aNil))) (aCons (op2 powD (kst (.int 10)) (kst (.int 30))) (aCons (op2 addD (op2 powD (kst (.int 10)) (kst (.int 30))) (kst (.int 1))) aNil))))))))))))))))))))) (retS (callF 2 PF.f__law_choice (aCons (var 0) (aCons (op2 addD (var 4) (callV mkLst (aCons (callV mkTup (aCons (callV mkTup (aCons (kst (.int 1)) (aCons (kst (.int 0)) aNil))) (aCons (callV mkTup (aCons (kst (.int 0)) (aCons (kst (.int 1)) aNil))) aNil))) (aCons (callV mkTup (aCons (callV mkTup (aCons (kst (.int 0)) aNil)) (aCons (callV mkTup (aCons (kst (.int 1)) aNil)) aNil))) (aCons (callV mkTup (aCons (kst (.int 2)) (aCons (callV mkTup aNil) aNil))) (aCons (kst (.str "rule")) aNil)))))) aNil))))) ⟨[.cell c, d, x2, x3, x4], st⟩ = some (.ret (.val d') ⟨env, st'⟩) ∧ okw (n + 2) (w + 1) d' = true ∧ Dr c st st' := by
  obtain ⟨d', st', e, hm, dr⟩ := e_choice (c := .list oddL) h s (.inl rfl) (by decide) (by decide)
  refine ⟨d', st', [.cell c, d, x2, x3, .val (.list (oddL.take 19))], ?_, okw_mono 2 5 _ _ d' (odd_okw d' hm) (by omega) (by omega), dr⟩
  have p30 : powD (.int 10) (.int 30) = some (.val (.int 1000000000000000000000000000000)) := rfl
  have ad : addD (.list (oddL.take 19)) (.list (oddL.drop 19)) = some (.fresh oddL) := by
    simp only [addD]
    rw [if_pos (by decide), List.take_append_drop]
  have ad1 : addD (.int 1000000000000000000000000000000) (.int 1) = some (.val (.int 1000000000000000000000000000001)) := rfl
  have e : f__law_choice [.cell c, .val (.list oddL)] st = some (.ok (.val d') ⟨[], st'⟩) := e
  unfold oddL at e ad
  simp only [List.take_succ_cons, List.take_zero, List.drop_succ_cons, List.drop_zero] at ad
  simp [bE, fz, var, kst, op2, op1, lift1, lift2, rd, EV.frz, toB, ofB, andV, orV, andT, orT, ifV, chain, aNil, aCons, toSV, callV, withVals, valsOf, callT, withTops, rds, seqS, bS, retS, exprS, setF, setC, storeF, storeC, ifS, asgS, bName, bNil, bCons, bTup, parS, skip, asD, listD, tupD, seqD, mkTup, mkLst, notV, notT, yesT, raiseS, iOp, cOp, negD, isiD, tyName, isiB, List.getElem?_cons_zero, List.getElem?_cons_succ, List.getElem?_nil, List.set_cons_zero, List.set_cons_succ, List.length_cons, List.length_nil, List.replicate, List.cons_append, List.nil_append, List.append_nil, if_true, if_false, Option.map_some, Option.map_none, callF, p30, ad1, ad, e, oddL]
theorem take_okw {n w : Nat} {ds : List D} (k : Nat) (hd : ∀ d ∈ ds, okw n w d = true) : ∀ d ∈ ds.take k, okw n w d = true := fun d m => hd d (List.mem_of_mem_take m)
theorem drop_okw {n w : Nat} {ds : List D} (k : Nat) (hd : ∀ d ∈ ds, okw n w d = true) : ∀ d ∈ ds.drop k, okw n w d = true := fun d m => hd d (List.mem_of_mem_drop m)
theorem app_okw {n w : Nat} {xs ys : List D} (h1 : ∀ d ∈ xs, okw n w d = true) (h2 : ∀ d ∈ ys, okw n w d = true) : ∀ d ∈ xs ++ ys, okw n w d = true := fun d m => by
  rcases List.mem_append.mp m with z | z
  · exact h1 d z
  · exact h2 d z
theorem up_okw {n w n' w' : Nat} {xs : List D} (h1 : n ≤ n') (h2 : w ≤ w') (h : ∀ d ∈ xs, okw n w d = true) : ∀ d ∈ xs, okw n' w' d = true := fun d m => okw_mono n w n' w' d (h d m) h1 h2
theorem ad_tup {xs ys : List D} (h : xs.length + ys.length ≤ 1000000) : addD (.tuple xs) (.tuple ys) = some (.val (.tuple (xs ++ ys))) := by
  simp only [addD]
  rw [if_pos h]
theorem bent_step {c n w : Nat} {F : FnD} (hw : 5 ≤ w) (hw2 : w ≤ 1000) (hn : n ≤ 50) (rec : ∀ m, n = m + 1 → Bent c m w F) : Bent c n w (runF 5 (g__law_bent F)) := by
  intro d st h s ok
  obtain ⟨r, st1, e1, r0, r7, dr1⟩ := e_draw (m := 7) h s (by decide) (by decide)
  have key : ∃ d' st' env, g__law_bent F ⟨[.cell c, .val d, .un, .un, .un], st⟩ = some (.ret (.val d') ⟨env, st'⟩) ∧ okw (n + 2) (w + 1) d' = true ∧ Dr c st st' := by
    obtain ⟨d0, st0, env0, e0, ok0, dr0⟩ := bent_odd (n := n) (w := w) (F := F) (d := .val d) (x2 := .val (.int r)) (x3 := .un) (x4 := .un) hw dr1.pl dr1.src
    obtain ⟨O, hO⟩ : ∃ O, O = (seqS (setF 4 (callV mkLst (aCons (kst .none) (aCons (kst (.bool true)) (aCons (kst (.bool false)) (aCons (kst (.int 0)) (aCons (kst (.int 1)) (aCons (kst (.int 2)) (aCons (kst (.int 4)) (aCons (kst (.int 5)) (aCons (kst (.int 6)) (aCons (kst (.int 7)) (aCons (op1 negD (kst (.int 1))) (aCons (kst (.str "")) (aCons (callV mkTup aNil) (aCons (callV mkLst aNil) (aCons (callV mkTup (aCons (kst (.int 0)) aNil)) (aCons (callV mkTup (aCons (kst (.int 1)) (aCons (kst (.int 0)) aNil))) (aCons (callV mkTup (aCons (kst (.int 0)) (aCons (kst (.int 0)) aNil))) (aCons (op2 powD (kst (.int 10)) (kst (.int 30))) (aCons (op2 addD (op2 powD (kst (.int 10)) (kst (.int 30))) (kst (.int 1))) aNil))))))))))))))))))))) (retS (callF 2 PF.f__law_choice (aCons (var 0) (aCons (op2 addD (var 4) (callV mkLst (aCons (callV mkTup (aCons (callV mkTup (aCons (kst (.int 1)) (aCons (kst (.int 0)) aNil))) (aCons (callV mkTup (aCons (kst (.int 0)) (aCons (kst (.int 1)) aNil))) aNil))) (aCons (callV mkTup (aCons (callV mkTup (aCons (kst (.int 0)) aNil)) (aCons (callV mkTup (aCons (kst (.int 1)) aNil)) aNil))) (aCons (callV mkTup (aCons (kst (.int 2)) (aCons (callV mkTup aNil) aNil))) (aCons (kst (.str "rule")) aNil)))))) aNil))))) := ⟨_, rfl⟩
    rw [← hO] at e0
    by_cases tup : (∃ ds, d = .tuple ds ∧ ds ≠ []) ∧ 0 < r
    · obtain ⟨⟨ds, rfl, hne⟩, rp⟩ := tup
      obtain ⟨m, rfl⟩ := okw_pos ok
      obtain ⟨hl, hd⟩ := okw_mem ok
      have lp : 0 < ds.length := List.length_pos_iff.mpr hne
      have ne0 : neD (.tuple ds) (.tuple []) = some (.val (.bool true)) := by
        have s1 : shp (.tuple ds) = true := okw_shp ok (by omega)
        have s2 : shp (.tuple []) = true := by decide +kernel
        have e : PyData.eqv (.tuple ds) (.tuple []) = false := by
          cases ds with
          | nil => exact absurd rfl hne
          | cons => simp [PyData.eqv, PyData.eqvAll]
        simp [neD, eqD, s1, s2, e]
      have ll : lenD [.tuple ds] = some (.val (.int (ds.length : Nat))) := rfl
      obtain ⟨at0, st2, e2, a0, a1, dr2⟩ := e_draw (m := (ds.length : Nat)) dr1.pl dr1.src (by omega) (by
        have := log2_lt (i := (ds.length : Nat)) (k := 20) (by omega) (by omega) (by decide)
        omega)
      obtain ⟨k, rfl⟩ : ∃ k : Nat, at0 = (k : Int) := ⟨at0.toNat, by omega⟩
      have kl : k < ds.length := by omega
      have s1 : sliceD (.tuple ds) none (some (k : Int)) = some (.val (.tuple (ds.take k))) := by simp only [sliceD, cut_take ds k (by omega)]
      have s2 : sliceD (.tuple ds) (some (k : Int)) none = some (.val (.tuple (ds.drop k))) := by simp only [sliceD, cut_drop ds k (by omega)]
      have s3 : sliceD (.tuple ds) none (some ((k : Int) + 1)) = some (.val (.tuple (ds.take (k + 1)))) := by
        have := cut_take ds (k + 1) (by omega)
        rw [Int.natCast_add] at this
        simp only [sliceD]
        exact congrArg (fun z => some (EV.val (.tuple z))) this
      have s4 : sliceD (.tuple ds) (some ((k : Int) + 1)) none = some (.val (.tuple (ds.drop (k + 1)))) := by
        have := cut_drop ds (k + 1) (by omega)
        rw [Int.natCast_add] at this
        simp only [sliceD]
        exact congrArg (fun z => some (EV.val (.tuple z))) this
      have k1 : addD (.int (k : Int)) (.int 1) = some (.val (.int ((k : Int) + 1))) := rfl
      have t1 : (ds.take k).length ≤ w := by rw [List.length_take]; omega
      have t2 : (ds.take (k + 1)).length ≤ w := by rw [List.length_take]; omega
      have t3 : (ds.drop k).length ≤ w := by rw [List.length_drop]; omega
      have t4 : (ds.drop (k + 1)).length ≤ w := by rw [List.length_drop]; omega
      have c1 := ad_tup (xs := ds.take k) (ys := ds.drop (k + 1)) (by omega)
      have c2 := ad_tup (xs := ds.take (k + 1)) (ys := ds.drop k) (by omega)
      obtain ⟨x, hx⟩ : ∃ x, ds[k]? = some x := ⟨_, List.getElem?_eq_getElem kl⟩
      have ix : ixD (.tuple ds) (.int (k : Int)) = some (.val x) := by
        obtain ⟨y, h1, h2, h3⟩ := atI_lt (l := ds) (i := (k : Int)) (by omega) (by omega)
        rw [Int.toNat_natCast, hx] at h3
        cases h3
        simp only [ixD, h1, Option.map_some]
      have u1 : m ≤ m + 2 := by omega
      have u2 : w ≤ w + 1 := by omega
      have dr := dr1.trans dr2
      obtain ⟨L, hL⟩ : ∃ L : Int, ((ds.length : Nat) : Int) = L := ⟨_, rfl⟩
      obtain ⟨N, hN⟩ : ∃ N : Int, (k : Int) = N := ⟨_, rfl⟩
      rw [hL] at ll e2
      rw [hN] at e2 s1 s2 s3 s4 k1 ix
      by_cases w1 : r = 1
      · refine ⟨.tuple (ds.take k ++ ds.drop (k + 1)), st2, [.cell c, .val (.tuple ds), .val (.int r), .val (.int N), .un], ?_, ?_, dr⟩
        · subst w1
          unfold g__law_bent
          rw [← hO]
          obtain ⟨A, hA⟩ : ∃ A, PyData.tuple (ds.take k) = A := ⟨_, rfl⟩
          obtain ⟨B, hB⟩ : ∃ B, PyData.tuple (ds.drop (k + 1)) = B := ⟨_, rfl⟩
          obtain ⟨C, hC⟩ : ∃ C, PyData.tuple (ds.take k ++ ds.drop (k + 1)) = C := ⟨_, rfl⟩
          rw [hA] at s1 c1
          rw [hB] at s4 c1
          rw [hC] at c1 ⊢
          simp [bE, fz, var, kst, op2, op1, lift1, lift2, rd, EV.frz, toB, ofB, andV, orV, andT, orT, ifV, chain, aNil, aCons, toSV, callV, withVals, valsOf, callT, withTops, rds, seqS, bS, retS, exprS, setF, setC, storeF, storeC, ifS, asgS, bName, bNil, bCons, bTup, parS, skip, asD, listD, tupD, seqD, mkTup, mkLst, notV, notT, yesT, raiseS, iOp, cOp, negD, isiD, tyName, isiB, List.getElem?_cons_zero, List.getElem?_cons_succ, List.getElem?_nil, List.set_cons_zero, List.set_cons_succ, List.length_cons, List.length_nil, List.replicate, List.cons_append, List.nil_append, List.append_nil, if_true, if_false, Option.map_some, Option.map_none, callF, e1, ne0, ll, e2, eqD_int, slE, noP, someP, s1, k1, s4, c1]
        · refine okw_list ?_ (up_okw u1 u2 (app_okw (take_okw k hd) (drop_okw (k + 1) hd)))
          rw [List.length_append, List.length_take, List.length_drop]
          omega
      · by_cases w2 : r = 2
        · refine ⟨.tuple (ds.take (k + 1) ++ ds.drop k), st2, [.cell c, .val (.tuple ds), .val (.int r), .val (.int N), .un], ?_, ?_, dr⟩
          · subst w2
            unfold g__law_bent
            rw [← hO]
            obtain ⟨A, hA⟩ : ∃ A, PyData.tuple (ds.take (k + 1)) = A := ⟨_, rfl⟩
            obtain ⟨B, hB⟩ : ∃ B, PyData.tuple (ds.drop k) = B := ⟨_, rfl⟩
            obtain ⟨C, hC⟩ : ∃ C, PyData.tuple (ds.take (k + 1) ++ ds.drop k) = C := ⟨_, rfl⟩
            rw [hA] at s3 c2
            rw [hB] at s2 c2
            rw [hC] at c2 ⊢
            simp [bE, fz, var, kst, op2, op1, lift1, lift2, rd, EV.frz, toB, ofB, andV, orV, andT, orT, ifV, chain, aNil, aCons, toSV, callV, withVals, valsOf, callT, withTops, rds, seqS, bS, retS, exprS, setF, setC, storeF, storeC, ifS, asgS, bName, bNil, bCons, bTup, parS, skip, asD, listD, tupD, seqD, mkTup, mkLst, notV, notT, yesT, raiseS, iOp, cOp, negD, isiD, tyName, isiB, List.getElem?_cons_zero, List.getElem?_cons_succ, List.getElem?_nil, List.set_cons_zero, List.set_cons_succ, List.length_cons, List.length_nil, List.replicate, List.cons_append, List.nil_append, List.append_nil, if_true, if_false, Option.map_some, Option.map_none, callF, e1, ne0, ll, e2, eqD_int, slE, noP, someP, s3, k1, s2, c2]
          · refine okw_list ?_ (up_okw u1 u2 (app_okw (take_okw (k + 1) hd) (drop_okw k hd)))
            rw [List.length_append, List.length_take, List.length_drop]
            omega
        · obtain ⟨x', st3, e3, okx, dr3⟩ := rec m rfl x st2 dr2.pl dr2.src (hd x (List.mem_of_getElem? hx))
          have c3 := ad_tup (xs := ds.take k) (ys := [x']) (by simp; omega)
          have c4 := ad_tup (xs := ds.take k ++ [x']) (ys := ds.drop (k + 1)) (by simp only [List.length_append, List.length_cons, List.length_nil]; omega)
          refine ⟨.tuple (ds.take k ++ [x'] ++ ds.drop (k + 1)), st3, [.cell c, .val (.tuple ds), .val (.int r), .val (.int N), .un], ?_, ?_, dr.trans dr3⟩
          · unfold g__law_bent
            rw [← hO]
            obtain ⟨A, hA⟩ : ∃ A, PyData.tuple (ds.take k) = A := ⟨_, rfl⟩
            obtain ⟨B, hB⟩ : ∃ B, PyData.tuple (ds.drop (k + 1)) = B := ⟨_, rfl⟩
            obtain ⟨C, hC⟩ : ∃ C, PyData.tuple (ds.take k ++ [x']) = C := ⟨_, rfl⟩
            obtain ⟨G, hG⟩ : ∃ G, PyData.tuple (ds.take k ++ [x'] ++ ds.drop (k + 1)) = G := ⟨_, rfl⟩
            rw [hA] at s1 c3
            rw [hC] at c3 c4
            rw [hB] at s4 c4
            rw [hG] at c4 ⊢
            simp [bE, fz, var, kst, op2, op1, lift1, lift2, rd, EV.frz, toB, ofB, andV, orV, andT, orT, ifV, chain, aNil, aCons, toSV, callV, withVals, valsOf, callT, withTops, rds, seqS, bS, retS, exprS, setF, setC, storeF, storeC, ifS, asgS, bName, bNil, bCons, bTup, parS, skip, asD, listD, tupD, seqD, mkTup, mkLst, notV, notT, yesT, raiseS, iOp, cOp, negD, isiD, tyName, isiB, List.getElem?_cons_zero, List.getElem?_cons_succ, List.getElem?_nil, List.set_cons_zero, List.set_cons_succ, List.length_cons, List.length_nil, List.replicate, List.cons_append, List.nil_append, List.append_nil, if_true, if_false, Option.map_some, Option.map_none, callF, e1, ne0, ll, e2, eqD_int, w1, w2, rp, slE, noP, someP, s1, k1, s4, ix, e3, c3, c4]
          · refine okw_list ?_ (app_okw (app_okw (up_okw u1 u2 (take_okw k hd)) fun y hy => ?_) (up_okw u1 u2 (drop_okw (k + 1) hd)))
            · simp only [List.length_append, List.length_take, List.length_drop, List.length_cons, List.length_nil]
              omega
            · rw [List.mem_singleton.mp hy]
              exact okx
    · refine ⟨d0, st0, env0, ?_, ok0, dr1.trans dr0⟩
      unfold g__law_bent
      rw [← hO]
      cases d with
      | tuple ds =>
        by_cases hne : ds = []
        · subst hne
          have ne0 : neD (.tuple []) (.tuple []) = some (.val (.bool false)) := rfl
          simp [bE, fz, var, kst, op2, op1, lift1, lift2, rd, EV.frz, toB, ofB, andV, orV, andT, orT, ifV, chain, aNil, aCons, toSV, callV, withVals, valsOf, callT, withTops, rds, seqS, bS, retS, exprS, setF, setC, storeF, storeC, ifS, asgS, bName, bNil, bCons, bTup, parS, skip, asD, listD, tupD, seqD, mkTup, mkLst, notV, notT, yesT, raiseS, iOp, cOp, negD, isiD, tyName, isiB, List.getElem?_cons_zero, List.getElem?_cons_succ, List.getElem?_nil, List.set_cons_zero, List.set_cons_succ, List.length_cons, List.length_nil, List.replicate, List.cons_append, List.nil_append, List.append_nil, if_true, if_false, Option.map_some, Option.map_none, callF, e1, ne0, e0]
        · have rp : ¬ 0 < r := fun z => tup ⟨⟨ds, rfl, hne⟩, z⟩
          have ne0 : neD (.tuple ds) (.tuple []) = some (.val (.bool true)) := by
            have s1 : shp (.tuple ds) = true := okw_shp ok (by omega)
            have s2 : shp (.tuple []) = true := by decide +kernel
            have e : PyData.eqv (.tuple ds) (.tuple []) = false := by
              cases ds with
              | nil => exact absurd rfl hne
              | cons => simp [PyData.eqv, PyData.eqvAll]
            simp [neD, eqD, s1, s2, e]
          simp [bE, fz, var, kst, op2, op1, lift1, lift2, rd, EV.frz, toB, ofB, andV, orV, andT, orT, ifV, chain, aNil, aCons, toSV, callV, withVals, valsOf, callT, withTops, rds, seqS, bS, retS, exprS, setF, setC, storeF, storeC, ifS, asgS, bName, bNil, bCons, bTup, parS, skip, asD, listD, tupD, seqD, mkTup, mkLst, notV, notT, yesT, raiseS, iOp, cOp, negD, isiD, tyName, isiB, List.getElem?_cons_zero, List.getElem?_cons_succ, List.getElem?_nil, List.set_cons_zero, List.set_cons_succ, List.length_cons, List.length_nil, List.replicate, List.cons_append, List.nil_append, List.append_nil, if_true, if_false, Option.map_some, Option.map_none, callF, e1, ne0, rp, e0]
      | dict _ => cases n <;> cases ok
      | _ => simp [bE, fz, var, kst, op2, op1, lift1, lift2, rd, EV.frz, toB, ofB, andV, orV, andT, orT, ifV, chain, aNil, aCons, toSV, callV, withVals, valsOf, callT, withTops, rds, seqS, bS, retS, exprS, setF, setC, storeF, storeC, ifS, asgS, bName, bNil, bCons, bTup, parS, skip, asD, listD, tupD, seqD, mkTup, mkLst, notV, notT, yesT, raiseS, iOp, cOp, negD, isiD, tyName, isiB, List.getElem?_cons_zero, List.getElem?_cons_succ, List.getElem?_nil, List.set_cons_zero, List.set_cons_succ, List.length_cons, List.length_nil, List.replicate, List.cons_append, List.nil_append, List.append_nil, if_true, if_false, Option.map_some, Option.map_none, callF, e1, e0]
  obtain ⟨d', st', env, e, ok', dr⟩ := key
  exact ⟨d', st', run_of (env := env) e dr.pl dr.len, ok', dr⟩
theorem e_bent {c w : Nat} (hw : 5 ≤ w) (hw2 : w ≤ 1000) : ∀ (m n : Nat), n < m → n ≤ 50 → Bent c n w (f__law_bent m)
  | 0, n, h, _ => absurd h (Nat.not_lt_zero _)
  | m + 1, n, h, hn => bent_step hw hw2 hn fun k e => e_bent hw hw2 m k (by omega) (by omega)
end P1
set_option maxHeartbeats 2000000
namespace P1
open PySem PySem.Spec PyProof.Rows L2 DL PF
/-! ### told rightly -/
theorem e_is_book {d : D} {st : List MO} (h : Pl st) (hd : d.canLay0 = true) : f_is_book [.val d] st = some (.ok (.val (.bool (hasBook d))) ⟨[], st⟩) := by
  refine run_of (env := [.val d]) ?_ h rfl
  simp [g_is_book, bE, fz, var, kst, op2, op1, lift1, lift2, rd, EV.frz, toB, ofB, andV, orV, andT, orT, ifV, chain, aNil, aCons, toSV, callV, withVals, valsOf, callT, withTops, rds, seqS, bS, retS, exprS, setF, setC, storeF, storeC, ifS, asgS, bName, bNil, bCons, bTup, parS, skip, asD, listD, tupD, seqD, mkTup, mkLst, notV, notT, yesT, raiseS, iOp, cOp, negD, isiD, tyName, isiB, List.getElem?_cons_zero, List.getElem?_cons_succ, List.getElem?_nil, List.set_cons_zero, List.set_cons_succ, List.length_cons, List.length_nil, List.replicate, List.cons_append, List.nil_append, List.append_nil, if_true, if_false, Option.map_some, Option.map_none, callF, e_has_book h hd]
theorem e_is_heap {n : Int} {rs : List RuleT} {d : D} {st : List MO} (h : Pl st) (ok : OkBook n rs) (hd : d.canLay0 = true) : f_is_heap [.val (Bk n rs), .val d] st = some (.ok (.val (.bool (isCounts d n GREAT))) ⟨[], st⟩) := by
  have e1 := e_need_book h (lay_Bk n rs)
  rw [hasBook_Bk ok] at e1
  have e2 : f_has_heap [.val (Bk n rs), .val d] st = some (.ok (.val (.bool (isCounts d n GREAT))) ⟨[], st⟩) := e_has_heap h (by have := ok.n4; omega) hd
  refine run_of (env := [.val (Bk n rs), .val d]) ?_ h rfl
  generalize Bk n rs = B at *
  simp [g_is_heap, bE, fz, var, kst, op2, op1, lift1, lift2, rd, EV.frz, toB, ofB, andV, orV, andT, orT, ifV, chain, aNil, aCons, toSV, callV, withVals, valsOf, callT, withTops, rds, seqS, bS, retS, exprS, setF, setC, storeF, storeC, ifS, asgS, bName, bNil, bCons, bTup, parS, skip, asD, listD, tupD, seqD, mkTup, mkLst, notV, notT, yesT, raiseS, iOp, cOp, negD, isiD, tyName, isiB, List.getElem?_cons_zero, List.getElem?_cons_succ, List.getElem?_nil, List.set_cons_zero, List.set_cons_succ, List.length_cons, List.length_nil, List.replicate, List.cons_append, List.nil_append, List.append_nil, if_true, if_false, Option.map_some, Option.map_none, callF, e1, e2]
theorem neD_same {d : D} (h : shp d = true) : neD d d = some (.val (.bool false)) := by
  have e := SeqAt.eqv_refl d (shp_lay h)
  have e2 : eqD d d = some (.val (.bool (PyData.eqv d d))) := by
    unfold eqD
    split
    · simp [PyData.eqv]
    · simp [PyData.eqv]
    · simp [h]
  simp [neD, e2, e]
theorem shp_two (a b : Bool) : shp (.tuple [.bool a, .bool b]) = true := by cases a <;> cases b <;> decide +kernel
theorem e_told {n w : Nat} {k : Int} {rs : List RuleT} {d : D} {st : List MO} (h : Pl st) (ok : OkBook k rs) (hd : okw n w d = true) (hn : n ≤ 60) (hw : w ≤ 1000) : f__law_told [.val (Bk k rs), .val d] st = some (.ok (.val (.bool true)) ⟨[], st⟩) := by
  obtain ⟨lay, _⟩ := okw_lay n w d hd
  have b1 := e_lbook h hd hn hw
  have b2 := e_lcounts (k := k) (most := GREAT) h hd hn hw
  have b3 := e_is_book h lay
  have b4 := e_is_heap h ok lay
  have i0 : ixD (Bk k rs) (.int 0) = some (.val (.int k)) := rfl
  have p30 : powD (.int 10) (.int 30) = some (.val (.int GREAT)) := rfl
  have r2 : range1D [.int 2] = some [.int 0, .int 1] := rfl
  obtain ⟨x, hx⟩ : ∃ x, hasBook d = x := ⟨_, rfl⟩
  obtain ⟨y, hy⟩ : ∃ y, isCounts d k GREAT = y := ⟨_, rfl⟩
  rw [hx] at b1 b3
  rw [hy] at b2 b4
  have ne := neD_same (shp_two x y)
  have j0 : ixD (.tuple [.bool x, .bool y]) (.int 0) = some (.val (.bool x)) := rfl
  have j1 : ixD (.tuple [.bool x, .bool y]) (.int 1) = some (.val (.bool y)) := rfl
  obtain ⟨B, hB⟩ : ∃ B, Bk k rs = B := ⟨_, rfl⟩
  rw [hB] at b4 i0 ⊢
  obtain ⟨G, hG⟩ : ∃ G : Int, GREAT = G := ⟨_, rfl⟩
  rw [hG] at p30 b2
  obtain ⟨Y, hY⟩ : ∃ Y, PyData.tuple [.bool x, .bool y] = Y := ⟨_, rfl⟩
  rw [hY] at ne j0 j1
  have body : ∀ v3 v4, b__law_told_1 ⟨[.val B, .val d, .val Y, v3, v4], st⟩ = some (.next ⟨[.val B, .val d, .val Y, v3, .val Y], st⟩) := fun v3 v4 => by
    simp [b__law_told_1, bE, fz, var, kst, op2, op1, lift1, lift2, rd, EV.frz, toB, ofB, andV, orV, andT, orT, ifV, chain, aNil, aCons, toSV, callV, withVals, valsOf, callT, withTops, rds, seqS, bS, retS, exprS, setF, setC, storeF, storeC, ifS, asgS, bName, bNil, bCons, bTup, parS, skip, asD, listD, tupD, seqD, mkTup, mkLst, notV, notT, yesT, raiseS, iOp, cOp, negD, isiD, tyName, isiB, List.getElem?_cons_zero, List.getElem?_cons_succ, List.getElem?_nil, List.set_cons_zero, List.set_cons_succ, List.length_cons, List.length_nil, List.replicate, List.cons_append, List.nil_append, List.append_nil, if_true, if_false, Option.map_some, Option.map_none, callF, b3, b4, hY, ne, j0, j1]
  refine run_of (env := [.val B, .val d, .val Y, .val (.int 1), .val Y]) ?_ h rfl
  simp [g__law_told, forS, bE, fz, var, kst, op2, op1, lift1, lift2, rd, EV.frz, toB, ofB, andV, orV, andT, orT, ifV, chain, aNil, aCons, toSV, callV, withVals, valsOf, callT, withTops, rds, seqS, bS, retS, exprS, setF, setC, storeF, storeC, ifS, asgS, bName, bNil, bCons, bTup, parS, skip, asD, listD, tupD, seqD, mkTup, mkLst, notV, notT, yesT, raiseS, iOp, cOp, negD, isiD, tyName, isiB, List.getElem?_cons_zero, List.getElem?_cons_succ, List.getElem?_nil, List.set_cons_zero, List.set_cons_succ, List.length_cons, List.length_nil, List.replicate, List.cons_append, List.nil_append, List.append_nil, if_true, if_false, Option.map_some, Option.map_none, callF, b1, b2, i0, p30, hY, r2, forL, bName, body]
end P1
set_option maxHeartbeats 2000000
namespace P1
open PySem PySem.Spec PyProof.Rows L2 DL PF
def nb (t : Nat) : Nat := if t = 0 then 4 else 6 + 2 * ((t + 3) % 4)
theorem nb_le : ∀ t, t < 11 → nb t ≤ 12 := by decide
theorem nb_step : ∀ t, t < 10 → (if t % 4 = 0 then 6 else nb t + 2) ≤ nb (t + 1) := by decide
section
variable {ns : List Int} {y0 y1 y8 y9 y10 y11 : SV} {c : Nat} {k : Int} {rs : List RuleT}
theorem turn1 {t : Nat} (ht : t < 10) {g v : D} {heap : SV} {st : List MO} (h : Pl st) (s : Src c st) (ok : OkBook k rs) (hg : okw 4 5 g = true) (hv : okw (nb t) (5 + t) v = true) :
    ∃ v' st', b_law_k01_1 ns ⟨[y0, y1, .cell c, .val (Bk k rs), heap, .val g, .val v, .val (.int (t : Nat)), y8, y9, y10, y11], st⟩ = some (.next ⟨[y0, y1, .cell c, .val (Bk k rs), heap, .val g, .val v', .val (.int (t : Nat)), y8, y9, y10, y11], st'⟩) ∧ okw (nb (t + 1)) (5 + (t + 1)) v' = true ∧ Dr c st st' := by
  have n1 := nb_le t (by omega)
  have n2 := nb_step t ht
  have e1 := e_told h ok hv (by omega) (by omega)
  have m4 : modD (.int (t : Nat)) (.int 4) = some (.val (.int ((t % 4 : Nat) : Int))) := by
    simp [modD, iOp]
  obtain ⟨B, hB⟩ : ∃ B, Bk k rs = B := ⟨_, rfl⟩
  rw [hB] at e1 ⊢
  by_cases z : t % 4 = 0
  · rw [if_pos z] at n2
    rw [z] at m4
    obtain ⟨v', st', e2, ok', dr⟩ := e_bent (c := c) (w := 5) (by decide) (by decide) 20 4 (by decide) (by decide) g st h s hg
    refine ⟨v', st', ?_, okw_mono 6 6 _ _ v' ok' n2 (by omega), dr⟩
    obtain ⟨N, hN⟩ : ∃ N : Int, (t : Int) = N := ⟨_, rfl⟩
    rw [hN] at m4 ⊢
    simp [b_law_k01_1, bE, fz, var, kst, op2, op1, lift1, lift2, rd, EV.frz, toB, ofB, andV, orV, andT, orT, ifV, chain, aNil, aCons, toSV, callV, withVals, valsOf, callT, withTops, rds, seqS, bS, retS, exprS, setF, setC, storeF, storeC, ifS, asgS, bName, bNil, bCons, bTup, parS, skip, asD, listD, tupD, seqD, mkTup, mkLst, notV, notT, yesT, raiseS, iOp, cOp, negD, isiD, tyName, isiB, List.getElem?_cons_zero, List.getElem?_cons_succ, List.getElem?_nil, List.set_cons_zero, List.set_cons_succ, List.length_cons, List.length_nil, List.replicate, List.cons_append, List.nil_append, List.append_nil, if_true, if_false, Option.map_some, Option.map_none, callF, e1, m4, eqD_int, e2]
  · rw [if_neg z] at n2
    obtain ⟨v', st', e2, ok', dr⟩ := e_bent (c := c) (w := 5 + t) (by omega) (by omega) 20 (nb t) (by omega) (by omega) v st h s hv
    refine ⟨v', st', ?_, okw_mono (nb t + 2) (5 + t + 1) _ _ v' ok' n2 (by omega), dr⟩
    have z2 : ((t % 4 : Nat) : Int) ≠ 0 := by omega
    obtain ⟨M, hM⟩ : ∃ M : Int, ((t % 4 : Nat) : Int) = M := ⟨_, rfl⟩
    rw [hM] at m4 z2
    obtain ⟨N, hN⟩ : ∃ N : Int, (t : Int) = N := ⟨_, rfl⟩
    rw [hN] at m4 ⊢
    simp [b_law_k01_1, bE, fz, var, kst, op2, op1, lift1, lift2, rd, EV.frz, toB, ofB, andV, orV, andT, orT, ifV, chain, aNil, aCons, toSV, callV, withVals, valsOf, callT, withTops, rds, seqS, bS, retS, exprS, setF, setC, storeF, storeC, ifS, asgS, bName, bNil, bCons, bTup, parS, skip, asD, listD, tupD, seqD, mkTup, mkLst, notV, notT, yesT, raiseS, iOp, cOp, negD, isiD, tyName, isiB, List.getElem?_cons_zero, List.getElem?_cons_succ, List.getElem?_nil, List.set_cons_zero, List.set_cons_succ, List.length_cons, List.length_nil, List.replicate, List.cons_append, List.nil_append, List.append_nil, if_true, if_false, Option.map_some, Option.map_none, callF, e1, m4, eqD_int, z2, e2]
theorem turns1 {g : D} {v0 : SV} {heap x7 : SV} {st : List MO} (h : Pl st) (s : Src c st) (ok : OkBook k rs) (hg : okw 4 5 g = true) :
    ∃ v x st', b_law_k01_2 ns ⟨[y0, y1, .cell c, .val (Bk k rs), heap, .val g, v0, x7, y8, y9, y10, y11], st⟩ = some (.next ⟨[y0, y1, .cell c, .val (Bk k rs), heap, .val g, v, x, y8, y9, y10, y11], st'⟩) ∧ Dr c st st' := by
  obtain ⟨s1, e1, ⟨t, hr, _, ⟨v, x, he, _⟩, dr⟩⟩ := forL_next (b := bName 7) (body := b_law_k01_1 ns) (fun r s1 => ∃ t, r = ((List.range 10).drop t).map (fun i => PyData.int ((i : Nat) : Int)) ∧ t ≤ 10 ∧ (∃ v x, s1.env = [y0, y1, .cell c, .val (Bk k rs), heap, .val g, .val v, x, y8, y9, y10, y11] ∧ okw (nb t) (5 + t) v = true) ∧ Dr c st s1.st)
    ((List.range 10).map fun i => .int ((i : Nat) : Int)) ⟨[y0, y1, .cell c, .val (Bk k rs), heap, .val g, .val g, x7, y8, y9, y10, y11], st⟩ ⟨0, rfl, by decide, ⟨g, x7, rfl, hg⟩, Dr.refl h s⟩ (by
    rintro d r s1 ⟨t, hr, ht, ⟨v, x, he, hv⟩, dr⟩
    have lt : t < 10 := by
      rcases Nat.lt_or_ge t 10 with z | z
      · exact z
      · have : t = 10 := by omega
        subst this
        cases hr
    have cons : (List.range 10).drop t = t :: (List.range 10).drop (t + 1) := by
      have hl : t < (List.range 10).length := by simpa using lt
      rw [List.drop_eq_getElem_cons hl, List.getElem_range]
    rw [cons, List.map_cons] at hr
    cases hr
    obtain ⟨v', st', e, hv', dr'⟩ := turn1 (ns := ns) (y0 := y0) (y1 := y1) (y8 := y8) (y9 := y9) (y10 := y10) (y11 := y11) (heap := heap) lt dr.pl dr.src ok hg hv
    refine ⟨_, _, ?_, e, t + 1, rfl, lt, ⟨v', _, rfl, hv'⟩, dr.trans dr'⟩
    rw [he] <;> rfl)
  obtain ⟨env1, st1⟩ := s1
  have he : env1 = _ := he
  subst he
  refine ⟨.val v, x, st1, ?_, dr⟩
  have r10 : range1D [.int 10] = some ((List.range 10).map fun i => .int ((i : Nat) : Int)) := range1_eq (k := 10) (by decide) (by decide)
  obtain ⟨B, hB⟩ : ∃ B, Bk k rs = B := ⟨_, rfl⟩
  rw [hB] at e1 ⊢
  simp only [b_law_k01_2, forS, bE, fz, var, kst, op2, op1, lift1, lift2, rd, EV.frz, toB, ofB, andV, orV, andT, orT, ifV, chain, aNil, aCons, toSV, callV, withVals, valsOf, callT, withTops, rds, seqS, bS, retS, exprS, setF, setC, storeF, storeC, ifS, asgS, bName, bNil, bCons, bTup, parS, skip, asD, listD, tupD, seqD, mkTup, mkLst, notV, notT, yesT, raiseS, iOp, cOp, negD, isiD, tyName, isiB, List.getElem?_cons_zero, List.getElem?_cons_succ, List.getElem?_nil, List.set_cons_zero, List.set_cons_succ, List.length_cons, List.length_nil, List.replicate, List.cons_append, List.nil_append, List.append_nil, if_true, if_false, Option.map_some, Option.map_none, r10, e1]
theorem round1 (hb : ∀ z ∈ ns, Builtin.Int.intBits z ≤ 1048576) {k0 : Nat} (hk0 : k0 ≤ 1000) {a2 a3 a4 a5 a6 a7 : SV} {st : List MO} (h : Pl st) :
    ∃ x2 x3 x4 x5 x6 x7 st', b_law_k01_3 ns ⟨[.scr, .val (.int (k0 : Nat)), a2, a3, a4, a5, a6, a7, y8, y9, y10, y11], st⟩ = some (.next ⟨[.scr, .val (.int (k0 : Nat)), x2, x3, x4, x5, x6, x7, y8, y9, y10, y11], st'⟩) ∧ Pl st' := by
  obtain ⟨a, b, eS, ha, hb0, hb1⟩ := e_source (k := k0) h hb hk0
  have p1 : Pl (st ++ [.lst [.int a, .int b]]) := pl_snoc h
  have s1 : Src st.length (st ++ [.lst [.int a, .int b]]) := ⟨a, b, by simp, ha, hb0, hb1⟩
  obtain ⟨c, hc⟩ : ∃ c, st.length = c := ⟨_, rfl⟩
  rw [hc] at s1
  obtain ⟨k, rs, st1, eB, okB, dr1⟩ := e_book (most := 5) p1 s1 (by decide) (by decide)
  have ok := okB.book (by decide)
  have g1 := okB.k1
  have g3 := okB.k3
  obtain ⟨v, st2, eH, vl, vx, dr2⟩ := e_heap (k := k) (m := 9) dr1.pl dr1.src (by omega) (by omega) (by decide) (by decide)
  have oB : okw 4 5 (Bk k rs) = true := okw_Bk (n := 0) ok.len (by decide) fun r hr => ⟨by have := ok.l1 r hr; omega, by have := ok.l2 r hr; omega⟩
  have oH : okw 4 5 (T v) = true := okw_T (n := 3) (by omega)
  have b1 := e_is_book dr2.pl (lay_Bk k rs)
  rw [hasBook_Bk ok] at b1
  have b2 := e_is_heap dr2.pl ok (lay_T v)
  have b3 : isCounts (T v) k GREAT = true := by
    rw [isCounts_T, Bool.and_eq_true, decide_eq_true_eq, List.all_eq_true]
    refine ⟨by omega, fun x hx => ?_⟩
    have := vx x hx
    have gg : GREAT = 1000000000000000000000000000000 := rfl
    simp only [Bool.and_eq_true, decide_eq_true_eq]
    omega
  rw [b3] at b2
  obtain ⟨v1, z1, st3, t1, dr3⟩ := turns1 (ns := ns) (y0 := .scr) (y1 := .val (.int (k0 : Nat))) (y8 := y8) (y9 := y9) (y10 := y10) (y11 := y11) (heap := .val (T v)) (v0 := a6) (x7 := a7) dr2.pl dr2.src ok oB
  obtain ⟨v2, z2, st4, t2, dr4⟩ := turns1 (ns := ns) (y0 := .scr) (y1 := .val (.int (k0 : Nat))) (y8 := y8) (y9 := y9) (y10 := y10) (y11 := y11) (heap := .val (T v)) (v0 := v1) (x7 := z1) dr3.pl dr3.src ok oH
  have ol1 : okw 4 5 (.list (v.map .int)) = true := by
    have := oH
    unfold T at this
    rw [okw_tup] at this
    rw [okw_lst]
    exact this
  have ol2 : okw 4 5 (.list [.int k, Rs rs]) = true := by
    have := oB
    unfold Bk at this
    rw [okw_tup] at this
    rw [okw_lst]
    exact this
  have w1 := e_told dr4.pl ok ol1 (by decide) (by decide)
  have w2 := e_told dr4.pl ok ol2 (by decide) (by decide)
  have l1 : listD2 [T v] = some (.fresh (v.map .int)) := rfl
  have l2 : listD2 [Bk k rs] = some (.fresh [.int k, Rs rs]) := rfl
  have ix : ixD (Bk k rs) (.int 0) = some (.val (.int k)) := rfl
  refine ⟨.cell c, .val (Bk k rs), .val (T v), .val (T v), v2, z2, st4, ?_, dr4.pl⟩
  obtain ⟨VL, hVL⟩ : ∃ VL, v.map PyData.int = VL := ⟨_, rfl⟩
  obtain ⟨RS', hRS⟩ : ∃ R, Rs rs = R := ⟨_, rfl⟩
  obtain ⟨TV, hTV⟩ : ∃ V, T v = V := ⟨_, rfl⟩
  obtain ⟨B, hB⟩ : ∃ B, Bk k rs = B := ⟨_, rfl⟩
  rw [hVL] at w1 l1
  rw [hRS] at w2 l2
  rw [hTV] at eH b2 t1 t2 l1
  rw [hB] at eB b1 b2 t1 t2 w1 w2 l2 ix
  have loop : forL (bName 5) (b_law_k01_2 ns) [B, TV] ⟨[.scr, .val (.int (k0 : Nat)), .cell c, .val B, .val TV, a5, a6, a7, y8, y9, y10, y11], st2⟩ = some (.next ⟨[.scr, .val (.int (k0 : Nat)), .cell c, .val B, .val TV, .val TV, v2, z2, y8, y9, y10, y11], st4⟩) := by
    have n1 : bName 5 B [.scr, .val (.int (k0 : Nat)), .cell c, .val B, .val TV, a5, a6, a7, y8, y9, y10, y11] = some [.scr, .val (.int (k0 : Nat)), .cell c, .val B, .val TV, .val B, a6, a7, y8, y9, y10, y11] := rfl
    have n2 : bName 5 TV [.scr, .val (.int (k0 : Nat)), .cell c, .val B, .val TV, .val B, v1, z1, y8, y9, y10, y11] = some [.scr, .val (.int (k0 : Nat)), .cell c, .val B, .val TV, .val TV, v1, z1, y8, y9, y10, y11] := rfl
    simp only [forL, n1, t1, n2, t2]
  rw [hB, hTV]
  simp [b_law_k01_3, forS, bE, fz, var, kst, op2, op1, lift1, lift2, rd, EV.frz, toB, ofB, andV, orV, andT, orT, ifV, chain, aNil, aCons, toSV, callV, withVals, valsOf, callT, withTops, rds, seqS, bS, retS, exprS, setF, setC, storeF, storeC, ifS, asgS, bName, bNil, bCons, bTup, parS, skip, asD, listD, tupD, seqD, mkTup, mkLst, notV, notT, yesT, raiseS, iOp, cOp, negD, isiD, tyName, isiB, List.getElem?_cons_zero, List.getElem?_cons_succ, List.getElem?_nil, List.set_cons_zero, List.set_cons_succ, List.length_cons, List.length_nil, List.replicate, List.cons_append, List.nil_append, List.append_nil, if_true, if_false, Option.map_some, Option.map_none, callF, aScr, eS, hc, eB, ix, eH, b1, b2, loop, l1, l2, w1, w2]
end
end P1
set_option maxHeartbeats 2000000
namespace P1
open PySem PySem.Spec PyProof.Rows L2 DL PF
/-! ### the written values -/
def v1 : D := .tuple [.int 2, .tuple [.tuple [.tuple [.int 2, .int 0], .tuple [.int 0, .int 1]]]]
def v2 : D := .tuple [.int 2, .tuple [.tuple [.tuple [.int 2, .int 0], .tuple [.int 0, .int 1]], .tuple [.tuple [.int 2, .int 0], .tuple [.int 0, .int 1]]]]
def v3 : D := .tuple [.int 1, .tuple [.tuple [.tuple [.int 2, .int 0], .tuple [.int 0, .int 1]]]]
def v4 : D := .tuple [.int 2, .tuple []]
def v5 : D := .tuple [.int 2, .tuple [.tuple [.tuple [.int 0, .int 0], .tuple [.int 1, .int 0]]]]
def v6 : D := .tuple [.int 2, .tuple [.tuple [.tuple [.int 1, .int 0], .tuple [.int 1, .int 0]]]]
def v7 : D := .tuple [.int 4, .tuple [.tuple [.tuple [.int 6, .int 6, .int 6, .int 6], .tuple [.int 0, .int 0, .int 0, .int 0]]]]
def v8 : D := .tuple [.int 2, .tuple [.tuple [.tuple [.int 7, .int 0], .tuple [.int 0, .int 1]]]]
def v9 : D := .tuple [.int 5, .tuple [.tuple [.tuple [.int 1, .int 1, .int 1, .int 1, .int 1], .tuple [.int 0, .int 0, .int 0, .int 0, .int 0]]]]
def v10 : D := .tuple [.int 1, .tuple [.tuple [.tuple [.int 1], .tuple [.int 0]], .tuple [.tuple [.int 2], .tuple [.int 0]], .tuple [.tuple [.int 3], .tuple [.int 0]], .tuple [.tuple [.int 4], .tuple [.int 0]], .tuple [.tuple [.int 5], .tuple [.int 0]]]]
def v11 : D := .tuple [.int 1, .tuple [.tuple [.tuple [.int 1], .tuple [.int 0]], .tuple [.tuple [.int 1], .tuple [.int 2]], .tuple [.tuple [.int 1], .tuple [.int 3]], .tuple [.tuple [.int 1], .tuple [.int 4]], .tuple [.tuple [.int 1], .tuple [.int 5]], .tuple [.tuple [.int 1], .tuple [.int 6]]]]
def h1 : D := .tuple [.int 0, .int 0]
def h2 : D := .tuple [.int 1000000000000000000000000000000, .int 3]
def h3 : D := .tuple [.int 1000000000000000000000000000001, .int 0]
def h4 : D := .tuple [.int 1]
def h5 : D := .tuple [.int 1, .int (-1)]
def h6 : D := .tuple [.bool true, .int 1]
def h7 : D := .list [.int 1, .int 1]
def h8 : D := .tuple [.int 1, .int 1, .int 1]
def vs : List D := [v1, v2, v3, v4, v5, v6, v7, v8, v9, v10, v11]
def hs : List D := [h1, h2, h3, h4, h5, h6, h7, h8]
def one : D := .tuple [.tuple [.int 2, .int 0], .tuple [.int 0, .int 1]]
def dueV : List D := [.bool true, .bool false, .bool false, .bool false, .bool false, .bool false, .bool true, .bool false, .bool false, .bool true, .bool false]
def dueH : List D := [.bool true, .bool true, .bool false, .bool false, .bool false, .bool false, .bool false, .bool false]
theorem vs_okw : ∀ d ∈ vs, okw 4 6 d = true := by decide +kernel
theorem hs_okw : ∀ d ∈ hs, okw 4 6 d = true := by decide +kernel
theorem vs_due : (vs.map fun d => hasBook d) = [true, false, false, false, false, false, true, false, false, true, false] := by decide +kernel
theorem hs_due : (hs.map fun d => isCounts d 2 GREAT) = [true, true, false, false, false, false, false, false] := by decide +kernel
theorem ok_one : OkBook 2 [([2, 0], [0, 1])] := ⟨by decide, by decide, by decide, by decide, by decide, by decide, by decide, by decide, by decide, by decide, by decide⟩
section
variable {ns : List Int} {y0 y1 y2 y3 y4 y5 y6 y7 y8 y9 y10 y11 : SV} {st : List MO}
theorem seqS_next {f g : S → Option RS} {s s' : S} {r : Option RS} (h : f s = some (.next s')) (h2 : g s' = r) : seqS f g s = r := by
  unfold seqS
  rw [h]
  exact h2
theorem set_last {α : Type} {l : List α} {x y : α} {c : Nat} (hc : l.length = c) : (l ++ [x]).set c y = l ++ [y] := by
  subst hc
  simp
theorem get_last {α : Type} {l : List α} {x : α} {c : Nat} (hc : l.length = c) : (l ++ [x])[c]? = some x := by
  subst hc
  simp
theorem told_vs {c : Nat} (h : Pl (st.set c .dead)) (hc : st[c]? = some (.lst vs)) : c_law_k01_6 ns ⟨[y0, y1, y2, y3, y4, y5, y6, y7, y8, .cell c, y10, y11], st⟩ = some (.ok (.fresh dueV) ⟨[y0, y1, y2, y3, y4, y5, y6, y7, y8, .val (.list vs), y10, y11], st.set c .dead⟩) := by
  have e := lcT (vs := [6]) (b := bName 6) (f := callF 1 PF.f_is_book (aCons (var 6) aNil)) (s := ⟨[y0, y1, y2, y3, y4, y5, y6, y7, y8, .val (.list vs), y10, y11], st.set c .dead⟩) (fun d => .bool (hasBook d)) id vs (by decide)
    (fun d hd => ⟨[y0, y1, y2, y3, y4, y5, .val d, y7, y8, .val (.list vs), y10, y11], [y0, y1, y2, y3, y4, y5, .val d, y7, y8, .val (.list vs), y10, y11], rfl, by
      have e1 := e_is_book h (okw_lay _ _ d (vs_okw d hd)).1
      simp only [bE, fz, var, kst, op2, op1, lift1, lift2, rd, EV.frz, toB, ofB, andV, orV, andT, orT, ifV, chain, aNil, aCons, toSV, callV, withVals, valsOf, callT, withTops, rds, seqS, bS, retS, exprS, setF, setC, storeF, storeC, ifS, asgS, bName, bNil, bCons, bTup, parS, skip, asD, listD, tupD, seqD, mkTup, mkLst, notV, notT, yesT, raiseS, iOp, cOp, negD, isiD, tyName, isiB, List.getElem?_cons_zero, List.getElem?_cons_succ, List.getElem?_nil, List.set_cons_zero, List.set_cons_succ, List.length_cons, List.length_nil, List.replicate, List.cons_append, List.nil_append, List.append_nil, if_true, if_false, Option.map_some, Option.map_none, callF, e1]⟩)
  have e2 : (vs.map fun d => PyData.bool (hasBook d)) = dueV := by
    have := congrArg (List.map PyData.bool) vs_due
    rw [List.map_map] at this
    exact this
  rw [List.map_id, e2] at e
  unfold c_law_k01_6
  obtain ⟨L, hL⟩ : ∃ L, vs = L := ⟨_, rfl⟩
  rw [hL] at hc e ⊢
  simp only [lcE, bE, fz, varF, EV.frz, asD, listD, List.getElem?_cons_zero, List.getElem?_cons_succ, hc, List.set_cons_succ, List.set_cons_zero]
  exact e
theorem told_hs {c : Nat} (h : Pl (st.set c .dead)) (hc : st[c]? = some (.lst hs)) : c_law_k01_7 ns ⟨[y0, y1, y2, y3, y4, y5, y6, y7, .val one, .cell c, y10, y11], st⟩ = some (.ok (.fresh dueH) ⟨[y0, y1, y2, y3, y4, y5, y6, y7, .val one, .val (.list hs), y10, y11], st.set c .dead⟩) := by
  have t1 : PyData.tuple [.int 2, .tuple [one]] = Bk 2 [([2, 0], [0, 1])] := rfl
  obtain ⟨B, hB⟩ : ∃ B, Bk 2 [([2, 0], [0, 1])] = B := ⟨_, rfl⟩
  obtain ⟨O, hO⟩ : ∃ O, one = O := ⟨_, rfl⟩
  have e := lcT (vs := [6]) (b := bName 6) (f := callF 2 PF.f_is_heap (aCons (callV mkTup (aCons (kst (.int 2)) (aCons (callV mkTup (aCons (var 8) aNil)) aNil))) (aCons (var 6) aNil))) (s := ⟨[y0, y1, y2, y3, y4, y5, y6, y7, .val one, .val (.list hs), y10, y11], st.set c .dead⟩) (fun d => .bool (isCounts d 2 GREAT)) id hs (by decide)
    (fun d hd => ⟨[y0, y1, y2, y3, y4, y5, .val d, y7, .val one, .val (.list hs), y10, y11], [y0, y1, y2, y3, y4, y5, .val d, y7, .val one, .val (.list hs), y10, y11], rfl, by
      have e1 := e_is_heap h ok_one (okw_lay _ _ d (hs_okw d hd)).1
      rw [hB] at t1 e1
      rw [hO] at t1 ⊢
      simp [bE, fz, var, kst, op2, op1, lift1, lift2, rd, EV.frz, toB, ofB, andV, orV, andT, orT, ifV, chain, aNil, aCons, toSV, callV, withVals, valsOf, callT, withTops, rds, seqS, bS, retS, exprS, setF, setC, storeF, storeC, ifS, asgS, bName, bNil, bCons, bTup, parS, skip, asD, listD, tupD, seqD, mkTup, mkLst, notV, notT, yesT, raiseS, iOp, cOp, negD, isiD, tyName, isiB, List.getElem?_cons_zero, List.getElem?_cons_succ, List.getElem?_nil, List.set_cons_zero, List.set_cons_succ, List.length_cons, List.length_nil, List.replicate, List.cons_append, List.nil_append, List.append_nil, if_true, if_false, Option.map_some, Option.map_none, callF, t1, e1]⟩)
  have e2 : (hs.map fun d => PyData.bool (isCounts d 2 GREAT)) = dueH := by
    have := congrArg (List.map PyData.bool) hs_due
    rw [List.map_map] at this
    exact this
  rw [List.map_id, e2] at e
  unfold c_law_k01_7
  obtain ⟨L, hL⟩ : ∃ L, hs = L := ⟨_, rfl⟩
  rw [hL] at hc e ⊢
  simp only [lcE, bE, fz, varF, EV.frz, asD, listD, List.getElem?_cons_zero, List.getElem?_cons_succ, hc, List.set_cons_succ, List.set_cons_zero]
  exact e
end
end P1
set_option maxHeartbeats 2000000
namespace P1
open PySem PySem.Spec PyProof.Rows L2 DL PF
def Env1 (env : List SV) : Prop := ∃ a1 a2 a3 a4 a5 a6 a7 a8 a9 a10 a11 : SV, env = [.scr, a1, a2, a3, a4, a5, a6, a7, a8, a9, a10, a11]
section
variable {ns : List Int} {y0 y1 y2 y3 y4 y5 y6 y7 y8 y9 y10 y11 : SV} {st : List MO}
theorem c4_eq : c_law_k01_4 ns ⟨[y0, y1, y2, y3, y4, y5, y6, y7, y8, y9, y10, y11], st⟩ = some (.ok (.fresh [.tuple [.tuple [.int 1], .tuple [.int 0]], .tuple [.tuple [.int 2], .tuple [.int 0]], .tuple [.tuple [.int 3], .tuple [.int 0]], .tuple [.tuple [.int 4], .tuple [.int 0]], .tuple [.tuple [.int 5], .tuple [.int 0]]]) ⟨[y0, y1, y2, y3, y4, y5, y6, y7, y8, y9, y10, y11], st⟩) := by
  have r : range2D [.int 1, .int 6] = some [.int 1, .int 2, .int 3, .int 4, .int 5] := rfl
  simp [c_law_k01_4, lcE, lcL, wipeE, yesT, bName, bE, fz, var, kst, op2, op1, lift1, lift2, rd, EV.frz, toB, ofB, andV, orV, andT, orT, ifV, chain, aNil, aCons, toSV, callV, withVals, valsOf, callT, withTops, rds, seqS, bS, retS, exprS, setF, setC, storeF, storeC, ifS, asgS, bName, bNil, bCons, bTup, parS, skip, asD, listD, tupD, seqD, mkTup, mkLst, notV, notT, yesT, raiseS, iOp, cOp, negD, isiD, tyName, isiB, List.getElem?_cons_zero, List.getElem?_cons_succ, List.getElem?_nil, List.set_cons_zero, List.set_cons_succ, List.length_cons, List.length_nil, List.replicate, List.cons_append, List.nil_append, List.append_nil, if_true, if_false, Option.map_some, Option.map_none, r]
theorem c5_eq : c_law_k01_5 ns ⟨[y0, y1, y2, y3, y4, y5, y6, y7, y8, y9, y10, y11], st⟩ = some (.ok (.fresh [.tuple [.tuple [.int 1], .tuple [.int 0]], .tuple [.tuple [.int 1], .tuple [.int 2]], .tuple [.tuple [.int 1], .tuple [.int 3]], .tuple [.tuple [.int 1], .tuple [.int 4]], .tuple [.tuple [.int 1], .tuple [.int 5]], .tuple [.tuple [.int 1], .tuple [.int 6]]]) ⟨[y0, y1, y2, y3, y4, y5, y6, y7, y8, y9, y10, y11], st⟩) := by
  simp [c_law_k01_5, lcE, lcL, wipeE, yesT, bName, bE, fz, var, kst, op2, op1, lift1, lift2, rd, EV.frz, toB, ofB, andV, orV, andT, orT, ifV, chain, aNil, aCons, toSV, callV, withVals, valsOf, callT, withTops, rds, seqS, bS, retS, exprS, setF, setC, storeF, storeC, ifS, asgS, bName, bNil, bCons, bTup, parS, skip, asD, listD, tupD, seqD, mkTup, mkLst, notV, notT, yesT, raiseS, iOp, cOp, negD, isiD, tyName, isiB, List.getElem?_cons_zero, List.getElem?_cons_succ, List.getElem?_nil, List.set_cons_zero, List.set_cons_succ, List.length_cons, List.length_nil, List.replicate, List.cons_append, List.nil_append, List.append_nil, if_true, if_false, Option.map_some, Option.map_none]
end
end P1
open PySem PySem.Spec PyProof.Rows L2 DL PF P1
theorem PF.law_k01 (ns : List Int) (hl : ns.length ≤ 63) (hb : ∀ z ∈ ns, Builtin.Int.intBits z ≤ 1048576) : ∃ s', f_law_k01 ns [.scr] [] = some (.ok (.val (.bool true)) s') := by
  obtain ⟨m, hm⟩ : ∃ m : Int, (if (10 : Int) < (ns.length : Nat) then 10 else ((ns.length : Nat) : Int)) = m := ⟨_, rfl⟩
  have hm0 : 0 ≤ m ∧ m ≤ 10 := by rw [← hm]; split <;> omega
  obtain ⟨s1, e1, ⟨⟨a1, a2, a3, a4, a5, a6, a7, a8, a9, a10, a11, he⟩, hp, _⟩⟩ := forL_next (b := bName 1) (body := b_law_k01_3 ns) (fun r s => Env1 s.env ∧ Pl s.st ∧ ∀ d ∈ r, ∃ i : Nat, d = .int (i : Nat) ∧ i ≤ 1000)
    ((List.range (1 + m).toNat).map fun i => .int ((i : Nat) : Int)) ⟨[.scr, .un, .un, .un, .un, .un, .un, .un, .un, .un, .un, .un], []⟩ ⟨⟨_, _, _, _, _, _, _, _, _, _, _, rfl⟩, rfl, fun d hd => by
      obtain ⟨i, hi, rfl⟩ := List.mem_map.mp hd
      exact ⟨i, rfl, by have := List.mem_range.mp hi; omega⟩⟩ (by
    rintro d r s ⟨⟨a1, a2, a3, a4, a5, a6, a7, a8, a9, a10, a11, he⟩, q2, q3⟩
    obtain ⟨i, rfl, hi⟩ := q3 d List.mem_cons_self
    obtain ⟨x2, x3, x4, x5, x6, x7, st', z1, z2⟩ := round1 (ns := ns) (y8 := a8) (y9 := a9) (y10 := a10) (y11 := a11) (a2 := a2) (a3 := a3) (a4 := a4) (a5 := a5) (a6 := a6) (a7 := a7) hb hi q2
    exact ⟨_, _, by rw [he] <;> rfl, z1, ⟨_, _, _, _, _, _, _, _, _, _, _, rfl⟩, z2, fun x hx => q3 x (List.mem_cons_of_mem _ hx)⟩)
  obtain ⟨env, st⟩ := s1
  have he : env = _ := he
  subst he
  have hp : Pl st := hp
  obtain ⟨c, hc⟩ : ∃ c, st.length = c := ⟨_, rfl⟩
  have r1 := range1_eq (k := 1 + m) (by omega) (by omega)
  have m1 : mulD (.tuple [.int 6]) (.int 4) = some (.val (.tuple [.int 6, .int 6, .int 6, .int 6])) := rfl
  have m2 : mulD (.tuple [.int 0]) (.int 4) = some (.val (.tuple [.int 0, .int 0, .int 0, .int 0])) := rfl
  have m3 : mulD (.tuple [.int 1]) (.int 5) = some (.val (.tuple [.int 1, .int 1, .int 1, .int 1, .int 1])) := rfl
  have m4 : mulD (.tuple [.int 0]) (.int 5) = some (.val (.tuple [.int 0, .int 0, .int 0, .int 0, .int 0])) := rfl
  have mf : mulD (.list [.bool false]) (.int 5) = some (.fresh [.bool false, .bool false, .bool false, .bool false, .bool false]) := rfl
  have p30 : powD (.int 10) (.int 30) = some (.val (.int 1000000000000000000000000000000)) := rfl
  have g30 : addD (.int 1000000000000000000000000000000) (.int 1) = some (.val (.int 1000000000000000000000000000001)) := rfl
  have q1 : addD (.list [.bool true]) (.list [.bool false, .bool false, .bool false, .bool false, .bool false]) = some (.fresh [.bool true, .bool false, .bool false, .bool false, .bool false, .bool false]) := by simp [addD]
  have q2 : addD (.list [.bool true, .bool false, .bool false, .bool false, .bool false, .bool false]) (.list [.bool true, .bool false, .bool false, .bool true, .bool false]) = some (.fresh dueV) := by simp [addD, dueV]
  have n6 : neD (.list dueV) (.list dueV) = some (.val (.bool false)) := neD_same (by decide +kernel)
  have n7 : eqD (.list dueH) (.list dueH) = some (.val (.bool true)) := by
    have e := neD_same (d := .list dueH) (by decide +kernel)
    have s : shp (.list dueH) = true := by decide +kernel
    simp only [eqD, s, Bool.and_self, if_true]
    rw [SeqAt.eqv_refl _ (shp_lay s)]
  obtain ⟨V1, z1⟩ : ∃ V, v1 = V := ⟨_, rfl⟩
  obtain ⟨V2, z2⟩ : ∃ V, v2 = V := ⟨_, rfl⟩
  obtain ⟨V3, z3⟩ : ∃ V, v3 = V := ⟨_, rfl⟩
  obtain ⟨V4, z4⟩ : ∃ V, v4 = V := ⟨_, rfl⟩
  obtain ⟨V5, z5⟩ : ∃ V, v5 = V := ⟨_, rfl⟩
  obtain ⟨V6, z6⟩ : ∃ V, v6 = V := ⟨_, rfl⟩
  obtain ⟨V7, z7⟩ : ∃ V, v7 = V := ⟨_, rfl⟩
  obtain ⟨V8, z8⟩ : ∃ V, v8 = V := ⟨_, rfl⟩
  obtain ⟨V9, z9⟩ : ∃ V, v9 = V := ⟨_, rfl⟩
  obtain ⟨V10, z10⟩ : ∃ V, v10 = V := ⟨_, rfl⟩
  obtain ⟨V11, z11⟩ : ∃ V, v11 = V := ⟨_, rfl⟩
  have ad : addD (.list [V1, V2, V3, V4, V5, V6]) (.list [V7, V8, V9]) = some (.fresh [V1, V2, V3, V4, V5, V6, V7, V8, V9]) := by simp [addD]
  obtain ⟨M1, hM1⟩ : ∃ M, MO.lst [V1, V2, V3, V4, V5, V6] = M := ⟨_, rfl⟩
  have hc1 : (st ++ [M1]).length = c + 1 := by simp [hc]
  have get1 : (st ++ [M1])[c]? = some (.lst [V1, V2, V3, V4, V5, V6]) := by rw [get_last hc, hM1]
  have p1 : Pl (st ++ [M1]) := by rw [← hM1]; exact pl_snoc hp
  obtain ⟨st1, hs1⟩ : ∃ s, st ++ [M1] = s := ⟨_, rfl⟩
  rw [hs1] at hc1 get1 p1
  have dead : ∀ (ds : List D), Pl ((st1 ++ [MO.lst ds]).set (c + 1) .dead) := fun ds => by
    rw [set_last hc1]
    have h : st1.all plainMO = true := p1
    rw [Pl, List.all_append, h] <;> rfl
  obtain ⟨st2, hs2⟩ : ∃ s, (st1 ++ [MO.lst vs]).set (c + 1) .dead = s := ⟨_, rfl⟩
  have p2 : Pl st2 := by rw [← hs2]; exact dead _
  have hc2 : st2.length = c + 2 := by rw [← hs2]; simp [hc1]
  have tv := told_vs (ns := ns) (y0 := .scr) (y1 := a1) (y2 := a2) (y3 := a3) (y4 := a4) (y5 := a5) (y6 := a6) (y7 := a7) (y8 := .val one) (y10 := .val (.list dueV)) (y11 := a11) (dead vs) (get_last hc1)
  have dead2 : Pl ((st2 ++ [MO.lst hs]).set (c + 2) .dead) := by
    rw [set_last hc2]
    have h : st2.all plainMO = true := p2
    rw [Pl, List.all_append, h] <;> rfl
  have th := told_hs (ns := ns) (y0 := .scr) (y1 := a1) (y2 := a2) (y3 := a3) (y4 := a4) (y5 := a5) (y6 := a6) (y7 := a7) (y10 := .val (.list dueV)) (y11 := a11) dead2 (get_last hc2)
  rw [hs2] at tv
  refine ⟨_, run_valT (env := [.scr, a1, a2, a3, a4, a5, a6, a7, .val one, .val (.list hs), .val (.list dueV), a11]) (st' := (st2 ++ [MO.lst hs]).set (c + 2) .dead) ?_ dead2⟩
  show g_law_k01 ns ⟨[.scr, .un, .un, .un, .un, .un, .un, .un, .un, .un, .un, .un], []⟩ = _
  unfold g_law_k01
  refine seqS_next (s' := ⟨[.scr, a1, a2, a3, a4, a5, a6, a7, a8, a9, a10, a11], st⟩) ?_ ?_
  · simp only [forS, bE, fz, var, kst, op2, op1, lift1, lift2, rd, EV.frz, toB, ofB, andV, orV, andT, orT, ifV, chain, aNil, aCons, toSV, callV, withVals, valsOf, callT, withTops, rds, seqS, bS, retS, exprS, setF, setC, storeF, storeC, ifS, asgS, bName, bNil, bCons, bTup, parS, skip, asD, listD, tupD, seqD, mkTup, mkLst, notV, notT, yesT, raiseS, iOp, cOp, negD, isiD, tyName, isiB, List.getElem?_cons_zero, List.getElem?_cons_succ, List.getElem?_nil, List.set_cons_zero, List.set_cons_succ, List.length_cons, List.length_nil, List.replicate, List.cons_append, List.nil_append, List.append_nil, if_true, if_false, Option.map_some, Option.map_none, lenScr, minD, hm, addD, r1, e1]
  refine seqS_next (s' := ⟨[.scr, a1, a2, a3, a4, a5, a6, a7, .val one, a9, a10, a11], st⟩) ?_ ?_
  · simp [bE, fz, var, kst, op2, op1, lift1, lift2, rd, EV.frz, toB, ofB, andV, orV, andT, orT, ifV, chain, aNil, aCons, toSV, callV, withVals, valsOf, callT, withTops, rds, seqS, bS, retS, exprS, setF, setC, storeF, storeC, ifS, asgS, bName, bNil, bCons, bTup, parS, skip, asD, listD, tupD, seqD, mkTup, mkLst, notV, notT, yesT, raiseS, iOp, cOp, negD, isiD, tyName, isiB, List.getElem?_cons_zero, List.getElem?_cons_succ, List.getElem?_nil, List.set_cons_zero, List.set_cons_succ, List.length_cons, List.length_nil, List.replicate, List.cons_append, List.nil_append, List.append_nil, if_true, if_false, Option.map_some, Option.map_none, one]
  refine seqS_next (s' := ⟨[.scr, a1, a2, a3, a4, a5, a6, a7, .val one, .cell c, a10, a11], st ++ [M1]⟩) ?_ ?_
  · rw [← hM1, ← z1, ← z2, ← z3, ← z4, ← z5, ← z6]
    simp [bE, fz, var, kst, op2, op1, lift1, lift2, rd, EV.frz, toB, ofB, andV, orV, andT, orT, ifV, chain, aNil, aCons, toSV, callV, withVals, valsOf, callT, withTops, rds, seqS, bS, retS, exprS, setF, setC, storeF, storeC, ifS, asgS, bName, bNil, bCons, bTup, parS, skip, asD, listD, tupD, seqD, mkTup, mkLst, notV, notT, yesT, raiseS, iOp, cOp, negD, isiD, tyName, isiB, List.getElem?_cons_zero, List.getElem?_cons_succ, List.getElem?_nil, List.set_cons_zero, List.set_cons_succ, List.length_cons, List.length_nil, List.replicate, List.cons_append, List.nil_append, List.append_nil, if_true, if_false, Option.map_some, Option.map_none, storeC, hc, one, v1, v2, v3, v4, v5, v6]
  rw [hs1]
  refine seqS_next (s' := ⟨[.scr, a1, a2, a3, a4, a5, a6, a7, .val one, .cell (c + 1), a10, a11], st1 ++ [MO.lst [V1, V2, V3, V4, V5, V6, V7, V8, V9]]⟩) ?_ ?_
  · have b7 : PyData.tuple [.int 4, .tuple [.tuple [.tuple [.int 6, .int 6, .int 6, .int 6], .tuple [.int 0, .int 0, .int 0, .int 0]]]] = V7 := z7
    have b8 : PyData.tuple [.int 2, .tuple [.tuple [.tuple [.int 7, .int 0], .tuple [.int 0, .int 1]]]] = V8 := z8
    have b9 : PyData.tuple [.int 5, .tuple [.tuple [.tuple [.int 1, .int 1, .int 1, .int 1, .int 1], .tuple [.int 0, .int 0, .int 0, .int 0, .int 0]]]] = V9 := z9
    have o0 : (0 ≤ 1000000) = True := eq_true (by decide)
    have o1 : (0 + 1 ≤ 1000000) = True := eq_true (by decide)
    have o2 : (0 + 1 + 1 ≤ 1000000) = True := eq_true (by decide)
    have o3 : (0 + 1 + 1 + 1 ≤ 1000000) = True := eq_true (by decide)
    simp only [bE, fz, var, kst, op2, op1, lift1, lift2, rd, EV.frz, toB, ofB, andV, orV, andT, orT, ifV, chain, aNil, aCons, toSV, callV, withVals, valsOf, callT, withTops, rds, seqS, bS, retS, exprS, setF, setC, storeF, storeC, ifS, asgS, bName, bNil, bCons, bTup, parS, skip, asD, listD, tupD, seqD, mkTup, mkLst, notV, notT, yesT, raiseS, iOp, cOp, negD, isiD, tyName, isiB, List.getElem?_cons_zero, List.getElem?_cons_succ, List.getElem?_nil, List.set_cons_zero, List.set_cons_succ, List.length_cons, List.length_nil, List.replicate, List.cons_append, List.nil_append, List.append_nil, if_true, if_false, Option.map_some, Option.map_none, m1, m2, m3, m4, o0, o1, o2, o3, b7, b8, b9, get1, ad, storeC, hc1]
  refine seqS_next (s' := ⟨[.scr, a1, a2, a3, a4, a5, a6, a7, .val one, .cell (c + 1), a10, a11], st1 ++ [MO.lst [V1, V2, V3, V4, V5, V6, V7, V8, V9, V10]]⟩) ?_ ?_
  · have b10 : PyData.tuple [.int 1, .tuple [.tuple [.tuple [.int 1], .tuple [.int 0]], .tuple [.tuple [.int 2], .tuple [.int 0]], .tuple [.tuple [.int 3], .tuple [.int 0]], .tuple [.tuple [.int 4], .tuple [.int 0]], .tuple [.tuple [.int 5], .tuple [.int 0]]]] = V10 := z10
    simp [bE, fz, var, kst, op2, op1, lift1, lift2, rd, EV.frz, toB, ofB, andV, orV, andT, orT, ifV, chain, aNil, aCons, toSV, callV, withVals, valsOf, callT, withTops, rds, seqS, bS, retS, exprS, setF, setC, storeF, storeC, ifS, asgS, bName, bNil, bCons, bTup, parS, skip, asD, listD, tupD, seqD, mkTup, mkLst, notV, notT, yesT, raiseS, iOp, cOp, negD, isiD, tyName, isiB, List.getElem?_cons_zero, List.getElem?_cons_succ, List.getElem?_nil, List.set_cons_zero, List.set_cons_succ, List.length_cons, List.length_nil, List.replicate, List.cons_append, List.nil_append, List.append_nil, if_true, if_false, Option.map_some, Option.map_none, appE, get_last hc1, set_last hc1, c4_eq, tupleD, b10]
  have hvs : vs = [V1, V2, V3, V4, V5, V6, V7, V8, V9, V10, V11] := by
    rw [← z1, ← z2, ← z3, ← z4, ← z5, ← z6, ← z7, ← z8, ← z9, ← z10, ← z11] <;> rfl
  refine seqS_next (s' := ⟨[.scr, a1, a2, a3, a4, a5, a6, a7, .val one, .cell (c + 1), a10, a11], st1 ++ [MO.lst vs]⟩) ?_ ?_
  · have b11 : PyData.tuple [.int 1, .tuple [.tuple [.tuple [.int 1], .tuple [.int 0]], .tuple [.tuple [.int 1], .tuple [.int 2]], .tuple [.tuple [.int 1], .tuple [.int 3]], .tuple [.tuple [.int 1], .tuple [.int 4]], .tuple [.tuple [.int 1], .tuple [.int 5]], .tuple [.tuple [.int 1], .tuple [.int 6]]]] = V11 := z11
    rw [hvs]
    simp [bE, fz, var, kst, op2, op1, lift1, lift2, rd, EV.frz, toB, ofB, andV, orV, andT, orT, ifV, chain, aNil, aCons, toSV, callV, withVals, valsOf, callT, withTops, rds, seqS, bS, retS, exprS, setF, setC, storeF, storeC, ifS, asgS, bName, bNil, bCons, bTup, parS, skip, asD, listD, tupD, seqD, mkTup, mkLst, notV, notT, yesT, raiseS, iOp, cOp, negD, isiD, tyName, isiB, List.getElem?_cons_zero, List.getElem?_cons_succ, List.getElem?_nil, List.set_cons_zero, List.set_cons_succ, List.length_cons, List.length_nil, List.replicate, List.cons_append, List.nil_append, List.append_nil, if_true, if_false, Option.map_some, Option.map_none, appE, get_last hc1, set_last hc1, c5_eq, tupleD, b11]
  refine seqS_next (s' := ⟨[.scr, a1, a2, a3, a4, a5, a6, a7, .val one, .cell (c + 1), .val (.list dueV), a11], st1 ++ [MO.lst vs]⟩) ?_ ?_
  · simp [bE, fz, var, kst, op2, op1, lift1, lift2, rd, EV.frz, toB, ofB, andV, orV, andT, orT, ifV, chain, aNil, aCons, toSV, callV, withVals, valsOf, callT, withTops, rds, seqS, bS, retS, exprS, setF, setC, storeF, storeC, ifS, asgS, bName, bNil, bCons, bTup, parS, skip, asD, listD, tupD, seqD, mkTup, mkLst, notV, notT, yesT, raiseS, iOp, cOp, negD, isiD, tyName, isiB, List.getElem?_cons_zero, List.getElem?_cons_succ, List.getElem?_nil, List.set_cons_zero, List.set_cons_succ, List.length_cons, List.length_nil, List.replicate, List.cons_append, List.nil_append, List.append_nil, if_true, if_false, Option.map_some, Option.map_none, mf, q1, q2]
  refine seqS_next (s' := ⟨[.scr, a1, a2, a3, a4, a5, a6, a7, .val one, .val (.list vs), .val (.list dueV), a11], st2⟩) ?_ ?_
  · simp [bE, fz, var, kst, op2, op1, lift1, lift2, rd, EV.frz, toB, ofB, andV, orV, andT, orT, ifV, chain, aNil, aCons, toSV, callV, withVals, valsOf, callT, withTops, rds, seqS, bS, retS, exprS, setF, setC, storeF, storeC, ifS, asgS, bName, bNil, bCons, bTup, parS, skip, asD, listD, tupD, seqD, mkTup, mkLst, notV, notT, yesT, raiseS, iOp, cOp, negD, isiD, tyName, isiB, List.getElem?_cons_zero, List.getElem?_cons_succ, List.getElem?_nil, List.set_cons_zero, List.set_cons_succ, List.length_cons, List.length_nil, List.replicate, List.cons_append, List.nil_append, List.append_nil, if_true, if_false, Option.map_some, Option.map_none, tv, n6]
  refine seqS_next (s' := ⟨[.scr, a1, a2, a3, a4, a5, a6, a7, .val one, .cell (c + 2), .val (.list dueV), a11], st2 ++ [MO.lst hs]⟩) ?_ ?_
  · simp [bE, fz, var, kst, op2, op1, lift1, lift2, rd, EV.frz, toB, ofB, andV, orV, andT, orT, ifV, chain, aNil, aCons, toSV, callV, withVals, valsOf, callT, withTops, rds, seqS, bS, retS, exprS, setF, setC, storeF, storeC, ifS, asgS, bName, bNil, bCons, bTup, parS, skip, asD, listD, tupD, seqD, mkTup, mkLst, notV, notT, yesT, raiseS, iOp, cOp, negD, isiD, tyName, isiB, List.getElem?_cons_zero, List.getElem?_cons_succ, List.getElem?_nil, List.set_cons_zero, List.set_cons_succ, List.length_cons, List.length_nil, List.replicate, List.cons_append, List.nil_append, List.append_nil, if_true, if_false, Option.map_some, Option.map_none, storeC, hc2, p30, g30, hs, h1, h2, h3, h4, h5, h6, h7, h8]
  have bh : [PyData.bool true, .bool true, .bool false, .bool false, .bool false, .bool false, .bool false, .bool false] = dueH := rfl
  have ln : dueH.length ≤ 1000000 := by decide
  simp [bE, fz, var, kst, op2, op1, lift1, lift2, rd, EV.frz, toB, ofB, andV, orV, andT, orT, ifV, chain, aNil, aCons, toSV, callV, withVals, valsOf, callT, withTops, rds, seqS, bS, retS, exprS, setF, setC, storeF, storeC, ifS, asgS, bName, bNil, bCons, bTup, parS, skip, asD, listD, tupD, seqD, mkTup, mkLst, notV, notT, yesT, raiseS, iOp, cOp, negD, isiD, tyName, isiB, List.getElem?_cons_zero, List.getElem?_cons_succ, List.getElem?_nil, List.set_cons_zero, List.set_cons_succ, List.length_cons, List.length_nil, List.replicate, List.cons_append, List.nil_append, List.append_nil, if_true, if_false, Option.map_some, Option.map_none, th, bh, ln, n7]
set_option maxHeartbeats 4000000
namespace K01
open PySem PySem.Spec PyProof.Rows L2 DL
def topS (i : Nat) : Stmt := PySem.Challenge.pw_eachorder_k01_books_and_heaps_recognized.main.body.getD i (.Pass ⟨0, 0, 0, 0⟩)
abbrev s_is_from : Stmt := topS 7
abbrev s_is_counts : Stmt := topS 8
abbrev s_has_rule : Stmt := topS 9
abbrev s_is_unlike : Stmt := topS 10
abbrev s_has_book : Stmt := topS 11
abbrev s_is_book : Stmt := topS 12
abbrev s_need_book : Stmt := topS 13
abbrev s_has_heap : Stmt := topS 14
abbrev s_is_heap : Stmt := topS 15
abbrev s__law_source : Stmt := topS 17
abbrev s__law_draw : Stmt := topS 18
abbrev s__law_choice : Stmt := topS 19
abbrev s__law_from : Stmt := topS 20
abbrev s__law_heap : Stmt := topS 21
abbrev s__law_rule : Stmt := topS 22
abbrev s__law_book : Stmt := topS 23
abbrev s__law_is_counts : Stmt := topS 24
abbrev s__law_is_book : Stmt := topS 25
abbrev s__law_bent : Stmt := topS 26
abbrev s__law_told : Stmt := topS 27
abbrev s_law : Stmt := topS 28
structure Tx (K : PySem.W.Frag) (mg : Str → Option Value) where
  ec : Str → Addr
  is_from : FT K mg "is_from" s_is_from ["value", "low", "high"]
  is_counts : FT K mg "is_counts" s_is_counts ["value", "kinds", "most"]
  has_rule : FT K mg "has_rule" s_has_rule ["kinds", "value"]
  is_unlike : FT K mg "is_unlike" s_is_unlike ["some"]
  has_book : FT K mg "has_book" s_has_book ["value"]
  is_book : FT K mg "is_book" s_is_book ["value"]
  need_book : FT K mg "need_book" s_need_book ["value"]
  has_heap : FT K mg "has_heap" s_has_heap ["book", "value"]
  is_heap : FT K mg "is_heap" s_is_heap ["book", "value"]
  _law_source : FT K mg "_law_source" s__law_source ["script", "k"]
  _law_draw : FT K mg "_law_draw" s__law_draw ["source", "many"]
  _law_choice : FT K mg "_law_choice" s__law_choice ["source", "some"]
  _law_from : FT K mg "_law_from" s__law_from ["value", "low", "high"]
  _law_heap : FT K mg "_law_heap" s__law_heap ["source", "kinds", "most"]
  _law_rule : FT K mg "_law_rule" s__law_rule ["source", "kinds"]
  _law_book : FT K mg "_law_book" s__law_book ["source", "most"]
  _law_is_counts : FT K mg "_law_is_counts" s__law_is_counts ["kinds", "most", "value"]
  _law_is_book : FT K mg "_law_is_book" s__law_is_book ["value"]
  _law_bent : FT K mg "_law_bent" s__law_bent ["source", "value"]
  _law_told : FT K mg "_law_told" s__law_told ["book", "value"]
  law : FT K mg "law" s_law ["script"]
  z_abs : mg "abs" = none
  z_all : mg "all" = none
  z_bool : mg "bool" = none
  z_enumerate : mg "enumerate" = none
  z_int : mg "int" = none
  z_isinstance : mg "isinstance" = none
  z_len : mg "len" = none
  z_list : mg "list" = none
  z_min : mg "min" = none
  z_range : mg "range" = none
  z_set : mg "set" = none
  z_sum : mg "sum" = none
  z_tuple : mg "tuple" = none
  c_GREAT : ∃ t, mg "GREAT" = some (.int 1000000000000000000000000000000 t)
  c_MOST_COUNT : ∃ t, mg "MOST_COUNT" = some (.int 6 t)
  c_MOST_RULES : ∃ t, mg "MOST_RULES" = some (.int 5 t)
  e_InvalidBook : CT K mg "InvalidBook" (ec "InvalidBook")
def Tx.tabs {K : PySem.W.Frag} {mg : Str → Option Value} (T : Tx K mg) : List (Addr × Str) := []
theorem sc_is_from : FnScope ["value", "low", "high"] ["value", "low", "high"] (defScope s_is_from) := ⟨rfl, rfl, rfl, by decide +kernel, rfl, by decide +kernel, by decide +kernel⟩
theorem ok_is_from {P : Program} {w : World} {K : PySem.W.Frag} {mg : Str → Option Value} {base : Heap} {c : DL.Ctx} {sa : Addr} {ns : List Int} (T : Tx K mg) (hc : COk T.ec T.tabs sa ns c) : FnOk P w K mg base (L2.CX P w) 1 T.is_from.a T.is_from.fd ["value", "low", "high"] (spF K c 3 (PF.f_is_from)) :=
  def_ok T.is_from.F sc_is_from (by decide) fun cdv A outer s H E hr => ⟨_, (db_one (ds_ret (de_and (k_de_isi (K := K) (T := "int") (by decide) (by rfl) T.z_isinstance (de_var 0) (by rfl) T.z_int (by decide +kernel)) (de_and (de_not (k_de_isi (K := K) (T := "bool") (by decide) (by rfl) T.z_isinstance (de_var 0) (by rfl) T.z_bool (by decide +kernel))) (de_one (de_chain op_le p_cOp op_le p_cOp (de_var 1) (de_var 0) (de_var 2)))))))⟩
theorem sc_is_counts : FnScope ["value", "kinds", "most", "count"] ["value", "kinds", "most"] (defScope s_is_counts) := ⟨rfl, rfl, rfl, by decide +kernel, rfl, by decide +kernel, by decide +kernel⟩
theorem ok_is_counts {P : Program} {w : World} {K : PySem.W.Frag} {mg : Str → Option Value} {base : Heap} {c : DL.Ctx} {sa : Addr} {ns : List Int} (T : Tx K mg) (hc : COk T.ec T.tabs sa ns c) : FnOk P w K mg base (L2.CX P w) 2 T.is_counts.a T.is_counts.fd ["value", "kinds", "most"] (spF K c 3 (PF.f_is_counts)) :=
  def_ok T.is_counts.F sc_is_counts (by decide) fun cdv A outer s H E hr => ⟨_, (db_one (ds_ret (de_and (k_de_isi (K := K) (T := "tuple") (by decide) (by rfl) T.z_isinstance (de_var 0) (by rfl) T.z_tuple (by decide +kernel)) (de_and (de_cmp (okEq (K := K) hr.units) pkEq (de_callB (ckLen (K := K)) pkLen (by rfl) T.z_len boot_len (da_cons (de_var 0) da_nil)) (de_var 1) rfl) (de_one (de_callB (ckAll (K := K) rfl) pkAll (by rfl) T.z_all (by decide +kernel) (da_cons (de_lc rfl sc_is_counts.nd (by decide) (k_di_tup (K := K) (de_var 0)) (own := [("count", 3)]) (blkOk_by (by kernel_rfl)) (fun _ _ _ _ _ => (dg_name (i := 3) sc_is_counts.nd rfl (by first | exact Or.inl rfl | exact Or.inr rfl))) (fun _ _ _ _ _ => dts_nil) (fun _ _ _ _ _ => (de_call (ok_is_from T hc) (hr.mono (by decide)) (by rfl) T.is_from.m T.is_from.F.kp T.is_from.b takes0 (da_cons (de_var 3) (da_cons de_int (da_cons (de_var 2) da_nil)))))) da_nil)))))))⟩
theorem sc_has_rule : FnScope ["kinds", "value", "part"] ["kinds", "value"] (defScope s_has_rule) := ⟨rfl, rfl, rfl, by decide +kernel, rfl, by decide +kernel, by decide +kernel⟩
theorem ok_has_rule {P : Program} {w : World} {K : PySem.W.Frag} {mg : Str → Option Value} {base : Heap} {c : DL.Ctx} {sa : Addr} {ns : List Int} (T : Tx K mg) (hc : COk T.ec T.tabs sa ns c) : FnOk P w K mg base (L2.CX P w) 3 T.has_rule.a T.has_rule.fd ["kinds", "value"] (spF K c 2 (PF.f_has_rule)) :=
  def_ok T.has_rule.F sc_has_rule (by decide) fun cdv A outer s H E hr => ⟨_, (db_cons (ds_if (DW.dt (dw_or (dt_not (dt_val (k_de_isi (K := K) (T := "tuple") (by decide) (by rfl) T.z_isinstance (de_var 1) (by rfl) T.z_tuple (by decide +kernel)))) (dw_or1 (dt_cmp (okNe (K := K) hr.units) pkNe (de_callB (ckLen (K := K)) pkLen (by rfl) T.z_len boot_len (da_cons (de_var 1) da_nil)) de_int rfl)))) (db_one (ds_ret de_bl)) db_nil) (db_cons (ds_if (dt_not (dt_val (de_callB (ckAll (K := K) rfl) pkAll (by rfl) T.z_all (by decide +kernel) (da_cons (de_lc rfl sc_has_rule.nd (by decide) (k_di_tup (K := K) (de_var 1)) (own := [("part", 2)]) (blkOk_by (by kernel_rfl)) (fun _ _ _ _ _ => (dg_name (i := 2) sc_has_rule.nd rfl (by first | exact Or.inl rfl | exact Or.inr rfl))) (fun _ _ _ _ _ => dts_nil) (fun _ _ _ _ _ => (de_call (ok_is_counts T hc) (hr.mono (by decide)) (by rfl) T.is_counts.m T.is_counts.F.kp T.is_counts.b takes0 (da_cons (de_var 2) (da_cons (de_var 0) (da_cons (de_gint T.c_MOST_COUNT (by rfl)) da_nil)))))) da_nil)))) (db_one (ds_ret de_bl)) db_nil) (db_one (ds_ret (de_and (de_cmp op_gt p_cOp (de_callB (ckSum (K := K) rfl) pkSum (by rfl) T.z_sum (by decide +kernel) (da_cons (de_ix (okIx (K := K)) pkIx (de_var 1) de_int (fun _ _ => rfl)) da_nil)) de_int rfl) (de_one (de_cmp (okNe (K := K) hr.units) pkNe (de_ix (okIx (K := K)) pkIx (de_var 1) de_int (fun _ _ => rfl)) (de_ix (okIx (K := K)) pkIx (de_var 1) de_int (fun _ _ => rfl)) rfl)))))))⟩
theorem sc_is_unlike : FnScope ["some", "at", "one"] ["some"] (defScope s_is_unlike) := ⟨rfl, rfl, rfl, by decide +kernel, rfl, by decide +kernel, by decide +kernel⟩
theorem ok_is_unlike {P : Program} {w : World} {K : PySem.W.Frag} {mg : Str → Option Value} {base : Heap} {c : DL.Ctx} {sa : Addr} {ns : List Int} (T : Tx K mg) (hc : COk T.ec T.tabs sa ns c) : FnOk P w K mg base (L2.CX P w) 1 T.is_unlike.a T.is_unlike.fd ["some"] (spF K c 1 (PF.f_is_unlike)) :=
  def_ok T.is_unlike.F sc_is_unlike (by decide) fun cdv A outer s H E hr => ⟨_, (db_one (ds_ret (de_callB (ckAll (K := K) rfl) pkAll (by rfl) T.z_all (by decide +kernel) (da_cons (de_lc rfl sc_is_unlike.nd (by decide) (k_di_enum (K := K) (by rfl) T.z_enumerate (da_cons (de_var 0) da_nil)) (own := [("at", 1), ("one", 2)]) (blkOk_by (by kernel_rfl)) (fun _ _ _ _ _ => (k_dg_tup (K := K) rfl (dgs_cons (dg_name (i := 1) sc_is_unlike.nd rfl (by first | exact Or.inl rfl | exact Or.inr rfl)) (dgs_cons (dg_name (i := 2) sc_is_unlike.nd rfl (by first | exact Or.inl rfl | exact Or.inr rfl)) dgs_nil)))) (fun _ _ _ _ _ => dts_nil) (fun _ _ _ _ _ => (de_cmp (okNotIn (K := K) (hu_in hr)) pkNotIn (de_var 2) (k_de_slice (K := K) (de_var 0) dp_none (dp_some (de_var 1))) rfl))) da_nil))))⟩
theorem sc_has_book : FnScope ["value", "kinds", "rules", "rule"] ["value"] (defScope s_has_book) := ⟨rfl, rfl, rfl, by decide +kernel, rfl, by decide +kernel, by decide +kernel⟩
theorem ok_has_book {P : Program} {w : World} {K : PySem.W.Frag} {mg : Str → Option Value} {base : Heap} {c : DL.Ctx} {sa : Addr} {ns : List Int} (T : Tx K mg) (hc : COk T.ec T.tabs sa ns c) : FnOk P w K mg base (L2.CX P w) 4 T.has_book.a T.has_book.fd ["value"] (spF K c 1 (PF.f_has_book)) :=
  def_ok T.has_book.F sc_has_book (by decide) fun cdv A outer s H E hr => ⟨_, (db_cons (ds_if (DW.dt (dw_or (dt_not (dt_val (k_de_isi (K := K) (T := "tuple") (by decide) (by rfl) T.z_isinstance (de_var 0) (by rfl) T.z_tuple (by decide +kernel)))) (dw_or (dt_cmp (okNe (K := K) hr.units) pkNe (de_callB (ckLen (K := K)) pkLen (by rfl) T.z_len boot_len (da_cons (de_var 0) da_nil)) de_int rfl) (dw_or1 (dt_not (dt_val (de_call (ok_is_from T hc) (hr.mono (by decide)) (by rfl) T.is_from.m T.is_from.F.kp T.is_from.b (takes_of rfl rfl rfl rfl) (da_cons (de_ix (okIx (K := K)) pkIx (de_var 0) de_int (fun _ _ => rfl)) (da_cons de_int (da_cons de_int da_nil)))))))))) (db_one (ds_ret de_bl)) db_nil) (db_cons (ds_asg (de_var 0) (k_dg_tup (K := K) rfl (dgs_cons (dg_name (i := 1) sc_has_book.nd rfl (by first | exact Or.inl rfl | exact Or.inr rfl)) (dgs_cons (dg_name (i := 2) sc_has_book.nd rfl (by first | exact Or.inl rfl | exact Or.inr rfl)) dgs_nil)))) (db_cons (ds_if (DW.dt (dw_or (dt_not (dt_val (k_de_isi (K := K) (T := "tuple") (by decide) (by rfl) T.z_isinstance (de_var 2) (by rfl) T.z_tuple (by decide +kernel)))) (dw_or1 (dt_not (dt_chain op_le p_cOp op_le p_cOp de_int (de_callB (ckLen (K := K)) pkLen (by rfl) T.z_len boot_len (da_cons (de_var 2) da_nil)) (de_gint T.c_MOST_RULES (by rfl))))))) (db_one (ds_ret de_bl)) db_nil) (db_one (ds_ret (de_and (de_callB (ckAll (K := K) rfl) pkAll (by rfl) T.z_all (by decide +kernel) (da_cons (de_lc rfl sc_has_book.nd (by decide) (k_di_tup (K := K) (de_var 2)) (own := [("rule", 3)]) (blkOk_by (by kernel_rfl)) (fun _ _ _ _ _ => (dg_name (i := 3) sc_has_book.nd rfl (by first | exact Or.inl rfl | exact Or.inr rfl))) (fun _ _ _ _ _ => dts_nil) (fun _ _ _ _ _ => (de_call (ok_has_rule T hc) (hr.mono (by decide)) (by rfl) T.has_rule.m T.has_rule.F.kp T.has_rule.b takes0 (da_cons (de_var 1) (da_cons (de_var 3) da_nil))))) da_nil)) (de_one (de_call (ok_is_unlike T hc) (hr.mono (by decide)) (by rfl) T.is_unlike.m T.is_unlike.F.kp T.is_unlike.b (takes_of rfl rfl rfl rfl) (da_cons (de_var 2) da_nil)))))))))⟩
theorem sc_is_book : FnScope ["value"] ["value"] (defScope s_is_book) := ⟨rfl, rfl, rfl, by decide +kernel, rfl, by decide +kernel, by decide +kernel⟩
theorem ok_is_book {P : Program} {w : World} {K : PySem.W.Frag} {mg : Str → Option Value} {base : Heap} {c : DL.Ctx} {sa : Addr} {ns : List Int} (T : Tx K mg) (hc : COk T.ec T.tabs sa ns c) : FnOk P w K mg base (L2.CX P w) 5 T.is_book.a T.is_book.fd ["value"] (spF K c 1 (PF.f_is_book)) :=
  def_ok T.is_book.F sc_is_book (by decide) fun cdv A outer s H E hr => ⟨_, (db_one (ds_ret (de_call (ok_has_book T hc) (hr.mono (by decide)) (by rfl) T.has_book.m T.has_book.F.kp T.has_book.b (takes_of rfl rfl rfl rfl) (da_cons (de_var 0) da_nil))))⟩
theorem sc_need_book : FnScope ["value"] ["value"] (defScope s_need_book) := ⟨rfl, rfl, rfl, by decide +kernel, rfl, by decide +kernel, by decide +kernel⟩
theorem ok_need_book {P : Program} {w : World} {K : PySem.W.Frag} {mg : Str → Option Value} {base : Heap} {c : DL.Ctx} {sa : Addr} {ns : List Int} (T : Tx K mg) (hc : COk T.ec T.tabs sa ns c) : FnOk P w K mg base (L2.CX P w) 5 T.need_book.a T.need_book.fd ["value"] (spF K c 1 (PF.f_need_book)) :=
  def_ok T.need_book.F sc_need_book (by decide) fun cdv A outer s H E hr => ⟨_, (db_one (ds_if (dt_not (dt_val (de_call (ok_has_book T hc) (hr.mono (by decide)) (by rfl) T.has_book.m T.has_book.F.kp T.has_book.b (takes_of rfl rfl rfl rfl) (da_cons (de_var 0) da_nil)))) (db_one (ds_raiseO T.e_InvalidBook hc.ec rfl (takes_of rfl rfl rfl rfl) (by rfl))) db_nil))⟩
theorem sc_has_heap : FnScope ["book", "value"] ["book", "value"] (defScope s_has_heap) := ⟨rfl, rfl, rfl, by decide +kernel, rfl, by decide +kernel, by decide +kernel⟩
theorem ok_has_heap {P : Program} {w : World} {K : PySem.W.Frag} {mg : Str → Option Value} {base : Heap} {c : DL.Ctx} {sa : Addr} {ns : List Int} (T : Tx K mg) (hc : COk T.ec T.tabs sa ns c) : FnOk P w K mg base (L2.CX P w) 3 T.has_heap.a T.has_heap.fd ["book", "value"] (spF K c 2 (PF.f_has_heap)) :=
  def_ok T.has_heap.F sc_has_heap (by decide) fun cdv A outer s H E hr => ⟨_, (db_one (ds_ret (de_call (ok_is_counts T hc) (hr.mono (by decide)) (by rfl) T.is_counts.m T.is_counts.F.kp T.is_counts.b (takes_of rfl rfl rfl rfl) (da_cons (de_var 1) (da_cons (de_ix (okIx (K := K)) pkIx (de_var 0) de_int (fun _ _ => rfl)) (da_cons (de_gint T.c_GREAT (by rfl)) da_nil))))))⟩
theorem sc_is_heap : FnScope ["book", "value"] ["book", "value"] (defScope s_is_heap) := ⟨rfl, rfl, rfl, by decide +kernel, rfl, by decide +kernel, by decide +kernel⟩
theorem ok_is_heap {P : Program} {w : World} {K : PySem.W.Frag} {mg : Str → Option Value} {base : Heap} {c : DL.Ctx} {sa : Addr} {ns : List Int} (T : Tx K mg) (hc : COk T.ec T.tabs sa ns c) : FnOk P w K mg base (L2.CX P w) 6 T.is_heap.a T.is_heap.fd ["book", "value"] (spF K c 2 (PF.f_is_heap)) :=
  def_ok T.is_heap.F sc_is_heap (by decide) fun cdv A outer s H E hr => ⟨_, (db_cons (ds_expr (de_call (ok_need_book T hc) (hr.mono (by decide)) (by rfl) T.need_book.m T.need_book.F.kp T.need_book.b (takes_of rfl rfl rfl rfl) (da_cons (de_var 0) da_nil))) (db_one (ds_ret (de_call (ok_has_heap T hc) (hr.mono (by decide)) (by rfl) T.has_heap.m T.has_heap.F.kp T.has_heap.b (takes_of rfl rfl rfl rfl) (da_cons (de_var 0) (da_cons (de_var 1) da_nil))))))⟩
theorem sc__law_source : FnScope ["script", "k", "cell"] ["script", "k"] (defScope s__law_source) := ⟨rfl, rfl, rfl, by decide +kernel, rfl, by decide +kernel, by decide +kernel⟩
theorem ok__law_source {P : Program} {w : World} {K : PySem.W.Frag} {mg : Str → Option Value} {base : Heap} {c : DL.Ctx} {sa : Addr} {ns : List Int} (T : Tx K mg) (hc : COk T.ec T.tabs sa ns c) : FnOk P w K mg base (L2.CX P w) 1 T._law_source.a T._law_source.fd ["script", "k"] (spF K c 2 (PF.f__law_source ns)) :=
  def_ok T._law_source.F sc__law_source (by decide) fun cdv A outer s H E hr => ⟨_, (db_cons (ds_setF (i := 2) sc__law_source.nd rfl (by first | exact Or.inl rfl | exact Or.inr rfl) (de_ifExp (dt_cmp op_lt p_cOp (de_var 1) (k_de_lenScr (K := K) hc.scr (by rfl) T.z_len rfl (by first | exact Or.inl rfl | exact Or.inr (Or.inl rfl) | exact Or.inr (Or.inr rfl))) rfl) (de_callB call_abs p_abs (by rfl) T.z_abs (by decide +kernel) (da_cons (de_callTy call_intA p_int (by rfl) T.z_int (by decide +kernel) (da_cons (k_de_ixScr (K := K) hc.scr (de_var 1) rfl (by first | exact Or.inl rfl | exact Or.inr (Or.inl rfl) | exact Or.inr (Or.inr rfl)) (fun _ _ => rfl)) da_nil)) da_nil)) (de_bin (okAdd (K := K)) pkAdd (de_bin (okMul (K := K)) pkMul de_int (de_var 1)) de_int))) (db_one (ds_ret (de_lst (da_cons (de_ifExp (dt_cmp op_gt p_cOp (de_var 2) (de_bin op_pow p_pow de_int de_int) rfl) (de_var 2) de_int) (da_cons (de_bin op_mod p_mod (de_callTy call_intA p_int (by rfl) T.z_int (by decide +kernel) (da_cons (de_bin (okAdd (K := K)) pkAdd (de_bin (okAdd (K := K)) pkAdd (de_bin (okMul (K := K)) pkMul (de_var 2) de_int) (de_bin (okMul (K := K)) pkMul de_int (de_var 1))) de_int) da_nil)) de_int) da_nil))))))⟩
theorem sc__law_draw : FnScope ["source", "many", "rest", "wide"] ["source", "many"] (defScope s__law_draw) := ⟨rfl, rfl, rfl, by decide +kernel, rfl, by decide +kernel, by decide +kernel⟩
theorem ok__law_draw {P : Program} {w : World} {K : PySem.W.Frag} {mg : Str → Option Value} {base : Heap} {c : DL.Ctx} {sa : Addr} {ns : List Int} (T : Tx K mg) (hc : COk T.ec T.tabs sa ns c) : FnOk P w K mg base (L2.CX P w) 1 T._law_draw.a T._law_draw.fd ["source", "many"] (spF K c 2 (PF.f__law_draw)) :=
  def_ok T._law_draw.F sc__law_draw (by decide) fun cdv A outer s H E hr => ⟨_, (db_cons (ds_if (dt_cmp op_gt p_cOp (de_ix (okIx (K := K)) pkIx (de_var 0) de_int (fun _ _ => rfl)) de_int rfl) (db_cons (ds_setF (i := 2) sc__law_draw.nd rfl (by first | exact Or.inl rfl | exact Or.inr rfl) (de_bin op_mod p_mod (de_callTy call_intA p_int (by rfl) T.z_int (by decide +kernel) (da_cons (de_ix (okIx (K := K)) pkIx (de_var 0) de_int (fun _ _ => rfl)) da_nil)) (de_var 1))) (db_cons (k_ds_setIx (K := K) (de_bin op_fdivW p_div (de_ix (okIx (K := K)) pkIx (de_var 0) de_int (fun _ _ => rfl)) (de_var 1)) de_int (i := 0) rfl (by first | exact Or.inl rfl | exact Or.inr (Or.inl rfl) | exact Or.inr (Or.inr rfl))) (db_one (ds_ret (de_var 2))))) db_nil) (db_cons (k_ds_setIx (K := K) (de_bin op_mod p_mod (de_callTy call_intA p_int (by rfl) T.z_int (by decide +kernel) (da_cons (de_bin (okAdd (K := K)) pkAdd (de_bin (okMul (K := K)) pkMul (de_ix (okIx (K := K)) pkIx (de_var 0) de_int (fun _ _ => rfl)) de_int) de_int) da_nil)) de_int) de_int (i := 0) rfl (by first | exact Or.inl rfl | exact Or.inr (Or.inl rfl) | exact Or.inr (Or.inr rfl))) (db_cons (ds_setF (i := 3) sc__law_draw.nd rfl (by first | exact Or.inl rfl | exact Or.inr rfl) (de_bin op_mod p_mod (de_callTy call_intA p_int (by rfl) T.z_int (by decide +kernel) (da_cons (de_bin (okMul (K := K)) pkMul (de_ix (okIx (K := K)) pkIx (de_var 0) de_int (fun _ _ => rfl)) (de_bin (okAdd (K := K)) pkAdd (de_bin op_fdivW p_div (de_ix (okIx (K := K)) pkIx (de_var 0) de_int (fun _ _ => rfl)) de_int) de_int)) da_nil)) de_int)) (db_one (ds_ret (de_bin op_mod p_mod (de_callTy call_intA p_int (by rfl) T.z_int (by decide +kernel) (da_cons (de_bin op_fdivW p_div (de_var 3) de_int) da_nil)) (de_var 1)))))))⟩
theorem sc__law_choice : FnScope ["source", "some"] ["source", "some"] (defScope s__law_choice) := ⟨rfl, rfl, rfl, by decide +kernel, rfl, by decide +kernel, by decide +kernel⟩
theorem ok__law_choice {P : Program} {w : World} {K : PySem.W.Frag} {mg : Str → Option Value} {base : Heap} {c : DL.Ctx} {sa : Addr} {ns : List Int} (T : Tx K mg) (hc : COk T.ec T.tabs sa ns c) : FnOk P w K mg base (L2.CX P w) 2 T._law_choice.a T._law_choice.fd ["source", "some"] (spF K c 2 (PF.f__law_choice)) :=
  def_ok T._law_choice.F sc__law_choice (by decide) fun cdv A outer s H E hr => ⟨_, (db_one (ds_ret (de_ix (okIx (K := K)) pkIx (de_var 1) (de_call (ok__law_draw T hc) (hr.mono (by decide)) (by rfl) T._law_draw.m T._law_draw.F.kp T._law_draw.b (takes_of rfl rfl rfl rfl) (da_cons (de_var 0) (da_cons (de_callB (ckLen (K := K)) pkLen (by rfl) T.z_len boot_len (da_cons (de_var 1) da_nil)) da_nil))) (fun _ _ => rfl))))⟩
theorem sc__law_from : FnScope ["value", "low", "high"] ["value", "low", "high"] (defScope s__law_from) := ⟨rfl, rfl, rfl, by decide +kernel, rfl, by decide +kernel, by decide +kernel⟩
theorem ok__law_from {P : Program} {w : World} {K : PySem.W.Frag} {mg : Str → Option Value} {base : Heap} {c : DL.Ctx} {sa : Addr} {ns : List Int} (T : Tx K mg) (hc : COk T.ec T.tabs sa ns c) : FnOk P w K mg base (L2.CX P w) 1 T._law_from.a T._law_from.fd ["value", "low", "high"] (spF K c 3 (PF.f__law_from)) :=
  def_ok T._law_from.F sc__law_from (by decide) fun cdv A outer s H E hr => ⟨_, (db_one (ds_ret (de_and (k_de_isi (K := K) (T := "int") (by decide) (by rfl) T.z_isinstance (de_var 0) (by rfl) T.z_int (by decide +kernel)) (de_and (de_not (k_de_isi (K := K) (T := "bool") (by decide) (by rfl) T.z_isinstance (de_var 0) (by rfl) T.z_bool (by decide +kernel))) (de_one (de_chain op_le p_cOp op_le p_cOp (de_var 1) (de_var 0) (de_var 2)))))))⟩
theorem sc__law_heap : FnScope ["source", "kinds", "most", "kind"] ["source", "kinds", "most"] (defScope s__law_heap) := ⟨rfl, rfl, rfl, by decide +kernel, rfl, by decide +kernel, by decide +kernel⟩
theorem ok__law_heap {P : Program} {w : World} {K : PySem.W.Frag} {mg : Str → Option Value} {base : Heap} {c : DL.Ctx} {sa : Addr} {ns : List Int} (T : Tx K mg) (hc : COk T.ec T.tabs sa ns c) : FnOk P w K mg base (L2.CX P w) 2 T._law_heap.a T._law_heap.fd ["source", "kinds", "most"] (spF K c 3 (PF.f__law_heap)) :=
  def_ok T._law_heap.F sc__law_heap (by decide) fun cdv A outer s H E hr => ⟨_, (db_one (ds_ret (de_callTy (ckTuple (K := K)) pkTuple (by rfl) T.z_tuple (by decide +kernel) (da_cons (de_lc rfl sc__law_heap.nd (by decide) (di_range1 (by rfl) T.z_range (da_cons (de_var 1) da_nil)) (own := [("kind", 3)]) (blkOk_by (by kernel_rfl)) (fun _ _ _ _ _ => (dg_name (i := 3) sc__law_heap.nd rfl (by first | exact Or.inl rfl | exact Or.inr rfl))) (fun _ _ _ _ _ => dts_nil) (fun _ _ _ _ _ => (de_call (ok__law_draw T hc) (hr.mono (by decide)) (by rfl) T._law_draw.m T._law_draw.F.kp T._law_draw.b takes0 (da_cons (de_var 0) (da_cons (de_bin (okAdd (K := K)) pkAdd (de_var 2) de_int) da_nil))))) da_nil))))⟩
theorem sc__law_rule : FnScope ["source", "kinds", "taken", "given", "kind"] ["source", "kinds"] (defScope s__law_rule) := ⟨rfl, rfl, rfl, by decide +kernel, rfl, by decide +kernel, by decide +kernel⟩
theorem ok__law_rule {P : Program} {w : World} {K : PySem.W.Frag} {mg : Str → Option Value} {base : Heap} {c : DL.Ctx} {sa : Addr} {ns : List Int} (T : Tx K mg) (hc : COk T.ec T.tabs sa ns c) : FnOk P w K mg base (L2.CX P w) 3 T._law_rule.a T._law_rule.fd ["source", "kinds"] (spF K c 2 (PF.f__law_rule)) :=
  def_ok T._law_rule.F sc__law_rule (by decide) fun cdv A outer s H E hr => ⟨_, (db_cons (ds_setF (i := 2) sc__law_rule.nd rfl (by first | exact Or.inl rfl | exact Or.inr rfl) (de_call (ok__law_heap T hc) (hr.mono (by decide)) (by rfl) T._law_heap.m T._law_heap.F.kp T._law_heap.b (takes_of rfl rfl rfl rfl) (da_cons (de_var 0) (da_cons (de_var 1) (da_cons de_int da_nil))))) (db_cons (ds_setF (i := 3) sc__law_rule.nd rfl (by first | exact Or.inl rfl | exact Or.inr rfl) (de_callTy (ckTuple (K := K)) pkTuple (by rfl) T.z_tuple (by decide +kernel) (da_cons (de_lc rfl sc__law_rule.nd (by decide) (di_range1 (by rfl) T.z_range (da_cons (de_var 1) da_nil)) (own := [("kind", 4)]) (blkOk_by (by kernel_rfl)) (fun _ _ _ _ _ => (dg_name (i := 4) sc__law_rule.nd rfl (by first | exact Or.inl rfl | exact Or.inr rfl))) (fun _ _ _ _ _ => dts_nil) (fun _ _ _ _ _ => (de_call (ok__law_choice T hc) (hr.mono (by decide)) (by rfl) T._law_choice.m T._law_choice.F.kp T._law_choice.b takes0 (da_cons (de_var 0) (da_cons (de_lst (da_cons de_int (da_cons de_int (da_cons de_int (da_cons de_int (da_cons de_int (da_cons de_int da_nil))))))) da_nil))))) da_nil))) (db_cons (ds_if (dt_cmp (okEq (K := K) hr.units) pkEq (de_callB (ckSum (K := K) rfl) pkSum (by rfl) T.z_sum (by decide +kernel) (da_cons (de_var 2) da_nil)) de_int rfl) (db_one (ds_setF (i := 2) sc__law_rule.nd rfl (by first | exact Or.inl rfl | exact Or.inr rfl) (de_bin (okMul (K := K)) pkMul (de_tup (da_cons de_int da_nil)) (de_var 1)))) db_nil) (db_cons (ds_if (DW.dt (dw_and (dt_cmp op_ge p_cOp (de_callB (ckSum (K := K) rfl) pkSum (by rfl) T.z_sum (by decide +kernel) (da_cons (de_var 3) da_nil)) (de_callB (ckSum (K := K) rfl) pkSum (by rfl) T.z_sum (by decide +kernel) (da_cons (de_var 2) da_nil)) rfl) (dw_and1 (dt_cmp op_gt p_cOp (de_call (ok__law_draw T hc) (hr.mono (by decide)) (by rfl) T._law_draw.m T._law_draw.F.kp T._law_draw.b (takes_of rfl rfl rfl rfl) (da_cons (de_var 0) (da_cons de_int da_nil))) de_int rfl)))) (db_one (ds_setF (i := 3) sc__law_rule.nd rfl (by first | exact Or.inl rfl | exact Or.inr rfl) (de_bin (okAdd (K := K)) pkAdd (de_bin (okMul (K := K)) pkMul (de_tup (da_cons de_int da_nil)) (de_bin op_sub p_sub (de_var 1) de_int)) (de_tup (da_cons de_int da_nil))))) db_nil) (db_one (ds_ret (de_ifExp (dt_cmp (okNe (K := K) hr.units) pkNe (de_var 2) (de_var 3) rfl) (de_tup (da_cons (de_var 2) (da_cons (de_var 3) da_nil))) (de_tup (da_cons (de_var 2) (da_cons (de_bin (okMul (K := K)) pkMul (de_tup (da_cons de_int da_nil)) (de_var 1)) da_nil))))))))))⟩
theorem sc__law_book : FnScope ["source", "most", "kinds", "found", "turn", "one"] ["source", "most"] (defScope s__law_book) := ⟨rfl, rfl, rfl, by decide +kernel, rfl, by decide +kernel, by decide +kernel⟩
theorem ok__law_book {P : Program} {w : World} {K : PySem.W.Frag} {mg : Str → Option Value} {base : Heap} {c : DL.Ctx} {sa : Addr} {ns : List Int} (T : Tx K mg) (hc : COk T.ec T.tabs sa ns c) : FnOk P w K mg base (L2.CX P w) 4 T._law_book.a T._law_book.fd ["source", "most"] (spF K c 2 (PF.f__law_book)) :=
  def_ok T._law_book.F sc__law_book (by decide) fun cdv A outer s H E hr => ⟨_, (db_cons (ds_par (i := 2) (j := 3) rfl sc__law_book.nd rfl rfl (by decide) rfl rfl (de_bin (okAdd (K := K)) pkAdd de_int (de_call (ok__law_draw T hc) (hr.mono (by decide)) (by rfl) T._law_draw.m T._law_draw.F.kp T._law_draw.b (takes_of rfl rfl rfl rfl) (da_cons (de_var 0) (da_cons de_int da_nil)))) (de_lst da_nil) (by rfl)) (db_cons (ds_for (passes_of rfl) rfl (di_range1 (by rfl) T.z_range (da_cons (de_bin (okAdd (K := K)) pkAdd de_int (de_call (ok__law_draw T hc) (hr.mono (by decide)) (by rfl) T._law_draw.m T._law_draw.F.kp T._law_draw.b (takes_of rfl rfl rfl rfl) (da_cons (de_var 0) (da_cons (de_var 1) da_nil)))) da_nil)) (dg_name (i := 4) sc__law_book.nd rfl (by first | exact Or.inl rfl | exact Or.inr rfl)) (db_cons (ds_setF (i := 5) sc__law_book.nd rfl (by first | exact Or.inl rfl | exact Or.inr rfl) (de_call (ok__law_rule T hc) (hr.mono (by decide)) (by rfl) T._law_rule.m T._law_rule.F.kp T._law_rule.b (takes_of rfl rfl rfl rfl) (da_cons (de_var 0) (da_cons (de_var 2) da_nil)))) (db_one (ds_if (dt_cmp (okNotIn (K := K) (hu_in hr)) pkNotIn (de_var 5) (de_var 3) rfl) (db_one (ds_expr (k_de_append (K := K) (de_var 5) (i := 3) rfl (by first | exact Or.inl rfl | exact Or.inr (Or.inl rfl) | exact Or.inr (Or.inr rfl))))) db_nil)))) (db_one (ds_ret (de_tup (da_cons (de_var 2) (da_cons (de_callTy (ckTuple (K := K)) pkTuple (by rfl) T.z_tuple (by decide +kernel) (da_cons (de_var 3) da_nil)) da_nil)))))))⟩
theorem sc__law_is_counts : FnScope ["kinds", "most", "value", "count"] ["kinds", "most", "value"] (defScope s__law_is_counts) := ⟨rfl, rfl, rfl, by decide +kernel, rfl, by decide +kernel, by decide +kernel⟩
theorem ok__law_is_counts {P : Program} {w : World} {K : PySem.W.Frag} {mg : Str → Option Value} {base : Heap} {c : DL.Ctx} {sa : Addr} {ns : List Int} (T : Tx K mg) (hc : COk T.ec T.tabs sa ns c) : FnOk P w K mg base (L2.CX P w) 2 T._law_is_counts.a T._law_is_counts.fd ["kinds", "most", "value"] (spF K c 3 (PF.f__law_is_counts)) :=
  def_ok T._law_is_counts.F sc__law_is_counts (by decide) fun cdv A outer s H E hr => ⟨_, (db_cons (ds_if (DW.dt (dw_or (dt_not (dt_val (k_de_isi (K := K) (T := "tuple") (by decide) (by rfl) T.z_isinstance (de_var 2) (by rfl) T.z_tuple (by decide +kernel)))) (dw_or1 (dt_cmp (okNe (K := K) hr.units) pkNe (de_callB (ckLen (K := K)) pkLen (by rfl) T.z_len boot_len (da_cons (de_var 2) da_nil)) (de_var 0) rfl)))) (db_one (ds_ret de_bl)) db_nil) (db_one (ds_ret (de_cmp (okEq (K := K) hr.units) pkEq (de_lc rfl sc__law_is_counts.nd (by decide) (k_di_tup (K := K) (de_var 2)) (own := [("count", 3)]) (blkOk_by (by kernel_rfl)) (fun _ _ _ _ _ => (dg_name (i := 3) sc__law_is_counts.nd rfl (by first | exact Or.inl rfl | exact Or.inr rfl))) (fun _ _ _ _ _ => (dts_one (dt_not (dt_val (de_call (ok__law_from T hc) (hr.mono (by decide)) (by rfl) T._law_from.m T._law_from.F.kp T._law_from.b takes0 (da_cons (de_var 3) (da_cons de_int (da_cons (de_var 1) da_nil)))))))) (fun _ _ _ _ _ => (de_var 3))) (de_lst da_nil) rfl))))⟩
theorem sc__law_is_book : FnScope ["value", "one"] ["value"] (defScope s__law_is_book) := ⟨rfl, rfl, rfl, by decide +kernel, rfl, by decide +kernel, by decide +kernel⟩
theorem ok__law_is_book {P : Program} {w : World} {K : PySem.W.Frag} {mg : Str → Option Value} {base : Heap} {c : DL.Ctx} {sa : Addr} {ns : List Int} (T : Tx K mg) (hc : COk T.ec T.tabs sa ns c) : FnOk P w K mg base (L2.CX P w) 3 T._law_is_book.a T._law_is_book.fd ["value"] (spF K c 1 (PF.f__law_is_book)) :=
  def_ok T._law_is_book.F sc__law_is_book (by decide) fun cdv A outer s H E hr => ⟨_, (db_cons (ds_if (DW.dt (dw_or (dt_not (dt_val (k_de_isi (K := K) (T := "tuple") (by decide) (by rfl) T.z_isinstance (de_var 0) (by rfl) T.z_tuple (by decide +kernel)))) (dw_or (dt_cmp (okNe (K := K) hr.units) pkNe (de_callB (ckLen (K := K)) pkLen (by rfl) T.z_len boot_len (da_cons (de_var 0) da_nil)) de_int rfl) (dw_or1 (dt_not (dt_val (de_call (ok__law_from T hc) (hr.mono (by decide)) (by rfl) T._law_from.m T._law_from.F.kp T._law_from.b (takes_of rfl rfl rfl rfl) (da_cons (de_ix (okIx (K := K)) pkIx (de_var 0) de_int (fun _ _ => rfl)) (da_cons de_int (da_cons de_int da_nil)))))))))) (db_one (ds_ret de_bl)) db_nil) (db_cons (ds_if (DW.dt (dw_or (dt_not (dt_val (k_de_isi (K := K) (T := "tuple") (by decide) (by rfl) T.z_isinstance (de_ix (okIx (K := K)) pkIx (de_var 0) de_int (fun _ _ => rfl)) (by rfl) T.z_tuple (by decide +kernel)))) (dw_or1 (dt_not (dt_chain op_lt p_cOp op_lt p_cOp de_int (de_callB (ckLen (K := K)) pkLen (by rfl) T.z_len boot_len (da_cons (de_ix (okIx (K := K)) pkIx (de_var 0) de_int (fun _ _ => rfl)) da_nil)) de_int))))) (db_one (ds_ret de_bl)) db_nil) (db_cons (ds_for (passes_of rfl) rfl (k_di_tup (K := K) (de_ix (okIx (K := K)) pkIx (de_var 0) de_int (fun _ _ => rfl))) (dg_name (i := 1) sc__law_is_book.nd rfl (by first | exact Or.inl rfl | exact Or.inr rfl)) (db_cons (ds_if (DW.dt (dw_or (dt_not (dt_val (k_de_isi (K := K) (T := "tuple") (by decide) (by rfl) T.z_isinstance (de_var 1) (by rfl) T.z_tuple (by decide +kernel)))) (dw_or1 (dt_cmp (okNe (K := K) hr.units) pkNe (de_callB (ckLen (K := K)) pkLen (by rfl) T.z_len boot_len (da_cons (de_var 1) da_nil)) de_int rfl)))) (db_one (ds_ret de_bl)) db_nil) (db_cons (ds_if (DW.dt (dw_or (dt_not (dt_val (de_call (ok__law_is_counts T hc) (hr.mono (by decide)) (by rfl) T._law_is_counts.m T._law_is_counts.F.kp T._law_is_counts.b (takes_of rfl rfl rfl rfl) (da_cons (de_ix (okIx (K := K)) pkIx (de_var 0) de_int (fun _ _ => rfl)) (da_cons de_int (da_cons (de_ix (okIx (K := K)) pkIx (de_var 1) de_int (fun _ _ => rfl)) da_nil)))))) (dw_or1 (dt_not (dt_val (de_call (ok__law_is_counts T hc) (hr.mono (by decide)) (by rfl) T._law_is_counts.m T._law_is_counts.F.kp T._law_is_counts.b (takes_of rfl rfl rfl rfl) (da_cons (de_ix (okIx (K := K)) pkIx (de_var 0) de_int (fun _ _ => rfl)) (da_cons de_int (da_cons (de_ix (okIx (K := K)) pkIx (de_var 1) de_int (fun _ _ => rfl)) da_nil))))))))) (db_one (ds_ret de_bl)) db_nil) (db_one (ds_if (DW.dt (dw_or (dt_cmp (okEq (K := K) hr.units) pkEq (de_callB (ckSum (K := K) rfl) pkSum (by rfl) T.z_sum (by decide +kernel) (da_cons (de_ix (okIx (K := K)) pkIx (de_var 1) de_int (fun _ _ => rfl)) da_nil)) de_int rfl) (dw_or1 (dt_cmp (okEq (K := K) hr.units) pkEq (de_ix (okIx (K := K)) pkIx (de_var 1) de_int (fun _ _ => rfl)) (de_ix (okIx (K := K)) pkIx (de_var 1) de_int (fun _ _ => rfl)) rfl)))) (db_one (ds_ret de_bl)) db_nil))))) (db_one (ds_ret (de_cmp (okEq (K := K) hr.units) pkEq (DLS.de_lenSet rfl (DLS.hu_set hr) (by rfl) T.z_len (by rfl) T.z_set (de_ix (okIx (K := K)) pkIx (de_var 0) de_int (fun _ _ => rfl))) (de_callB (ckLen (K := K)) pkLen (by rfl) T.z_len boot_len (da_cons (de_ix (okIx (K := K)) pkIx (de_var 0) de_int (fun _ _ => rfl)) da_nil)) rfl))))))⟩
theorem sc__law_bent : FnScope ["source", "value", "way", "at", "some"] ["source", "value"] (defScope s__law_bent) := ⟨rfl, rfl, rfl, by decide +kernel, rfl, by decide +kernel, by decide +kernel⟩
theorem ok__law_bent {P : Program} {w : World} {K : PySem.W.Frag} {mg : Str → Option Value} {base : Heap} {c : DL.Ctx} {sa : Addr} {ns : List Int} (T : Tx K mg) (hc : COk T.ec T.tabs sa ns c) : ∀ m : Nat, FnOk P w K mg base (L2.CX P w) (3 + m) T._law_bent.a T._law_bent.fd ["source", "value"] (spF K c 2 (PF.f__law_bent m))
  | 0 => ⟨fun vs H Q E h => h.1, fun A outer s H args us vs Q E hr he hb hv hs => (by obtain ⟨_, _, _, _, _, _, z⟩ := hs; exact z.elim)⟩
  | m + 1 => by
    have ih := ok__law_bent (P := P) (w := w) (base := base) T hc m
    exact def_ok T._law_bent.F sc__law_bent (by decide) fun cdv A outer s H E hr => by
      have hr0 := hr.mono (Nat.le_add_right 3 m)
      exact ⟨_, (db_cons (ds_setF (i := 2) sc__law_bent.nd rfl (by first | exact Or.inl rfl | exact Or.inr rfl) (de_call (ok__law_draw T hc) (hr0.mono (by decide)) (by rfl) T._law_draw.m T._law_draw.F.kp T._law_draw.b (takes_of rfl rfl rfl rfl) (da_cons (de_var 0) (da_cons de_int da_nil)))) (db_cons (ds_if (DW.dt (dw_and (dt_val (k_de_isi (K := K) (T := "tuple") (by decide) (by rfl) T.z_isinstance (de_var 1) (by rfl) T.z_tuple (by decide +kernel))) (dw_and (dt_cmp (okNe (K := K) hr0.units) pkNe (de_var 1) (de_tup da_nil) rfl) (dw_and1 (dt_cmp op_gt p_cOp (de_var 2) de_int rfl))))) (db_cons (ds_setF (i := 3) sc__law_bent.nd rfl (by first | exact Or.inl rfl | exact Or.inr rfl) (de_call (ok__law_draw T hc) (hr0.mono (by decide)) (by rfl) T._law_draw.m T._law_draw.F.kp T._law_draw.b (takes_of rfl rfl rfl rfl) (da_cons (de_var 0) (da_cons (de_callB (ckLen (K := K)) pkLen (by rfl) T.z_len boot_len (da_cons (de_var 1) da_nil)) da_nil)))) (db_cons (ds_if (dt_cmp (okEq (K := K) hr0.units) pkEq (de_var 2) de_int rfl) (db_one (ds_ret (de_bin (okAdd (K := K)) pkAdd (k_de_slice (K := K) (de_var 1) dp_none (dp_some (de_var 3))) (k_de_slice (K := K) (de_var 1) (dp_some (de_bin (okAdd (K := K)) pkAdd (de_var 3) de_int)) dp_none)))) db_nil) (db_cons (ds_if (dt_cmp (okEq (K := K) hr0.units) pkEq (de_var 2) de_int rfl) (db_one (ds_ret (de_bin (okAdd (K := K)) pkAdd (k_de_slice (K := K) (de_var 1) dp_none (dp_some (de_bin (okAdd (K := K)) pkAdd (de_var 3) de_int))) (k_de_slice (K := K) (de_var 1) (dp_some (de_var 3)) dp_none)))) db_nil) (db_one (ds_ret (de_bin (okAdd (K := K)) pkAdd (de_bin (okAdd (K := K)) pkAdd (k_de_slice (K := K) (de_var 1) dp_none (dp_some (de_var 3))) (de_tup (da_cons (de_call ih hr (by rfl) T._law_bent.m T._law_bent.F.kp T._law_bent.b (takes_of rfl rfl rfl rfl) (da_cons (de_var 0) (da_cons (de_ix (okIx (K := K)) pkIx (de_var 1) (de_var 3) (fun _ _ => rfl)) da_nil))) da_nil))) (k_de_slice (K := K) (de_var 1) (dp_some (de_bin (okAdd (K := K)) pkAdd (de_var 3) de_int)) dp_none))))))) db_nil) (db_cons (ds_setF (i := 4) sc__law_bent.nd rfl (by first | exact Or.inl rfl | exact Or.inr rfl) (de_lst (da_cons de_non (da_cons de_bl (da_cons de_bl (da_cons de_int (da_cons de_int (da_cons de_int (da_cons de_int (da_cons de_int (da_cons de_int (da_cons de_int (da_cons (de_un un_neg p_neg de_int) (da_cons de_str (da_cons (de_tup da_nil) (da_cons (de_lst da_nil) (da_cons (de_tup (da_cons de_int da_nil)) (da_cons (de_tup (da_cons de_int (da_cons de_int da_nil))) (da_cons (de_tup (da_cons de_int (da_cons de_int da_nil))) (da_cons (de_bin op_pow p_pow de_int de_int) (da_cons (de_bin (okAdd (K := K)) pkAdd (de_bin op_pow p_pow de_int de_int) de_int) da_nil))))))))))))))))))))) (db_one (ds_ret (de_call (ok__law_choice T hc) (hr0.mono (by decide)) (by rfl) T._law_choice.m T._law_choice.F.kp T._law_choice.b (takes_of rfl rfl rfl rfl) (da_cons (de_var 0) (da_cons (de_bin (okAdd (K := K)) pkAdd (de_var 4) (de_lst (da_cons (de_tup (da_cons (de_tup (da_cons de_int (da_cons de_int da_nil))) (da_cons (de_tup (da_cons de_int (da_cons de_int da_nil))) da_nil))) (da_cons (de_tup (da_cons (de_tup (da_cons de_int da_nil)) (da_cons (de_tup (da_cons de_int da_nil)) da_nil))) (da_cons (de_tup (da_cons de_int (da_cons (de_tup da_nil) da_nil))) (da_cons de_str da_nil)))))) da_nil))))))))⟩
theorem sc__law_told : FnScope ["book", "value", "due", "turn", "told"] ["book", "value"] (defScope s__law_told) := ⟨rfl, rfl, rfl, by decide +kernel, rfl, by decide +kernel, by decide +kernel⟩
theorem ok__law_told {P : Program} {w : World} {K : PySem.W.Frag} {mg : Str → Option Value} {base : Heap} {c : DL.Ctx} {sa : Addr} {ns : List Int} (T : Tx K mg) (hc : COk T.ec T.tabs sa ns c) : FnOk P w K mg base (L2.CX P w) 7 T._law_told.a T._law_told.fd ["book", "value"] (spF K c 2 (PF.f__law_told)) :=
  def_ok T._law_told.F sc__law_told (by decide) fun cdv A outer s H E hr => ⟨_, (db_cons (ds_setF (i := 2) sc__law_told.nd rfl (by first | exact Or.inl rfl | exact Or.inr rfl) (de_tup (da_cons (de_call (ok__law_is_book T hc) (hr.mono (by decide)) (by rfl) T._law_is_book.m T._law_is_book.F.kp T._law_is_book.b (takes_of rfl rfl rfl rfl) (da_cons (de_var 1) da_nil)) (da_cons (de_call (ok__law_is_counts T hc) (hr.mono (by decide)) (by rfl) T._law_is_counts.m T._law_is_counts.F.kp T._law_is_counts.b (takes_of rfl rfl rfl rfl) (da_cons (de_ix (okIx (K := K)) pkIx (de_var 0) de_int (fun _ _ => rfl)) (da_cons (de_bin op_pow p_pow de_int de_int) (da_cons (de_var 1) da_nil)))) da_nil)))) (db_cons (ds_for (passes_of rfl) rfl (di_range1 (by rfl) T.z_range (da_cons de_int da_nil)) (dg_name (i := 3) sc__law_told.nd rfl (by first | exact Or.inl rfl | exact Or.inr rfl)) (db_cons (ds_setF (i := 4) sc__law_told.nd rfl (by first | exact Or.inl rfl | exact Or.inr rfl) (de_tup (da_cons (de_call (ok_is_book T hc) (hr.mono (by decide)) (by rfl) T.is_book.m T.is_book.F.kp T.is_book.b (takes_of rfl rfl rfl rfl) (da_cons (de_var 1) da_nil)) (da_cons (de_call (ok_is_heap T hc) (hr.mono (by decide)) (by rfl) T.is_heap.m T.is_heap.F.kp T.is_heap.b (takes_of rfl rfl rfl rfl) (da_cons (de_var 0) (da_cons (de_var 1) da_nil))) da_nil)))) (db_one (ds_if (DW.dt (dw_or (dt_cmp (okNe (K := K) hr.units) pkNe (de_var 4) (de_var 2) rfl) (dw_or (dt_not (dt_val (k_de_isi (K := K) (T := "bool") (by decide) (by rfl) T.z_isinstance (de_ix (okIx (K := K)) pkIx (de_var 4) de_int (fun _ _ => rfl)) (by rfl) T.z_bool (by decide +kernel)))) (dw_or1 (dt_not (dt_val (k_de_isi (K := K) (T := "bool") (by decide) (by rfl) T.z_isinstance (de_ix (okIx (K := K)) pkIx (de_var 4) de_int (fun _ _ => rfl)) (by rfl) T.z_bool (by decide +kernel)))))))) (db_one (ds_ret de_bl)) db_nil)))) (db_one (ds_ret de_bl))))⟩
theorem sc_law : FnScope ["script", "k", "source", "book", "heap", "good", "value", "turn", "one", "rows", "due", "count"] ["script"] (defScope s_law) := ⟨rfl, rfl, rfl, by decide +kernel, rfl, by decide +kernel, by decide +kernel⟩
theorem ok_law {P : Program} {w : World} {K : PySem.W.Frag} {mg : Str → Option Value} {base : Heap} {c : DL.Ctx} {sa : Addr} {ns : List Int} (T : Tx K mg) (hc : COk T.ec T.tabs sa ns c) : FnOk P w K mg base (L2.CX P w) 24 T.law.a T.law.fd ["script"] (spF K c 1 (PF.f_law_k01 ns)) :=
  def_ok T.law.F sc_law (by decide) fun cdv A outer s H E hr => ⟨_, (db_cons (ds_for (passes_of rfl) rfl (di_range1 (by rfl) T.z_range (da_cons (de_bin (okAdd (K := K)) pkAdd de_int (de_callB (ckMin (K := K) rfl) pkMin (by rfl) T.z_min (by decide +kernel) (da_cons (k_de_lenScr (K := K) hc.scr (by rfl) T.z_len rfl (by first | exact Or.inl rfl | exact Or.inr (Or.inl rfl) | exact Or.inr (Or.inr rfl))) (da_cons de_int da_nil)))) da_nil)) (dg_name (i := 1) sc_law.nd rfl (by first | exact Or.inl rfl | exact Or.inr rfl)) (db_cons (ds_setC (i := 2) sc_law.nd rfl (by first | exact Or.inl rfl | exact Or.inr rfl) (de_call (ok__law_source T hc) (hr.mono (by decide)) (by rfl) T._law_source.m T._law_source.F.kp T._law_source.b (takes_of rfl rfl rfl rfl) (da_scr 0 (da_cons (de_var 1) da_nil)))) (db_cons (ds_setF (i := 3) sc_law.nd rfl (by first | exact Or.inl rfl | exact Or.inr rfl) (de_call (ok__law_book T hc) (hr.mono (by decide)) (by rfl) T._law_book.m T._law_book.F.kp T._law_book.b (takes_of rfl rfl rfl rfl) (da_cons (de_var 2) (da_cons de_int da_nil)))) (db_cons (ds_setF (i := 4) sc_law.nd rfl (by first | exact Or.inl rfl | exact Or.inr rfl) (de_call (ok__law_heap T hc) (hr.mono (by decide)) (by rfl) T._law_heap.m T._law_heap.F.kp T._law_heap.b (takes_of rfl rfl rfl rfl) (da_cons (de_var 2) (da_cons (de_ix (okIx (K := K)) pkIx (de_var 3) de_int (fun _ _ => rfl)) (da_cons de_int da_nil))))) (db_cons (ds_if (DW.dt (dw_or (dt_not (dt_val (de_call (ok_is_book T hc) (hr.mono (by decide)) (by rfl) T.is_book.m T.is_book.F.kp T.is_book.b (takes_of rfl rfl rfl rfl) (da_cons (de_var 3) da_nil)))) (dw_or1 (dt_not (dt_val (de_call (ok_is_heap T hc) (hr.mono (by decide)) (by rfl) T.is_heap.m T.is_heap.F.kp T.is_heap.b (takes_of rfl rfl rfl rfl) (da_cons (de_var 3) (da_cons (de_var 4) da_nil)))))))) (db_one (ds_ret de_bl)) db_nil) (db_cons (ds_for (passes_of rfl) rfl (k_di_list (K := K) (de_lst (da_cons (de_var 3) (da_cons (de_var 4) da_nil)))) (dg_name (i := 5) sc_law.nd rfl (by first | exact Or.inl rfl | exact Or.inr rfl)) (db_cons (ds_setF (i := 6) sc_law.nd rfl (by first | exact Or.inl rfl | exact Or.inr rfl) (de_var 5)) (db_one (ds_for (passes_of rfl) rfl (di_range1 (by rfl) T.z_range (da_cons de_int da_nil)) (dg_name (i := 7) sc_law.nd rfl (by first | exact Or.inl rfl | exact Or.inr rfl)) (db_cons (ds_if (dt_not (dt_val (de_call (ok__law_told T hc) (hr.mono (by decide)) (by rfl) T._law_told.m T._law_told.F.kp T._law_told.b (takes_of rfl rfl rfl rfl) (da_cons (de_var 3) (da_cons (de_var 6) da_nil))))) (db_one (ds_ret de_bl)) db_nil) (db_one (ds_setF (i := 6) sc_law.nd rfl (by first | exact Or.inl rfl | exact Or.inr rfl) (de_call (ok__law_bent T hc 20) (hr.mono (by decide)) (by rfl) T._law_bent.m T._law_bent.F.kp T._law_bent.b (takes_of rfl rfl rfl rfl) (da_cons (de_var 2) (da_cons (de_ifExp (dt_cmp (okEq (K := K) hr.units) pkEq (de_bin op_mod p_mod (de_var 7) de_int) de_int rfl) (de_var 5) (de_var 6)) da_nil)))))))))) (db_one (ds_if (DW.dt (dw_or (dt_not (dt_val (de_call (ok__law_told T hc) (hr.mono (by decide)) (by rfl) T._law_told.m T._law_told.F.kp T._law_told.b (takes_of rfl rfl rfl rfl) (da_cons (de_var 3) (da_cons (de_callTy (ckList2 (K := K) rfl) pkList2 (by rfl) T.z_list (by decide +kernel) (da_cons (de_var 4) da_nil)) da_nil))))) (dw_or1 (dt_not (dt_val (de_call (ok__law_told T hc) (hr.mono (by decide)) (by rfl) T._law_told.m T._law_told.F.kp T._law_told.b (takes_of rfl rfl rfl rfl) (da_cons (de_var 3) (da_cons (de_callTy (ckList2 (K := K) rfl) pkList2 (by rfl) T.z_list (by decide +kernel) (da_cons (de_var 3) da_nil)) da_nil)))))))) (db_one (ds_ret de_bl)) db_nil)))))))) (db_cons (ds_setF (i := 8) sc_law.nd rfl (by first | exact Or.inl rfl | exact Or.inr rfl) (de_tup (da_cons (de_tup (da_cons de_int (da_cons de_int da_nil))) (da_cons (de_tup (da_cons de_int (da_cons de_int da_nil))) da_nil)))) (db_cons (ds_setC (i := 9) sc_law.nd rfl (by first | exact Or.inl rfl | exact Or.inr rfl) (de_lst (da_cons (de_tup (da_cons de_int (da_cons (de_tup (da_cons (de_var 8) da_nil)) da_nil))) (da_cons (de_tup (da_cons de_int (da_cons (de_tup (da_cons (de_var 8) (da_cons (de_var 8) da_nil))) da_nil))) (da_cons (de_tup (da_cons de_int (da_cons (de_tup (da_cons (de_var 8) da_nil)) da_nil))) (da_cons (de_tup (da_cons de_int (da_cons (de_tup da_nil) da_nil))) (da_cons (de_tup (da_cons de_int (da_cons (de_tup (da_cons (de_tup (da_cons (de_tup (da_cons de_int (da_cons de_int da_nil))) (da_cons (de_tup (da_cons de_int (da_cons de_int da_nil))) da_nil))) da_nil)) da_nil))) (da_cons (de_tup (da_cons de_int (da_cons (de_tup (da_cons (de_tup (da_cons (de_tup (da_cons de_int (da_cons de_int da_nil))) (da_cons (de_tup (da_cons de_int (da_cons de_int da_nil))) da_nil))) da_nil)) da_nil))) da_nil)))))))) (db_cons (ds_setC (i := 9) sc_law.nd rfl (by first | exact Or.inl rfl | exact Or.inr rfl) (de_bin (okAdd (K := K)) pkAdd (de_var 9) (de_lst (da_cons (de_tup (da_cons de_int (da_cons (de_tup (da_cons (de_tup (da_cons (de_bin (okMul (K := K)) pkMul (de_tup (da_cons de_int da_nil)) de_int) (da_cons (de_bin (okMul (K := K)) pkMul (de_tup (da_cons de_int da_nil)) de_int) da_nil))) da_nil)) da_nil))) (da_cons (de_tup (da_cons de_int (da_cons (de_tup (da_cons (de_tup (da_cons (de_tup (da_cons de_int (da_cons de_int da_nil))) (da_cons (de_tup (da_cons de_int (da_cons de_int da_nil))) da_nil))) da_nil)) da_nil))) (da_cons (de_tup (da_cons de_int (da_cons (de_tup (da_cons (de_tup (da_cons (de_bin (okMul (K := K)) pkMul (de_tup (da_cons de_int da_nil)) de_int) (da_cons (de_bin (okMul (K := K)) pkMul (de_tup (da_cons de_int da_nil)) de_int) da_nil))) da_nil)) da_nil))) da_nil)))))) (db_cons (ds_expr (k_de_append (K := K) (de_tup (da_cons de_int (da_cons (de_callTy (ckTuple (K := K)) pkTuple (by rfl) T.z_tuple (by decide +kernel) (da_cons (de_lc rfl sc_law.nd (by decide) (di_range2 (by rfl) T.z_range (da_cons de_int (da_cons de_int da_nil))) (own := [("count", 11)]) (blkOk_by (by kernel_rfl)) (fun _ _ _ _ _ => (dg_name (i := 11) sc_law.nd rfl (by first | exact Or.inl rfl | exact Or.inr rfl))) (fun _ _ _ _ _ => dts_nil) (fun _ _ _ _ _ => (de_tup (da_cons (de_tup (da_cons (de_var 11) da_nil)) (da_cons (de_tup (da_cons de_int da_nil)) da_nil))))) da_nil)) da_nil))) (i := 9) rfl (by first | exact Or.inl rfl | exact Or.inr (Or.inl rfl) | exact Or.inr (Or.inr rfl)))) (db_cons (ds_expr (k_de_append (K := K) (de_tup (da_cons de_int (da_cons (de_callTy (ckTuple (K := K)) pkTuple (by rfl) T.z_tuple (by decide +kernel) (da_cons (de_lc rfl sc_law.nd (by decide) (k_di_tup (K := K) (de_tup (da_cons de_int (da_cons de_int (da_cons de_int (da_cons de_int (da_cons de_int (da_cons de_int da_nil)))))))) (own := [("count", 11)]) (blkOk_by (by kernel_rfl)) (fun _ _ _ _ _ => (dg_name (i := 11) sc_law.nd rfl (by first | exact Or.inl rfl | exact Or.inr rfl))) (fun _ _ _ _ _ => dts_nil) (fun _ _ _ _ _ => (de_tup (da_cons (de_tup (da_cons de_int da_nil)) (da_cons (de_tup (da_cons (de_var 11) da_nil)) da_nil))))) da_nil)) da_nil))) (i := 9) rfl (by first | exact Or.inl rfl | exact Or.inr (Or.inl rfl) | exact Or.inr (Or.inr rfl)))) (db_cons (ds_setF (i := 10) sc_law.nd rfl (by first | exact Or.inl rfl | exact Or.inr rfl) (de_bin (okAdd (K := K)) pkAdd (de_bin (okAdd (K := K)) pkAdd (de_lst (da_cons de_bl da_nil)) (de_bin (okMul (K := K)) pkMul (de_lst (da_cons de_bl da_nil)) de_int)) (de_lst (da_cons de_bl (da_cons de_bl (da_cons de_bl (da_cons de_bl (da_cons de_bl da_nil)))))))) (db_cons (ds_if (dt_cmp (okNe (K := K) hr.units) pkNe (de_lc rfl sc_law.nd (by decide) (k_di_list (K := K) (de_varF 9)) (own := [("value", 6)]) (blkOk_by (by kernel_rfl)) (fun _ _ _ _ _ => (dg_name (i := 6) sc_law.nd rfl (by first | exact Or.inl rfl | exact Or.inr rfl))) (fun _ _ _ _ _ => dts_nil) (fun _ _ _ _ _ => (de_call (ok_is_book T hc) (hr.mono (by decide)) (by rfl) T.is_book.m T.is_book.F.kp T.is_book.b takes0 (da_cons (de_var 6) da_nil)))) (de_var 10) rfl) (db_one (ds_ret de_bl)) db_nil) (db_cons (ds_setC (i := 9) sc_law.nd rfl (by first | exact Or.inl rfl | exact Or.inr rfl) (de_lst (da_cons (de_tup (da_cons de_int (da_cons de_int da_nil))) (da_cons (de_tup (da_cons (de_bin op_pow p_pow de_int de_int) (da_cons de_int da_nil))) (da_cons (de_tup (da_cons (de_bin (okAdd (K := K)) pkAdd (de_bin op_pow p_pow de_int de_int) de_int) (da_cons de_int da_nil))) (da_cons (de_tup (da_cons de_int da_nil)) (da_cons (de_tup (da_cons de_int (da_cons (de_un un_neg p_neg de_int) da_nil))) (da_cons (de_tup (da_cons de_bl (da_cons de_int da_nil))) (da_cons (de_lst (da_cons de_int (da_cons de_int da_nil))) (da_cons (de_tup (da_cons de_int (da_cons de_int (da_cons de_int da_nil)))) da_nil)))))))))) (db_one (ds_ret (de_cmp (okEq (K := K) hr.units) pkEq (de_lc rfl sc_law.nd (by decide) (k_di_list (K := K) (de_varF 9)) (own := [("value", 6)]) (blkOk_by (by kernel_rfl)) (fun _ _ _ _ _ => (dg_name (i := 6) sc_law.nd rfl (by first | exact Or.inl rfl | exact Or.inr rfl))) (fun _ _ _ _ _ => dts_nil) (fun _ _ _ _ _ => (de_call (ok_is_heap T hc) (hr.mono (by decide)) (by rfl) T.is_heap.m T.is_heap.F.kp T.is_heap.b takes0 (da_cons (de_tup (da_cons de_int (da_cons (de_tup (da_cons (de_var 8) da_nil)) da_nil))) (da_cons (de_var 6) da_nil))))) (de_lst (da_cons de_bl (da_cons de_bl (da_cons de_bl (da_cons de_bl (da_cons de_bl (da_cons de_bl (da_cons de_bl (da_cons de_bl da_nil))))))))) rfl))))))))))))⟩
theorem at_mk {l : PySem.W.OpenLaw} {w : World} {K : PySem.W.Frag} {mg : Str → Option Value} {h : Heap} {fa : Addr} (X : K.In h) (G : h.Ns mainGlobals mg) (hfa : mg "law" = some (.ref fa)) {fa_is_from : Addr} {od_is_from an_is_from : Option Addr} {sl_is_from : Array (Option Value)} {oc_is_from kV_is_from dc_is_from pm_is_from ct_is_from : Value} {cd_is_from : Value} {fa_is_counts : Addr} {od_is_counts an_is_counts : Option Addr} {sl_is_counts : Array (Option Value)} {oc_is_counts kV_is_counts dc_is_counts pm_is_counts ct_is_counts : Value} {cd_is_counts : Value} {fa_has_rule : Addr} {od_has_rule an_has_rule : Option Addr} {sl_has_rule : Array (Option Value)} {oc_has_rule kV_has_rule dc_has_rule pm_has_rule ct_has_rule : Value} {cd_has_rule : Value} {fa_is_unlike : Addr} {od_is_unlike an_is_unlike : Option Addr} {sl_is_unlike : Array (Option Value)} {oc_is_unlike kV_is_unlike dc_is_unlike pm_is_unlike ct_is_unlike : Value} {cd_is_unlike : Value} {fa_has_book : Addr} {od_has_book an_has_book : Option Addr} {sl_has_book : Array (Option Value)} {oc_has_book kV_has_book dc_has_book pm_has_book ct_has_book : Value} {cd_has_book : Value} {fa_is_book : Addr} {od_is_book an_is_book : Option Addr} {sl_is_book : Array (Option Value)} {oc_is_book kV_is_book dc_is_book pm_is_book ct_is_book : Value} {cd_is_book : Value} {fa_need_book : Addr} {od_need_book an_need_book : Option Addr} {sl_need_book : Array (Option Value)} {oc_need_book kV_need_book dc_need_book pm_need_book ct_need_book : Value} {cd_need_book : Value} {fa_has_heap : Addr} {od_has_heap an_has_heap : Option Addr} {sl_has_heap : Array (Option Value)} {oc_has_heap kV_has_heap dc_has_heap pm_has_heap ct_has_heap : Value} {cd_has_heap : Value} {fa_is_heap : Addr} {od_is_heap an_is_heap : Option Addr} {sl_is_heap : Array (Option Value)} {oc_is_heap kV_is_heap dc_is_heap pm_is_heap ct_is_heap : Value} {cd_is_heap : Value} {fa__law_source : Addr} {od__law_source an__law_source : Option Addr} {sl__law_source : Array (Option Value)} {oc__law_source kV__law_source dc__law_source pm__law_source ct__law_source : Value} {cd__law_source : Value} {fa__law_draw : Addr} {od__law_draw an__law_draw : Option Addr} {sl__law_draw : Array (Option Value)} {oc__law_draw kV__law_draw dc__law_draw pm__law_draw ct__law_draw : Value} {cd__law_draw : Value} {fa__law_choice : Addr} {od__law_choice an__law_choice : Option Addr} {sl__law_choice : Array (Option Value)} {oc__law_choice kV__law_choice dc__law_choice pm__law_choice ct__law_choice : Value} {cd__law_choice : Value} {fa__law_from : Addr} {od__law_from an__law_from : Option Addr} {sl__law_from : Array (Option Value)} {oc__law_from kV__law_from dc__law_from pm__law_from ct__law_from : Value} {cd__law_from : Value} {fa__law_heap : Addr} {od__law_heap an__law_heap : Option Addr} {sl__law_heap : Array (Option Value)} {oc__law_heap kV__law_heap dc__law_heap pm__law_heap ct__law_heap : Value} {cd__law_heap : Value} {fa__law_rule : Addr} {od__law_rule an__law_rule : Option Addr} {sl__law_rule : Array (Option Value)} {oc__law_rule kV__law_rule dc__law_rule pm__law_rule ct__law_rule : Value} {cd__law_rule : Value} {fa__law_book : Addr} {od__law_book an__law_book : Option Addr} {sl__law_book : Array (Option Value)} {oc__law_book kV__law_book dc__law_book pm__law_book ct__law_book : Value} {cd__law_book : Value} {fa__law_is_counts : Addr} {od__law_is_counts an__law_is_counts : Option Addr} {sl__law_is_counts : Array (Option Value)} {oc__law_is_counts kV__law_is_counts dc__law_is_counts pm__law_is_counts ct__law_is_counts : Value} {cd__law_is_counts : Value} {fa__law_is_book : Addr} {od__law_is_book an__law_is_book : Option Addr} {sl__law_is_book : Array (Option Value)} {oc__law_is_book kV__law_is_book dc__law_is_book pm__law_is_book ct__law_is_book : Value} {cd__law_is_book : Value} {fa__law_bent : Addr} {od__law_bent an__law_bent : Option Addr} {sl__law_bent : Array (Option Value)} {oc__law_bent kV__law_bent dc__law_bent pm__law_bent ct__law_bent : Value} {cd__law_bent : Value} {fa__law_told : Addr} {od__law_told an__law_told : Option Addr} {sl__law_told : Array (Option Value)} {oc__law_told kV__law_told dc__law_told pm__law_told ct__law_told : Value} {cd__law_told : Value} {fa_law : Addr} {od_law an_law : Option Addr} {sl_law : Array (Option Value)} {oc_law kV_law dc_law pm_law ct_law : Value} {cd_law : Value} {tk_GREAT : Tok} {tk_MOST_COUNT : Tok} {tk_MOST_RULES : Tok} {C_InvalidBook : Addr}
    (a_is_from : PySem.W.nsIn K mainGlobals "is_from" = some (some (.ref fa_is_from)))
    (l_is_from : K.lookup fa_is_from = some ⟨oc_is_from, od_is_from, .func (PySem.W.fnOf "is_from" "is_from" (defArgs s_is_from) (defBody s_is_from) (defScope s_is_from) .none kV_is_from dc_is_from pm_is_from an_is_from cd_is_from ct_is_from), sl_is_from⟩)
    (c_is_from : PySem.W.codeIn K cd_is_from "is_from" = true) (k_is_from : PySem.W.keepIn K (.ref fa_is_from) = true)
    (a_is_counts : PySem.W.nsIn K mainGlobals "is_counts" = some (some (.ref fa_is_counts)))
    (l_is_counts : K.lookup fa_is_counts = some ⟨oc_is_counts, od_is_counts, .func (PySem.W.fnOf "is_counts" "is_counts" (defArgs s_is_counts) (defBody s_is_counts) (defScope s_is_counts) .none kV_is_counts dc_is_counts pm_is_counts an_is_counts cd_is_counts ct_is_counts), sl_is_counts⟩)
    (c_is_counts : PySem.W.codeIn K cd_is_counts "is_counts" = true) (k_is_counts : PySem.W.keepIn K (.ref fa_is_counts) = true)
    (a_has_rule : PySem.W.nsIn K mainGlobals "has_rule" = some (some (.ref fa_has_rule)))
    (l_has_rule : K.lookup fa_has_rule = some ⟨oc_has_rule, od_has_rule, .func (PySem.W.fnOf "has_rule" "has_rule" (defArgs s_has_rule) (defBody s_has_rule) (defScope s_has_rule) .none kV_has_rule dc_has_rule pm_has_rule an_has_rule cd_has_rule ct_has_rule), sl_has_rule⟩)
    (c_has_rule : PySem.W.codeIn K cd_has_rule "has_rule" = true) (k_has_rule : PySem.W.keepIn K (.ref fa_has_rule) = true)
    (a_is_unlike : PySem.W.nsIn K mainGlobals "is_unlike" = some (some (.ref fa_is_unlike)))
    (l_is_unlike : K.lookup fa_is_unlike = some ⟨oc_is_unlike, od_is_unlike, .func (PySem.W.fnOf "is_unlike" "is_unlike" (defArgs s_is_unlike) (defBody s_is_unlike) (defScope s_is_unlike) .none kV_is_unlike dc_is_unlike pm_is_unlike an_is_unlike cd_is_unlike ct_is_unlike), sl_is_unlike⟩)
    (c_is_unlike : PySem.W.codeIn K cd_is_unlike "is_unlike" = true) (k_is_unlike : PySem.W.keepIn K (.ref fa_is_unlike) = true)
    (a_has_book : PySem.W.nsIn K mainGlobals "has_book" = some (some (.ref fa_has_book)))
    (l_has_book : K.lookup fa_has_book = some ⟨oc_has_book, od_has_book, .func (PySem.W.fnOf "has_book" "has_book" (defArgs s_has_book) (defBody s_has_book) (defScope s_has_book) .none kV_has_book dc_has_book pm_has_book an_has_book cd_has_book ct_has_book), sl_has_book⟩)
    (c_has_book : PySem.W.codeIn K cd_has_book "has_book" = true) (k_has_book : PySem.W.keepIn K (.ref fa_has_book) = true)
    (a_is_book : PySem.W.nsIn K mainGlobals "is_book" = some (some (.ref fa_is_book)))
    (l_is_book : K.lookup fa_is_book = some ⟨oc_is_book, od_is_book, .func (PySem.W.fnOf "is_book" "is_book" (defArgs s_is_book) (defBody s_is_book) (defScope s_is_book) .none kV_is_book dc_is_book pm_is_book an_is_book cd_is_book ct_is_book), sl_is_book⟩)
    (c_is_book : PySem.W.codeIn K cd_is_book "is_book" = true) (k_is_book : PySem.W.keepIn K (.ref fa_is_book) = true)
    (a_need_book : PySem.W.nsIn K mainGlobals "need_book" = some (some (.ref fa_need_book)))
    (l_need_book : K.lookup fa_need_book = some ⟨oc_need_book, od_need_book, .func (PySem.W.fnOf "need_book" "need_book" (defArgs s_need_book) (defBody s_need_book) (defScope s_need_book) .none kV_need_book dc_need_book pm_need_book an_need_book cd_need_book ct_need_book), sl_need_book⟩)
    (c_need_book : PySem.W.codeIn K cd_need_book "need_book" = true) (k_need_book : PySem.W.keepIn K (.ref fa_need_book) = true)
    (a_has_heap : PySem.W.nsIn K mainGlobals "has_heap" = some (some (.ref fa_has_heap)))
    (l_has_heap : K.lookup fa_has_heap = some ⟨oc_has_heap, od_has_heap, .func (PySem.W.fnOf "has_heap" "has_heap" (defArgs s_has_heap) (defBody s_has_heap) (defScope s_has_heap) .none kV_has_heap dc_has_heap pm_has_heap an_has_heap cd_has_heap ct_has_heap), sl_has_heap⟩)
    (c_has_heap : PySem.W.codeIn K cd_has_heap "has_heap" = true) (k_has_heap : PySem.W.keepIn K (.ref fa_has_heap) = true)
    (a_is_heap : PySem.W.nsIn K mainGlobals "is_heap" = some (some (.ref fa_is_heap)))
    (l_is_heap : K.lookup fa_is_heap = some ⟨oc_is_heap, od_is_heap, .func (PySem.W.fnOf "is_heap" "is_heap" (defArgs s_is_heap) (defBody s_is_heap) (defScope s_is_heap) .none kV_is_heap dc_is_heap pm_is_heap an_is_heap cd_is_heap ct_is_heap), sl_is_heap⟩)
    (c_is_heap : PySem.W.codeIn K cd_is_heap "is_heap" = true) (k_is_heap : PySem.W.keepIn K (.ref fa_is_heap) = true)
    (a__law_source : PySem.W.nsIn K mainGlobals "_law_source" = some (some (.ref fa__law_source)))
    (l__law_source : K.lookup fa__law_source = some ⟨oc__law_source, od__law_source, .func (PySem.W.fnOf "_law_source" "_law_source" (defArgs s__law_source) (defBody s__law_source) (defScope s__law_source) .none kV__law_source dc__law_source pm__law_source an__law_source cd__law_source ct__law_source), sl__law_source⟩)
    (c__law_source : PySem.W.codeIn K cd__law_source "_law_source" = true) (k__law_source : PySem.W.keepIn K (.ref fa__law_source) = true)
    (a__law_draw : PySem.W.nsIn K mainGlobals "_law_draw" = some (some (.ref fa__law_draw)))
    (l__law_draw : K.lookup fa__law_draw = some ⟨oc__law_draw, od__law_draw, .func (PySem.W.fnOf "_law_draw" "_law_draw" (defArgs s__law_draw) (defBody s__law_draw) (defScope s__law_draw) .none kV__law_draw dc__law_draw pm__law_draw an__law_draw cd__law_draw ct__law_draw), sl__law_draw⟩)
    (c__law_draw : PySem.W.codeIn K cd__law_draw "_law_draw" = true) (k__law_draw : PySem.W.keepIn K (.ref fa__law_draw) = true)
    (a__law_choice : PySem.W.nsIn K mainGlobals "_law_choice" = some (some (.ref fa__law_choice)))
    (l__law_choice : K.lookup fa__law_choice = some ⟨oc__law_choice, od__law_choice, .func (PySem.W.fnOf "_law_choice" "_law_choice" (defArgs s__law_choice) (defBody s__law_choice) (defScope s__law_choice) .none kV__law_choice dc__law_choice pm__law_choice an__law_choice cd__law_choice ct__law_choice), sl__law_choice⟩)
    (c__law_choice : PySem.W.codeIn K cd__law_choice "_law_choice" = true) (k__law_choice : PySem.W.keepIn K (.ref fa__law_choice) = true)
    (a__law_from : PySem.W.nsIn K mainGlobals "_law_from" = some (some (.ref fa__law_from)))
    (l__law_from : K.lookup fa__law_from = some ⟨oc__law_from, od__law_from, .func (PySem.W.fnOf "_law_from" "_law_from" (defArgs s__law_from) (defBody s__law_from) (defScope s__law_from) .none kV__law_from dc__law_from pm__law_from an__law_from cd__law_from ct__law_from), sl__law_from⟩)
    (c__law_from : PySem.W.codeIn K cd__law_from "_law_from" = true) (k__law_from : PySem.W.keepIn K (.ref fa__law_from) = true)
    (a__law_heap : PySem.W.nsIn K mainGlobals "_law_heap" = some (some (.ref fa__law_heap)))
    (l__law_heap : K.lookup fa__law_heap = some ⟨oc__law_heap, od__law_heap, .func (PySem.W.fnOf "_law_heap" "_law_heap" (defArgs s__law_heap) (defBody s__law_heap) (defScope s__law_heap) .none kV__law_heap dc__law_heap pm__law_heap an__law_heap cd__law_heap ct__law_heap), sl__law_heap⟩)
    (c__law_heap : PySem.W.codeIn K cd__law_heap "_law_heap" = true) (k__law_heap : PySem.W.keepIn K (.ref fa__law_heap) = true)
    (a__law_rule : PySem.W.nsIn K mainGlobals "_law_rule" = some (some (.ref fa__law_rule)))
    (l__law_rule : K.lookup fa__law_rule = some ⟨oc__law_rule, od__law_rule, .func (PySem.W.fnOf "_law_rule" "_law_rule" (defArgs s__law_rule) (defBody s__law_rule) (defScope s__law_rule) .none kV__law_rule dc__law_rule pm__law_rule an__law_rule cd__law_rule ct__law_rule), sl__law_rule⟩)
    (c__law_rule : PySem.W.codeIn K cd__law_rule "_law_rule" = true) (k__law_rule : PySem.W.keepIn K (.ref fa__law_rule) = true)
    (a__law_book : PySem.W.nsIn K mainGlobals "_law_book" = some (some (.ref fa__law_book)))
    (l__law_book : K.lookup fa__law_book = some ⟨oc__law_book, od__law_book, .func (PySem.W.fnOf "_law_book" "_law_book" (defArgs s__law_book) (defBody s__law_book) (defScope s__law_book) .none kV__law_book dc__law_book pm__law_book an__law_book cd__law_book ct__law_book), sl__law_book⟩)
    (c__law_book : PySem.W.codeIn K cd__law_book "_law_book" = true) (k__law_book : PySem.W.keepIn K (.ref fa__law_book) = true)
    (a__law_is_counts : PySem.W.nsIn K mainGlobals "_law_is_counts" = some (some (.ref fa__law_is_counts)))
    (l__law_is_counts : K.lookup fa__law_is_counts = some ⟨oc__law_is_counts, od__law_is_counts, .func (PySem.W.fnOf "_law_is_counts" "_law_is_counts" (defArgs s__law_is_counts) (defBody s__law_is_counts) (defScope s__law_is_counts) .none kV__law_is_counts dc__law_is_counts pm__law_is_counts an__law_is_counts cd__law_is_counts ct__law_is_counts), sl__law_is_counts⟩)
    (c__law_is_counts : PySem.W.codeIn K cd__law_is_counts "_law_is_counts" = true) (k__law_is_counts : PySem.W.keepIn K (.ref fa__law_is_counts) = true)
    (a__law_is_book : PySem.W.nsIn K mainGlobals "_law_is_book" = some (some (.ref fa__law_is_book)))
    (l__law_is_book : K.lookup fa__law_is_book = some ⟨oc__law_is_book, od__law_is_book, .func (PySem.W.fnOf "_law_is_book" "_law_is_book" (defArgs s__law_is_book) (defBody s__law_is_book) (defScope s__law_is_book) .none kV__law_is_book dc__law_is_book pm__law_is_book an__law_is_book cd__law_is_book ct__law_is_book), sl__law_is_book⟩)
    (c__law_is_book : PySem.W.codeIn K cd__law_is_book "_law_is_book" = true) (k__law_is_book : PySem.W.keepIn K (.ref fa__law_is_book) = true)
    (a__law_bent : PySem.W.nsIn K mainGlobals "_law_bent" = some (some (.ref fa__law_bent)))
    (l__law_bent : K.lookup fa__law_bent = some ⟨oc__law_bent, od__law_bent, .func (PySem.W.fnOf "_law_bent" "_law_bent" (defArgs s__law_bent) (defBody s__law_bent) (defScope s__law_bent) .none kV__law_bent dc__law_bent pm__law_bent an__law_bent cd__law_bent ct__law_bent), sl__law_bent⟩)
    (c__law_bent : PySem.W.codeIn K cd__law_bent "_law_bent" = true) (k__law_bent : PySem.W.keepIn K (.ref fa__law_bent) = true)
    (a__law_told : PySem.W.nsIn K mainGlobals "_law_told" = some (some (.ref fa__law_told)))
    (l__law_told : K.lookup fa__law_told = some ⟨oc__law_told, od__law_told, .func (PySem.W.fnOf "_law_told" "_law_told" (defArgs s__law_told) (defBody s__law_told) (defScope s__law_told) .none kV__law_told dc__law_told pm__law_told an__law_told cd__law_told ct__law_told), sl__law_told⟩)
    (c__law_told : PySem.W.codeIn K cd__law_told "_law_told" = true) (k__law_told : PySem.W.keepIn K (.ref fa__law_told) = true)
    (a_law : PySem.W.nsIn K mainGlobals "law" = some (some (.ref fa_law)))
    (l_law : K.lookup fa_law = some ⟨oc_law, od_law, .func (PySem.W.fnOf "law" "law" (defArgs s_law) (defBody s_law) (defScope s_law) .none kV_law dc_law pm_law an_law cd_law ct_law), sl_law⟩)
    (c_law : PySem.W.codeIn K cd_law "law" = true) (k_law : PySem.W.keepIn K (.ref fa_law) = true)
    (z_abs : PySem.W.nsIn K mainGlobals "abs" = some none)
    (z_all : PySem.W.nsIn K mainGlobals "all" = some none)
    (z_bool : PySem.W.nsIn K mainGlobals "bool" = some none)
    (z_enumerate : PySem.W.nsIn K mainGlobals "enumerate" = some none)
    (z_int : PySem.W.nsIn K mainGlobals "int" = some none)
    (z_isinstance : PySem.W.nsIn K mainGlobals "isinstance" = some none)
    (z_len : PySem.W.nsIn K mainGlobals "len" = some none)
    (z_list : PySem.W.nsIn K mainGlobals "list" = some none)
    (z_min : PySem.W.nsIn K mainGlobals "min" = some none)
    (z_range : PySem.W.nsIn K mainGlobals "range" = some none)
    (z_set : PySem.W.nsIn K mainGlobals "set" = some none)
    (z_sum : PySem.W.nsIn K mainGlobals "sum" = some none)
    (z_tuple : PySem.W.nsIn K mainGlobals "tuple" = some none)
    (g_GREAT : PySem.W.nsIn K mainGlobals "GREAT" = some (some (.int 1000000000000000000000000000000 tk_GREAT)))
    (g_MOST_COUNT : PySem.W.nsIn K mainGlobals "MOST_COUNT" = some (some (.int 6 tk_MOST_COUNT)))
    (g_MOST_RULES : PySem.W.nsIn K mainGlobals "MOST_RULES" = some (some (.int 5 tk_MOST_RULES)))
    (e_InvalidBook : PySem.W.nsIn K mainGlobals "InvalidBook" = some (some (.ref C_InvalidBook)))
    (q_InvalidBook : PySem.W.excIn K C_InvalidBook [.type "ValueError", .type "Exception", .type "BaseException", .type "object"] "ValueError.__new__" = true)
    (kp_InvalidBook : PySem.W.keepIn K (.ref C_InvalidBook) = true) (sb_InvalidBook : PySem.W.subIn K (.ref C_InvalidBook) (.type "BaseException") = some true) (ty_InvalidBook : PySem.W.typeIn K (.ref C_InvalidBook) = some (.type "type"))
    (law : ∀ (ns : List Int), ns.length ≤ 63 → (∀ z ∈ ns, Builtin.Int.intBits z ≤ 1048576) → ∃ s', PF.f_law_k01 ns [.scr] [] = some (.ok (.val (.bool true)) s')) : LamX.LawAtS l w K (L2.CX l.prog w) 24 63 "script" mg fa h := by
  have e := hfa.symm.trans (PySem.W.mg_of X G a_law)
  cases e
  let ecl : List (Str × Addr) := [("InvalidBook", C_InvalidBook)]
  let T : Tx K mg := { ec := ecOf ecl, is_from := ft_mk X G a_is_from l_is_from c_is_from k_is_from (fun _ _ _ _ _ _ us hl => match us, hl with | [_, _, _], _ => rfl), is_counts := ft_mk X G a_is_counts l_is_counts c_is_counts k_is_counts (fun _ _ _ _ _ _ us hl => match us, hl with | [_, _, _], _ => rfl), has_rule := ft_mk X G a_has_rule l_has_rule c_has_rule k_has_rule (fun _ _ _ _ _ _ us hl => match us, hl with | [_, _], _ => rfl), is_unlike := ft_mk X G a_is_unlike l_is_unlike c_is_unlike k_is_unlike (fun _ _ _ _ _ _ us hl => match us, hl with | [_], _ => rfl), has_book := ft_mk X G a_has_book l_has_book c_has_book k_has_book (fun _ _ _ _ _ _ us hl => match us, hl with | [_], _ => rfl), is_book := ft_mk X G a_is_book l_is_book c_is_book k_is_book (fun _ _ _ _ _ _ us hl => match us, hl with | [_], _ => rfl), need_book := ft_mk X G a_need_book l_need_book c_need_book k_need_book (fun _ _ _ _ _ _ us hl => match us, hl with | [_], _ => rfl), has_heap := ft_mk X G a_has_heap l_has_heap c_has_heap k_has_heap (fun _ _ _ _ _ _ us hl => match us, hl with | [_, _], _ => rfl), is_heap := ft_mk X G a_is_heap l_is_heap c_is_heap k_is_heap (fun _ _ _ _ _ _ us hl => match us, hl with | [_, _], _ => rfl), _law_source := ft_mk X G a__law_source l__law_source c__law_source k__law_source (fun _ _ _ _ _ _ us hl => match us, hl with | [_, _], _ => rfl), _law_draw := ft_mk X G a__law_draw l__law_draw c__law_draw k__law_draw (fun _ _ _ _ _ _ us hl => match us, hl with | [_, _], _ => rfl), _law_choice := ft_mk X G a__law_choice l__law_choice c__law_choice k__law_choice (fun _ _ _ _ _ _ us hl => match us, hl with | [_, _], _ => rfl), _law_from := ft_mk X G a__law_from l__law_from c__law_from k__law_from (fun _ _ _ _ _ _ us hl => match us, hl with | [_, _, _], _ => rfl), _law_heap := ft_mk X G a__law_heap l__law_heap c__law_heap k__law_heap (fun _ _ _ _ _ _ us hl => match us, hl with | [_, _, _], _ => rfl), _law_rule := ft_mk X G a__law_rule l__law_rule c__law_rule k__law_rule (fun _ _ _ _ _ _ us hl => match us, hl with | [_, _], _ => rfl), _law_book := ft_mk X G a__law_book l__law_book c__law_book k__law_book (fun _ _ _ _ _ _ us hl => match us, hl with | [_, _], _ => rfl), _law_is_counts := ft_mk X G a__law_is_counts l__law_is_counts c__law_is_counts k__law_is_counts (fun _ _ _ _ _ _ us hl => match us, hl with | [_, _, _], _ => rfl), _law_is_book := ft_mk X G a__law_is_book l__law_is_book c__law_is_book k__law_is_book (fun _ _ _ _ _ _ us hl => match us, hl with | [_], _ => rfl), _law_bent := ft_mk X G a__law_bent l__law_bent c__law_bent k__law_bent (fun _ _ _ _ _ _ us hl => match us, hl with | [_, _], _ => rfl), _law_told := ft_mk X G a__law_told l__law_told c__law_told k__law_told (fun _ _ _ _ _ _ us hl => match us, hl with | [_, _], _ => rfl), law := ft_mk X G a_law l_law c_law k_law (fun _ _ _ _ _ _ us hl => match us, hl with | [_], _ => rfl), z_abs := PySem.W.mg_none_of X G z_abs, z_all := PySem.W.mg_none_of X G z_all, z_bool := PySem.W.mg_none_of X G z_bool, z_enumerate := PySem.W.mg_none_of X G z_enumerate, z_int := PySem.W.mg_none_of X G z_int, z_isinstance := PySem.W.mg_none_of X G z_isinstance, z_len := PySem.W.mg_none_of X G z_len, z_list := PySem.W.mg_none_of X G z_list, z_min := PySem.W.mg_none_of X G z_min, z_range := PySem.W.mg_none_of X G z_range, z_set := PySem.W.mg_none_of X G z_set, z_sum := PySem.W.mg_none_of X G z_sum, z_tuple := PySem.W.mg_none_of X G z_tuple, c_GREAT := ci_mk X G g_GREAT, c_MOST_COUNT := ci_mk X G g_MOST_COUNT, c_MOST_RULES := ci_mk X G g_MOST_RULES, e_InvalidBook := ct_mk X G e_InvalidBook q_InvalidBook kp_InvalidBook sb_InvalidBook ty_InvalidBook (by kernel_rfl) }
  refine lawAtD (cs := []) (T := T.tabs) (ec := T.ec) PF.f_law_k01 (fun p hp => by simp [Tx.tabs] at hp) (by simp) (by simp) (by simp) (fun s u => .of_eq rfl) (fun base hK hns hTB sa ns c hc => ok_law T hc) law
end K01
open PySem PySem.W PyProof.Rows
set_option maxHeartbeats 0 in
theorem PySem.Challenge.cw_eachorder_k01_books_and_heaps_recognized_holds : PySem.Challenge.rw_eachorder_k01_books_and_heaps_recognized.Holds := by
  w_on; o_law; k_head; (case hw => w_witness2)
  k_fill
  refine DL.walk_ofD (l := PySem.Challenge.rw_eachorder_k01_books_and_heaps_recognized) (n := 63) (k := 24) (x := "script") rfl (by decide) rfl ⟨rfl, by decide, by decide⟩ (fun w h Y => PySem.W.kIn_of Y) ?F
  case F =>
    intro w mg fa h Y X KX G hmg
    refine' K01.at_mk KX G hmg ?a_is_from ?l_is_from ?c_is_from ?k_is_from ?a_is_counts ?l_is_counts ?c_is_counts ?k_is_counts ?a_has_rule ?l_has_rule ?c_has_rule ?k_has_rule ?a_is_unlike ?l_is_unlike ?c_is_unlike ?k_is_unlike ?a_has_book ?l_has_book ?c_has_book ?k_has_book ?a_is_book ?l_is_book ?c_is_book ?k_is_book ?a_need_book ?l_need_book ?c_need_book ?k_need_book ?a_has_heap ?l_has_heap ?c_has_heap ?k_has_heap ?a_is_heap ?l_is_heap ?c_is_heap ?k_is_heap ?a__law_source ?l__law_source ?c__law_source ?k__law_source ?a__law_draw ?l__law_draw ?c__law_draw ?k__law_draw ?a__law_choice ?l__law_choice ?c__law_choice ?k__law_choice ?a__law_from ?l__law_from ?c__law_from ?k__law_from ?a__law_heap ?l__law_heap ?c__law_heap ?k__law_heap ?a__law_rule ?l__law_rule ?c__law_rule ?k__law_rule ?a__law_book ?l__law_book ?c__law_book ?k__law_book ?a__law_is_counts ?l__law_is_counts ?c__law_is_counts ?k__law_is_counts ?a__law_is_book ?l__law_is_book ?c__law_is_book ?k__law_is_book ?a__law_bent ?l__law_bent ?c__law_bent ?k__law_bent ?a__law_told ?l__law_told ?c__law_told ?k__law_told ?a_law ?l_law ?c_law ?k_law ?z_abs ?z_all ?z_bool ?z_enumerate ?z_int ?z_isinstance ?z_len ?z_list ?z_min ?z_range ?z_set ?z_sum ?z_tuple ?g_GREAT ?g_MOST_COUNT ?g_MOST_RULES ?e_InvalidBook ?q_InvalidBook ?kp_InvalidBook ?sb_InvalidBook ?ty_InvalidBook PF.law_k01
    (case a_is_from => k_is)
    (case l_is_from => k_is)
    (case c_is_from => k_is)
    (case k_is_from => k_is)
    (case a_is_counts => k_is)
    (case l_is_counts => k_is)
    (case c_is_counts => k_is)
    (case k_is_counts => k_is)
    (case a_has_rule => k_is)
    (case l_has_rule => k_is)
    (case c_has_rule => k_is)
    (case k_has_rule => k_is)
    (case a_is_unlike => k_is)
    (case l_is_unlike => k_is)
    (case c_is_unlike => k_is)
    (case k_is_unlike => k_is)
    (case a_has_book => k_is)
    (case l_has_book => k_is)
    (case c_has_book => k_is)
    (case k_has_book => k_is)
    (case a_is_book => k_is)
    (case l_is_book => k_is)
    (case c_is_book => k_is)
    (case k_is_book => k_is)
    (case a_need_book => k_is)
    (case l_need_book => k_is)
    (case c_need_book => k_is)
    (case k_need_book => k_is)
    (case a_has_heap => k_is)
    (case l_has_heap => k_is)
    (case c_has_heap => k_is)
    (case k_has_heap => k_is)
    (case a_is_heap => k_is)
    (case l_is_heap => k_is)
    (case c_is_heap => k_is)
    (case k_is_heap => k_is)
    (case a__law_source => k_is)
    (case l__law_source => k_is)
    (case c__law_source => k_is)
    (case k__law_source => k_is)
    (case a__law_draw => k_is)
    (case l__law_draw => k_is)
    (case c__law_draw => k_is)
    (case k__law_draw => k_is)
    (case a__law_choice => k_is)
    (case l__law_choice => k_is)
    (case c__law_choice => k_is)
    (case k__law_choice => k_is)
    (case a__law_from => k_is)
    (case l__law_from => k_is)
    (case c__law_from => k_is)
    (case k__law_from => k_is)
    (case a__law_heap => k_is)
    (case l__law_heap => k_is)
    (case c__law_heap => k_is)
    (case k__law_heap => k_is)
    (case a__law_rule => k_is)
    (case l__law_rule => k_is)
    (case c__law_rule => k_is)
    (case k__law_rule => k_is)
    (case a__law_book => k_is)
    (case l__law_book => k_is)
    (case c__law_book => k_is)
    (case k__law_book => k_is)
    (case a__law_is_counts => k_is)
    (case l__law_is_counts => k_is)
    (case c__law_is_counts => k_is)
    (case k__law_is_counts => k_is)
    (case a__law_is_book => k_is)
    (case l__law_is_book => k_is)
    (case c__law_is_book => k_is)
    (case k__law_is_book => k_is)
    (case a__law_bent => k_is)
    (case l__law_bent => k_is)
    (case c__law_bent => k_is)
    (case k__law_bent => k_is)
    (case a__law_told => k_is)
    (case l__law_told => k_is)
    (case c__law_told => k_is)
    (case k__law_told => k_is)
    (case a_law => k_is)
    (case l_law => k_is)
    (case c_law => k_is)
    (case k_law => k_is)
    (case z_abs => k_is)
    (case z_all => k_is)
    (case z_bool => k_is)
    (case z_enumerate => k_is)
    (case z_int => k_is)
    (case z_isinstance => k_is)
    (case z_len => k_is)
    (case z_list => k_is)
    (case z_min => k_is)
    (case z_range => k_is)
    (case z_set => k_is)
    (case z_sum => k_is)
    (case z_tuple => k_is)
    (case g_GREAT => k_is)
    (case g_MOST_COUNT => k_is)
    (case g_MOST_RULES => k_is)
    (case e_InvalidBook => k_is)
    (case q_InvalidBook => k_exc)
    (case kp_InvalidBook => k_is)
    (case sb_InvalidBook => k_is)
    (case ty_InvalidBook => k_is)
