import PyProof.Rows.All
import HandS.ForMost
import HandS.Flow
import HandS.Zip
import HandS.TupAny
import HandS.Deep
import HandS.IsInst
import HandS.Wide
import HandS.WideBits
import HandS.WideMore
import HandS.Gcd
import HandS.SortInts
import HandS.DictTup
import HandS.Style
import HandS.TupLe
import HandS.HeadEnd
import HandS.HeadHook1
import HandS.HeadHook2
import HandS.EndBits
import HandS.Head0
import HandS.Head1
import HandS.Head2
import HandS.Head3
import HandS.Lambda
import HandS.TupMul
import HandS.Small
import HandS.Exc
import HandS.HotCalls
import HandS.TryOnly
import HandS.TryMany
import HandS.ExcInit
import HandS.ExcField
import HandS.ExcIs
import HandS.CallSlots
import HandS.WordsExc
import HandS.Zip0
import KE.DataMinMax
import KE.KTupSum
import HandS.Conv
import HandS.SetFor
import HandS.Iter
import HandS.RepeatKit
import KE.SortKeyHeap
import HandS.ExcValue
import HandS.TupSets
import HandS.EndTab
import KE.KNestM
import PySem.Challenge.RW_watchedbylot_k20_duties_judged
set_option Elab.async false
set_option linter.all false
set_option maxRecDepth 100000
set_option maxHeartbeats 4000000
/-! The data layer, part 1: pure values, the store, what represents them. -/
namespace DL
open PySem PySem.Spec PyProof.Rows L2

/-- a pure value; kup: a tuple that the module's top has made; rol: a list that nobody writes; ref n: the n-th cell of the store; fn i: the i-th def -/
inductive D where
  | non | bl (b : Bool) | int (i : Int) | str (z : Str) | tup (xs : List D) | kup (xs : List D) | rol (xs : List D) | ref (n : Nat) | fn (i : Nat)

/-- a mutable cell: a list, a dict -/
inductive Cell where
  | lst (xs : List D) | dK (kvs : List (Key × D)) | dT (kvs : List (List Key × D))

abbrev Env := List (Option D)
abbrev Mem := List Cell
abbrev Po := D → Mem → Prop
abbrev XP := Nat → List D → Mem → Prop
structure Ctx where
  call : Nat → XP → List D → Mem → Po → Prop
  ex : Env → XP
abbrev DE := Ctx → Env → Mem → Po → Prop
abbrev DT := Ctx → Env → Mem → (Bool → Mem → Prop) → Prop
abbrev DA := Ctx → Env → Mem → (List D → Mem → Prop) → Prop
structure DEnds where
  nx : Env → Mem → Prop
  rt : Po
  bk : Env → Mem → Prop := fun _ _ => False
  ct : Env → Mem → Prop := fun _ _ => False
abbrev DS := Ctx → DEnds → Env → Mem → Prop
abbrev DG := Ctx → D → Env → Mem → (Env → Mem → Prop) → Prop
/-- what a loop walks: the items, and what must stay true of the store meanwhile -/
abbrev DI := Ctx → Env → Mem → (List D → (Mem → Prop) → Mem → Prop) → Prop

/-! ### representation -/
/-- a caught exception: its slot, itself, its dict, its fields -/
structure Ex where
  i : Nat
  a : Addr
  dd : Addr
  ns : List Str
  vs : List V
  fs : List D
/-- where the defs stand; the heap and the cells' addresses at the entry -/
structure Org where
  fn : Nat → Addr
  cls : Nat → Addr
  flds : Nat → List Str
  exs : List Ex
  tabs : List (Addr × Str)
  H0 : Hp
  α0 : List Addr
mutual
inductive Rp (K : PySem.W.Frag) (fa : Org) (α : List Addr) (H : Hp) : V → D → Prop
  | non : Rp K fa α H .non .non
  | bl (b : Bool) : Rp K fa α H (.bl b) (.bl b)
  | int (i : Int) : Rp K fa α H (.int i) (.int i)
  | str (z : Str) : Rp K fa α H (.str z) (.str z)
  | tup {a : Addr} {vs : List V} {ds : List D} (s : H a = some (.tup vs)) (l : vs.length ≤ sizeLine) (r : Rps K fa α H vs ds) : Rp K fa α H (.ref a) (.tup ds)
  | kup {a : Addr} {vs : List V} {ds : List D} (s : ∀ G : Hp, SqT K G a vs) (l : vs.length ≤ sizeLine) (r : Rps K fa α H vs ds) : Rp K fa α H (.ref a) (.kup ds)
  | rol {a : Addr} {vs : List V} {ds : List D} (s : (∃ o, H a = some (.frz o (.lst vs))) ∨ ∀ G : Hp, SqL K G a vs) (l : vs.length ≤ sizeLine) (r : Rps K fa α H vs ds) : Rp K fa α H (.ref a) (.rol ds)
  | ref {n : Nat} {a : Addr} (e : α[n]? = some a) : Rp K fa α H (.ref a) (.ref n)
  | fn (i : Nat) : Rp K fa α H (.ref (fa.fn i)) (.fn i)
inductive Rps (K : PySem.W.Frag) (fa : Org) (α : List Addr) (H : Hp) : List V → List D → Prop
  | nil : Rps K fa α H [] []
  | cons {v : V} {vs : List V} {d : D} {ds : List D} (h : Rp K fa α H v d) (t : Rps K fa α H vs ds) : Rps K fa α H (v :: vs) (d :: ds)
end

/-- what a cell's object may be -/
def Mu : HO → Prop
  | .lst _ => True
  | .dK _ => True
  | .dT _ => True
  | _ => False
/-- no table -/
def NTb (o : HO) : Prop := ∀ ps, o ≠ .tbl ps
/-- nothing, or a table -/
def NT (H : Hp) (b : Addr) : Prop := ∀ o, H b = some o → ¬ NTb o
theorem NT.of {H : Hp} {b : Addr} (h : H b = none) : NT H b := fun o e => by rw [h] at e; cases e
theorem NT.ne {H : Hp} {a b : Addr} {o : HO} (h : NT H b) (e : H a = some o) (n : NTb o) : a ≠ b := fun z => by subst z; exact h o e n
theorem NT.no {H : Hp} {b : Addr} {o : HO} {p : Prop} (h : NT H b) (e : H b = some o) (n : NTb o := by nofun) : p := (h o e n).elim
/-- what values lean on stays -/
structure Gr (K : PySem.W.Frag) (H H' : Hp) (α α' : List Addr) : Prop where
  tup : ∀ a vs, H a = some (.tup vs) → H' a = some (.tup vs)
  frz : ∀ a o vs, H a = some (.frz o (.lst vs)) → H' a = some (.frz o (.lst vs))
  xd : ∀ a fs, H a = some (.xd fs) → H' a = some (.xd fs)
  pre : ∃ β, α' = α ++ β
/-- how the heap and the cells' addresses may go on -/
structure Ext (K : PySem.W.Frag) (H H' : Hp) (α α' : List Addr) : Prop extends Gr K H H' α α' where
  keep : ∀ a o, a ∉ α → NTb o → H a = some o → H' a = some o
  there : ∀ a o, NTb o → H a = some o → ∃ o', NTb o' ∧ H' a = some o'
  fresh : ∀ b ∈ α', b ∈ α ∨ NT H b

section
variable {K : PySem.W.Frag} {fa : Org} {α α' α'' : List Addr} {H H' H'' : Hp} {v : V} {d : D} {vs : List V} {ds : List D}

theorem Ext.refl : Ext K H H α α := ⟨⟨fun _ _ h => h, fun _ _ _ h => h, fun _ _ h => h, ⟨[], by simp⟩⟩, fun _ _ _ _ h => h, fun _ o n h => ⟨o, n, h⟩, fun _ h => .inl h⟩
theorem Ext.trans (a : Ext K H H' α α') (b : Ext K H' H'' α' α'') : Ext K H H'' α α'' where
  tup := fun x vs h => b.tup x vs (a.tup x vs h)
  frz := fun x o vs h => b.frz x o vs (a.frz x o vs h)
  xd := fun x fs h => b.xd x fs (a.xd x fs h)
  pre := by
    obtain ⟨β, rfl⟩ := a.pre
    obtain ⟨γ, rfl⟩ := b.pre
    exact ⟨β ++ γ, by simp⟩
  keep := fun x o hx nt h => b.keep x o (fun z => (a.fresh x z).elim hx fun n => n.no h nt) nt (a.keep x o hx nt h)
  there := fun x o n h => let ⟨o', n', h'⟩ := a.there x o n h; b.there x o' n' h'
  fresh := fun x hx => (b.fresh x hx).elim (a.fresh x) fun n => .inr fun o e z =>
    let ⟨_, n', h'⟩ := a.there x o z e
    n.no h' n'
theorem Gr.at (e : Gr K H H' α α') {n : Nat} {a : Addr} (h : α[n]? = some a) : α'[n]? = some a := by
  obtain ⟨β, rfl⟩ := e.pre
  rw [List.getElem?_append_left (List.getElem?_eq_some_iff.mp h).1]
  exact h
/-- a new object at p -/
theorem sqT_upd {p : Addr} {o : HO} {a : Addr} (hp : H p = none) (h : SqT K H a vs) : SqT K (upd H p o) a vs := by
  rcases h with (h | ⟨q, h⟩) | h
  · exact .inl (.inl (by rw [upd_ne (ne_of_none h hp)]; exact h))
  · exact .inl (.inr ⟨q, by rw [upd_ne (ne_of_none h hp)]; exact h⟩)
  · exact .inr h
theorem sqL_upd {p : Addr} {o : HO} {a : Addr} (hp : H p = none) (h : SqL K H a vs) : SqL K (upd H p o) a vs := by
  rcases h with (h | ⟨q, h⟩) | h
  · exact .inl (.inl (by rw [upd_ne (ne_of_none h hp)]; exact h))
  · exact .inl (.inr ⟨q, by rw [upd_ne (ne_of_none h hp)]; exact h⟩)
  · exact .inr h
theorem Ext.new {p : Addr} {o : HO} (hp : H p = none) : Ext K H (upd H p o) α α where
  tup := fun a vs h => by rw [upd_ne (ne_of_none h hp)]; exact h
  frz := fun a o vs h => by rw [upd_ne (ne_of_none h hp)]; exact h
  xd := fun a fs h => by rw [upd_ne (ne_of_none h hp)]; exact h
  pre := ⟨[], by simp⟩
  keep := fun a u _ _ h => by rw [upd_ne (ne_of_none h hp)]; exact h
  there := fun a u n h => ⟨u, n, by rw [upd_ne (ne_of_none h hp)]; exact h⟩
  fresh := fun _ h => .inl h
/-- a new cell at p -/
theorem Ext.cell {p : Addr} {o : HO} (hp : H p = none) : Ext K H (upd H p o) α (α ++ [p]) where
  tup := fun a vs h => by rw [upd_ne (ne_of_none h hp)]; exact h
  frz := fun a o vs h => by rw [upd_ne (ne_of_none h hp)]; exact h
  xd := fun a fs h => by rw [upd_ne (ne_of_none h hp)]; exact h
  pre := ⟨[p], rfl⟩
  keep := fun a u _ _ h => by rw [upd_ne (ne_of_none h hp)]; exact h
  there := fun a u n h => ⟨u, n, by rw [upd_ne (ne_of_none h hp)]; exact h⟩
  fresh := fun b hb => by
    rcases List.mem_append.mp hb with h | h
    · exact .inl h
    · have e : b = p := by simpa using h
      subst e
      exact .inr (.of hp)
/-- the tables don't care for what a cell's object becomes -/
theorem tab_upd {p P : Addr} {q : Str} {o : HO} (hp : ∀ u, H p = some u → Mu u) (h : LamX.TabS H P q) : LamX.TabS (upd H p o) P q := by
  obtain ⟨ps, h1, h2, h3⟩ := h
  have nP : P ≠ p := fun z => by subst z; exact hp _ h1
  refine ⟨ps, by rw [upd_ne nP]; exact h1, h2, fun pos cv e => ?_⟩
  obtain ⟨c, e1, e2⟩ := h3 pos cv e
  have nc : c ≠ p := fun z => by subst z; exact hp _ e2
  exact ⟨c, e1, by rw [upd_ne nc]; exact e2⟩
/-- a cell that is no tuple is written -/
theorem Ext.write {p : Addr} {u o : HO} (hp : H p = some u) (ha : p ∈ α) (hu : Mu u) (ho : NTb o := by nofun) : Ext K H (upd H p o) α α where
  tup := fun a vs h => by rw [upd_ne (ne_of h hp (fun z => by subst z; exact hu))]; exact h
  frz := fun a o vs h => by rw [upd_ne (ne_of h hp (fun z => by subst z; exact hu))]; exact h
  xd := fun a fs h => by rw [upd_ne (ne_of h hp (fun z => by subst z; exact hu))]; exact h
  pre := ⟨[], by simp⟩
  keep := fun a w hn _ h => by
    have z : a ≠ p := fun z => by subst z; exact hn ha
    rw [upd_ne z]; exact h
  there := fun a w n h => by
    by_cases z : a = p
    · subst z; exact ⟨o, ho, upd_same⟩
    · exact ⟨w, n, by rw [upd_ne z]; exact h⟩
  fresh := fun _ h => .inl h

mutual
theorem Rp.grow (e : Gr K H H' α α') : ∀ {v : V} {d : D}, Rp K fa α H v d → Rp K fa α' H' v d
  | _, _, .non => .non
  | _, _, .bl b => .bl b
  | _, _, .int i => .int i
  | _, _, .str z => .str z
  | _, _, .tup s l r => .tup (e.tup _ _ s) l (Rps.grow e r)
  | _, _, .kup s l r => .kup s l (Rps.grow e r)
  | _, _, .rol s l r => .rol (s.imp (fun ⟨o, z⟩ => ⟨o, e.frz _ _ _ z⟩) id) l (Rps.grow e r)
  | _, _, .ref h => .ref (e.at h)
  | _, _, .fn i => .fn i
theorem Rps.grow (e : Gr K H H' α α') : ∀ {vs : List V} {ds : List D}, Rps K fa α H vs ds → Rps K fa α' H' vs ds
  | _, _, .nil => .nil
  | _, _, .cons h t => .cons (Rp.grow e h) (Rps.grow e t)
end
theorem Rp.mono (e : Ext K H H' α α') {v : V} {d : D} (h : Rp K fa α H v d) : Rp K fa α' H' v d := Rp.grow e.toGr h
theorem Rps.mono (e : Ext K H H' α α') {vs : List V} {ds : List D} (h : Rps K fa α H vs ds) : Rps K fa α' H' vs ds := Rps.grow e.toGr h
theorem Rps.length : ∀ {vs : List V} {ds : List D}, Rps K fa α H vs ds → vs.length = ds.length
  | _, _, .nil => rfl
  | _, _, .cons _ t => congrArg (· + 1) (Rps.length t)
theorem Rps.get : ∀ {vs : List V} {ds : List D} {i : Nat} {d : D}, Rps K fa α H vs ds → ds[i]? = some d → ∃ v, vs[i]? = some v ∧ Rp K fa α H v d
  | _, _, _, _, .nil, e => by simp at e
  | _, _, 0, _, .cons h _, e => by simp at e; subst e; exact ⟨_, rfl, h⟩
  | _, _, i + 1, d, .cons _ t, e => by
    obtain ⟨v, h1, h2⟩ := Rps.get (i := i) (d := d) t (by simpa using e)
    exact ⟨v, by simpa using h1, h2⟩
theorem Rps.getV : ∀ {vs : List V} {ds : List D} {i : Nat} {v : V}, Rps K fa α H vs ds → vs[i]? = some v → ∃ d, ds[i]? = some d ∧ Rp K fa α H v d
  | _, _, _, _, .nil, e => by simp at e
  | _, _, 0, _, .cons h _, e => by simp at e; subst e; exact ⟨_, rfl, h⟩
  | _, _, i + 1, d, .cons _ t, e => by
    obtain ⟨v, h1, h2⟩ := Rps.getV (i := i) (v := d) t (by simpa using e)
    exact ⟨v, by simpa using h1, h2⟩
theorem Rps.append : ∀ {vs ws : List V} {ds es : List D}, Rps K fa α H vs ds → Rps K fa α H ws es → Rps K fa α H (vs ++ ws) (ds ++ es)
  | _, _, _, _, .nil, s => s
  | _, _, _, _, .cons r t, s => .cons r (Rps.append t s)
theorem Rps.take : ∀ {vs : List V} {ds : List D} (n : Nat), Rps K fa α H vs ds → Rps K fa α H (vs.take n) (ds.take n)
  | _, _, 0, _ => .nil
  | _, _, _ + 1, .nil => .nil
  | _, _, n + 1, .cons r t => .cons r (Rps.take n t)
theorem Rps.drop : ∀ {vs : List V} {ds : List D} (n : Nat), Rps K fa α H vs ds → Rps K fa α H (vs.drop n) (ds.drop n)
  | _, _, 0, r => r
  | _, _, _ + 1, .nil => .nil
  | _, _, n + 1, .cons _ t => Rps.drop n t
theorem Rps.set {v : V} {d : D} (r : Rp K fa α H v d) : ∀ {vs : List V} {ds : List D} (i : Nat), Rps K fa α H vs ds → Rps K fa α H (vs.set i v) (ds.set i d)
  | _, _, _, .nil => .nil
  | _, _, 0, .cons _ t => .cons r t
  | _, _, i + 1, .cons q t => .cons q (Rps.set r i t)
theorem Rps.ints : ∀ (ns : List Int), Rps K fa α H (ns.map V.int) (ns.map D.int)
  | [] => .nil
  | n :: r => .cons (.int n) (Rps.ints r)
theorem Rps.rev {vs : List V} {ds : List D} (h : Rps K fa α H vs ds) : Rps K fa α H vs.reverse ds.reverse := by
  induction vs generalizing ds with
  | nil => cases h; exact .nil
  | cons v vs ih =>
    cases h with
    | cons h t =>
      rw [List.reverse_cons, List.reverse_cons]
      exact (ih t).append (.cons h .nil)
theorem Rps.rep {vs : List V} {ds : List D} (h : Rps K fa α H vs ds) : ∀ n : Nat, Rps K fa α H (List.replicate n vs).flatten (List.replicate n ds).flatten
  | 0 => .nil
  | n + 1 => by
    rw [List.replicate_succ, List.replicate_succ, List.flatten_cons, List.flatten_cons]
    exact h.append (Rps.rep h n)
theorem Rps.erase : ∀ {vs : List V} {ds : List D} (n : Nat), Rps K fa α H vs ds → Rps K fa α H (vs.eraseIdx n) (ds.eraseIdx n)
  | _, _, _, .nil => .nil
  | _, _, 0, .cons _ t => t
  | _, _, n + 1, .cons r t => .cons r (Rps.erase n t)
theorem Rps.dropLast {vs : List V} {ds : List D} (h : Rps K fa α H vs ds) : Rps K fa α H vs.dropLast ds.dropLast := by
  rw [List.dropLast_eq_take, List.dropLast_eq_take, h.length]
  exact h.take _
theorem Rps.snoc {vs : List V} {ds : List D} (h : Rps K fa α H vs ds) (r : Rp K fa α H v d) : Rps K fa α H (vs ++ [v]) (ds ++ [d]) := h.append (.cons r .nil)
end

/-! ### cells -/
abbrev KR (K : PySem.W.Frag) (fa : Org) (α : List Addr) (H : Hp) {κ : Type} (p : κ × V) (q : κ × D) : Prop := p.1 = q.1 ∧ Rp K fa α H p.2 q.2
def CellR (K : PySem.W.Frag) (fa : Org) (α : List Addr) (H : Hp) (a : Addr) : Cell → Prop
  | .lst xs => ∃ vs, H a = some (.lst vs) ∧ vs.length ≤ sizeLine ∧ Rps K fa α H vs xs
  | .dK kvs => ∃ ws, H a = some (.dK ws) ∧ Paired (KR K fa α H) ws kvs
  | .dT kvs => ∃ ws, H a = some (.dT ws) ∧ Paired (KR K fa α H) ws kvs
structure StR (K : PySem.W.Frag) (fa : Org) (α : List Addr) (H : Hp) (M : Mem) : Prop where
  len : α.length = M.length
  nod : α.Nodup
  cell : ∀ (n : Nat) (c : Cell) (a : Addr), M[n]? = some c → α[n]? = some a → CellR K fa α H a c
  org : Ext K fa.H0 H fa.α0 α
  tabs : LamX.Tabs fa.tabs H
def ExR (K : PySem.W.Frag) (fa : Org) (α : List Addr) (H : Hp) (σ : L2.St) (q : Ex) : Prop := σ[q.i]? = some (some (.ref q.a)) ∧ H q.dd = some (.xd (q.ns.zip q.vs)) ∧ Rps K fa α H q.vs q.fs
def EnvR (K : PySem.W.Frag) (fa : Org) (α : List Addr) (H : Hp) (σ : L2.St) (ρ : Env) : Prop :=
  σ.length = ρ.length ∧ (∀ (i : Nat) (d : D), ρ[i]? = some (some d) → ∃ v, σ[i]? = some (some v) ∧ Rp K fa α H v d) ∧ ∀ q ∈ fa.exs, ExR K fa α H σ q

section
variable {K : PySem.W.Frag} {fa : Org} {α α' : List Addr} {H H' : Hp} {M : Mem} {σ : L2.St} {ρ : Env} {p : Addr} {o : HO}
theorem EnvR.mono (h : EnvR K fa α H σ ρ) (e : Ext K H H' α α') : EnvR K fa α' H' σ ρ :=
  ⟨h.1, fun i d q => let ⟨v, a, b⟩ := h.2.1 i d q; ⟨v, a, b.mono e⟩, fun q hq => let ⟨a, b, c⟩ := h.2.2 q hq; ⟨a, e.xd _ _ b, c.mono e⟩⟩
theorem EnvR.set {i : Nat} {v : V} {d : D} (h : EnvR K fa α H σ ρ) (r : Rp K fa α H v d) (hx : fa.exs = []) : EnvR K fa α H (σ.set i (some v)) (ρ.set i (some d)) := by
  refine ⟨by simpa using h.1, fun j e q => ?_, fun q hq => by rw [hx] at hq; cases hq⟩
  by_cases hj : i = j
  · subst hj
    have hl : i < ρ.length := by
      have := (List.getElem?_eq_some_iff.mp q).1
      simpa using this
    rw [List.getElem?_set_self hl] at q
    cases q
    exact ⟨v, by rw [List.getElem?_set_self (by rw [h.1]; exact hl)], r⟩
  · rw [List.getElem?_set_ne hj] at q
    obtain ⟨w, a, b⟩ := h.2.1 j e q
    exact ⟨w, by rw [List.getElem?_set_ne hj]; exact a, b⟩
theorem Paired.kg {κ : Type} (e : Gr K H H' α α') {ws : List (κ × V)} {kvs : List (κ × D)} (h : Paired (KR K fa α H) ws kvs) : Paired (KR K fa α' H') ws kvs :=
  Paired.mapP h fun _ _ z => ⟨z.1, z.2.grow e⟩
theorem Paired.kr {κ : Type} (e : Ext K H H' α α') {ws : List (κ × V)} {kvs : List (κ × D)} (h : Paired (KR K fa α H) ws kvs) : Paired (KR K fa α' H') ws kvs := Paired.kg e.toGr h
/-- a cell's own object is as it was -/
theorem CellR.grow {a : Addr} {c : Cell} (e : Gr K H H' α α') (hk : ∀ u, H a = some u → H' a = some u) (h : CellR K fa α H a c) : CellR K fa α' H' a c := by
  cases c with
  | lst xs => obtain ⟨vs, q, l, r⟩ := h; exact ⟨vs, hk _ q, l, r.grow e⟩
  | dK kvs => obtain ⟨ws, q, r⟩ := h; exact ⟨ws, hk _ q, Paired.kg e r⟩
  | dT kvs => obtain ⟨ws, q, r⟩ := h; exact ⟨ws, hk _ q, Paired.kg e r⟩
/-- an object that is no cell is new -/
theorem StR.new (s : StR K fa α H M) (hp : H p = none) : StR K fa α (upd H p o) M where
  len := s.len
  nod := s.nod
  cell := fun n c a e1 e2 => (s.cell n c a e1 e2).grow (Ext.new hp).toGr fun u h => by rw [upd_ne (ne_of_none h hp)]; exact h
  org := s.org.trans (Ext.new hp)
  tabs := fun t ht => (s.tabs t ht).ext fun b u h => by rw [upd_ne (ne_of_none h hp)]; exact h
theorem CellR.there {a : Addr} {c : Cell} (h : CellR K fa α H a c) : ∃ u, H a = some u := by
  cases c with
  | lst xs => obtain ⟨vs, q, _⟩ := h; exact ⟨_, q⟩
  | dK kvs => obtain ⟨vs, q, _⟩ := h; exact ⟨_, q⟩
  | dT kvs => obtain ⟨vs, q, _⟩ := h; exact ⟨_, q⟩
theorem CellR.nt {a : Addr} {c : Cell} (h : CellR K fa α (upd H a o) a c) : NTb o := by
  cases c with
  | lst xs => obtain ⟨vs, q, _⟩ := h; rw [upd_same] at q; cases q; nofun
  | dK kvs => obtain ⟨vs, q, _⟩ := h; rw [upd_same] at q; cases q; nofun
  | dT kvs => obtain ⟨vs, q, _⟩ := h; rw [upd_same] at q; cases q; nofun
theorem StR.there (s : StR K fa α H M) {a : Addr} (ha : a ∈ α) : ∃ u, H a = some u := by
  obtain ⟨n, hn, e⟩ := List.mem_iff_getElem.mp ha
  have hM : n < M.length := by rw [← s.len]; exact hn
  exact (s.cell n M[n] a (List.getElem?_eq_getElem hM) (by rw [List.getElem?_eq_getElem hn, e])).there
theorem StR.notin (s : StR K fa α H M) (hp : H p = none) : p ∉ α := fun z => by
  obtain ⟨u, h⟩ := s.there z
  rw [hp] at h; cases h
/-- a new cell -/
theorem StR.alloc (s : StR K fa α H M) (hp : H p = none) {c : Cell} (hc : CellR K fa (α ++ [p]) (upd H p o) p c) : StR K fa (α ++ [p]) (upd H p o) (M ++ [c]) where
  len := by rw [List.length_append, List.length_append, s.len]; rfl
  nod := by
    rw [List.nodup_append]
    refine ⟨s.nod, by simp, fun a ha b hb => ?_⟩
    have e : b = p := by simpa using hb
    subst e
    exact fun z => s.notin hp (by subst z; exact ha)
  cell := fun n c' a e1 e2 => by
    by_cases hn : n < M.length
    · rw [List.getElem?_append_left hn] at e1
      rw [List.getElem?_append_left (by rw [s.len]; exact hn)] at e2
      exact (s.cell n c' a e1 e2).grow (Ext.cell hp).toGr fun u h => by rw [upd_ne (ne_of_none h hp)]; exact h
    · have hn1 : n = M.length := by
        have := (List.getElem?_eq_some_iff.mp e1).1
        rw [List.length_append] at this
        have e : ([c] : List Cell).length = 1 := rfl
        omega
      subst hn1
      rw [List.getElem?_concat_length] at e1
      rw [← s.len, List.getElem?_concat_length] at e2
      cases e1; cases e2
      exact hc
  org := s.org.trans (Ext.cell hp)
  tabs := fun t ht => (s.tabs t ht).ext fun b u h => by rw [upd_ne (ne_of_none h hp)]; exact h
/-- the n-th cell is written -/
theorem StR.write (s : StR K fa α H M) {n : Nat} {a : Addr} {u : HO} {c : Cell} (ea : α[n]? = some a) (hu : H a = some u) (nt : Mu u) (hc : CellR K fa α (upd H a o) a c) : StR K fa α (upd H a o) (M.set n c) where
  len := by rw [List.length_set]; exact s.len
  nod := s.nod
  cell := fun m c' b e1 e2 => by
    by_cases hm : n = m
    · subst hm
      rw [ea] at e2; cases e2
      have hl : n < M.length := by rw [← s.len]; exact (List.getElem?_eq_some_iff.mp ea).1
      rw [List.getElem?_set_self hl] at e1
      cases e1
      exact hc
    · rw [List.getElem?_set_ne hm] at e1
      have hb : b ≠ a := by
        intro z
        subst z
        obtain ⟨h1, e1'⟩ := List.getElem?_eq_some_iff.mp ea
        obtain ⟨h2, e2'⟩ := List.getElem?_eq_some_iff.mp e2
        exact hm ((List.getElem_inj s.nod).mp (e1'.trans e2'.symm))
      exact (s.cell m c' b e1 e2).grow (Ext.write hu (List.mem_of_getElem? ea) nt (CellR.nt hc)).toGr fun w h => by rw [upd_ne hb]; exact h
  org := s.org.trans (Ext.write hu (List.mem_of_getElem? ea) nt (CellR.nt hc))
  tabs := fun t ht => tab_upd (fun w hw => by rw [hu] at hw; cases hw; exact nt) (s.tabs t ht)
/-- a list that stands apart becomes a cell -/
theorem StR.adopt (s : StR K fa α H M) {a : Addr} {vs : List V} {ds : List D} (ha : H a = some (.lst vs)) (na : a ∉ α) (l : vs.length ≤ sizeLine) (r : Rps K fa α H vs ds) (h0 : NT fa.H0 a) : StR K fa (α ++ [a]) H (M ++ [.lst ds]) where
  len := by rw [List.length_append, List.length_append, s.len]; rfl
  nod := by
    rw [List.nodup_append]
    refine ⟨s.nod, by simp, fun b hb c hc => ?_⟩
    have e : c = a := by simpa using hc
    subst e
    exact fun z => na (by subst z; exact hb)
  cell := fun n c' b e1 e2 => by
    have g : Gr K H H α (α ++ [a]) := ⟨fun _ _ h => h, fun _ _ _ h => h, fun _ _ h => h, ⟨[a], rfl⟩⟩
    by_cases hn : n < M.length
    · rw [List.getElem?_append_left hn] at e1
      rw [List.getElem?_append_left (by rw [s.len]; exact hn)] at e2
      exact (s.cell n c' b e1 e2).grow g fun u h => h
    · have hn1 : n = M.length := by
        have := (List.getElem?_eq_some_iff.mp e1).1
        rw [List.length_append] at this
        have e : ([Cell.lst ds] : List Cell).length = 1 := rfl
        omega
      subst hn1
      rw [List.getElem?_concat_length] at e1
      rw [← s.len, List.getElem?_concat_length] at e2
      cases e1; cases e2
      exact ⟨vs, ha, l, r.grow g⟩
  org := ⟨⟨s.org.tup, s.org.frz, s.org.xd, by obtain ⟨β, hβ⟩ := s.org.pre; exact ⟨β ++ [a], by rw [hβ, List.append_assoc]⟩⟩, s.org.keep, s.org.there, fun b hb => by
    rcases List.mem_append.mp hb with z | z
    · exact s.org.fresh b z
    · have : b = a := by simpa using z
      subst this
      exact .inr h0⟩
  tabs := s.tabs
theorem EnvR.wiped {vs : List Nat} (h : EnvR K fa α H σ ρ) (hx : fa.exs = []) : EnvR K fa α H (wipe σ vs) (vs.foldr (fun i (r : Env) => r.set i none) ρ) := by
  induction vs with
  | nil => exact h
  | cons v vs ih =>
    refine ⟨?_, fun i d q => ?_, fun q hq => by rw [hx] at hq; cases hq⟩
    · rw [wipe_length, List.foldr_cons, List.length_set, h.1]
      have : ∀ l : List Nat, (l.foldr (fun i (r : Env) => r.set i none) ρ).length = ρ.length := fun l => by
        induction l with
        | nil => rfl
        | cons x l ih => rw [List.foldr_cons, List.length_set, ih]
      rw [this]
    · rw [List.foldr_cons] at q
      by_cases hv : v = i
      · subst hv
        by_cases hl : v < (vs.foldr (fun i (r : Env) => r.set i none) ρ).length
        · rw [List.getElem?_set_self hl] at q; cases q
        · rw [List.getElem?_eq_none (by simpa using hl)] at q; cases q
      · rw [List.getElem?_set_ne hv] at q
        obtain ⟨w, a, b⟩ := ih.2.1 i d q
        refine ⟨w, ?_, b⟩
        show ((wipe σ vs).set v none)[i]? = _
        rw [List.getElem?_set_ne hv]
        exact a
/-- what is new is new from the entry on -/
theorem StR.h0 (s : StR K fa α H M) {a : Addr} (h : NT H a) : NT fa.H0 a := fun o e n => by
  obtain ⟨_, n', h'⟩ := s.org.there _ _ n e
  exact h.no h' n'
mutual
theorem Rp.org {fb : Org} (e : fb.fn = fa.fn ∧ fb.tabs = fa.tabs ∧ fb.flds = fa.flds) : ∀ {v : V} {d : D}, Rp K fa α H v d → Rp K fb α H v d
  | _, _, .non => .non
  | _, _, .bl b => .bl b
  | _, _, .int i => .int i
  | _, _, .str z => .str z
  | _, _, .tup s l r => .tup s l (Rps.org e r)
  | _, _, .kup s l r => .kup s l (Rps.org e r)
  | _, _, .rol s l r => .rol s l (Rps.org e r)
  | _, _, .ref h => .ref h
  | _, _, .fn i => by rw [← e.1]; exact .fn i
theorem Rps.org {fb : Org} (e : fb.fn = fa.fn ∧ fb.tabs = fa.tabs ∧ fb.flds = fa.flds) : ∀ {vs : List V} {ds : List D}, Rps K fa α H vs ds → Rps K fb α H vs ds
  | _, _, .nil => .nil
  | _, _, .cons h t => .cons (Rp.org e h) (Rps.org e t)
end
theorem CellR.org {fb : Org} (e : fb.fn = fa.fn ∧ fb.tabs = fa.tabs ∧ fb.flds = fa.flds) {a : Addr} {c : Cell} (h : CellR K fa α H a c) : CellR K fb α H a c := by
  cases c with
  | lst xs => obtain ⟨vs, q, l, r⟩ := h; exact ⟨vs, q, l, r.org e⟩
  | dK kvs => obtain ⟨ws, q, r⟩ := h; exact ⟨ws, q, Paired.mapP r fun _ _ z => ⟨z.1, z.2.org e⟩⟩
  | dT kvs => obtain ⟨ws, q, r⟩ := h; exact ⟨ws, q, Paired.mapP r fun _ _ z => ⟨z.1, z.2.org e⟩⟩
/-- the entry moved to here -/
theorem StR.start (s : StR K fa α H M) : StR K { fa with H0 := H, α0 := α } α H M := ⟨s.len, s.nod, fun n c a e1 e2 => CellR.org (fa := fa) (fb := { fa with H0 := H, α0 := α }) ⟨rfl, rfl, rfl⟩ (s.cell n c a e1 e2), Ext.refl, s.tabs⟩
theorem StR.back {H' : Hp} {α' : List Addr} {M' : Mem} (s : StR K fa α H M) (t : StR K { fa with H0 := H, α0 := α } α' H' M') : StR K fa α' H' M' := ⟨t.len, t.nod, fun n c a e1 e2 => CellR.org (fa := { fa with H0 := H, α0 := α }) (fb := fa) ⟨rfl, rfl, rfl⟩ (t.cell n c a e1 e2), s.org.trans t.org, t.tabs⟩
end
end DL

/-! The data layer, part 2: readings over data, and the rules of expressions. -/
namespace DL
open PySem PySem.Spec PyProof.Rows L2

/-- what a value's end wants, over the abstract heap -/
def Ans (K : PySem.W.Frag) (fa : Org) (α : List Addr) (H : Hp) (P : Po) (Q : VK) : Prop :=
  ∀ (v : V) (d : D) (H' : Hp) (α' : List Addr) (M' : Mem), Ext K H H' α α' → StR K fa α' H' M' → Rp K fa α' H' v d → P d M' → Q v H'
def LE (K : PySem.W.Frag) (fa : Org) (C : Ctx) (t : DE) : TE := fun σ H Q => ∃ (ρ : Env) (M : Mem) (α : List Addr) (P : Po), EnvR K fa α H σ ρ ∧ StR K fa α H M ∧ t C ρ M P ∧ Ans K fa α H P Q
def LT (K : PySem.W.Frag) (fa : Org) (C : Ctx) (t : DT) : TT := fun σ H Q => ∃ (ρ : Env) (M : Mem) (α : List Addr) (P : Bool → Mem → Prop), EnvR K fa α H σ ρ ∧ StR K fa α H M ∧ t C ρ M P ∧
  ∀ (b : Bool) (H' : Hp) (α' : List Addr) (M' : Mem), Ext K H H' α α' → StR K fa α' H' M' → P b M' → Q b H'
def LA (K : PySem.W.Frag) (fa : Org) (C : Ctx) (t : DA) : TA := fun σ H Q => ∃ (ρ : Env) (M : Mem) (α : List Addr) (P : List D → Mem → Prop), EnvR K fa α H σ ρ ∧ StR K fa α H M ∧ t C ρ M P ∧
  ∀ (vs : List V) (ds : List D) (H' : Hp) (α' : List Addr) (M' : Mem), Ext K H H' α α' → StR K fa α' H' M' → Rps K fa α' H' vs ds → P ds M' → Q vs H'
/-- a two-place operation by values -/
abbrev DOp := D → D → Mem → Po → Prop
def LO (K : PySem.W.Frag) (fa : Org) (op : DOp) : R2 := fun x y H Q => ∃ (M : Mem) (α : List Addr) (d e : D) (P : Po), StR K fa α H M ∧ Rp K fa α H x d ∧ Rp K fa α H y e ∧ op d e M P ∧ Ans K fa α H P Q
/-- a one-place one -/
abbrev DUn := D → Mem → Po → Prop
def LU (K : PySem.W.Frag) (fa : Org) (op : DUn) : V → Hp → VK → Prop := fun x H Q => ∃ (M : Mem) (α : List Addr) (d : D) (P : Po), StR K fa α H M ∧ Rp K fa α H x d ∧ op d M P ∧ Ans K fa α H P Q
/-- values to a value -/
abbrev DF := List D → Mem → Po → Prop
def LF (K : PySem.W.Frag) (fa : Org) (op : DF) : List V → Hp → VK → Prop := fun xs H Q => ∃ (M : Mem) (α : List Addr) (ds : List D) (P : Po), StR K fa α H M ∧ Rps K fa α H xs ds ∧ op ds M P ∧ Ans K fa α H P Q

section
variable {K : PySem.W.Frag} {fa : Org} {α α' : List Addr} {H H' : Hp} {M : Mem} {P : Po} {Q : VK} {v : V} {d : D}
theorem Ans.ext (a : Ans K fa α H P Q) (e : Ext K H H' α α') : Ans K fa α' H' P Q := fun v d H2 α2 M2 e2 s r p => a v d H2 α2 M2 (e.trans e2) s r p
theorem Ans.here (a : Ans K fa α H P Q) (s : StR K fa α H M) (r : Rp K fa α H v d) (p : P d M) : Q v H := a v d H α M Ext.refl s r p
/-- a new tuple as the answer -/
theorem Ans.tup {vs : List V} {ds : List D} {p : Addr} (a : Ans K fa α H P Q) (s : StR K fa α H M) (r : Rps K fa α H vs ds) (l : vs.length ≤ sizeLine) (hp : H p = none) (h : P (.tup ds) M) : Q (.ref p) (upd H p (.tup vs)) :=
  a _ _ _ _ _ (Ext.new hp) (s.new hp) (.tup upd_same l (r.mono (Ext.new hp))) h
/-- a new list cell as the answer -/
theorem Ans.lst {vs : List V} {ds : List D} {p : Addr} (a : Ans K fa α H P Q) (s : StR K fa α H M) (r : Rps K fa α H vs ds) (l : vs.length ≤ sizeLine) (hp : H p = none) (h : P (.ref M.length) (M ++ [.lst ds])) : Q (.ref p) (upd H p (.lst vs)) :=
  a _ _ _ _ _ (Ext.cell hp) (s.alloc (c := .lst ds) hp ⟨vs, upd_same, l, r.mono (Ext.cell hp)⟩) (.ref (by rw [← s.len, List.getElem?_concat_length])) h
end

end DL
namespace L2
open PySem PySem.Spec PyProof.Rows
theorem PE.imp {X : Cx} {e : Expr} {t t' : TE} (h : PE X e t) (i : ∀ σ H Q, t' σ H Q → t σ H Q) : PE X e t' := ⟨fun pins s σ H Q I q => h.run pins s σ H Q I (i σ H Q q)⟩
theorem PT.imp {X : Cx} {e : Expr} {t t' : TT} (h : PT X e t) (i : ∀ σ H Q, t' σ H Q → t σ H Q) : PT X e t' := ⟨fun pins s σ H Q I q => h.run pins s σ H Q I (i σ H Q q)⟩
theorem PW.imp {X : Cx} {e : Expr} {t t' : TT} (h : PW X e t) (i : ∀ σ H Q, t' σ H Q → t σ H Q) : PW X e t' := ⟨fun wh pins s σ H Q I q => h.run wh pins s σ H Q I (i σ H Q q)⟩
theorem PA.imp {X : Cx} {e : List Expr} {t t' : TA} (h : PA X e t) (i : ∀ σ H Q, t' σ H Q → t σ H Q) : PA X e t' := ⟨fun pos pins s σ H Q I q => h.run pos pins s σ H Q I (i σ H Q q)⟩
theorem OpR.imp {X : Cx} {f : Value → Value → Sem Value} {r r' : R2} (h : OpR X f r) (i : ∀ x y H Q, r' x y H Q → r x y H Q) : OpR X f r' := fun pins s σ H x y v u Q I rx ry q => h pins s σ H x y v u Q I rx ry (i x y H Q q)
theorem UnR.imp {X : Cx} {f : Value → Sem Value} {r r' : V → Hp → VK → Prop} (h : UnR X f r) (i : ∀ x H Q, r' x H Q → r x H Q) : UnR X f r' := fun pins s σ H x v Q I rx q => h pins s σ H x v Q I rx (i x H Q q)
theorem CallR.imp {X : Cx} {f : Value} {r r' : List V → Hp → VK → Prop} (h : CallR X f r) (i : ∀ x H Q, r' x H Q → r x H Q) : CallR X f r' := fun pins s σ H x v Q I rx q => h pins s σ H x v Q I rx (i x H Q q)
theorem IxR.imp {X : Cx} {r r' : R2} (h : IxR X r) (i : ∀ x y H Q, r' x y H Q → r x y H Q) : IxR X r' := fun va sl pins s σ H x y v u Q I rx ry q => h va sl pins s σ H x y v u Q I rx ry (i x y H Q q)
theorem MtR.imp {X : Cx} {id : String} {r r' : V → List V → Hp → VK → Prop} (h : MtR X id r) (i : ∀ x xs H Q, r' x xs H Q → r x xs H Q) : MtR X id r' := fun pins s σ H x xs v us Q I rx rs q => h pins s σ H x xs v us Q I rx rs (i x xs H Q q)

end L2
namespace DL
open PySem PySem.Spec PyProof.Rows L2
/-! ### meanings over data -/
def got (o : Option (Option D)) (k : D → Prop) : Prop := match o with
  | some (some d) => k d
  | _ => False
def eVar (i : Nat) : DE := fun _ ρ M P => got ρ[i]? fun d => P d M
def eK (d : D) : DE := fun _ _ M P => P d M
def eBin (op : DOp) (a b : DE) : DE := fun C ρ M P => a C ρ M fun x M1 => b C ρ M1 fun y M2 => op x y M2 P
def eUn (op : DUn) (a : DE) : DE := fun C ρ M P => a C ρ M fun x M1 => op x M1 P
/-- a comparison's answer as a test -/
def bl? (P : Bool → Mem → Prop) : Po := fun d M => match d with
  | .bl b => P b M
  | _ => False
def tOf (a : DE) : DT := fun C ρ M P => a C ρ M (bl? P)
/-- truth -/
def tru (d : D) (M : Mem) (k : Bool → Prop) : Prop := match d with
  | .non => k false
  | .bl b => k b
  | .int i => k (i != 0)
  | .str z => z.length ≤ sizeLine ∧ k ((z.length : Int) != 0)
  | .tup xs => k (!xs.isEmpty)
  | .kup xs => k (!xs.isEmpty)
  | .rol xs => k (!xs.isEmpty)
  | .ref n => (match M[n]? with
    | some (.lst xs) => k (!xs.isEmpty)
    | some (.dK kvs) => k (!kvs.isEmpty)
    | _ => False)
  | .fn _ => False
def tTru (a : DE) : DT := fun C ρ M P => a C ρ M fun d M1 => tru d M1 fun b => P b M1
def tAnd (a b : DT) : DT := fun C ρ M P => a C ρ M fun c M1 => if c = true then b C ρ M1 P else P false M1
def tOr (a b : DT) : DT := fun C ρ M P => a C ρ M fun c M1 => if c = true then P true M1 else b C ρ M1 P
def tNot (a : DT) : DT := fun C ρ M P => a C ρ M fun c M1 => P (!c) M1
def eAnd (a b : DE) : DE := fun C ρ M P => a C ρ M fun d M1 => tru d M1 fun c => if c = true then b C ρ M1 P else P d M1
def eOr (a b : DE) : DE := fun C ρ M P => a C ρ M fun d M1 => tru d M1 fun c => if c = true then P d M1 else b C ρ M1 P
def eNot (a : DE) : DE := fun C ρ M P => a C ρ M fun d M1 => tru d M1 fun c => P (.bl (!c)) M1
def eIf (c : DT) (a b : DE) : DE := fun C ρ M P => c C ρ M fun k M1 => if k = true then a C ρ M1 P else b C ρ M1 P
def aNil : DA := fun _ _ M P => P [] M
def aCons (a : DE) (r : DA) : DA := fun C ρ M P => a C ρ M fun d M1 => r C ρ M1 fun ds M2 => P (d :: ds) M2
def eTup (a : DA) : DE := fun C ρ M P => a C ρ M fun ds M1 => ds.length ≤ sizeLine ∧ P (.tup ds) M1
def eLst (a : DA) : DE := fun C ρ M P => a C ρ M fun ds M1 => ds.length ≤ sizeLine ∧ P (.ref M1.length) (M1 ++ [.lst ds])
def eF (f : DF) (a : DA) : DE := fun C ρ M P => a C ρ M fun ds M1 => f ds M1 P
def eCall (i : Nat) (a : DA) : DE := fun C ρ M P => a C ρ M fun ds M1 => C.call i (C.ex ρ) ds M1 P
def eChain (op op' : DOp) (a b c : DE) : DE := fun C ρ M P => a C ρ M fun x M1 => b C ρ M1 fun y M2 => op x y M2 fun z M3 => match z with
  | .bl k => if k = true then c C ρ M3 fun w M4 => op' y w M4 P else P (.bl false) M3
  | _ => False

section
variable {X : Cx} {fa : Org} {C : Ctx} {a b c e : Expr} {es rest : List Expr} {pos : Pos} {ta tb tc : DE} {ua ub : DT} {da : DA}

theorem d_var {i : Nat} {x : Str} (hN : X.N[i]? = some x) (hv : Vis X.env.scope x) (hd : (x == ("__debug__" : Str)) = false) (hcd : (x == ("__classdict__" : Str)) = false) : PE X (.Name x pos) (LE X.K fa C (eVar i)) :=
  (pe_var hN hv hd hcd).imp fun σ H Q ⟨ρ, M, α, P, er, st, h, an⟩ => by
    have h : got ρ[i]? fun d => P d M := h
    cases q : ρ[i]? with
    | none => rw [q] at h; exact h.elim
    | some o =>
      cases o with
      | none => rw [q] at h; exact h.elim
      | some d =>
        rw [q] at h
        obtain ⟨v, e1, r⟩ := er.2.1 i d q
        exact ⟨v, e1, an.here st r h⟩
theorem d_int {i j} : PE X (.Constant (.int i) j pos) (LE X.K fa C (eK (.int i))) := pe_int.imp fun σ H Q ⟨ρ, M, α, P, er, st, h, an⟩ => an.here st (.int i) h
theorem d_bl {b j} : PE X (.Constant (.bool b) j pos) (LE X.K fa C (eK (.bl b))) := pe_bl.imp fun σ H Q ⟨ρ, M, α, P, er, st, h, an⟩ => an.here st (.bl b) h
theorem d_non {j} : PE X (.Constant .none j pos) (LE X.K fa C (eK .non)) := pe_non.imp fun σ H Q ⟨ρ, M, α, P, er, st, h, an⟩ => an.here st .non h
theorem d_str {x j} : PE X (.Constant (.str x) j pos) (LE X.K fa C (eK (.str x))) := pe_str.imp fun σ H Q ⟨ρ, M, α, P, er, st, h, an⟩ => an.here st (.str x) h
/-- a module's constant -/
theorem d_glob {x : Str} {v : V} {u : Value} {d : D} (hg : Gl X x) (hm : X.mg x = some u) (r : RelV v u) (rp : ∀ α H, Rp X.K fa α H v d) (hd : (x == ("__debug__" : Str)) = false) : PE X (.Name x pos) (LE X.K fa C (eK d)) :=
  (pe_glob hg hm r hd).imp fun σ H Q ⟨ρ, M, α, P, er, st, h, an⟩ => an.here st (rp α H) h

theorem two {σ : L2.St} {H : Hp} {Q : VK} {op : DOp} (h : LE X.K fa C (eBin op ta tb) σ H Q) : LE X.K fa C ta σ H fun x H1 => LE X.K fa C tb σ H1 fun y H2 => LO X.K fa op x y H2 Q := by
  obtain ⟨ρ, M, α, P, er, st, h, an⟩ := h
  refine ⟨ρ, M, α, _, er, st, h, fun x d H1 α1 M1 e1 s1 r1 h1 => ?_⟩
  refine ⟨ρ, M1, α1, _, er.mono e1, s1, h1, fun y e H2 α2 M2 e2 s2 r2 h2 => ?_⟩
  exact ⟨M2, α2, d, e, P, s2, r1.mono e2, r2, h2, (an.ext e1).ext e2⟩
theorem d_bin {op : Operator} {o : DOp} (ho : OpR X (binaryOp op) (LO X.K fa o)) (ha : PE X a (LE X.K fa C ta)) (hb : PE X b (LE X.K fa C tb)) : PE X (.BinOp a op b pos) (LE X.K fa C (eBin o ta tb)) :=
  (pe_op ho ha hb).imp fun _ _ _ h => two h
theorem d_un {op : UnaryOp} {o : DUn} (ho : UnR X (unaryOp op) (LU X.K fa o)) (ha : PE X a (LE X.K fa C ta)) : PE X (.UnaryOp op a pos) (LE X.K fa C (eUn o ta)) :=
  (pe_un ho ha).imp fun σ H Q ⟨ρ, M, α, P, er, st, h, an⟩ => ⟨ρ, M, α, _, er, st, h, fun x d H1 α1 M1 e1 s1 r1 h1 => ⟨M1, α1, d, P, s1, r1, h1, an.ext e1⟩⟩
theorem d_cmp {op : CmpOp} {o : DOp} (ho : OpR X (compareOp op) (LO X.K fa o)) (ha : PE X a (LE X.K fa C ta)) (hb : PE X b (LE X.K fa C tb)) (hm : behindInMarks op b = false) : PE X (.Compare a [op] [b] pos) (LE X.K fa C (eBin o ta tb)) :=
  (pe_cmpR ho ha hb hm).imp fun _ _ _ h => two h
/-- an expression that gives a bool, as a test -/
theorem d_tOf {t : DE} (h : PT X e (fun σ H Q => LE X.K fa C t σ H fun x H1 => ∃ k, x = .bl k ∧ Q k H1)) : PT X e (LT X.K fa C (tOf t)) :=
  h.imp fun σ H Q ⟨ρ, M, α, P, er, st, h, an⟩ => ⟨ρ, M, α, _, er, st, h, fun v d H' α' M' e s r p => by
    cases d with
    | bl b => cases r; exact ⟨b, rfl, an b H' α' M' e s p⟩
    | _ => exact p.elim⟩
theorem t_cmp {op : CmpOp} {o : DOp} (ho : OpR X (compareOp op) (LO X.K fa o)) (ha : PE X a (LE X.K fa C ta)) (hb : PE X b (LE X.K fa C tb)) (hm : behindInMarks op b = false) : PT X (.Compare a [op] [b] pos) (LT X.K fa C (tOf (eBin o ta tb))) :=
  d_tOf ((pt_cmpR ho ha hb hm).imp fun _ _ _ h => two h)
theorem chain {σ : L2.St} {H : Hp} {Q : VK} {o o' : DOp} (h : LE X.K fa C (eChain o o' ta tb tc) σ H Q) : tChain (LO X.K fa o) (LO X.K fa o') (LE X.K fa C ta) (LE X.K fa C tb) (LE X.K fa C tc) σ H Q := by
  obtain ⟨ρ, M, α, P, er, st, h, an⟩ := h
  refine ⟨ρ, M, α, _, er, st, h, fun x d H1 α1 M1 e1 s1 r1 h1 => ?_⟩
  refine ⟨ρ, M1, α1, _, er.mono e1, s1, h1, fun y e H2 α2 M2 e2 s2 r2 h2 => ?_⟩
  refine ⟨M2, α2, d, e, _, s2, r1.mono e2, r2, h2, fun z f H3 α3 M3 e3 s3 r3 h3 => ?_⟩
  cases f with
  | bl k =>
    cases r3
    refine ⟨k, rfl, ?_⟩
    cases k with
    | true =>
      refine ⟨ρ, M3, α3, _, er.mono ((e1.trans e2).trans e3), s3, h3, fun w g H4 α4 M4 e4 s4 r4 h4 => ?_⟩
      exact ⟨M4, α4, e, g, P, s4, r2.mono (e3.trans e4), r4, h4, an.ext (((e1.trans e2).trans e3).trans e4)⟩
    | false => exact an _ _ _ _ _ ((e1.trans e2).trans e3) s3 (.bl false) h3
  | _ => exact h3.elim
theorem d_chain {op op' : CmpOp} {o o' : DOp} (ho : OpR X (compareOp op) (LO X.K fa o)) (ho' : OpR X (compareOp op') (LO X.K fa o')) (ha : PE X a (LE X.K fa C ta)) (hb : PE X b (LE X.K fa C tb)) (hc : PE X c (LE X.K fa C tc)) (hm : lastMarks [op, op'] [b, c] = false) :
    PE X (.Compare a [op, op'] [b, c] pos) (LE X.K fa C (eChain o o' ta tb tc)) := (pe_chain ho ho' ha hb hc hm).imp fun _ _ _ h => chain h
theorem t_chain {op op' : CmpOp} {o o' : DOp} (ho : OpR X (compareOp op) (LO X.K fa o)) (ho' : OpR X (compareOp op') (LO X.K fa o')) (ha : PE X a (LE X.K fa C ta)) (hb : PE X b (LE X.K fa C tb)) (hc : PE X c (LE X.K fa C tc)) (hm : lastMarks [op, op'] [b, c] = false) :
    PT X (.Compare a [op, op'] [b, c] pos) (LT X.K fa C (tOf (eChain o o' ta tb tc))) := d_tOf ((pt_chain ho ho' ha hb hc hm).imp fun _ _ _ h => chain h)

/-! ### truth -/
theorem tru_v {K : PySem.W.Frag} {α : List Addr} {H : Hp} {M : Mem} {v : V} {d : D} {k : Bool → Prop} (st : StR K fa α H M) (r : Rp K fa α H v d) (h : tru d M k) : ∃ b, TruV K v H b ∧ k b := by
  cases r with
  | non => exact ⟨false, rfl, h⟩
  | bl b => exact ⟨b, rfl, h⟩
  | int i => exact ⟨_, rfl, h⟩
  | str z => exact ⟨_, ⟨h.1, rfl⟩, h.2⟩
  | @tup a vs ds s l r => exact ⟨_, .inr (.inl ⟨vs, .inl (.inl s), by cases r <;> rfl⟩), h⟩
  | @kup a vs ds s l r => exact ⟨_, .inr (.inl ⟨vs, s H, by cases r <;> rfl⟩), h⟩
  | @rol a vs ds s l r => exact ⟨_, .inl ⟨vs, s.elim (fun z => .inl (.inr z)) fun z => z H, by cases r <;> rfl⟩, h⟩
  | @ref n a ea =>
    have h : (match M[n]? with
      | some (.lst xs) => k (!xs.isEmpty)
      | some (.dK kvs) => k (!kvs.isEmpty)
      | _ => False) := h
    cases q : M[n]? with
    | none => rw [q] at h; exact h.elim
    | some c =>
      rw [q] at h
      cases c with
      | lst xs =>
        obtain ⟨vs, hv, _, r⟩ := st.cell n _ a q ea
        exact ⟨_, .inl ⟨vs, .inl (.inl hv), by cases r <;> rfl⟩, h⟩
      | dK kvs =>
        obtain ⟨ws, hv, r⟩ := st.cell n _ a q ea
        exact ⟨_, .inr (.inr ⟨ws, hv, by cases r <;> rfl⟩), h⟩
      | dT kvs => exact h.elim
  | fn i => exact h.elim
theorem t_tru (ha : PE X a (LE X.K fa C ta)) (he : ∀ whole, isTrue a X.env whole = (do let v ← whole; standAt a.pos; holding [v] (truthy v))) : PT X a (LT X.K fa C (tTru ta)) :=
  (pt_truth ha he).imp fun σ H Q ⟨ρ, M, α, P, er, st, h, an⟩ => ⟨ρ, M, α, _, er, st, h, fun v d H' α' M' e s r p => let ⟨b, h1, h2⟩ := tru_v s r p; ⟨b, h1, an b H' α' M' e s h2⟩⟩
theorem t_and1 (ha : PT X a (LT X.K fa C ua)) : PW X (.BoolOp .And [a] pos) (LT X.K fa C ua) := pw_and1 ha
theorem t_or1 (ha : PT X a (LT X.K fa C ua)) : PW X (.BoolOp .Or [a] pos) (LT X.K fa C ua) := pw_or1 ha
theorem t_and (ha : PT X a (LT X.K fa C ua)) (hb : PW X (.BoolOp .And (b :: rest) pos) (LT X.K fa C ub)) : PW X (.BoolOp .And (a :: b :: rest) pos) (LT X.K fa C (tAnd ua ub)) :=
  (pw_and ha hb).imp fun σ H Q ⟨ρ, M, α, P, er, st, h, an⟩ => ⟨ρ, M, α, _, er, st, h, fun k H' α' M' e s p => by
    cases k with
    | true => exact ⟨ρ, M', α', P, er.mono e, s, p, fun k2 H2 α2 M2 e2 s2 p2 => an k2 H2 α2 M2 (e.trans e2) s2 p2⟩
    | false => exact an false H' α' M' e s p⟩
theorem t_or (ha : PT X a (LT X.K fa C ua)) (hb : PW X (.BoolOp .Or (b :: rest) pos) (LT X.K fa C ub)) : PW X (.BoolOp .Or (a :: b :: rest) pos) (LT X.K fa C (tOr ua ub)) :=
  (pw_or ha hb).imp fun σ H Q ⟨ρ, M, α, P, er, st, h, an⟩ => ⟨ρ, M, α, _, er, st, h, fun k H' α' M' e s p => by
    cases k with
    | false => exact ⟨ρ, M', α', P, er.mono e, s, p, fun k2 H2 α2 M2 e2 s2 p2 => an k2 H2 α2 M2 (e.trans e2) s2 p2⟩
    | true => exact an true H' α' M' e s p⟩
theorem t_not (ha : PT X a (LT X.K fa C ua)) : PT X (.UnaryOp .Not a pos) (LT X.K fa C (tNot ua)) :=
  (pt_not ha).imp fun σ H Q ⟨ρ, M, α, P, er, st, h, an⟩ => ⟨ρ, M, α, _, er, st, h, fun k H' α' M' e s p => an (!k) H' α' M' e s p⟩
theorem d_and (ha : PE X a (LE X.K fa C ta)) (hb : PE X (.BoolOp .And (b :: rest) pos) (LE X.K fa C tb)) : PE X (.BoolOp .And (a :: b :: rest) pos) (LE X.K fa C (eAnd ta tb)) :=
  (pe_andT ha hb).imp fun σ H Q ⟨ρ, M, α, P, er, st, h, an⟩ => ⟨ρ, M, α, _, er, st, h, fun v d H' α' M' e s r p => by
    obtain ⟨k, h1, h2⟩ := tru_v s r p
    refine ⟨k, h1, ?_⟩
    cases k with
    | true => exact ⟨ρ, M', α', P, er.mono e, s, h2, an.ext e⟩
    | false => exact an _ _ _ _ _ e s r h2⟩
theorem d_or (ha : PE X a (LE X.K fa C ta)) (hb : PE X (.BoolOp .Or (b :: rest) pos) (LE X.K fa C tb)) : PE X (.BoolOp .Or (a :: b :: rest) pos) (LE X.K fa C (eOr ta tb)) :=
  (pe_orT ha hb).imp fun σ H Q ⟨ρ, M, α, P, er, st, h, an⟩ => ⟨ρ, M, α, _, er, st, h, fun v d H' α' M' e s r p => by
    obtain ⟨k, h1, h2⟩ := tru_v s r p
    refine ⟨k, h1, ?_⟩
    cases k with
    | false => exact ⟨ρ, M', α', P, er.mono e, s, h2, an.ext e⟩
    | true => exact an _ _ _ _ _ e s r h2⟩
theorem d_one {op} (ha : PE X a (LE X.K fa C ta)) : PE X (.BoolOp op [a] pos) (LE X.K fa C ta) := pe_one ha
theorem d_not (ha : PE X a (LE X.K fa C ta)) : PE X (.UnaryOp .Not a pos) (LE X.K fa C (eNot ta)) :=
  (pe_notT ha).imp fun σ H Q ⟨ρ, M, α, P, er, st, h, an⟩ => ⟨ρ, M, α, _, er, st, h, fun v d H' α' M' e s r p => by
    obtain ⟨k, h1, h2⟩ := tru_v s r p
    exact ⟨k, h1, an _ _ _ _ _ e s (.bl _) h2⟩⟩
theorem d_if (hc : PT X c (LT X.K fa C ua)) (ha : PE X a (LE X.K fa C ta)) (hb : PE X b (LE X.K fa C tb)) : PE X (.IfExp c a b pos) (LE X.K fa C (eIf ua ta tb)) :=
  (pe_ifExp hc ha hb).imp fun σ H Q ⟨ρ, M, α, P, er, st, h, an⟩ => ⟨ρ, M, α, _, er, st, h, fun k H' α' M' e s p => by
    cases k with
    | true => exact ⟨ρ, M', α', P, er.mono e, s, p, an.ext e⟩
    | false => exact ⟨ρ, M', α', P, er.mono e, s, p, an.ext e⟩⟩

/-! ### arguments, displays, calls -/
theorem a_nil : PA X [] (LA X.K fa C aNil) := pa_nil.imp fun σ H Q ⟨ρ, M, α, P, er, st, h, an⟩ => an [] [] H α M Ext.refl st .nil h
theorem a_cons (ha : PE X a (LE X.K fa C ta)) (hr : PA X es (LA X.K fa C da)) (hs : starEach (a :: es) X.env = (false, eval a X.env) :: starEach es X.env) : PA X (a :: es) (LA X.K fa C (aCons ta da)) :=
  (pa_cons ha hr hs).imp fun σ H Q ⟨ρ, M, α, P, er, st, h, an⟩ => ⟨ρ, M, α, _, er, st, h, fun v d H' α' M' e s r p =>
    ⟨ρ, M', α', _, er.mono e, s, p, fun vs ds H2 α2 M2 e2 s2 r2 p2 => an _ _ _ _ _ (e.trans e2) s2 (.cons (r.mono e2) r2) p2⟩⟩
theorem d_tup {x1} (h : PA X es (LA X.K fa C da)) : PE X (.Tuple es x1 pos) (LE X.K fa C (eTup da)) :=
  (pe_tup h).imp fun σ H Q ⟨ρ, M, α, P, er, st, h, an⟩ => ⟨ρ, M, α, _, er, st, h, fun vs ds H' α' M' e s r p =>
    ⟨by rw [r.length]; exact p.1, fun q hq => (an.ext e).tup s r (by rw [r.length]; exact p.1) hq p.2⟩⟩
theorem d_lst (h : PA X es (LA X.K fa C da)) : PE X (.List es pos) (LE X.K fa C (eLst da)) :=
  (pe_lst h).imp fun σ H Q ⟨ρ, M, α, P, er, st, h, an⟩ => ⟨ρ, M, α, _, er, st, h, fun vs ds H' α' M' e s r p =>
    ⟨by rw [r.length]; exact p.1, fun q hq => (an.ext e).lst s r (by rw [r.length]; exact p.1) hq p.2⟩⟩
theorem ff {σ : L2.St} {H : Hp} {Q : VK} {f : DF} (h : LE X.K fa C (eF f da) σ H Q) : LA X.K fa C da σ H fun vs H1 => LF X.K fa f vs H1 Q := by
  obtain ⟨ρ, M, α, P, er, st, h, an⟩ := h
  exact ⟨ρ, M, α, _, er, st, h, fun vs ds H' α' M' e s r p => ⟨M', α', ds, P, s, r, p, an.ext e⟩⟩
theorem d_callB {x : Str} {p : Pos} {id : String} {f : DF} (hc : CallR X (.builtin id) (LF X.K fa f)) (hg : Gl X x) (hm : X.mg x = none) (hv : bootBuiltins x = some (.builtin id)) (ha : PA X (e :: es) (LA X.K fa C da)) (hn : x ≠ "__name__") (hdb : (x == ("__debug__" : Str)) = false)
    (he : starEach (e :: es) X.env = (false, eval e X.env) :: starEach es X.env) (hpl : (backTo pos (starEach es X.env)).any (·.1) = false) : PE X (.Call (.Name x p) (e :: es) [] pos) (LE X.K fa C (eF f da)) :=
  (pe_callB hc hg hm hv ha hn hdb he hpl).imp fun _ _ _ h => ff h
theorem d_callTy {x : Str} {p : Pos} {T : String} {f : DF} (hc : CallR X (.type T) (LF X.K fa f)) (hg : Gl X x) (hm : X.mg x = none) (hv : bootBuiltins x = some (.type T)) (ha : PA X (e :: es) (LA X.K fa C da)) (hn : x ≠ "__name__") (hdb : (x == ("__debug__" : Str)) = false)
    (he : starEach (e :: es) X.env = (false, eval e X.env) :: starEach es X.env) (hpl : (backTo pos (starEach es X.env)).any (·.1) = false) : PE X (.Call (.Name x p) (e :: es) [] pos) (LE X.K fa C (eF f da)) :=
  (pe_callTy hc hg hm hv ha hn hdb he hpl).imp fun _ _ _ h => ff h
theorem d_callBfun {x : Str} {p : Pos} {id : String} {f : DF} (hc : CallR X (.builtin id) (LF X.K fa f)) (hg : Gl X x) (hm : X.mg x = some (.builtin id)) (ha : PA X (e :: es) (LA X.K fa C da)) (hdb : (x == ("__debug__" : Str)) = false)
    (he : starEach (e :: es) X.env = (false, eval e X.env) :: starEach es X.env) (hpl : (backTo pos (starEach es X.env)).any (·.1) = false) : PE X (.Call (.Name x p) (e :: es) [] pos) (LE X.K fa C (eF f da)) :=
  (pe_callBfun hc hg hm ha hdb he hpl).imp fun _ _ _ h => ff h
end
end DL

/-! The data layer: tuple * int, any int that is not great. -/
namespace L2
open PySem PySem.Spec PyProof.Rows
/-- the same object -/
theorem tuple_mul_same (l : Addr) (items : Array Value) (n : Nat) (dd : Option Addr) (sl : Array (Option Value)) (x : Int) (u : Tok) (c0 : (decide (x < -(2 ^ 63)) || decide (x ≥ 2 ^ 63)) = false) (c1 : (items.isEmpty || x == 1) = true) :
    Meets (Builtin.«tuple.__mul__» ⟨[.ref l, .int x u], []⟩) (fun _ R s => s.heap.get? l = some { cls := .type "tuple", dict := dd, data := .seq items n, slots := sl } ∧
      R (.ok (.ret (Value.ref l))) s) :=
  .of_wp fun prog w A R s h => by
    obtain ⟨hp, g, d, tk, os⟩ := s
    obtain ⟨hl, h⟩ := h
    have f1 := AutoSeq1.idx_int
    wp_walk using wpAny_loadPart' hl
    repeat (first
      | (refine wpAny_ite_false (decide_eq_false (by rw [c0]; exact Bool.false_ne_true)) ?_; wp_walk using wpAny_loadPart' hl)
      | (refine wpAny_ite_true (decide_eq_true c1) ?_; wp_walk using wpAny_loadPart' hl))
    exact ⟨_, rfl, h⟩
theorem tuple_mul_none (l : Addr) (items : Array Value) (n : Nat) (dd : Option Addr) (sl : Array (Option Value)) (x : Int) (u : Tok) (c0 : (decide (x < -(2 ^ 63)) || decide (x ≥ 2 ^ 63)) = false) (c1 : (items.isEmpty || x == 1) = false) (c2 : (decide (x ≤ 0) || items.isEmpty) = true) :
    Meets (Builtin.«tuple.__mul__» ⟨[.ref l, .int x u], []⟩) (fun _ R s => s.heap.get? l = some { cls := .type "tuple", dict := dd, data := .seq items n, slots := sl } ∧
      R (.ok (.ret (Value.ref s.heap.objs.size))) { s with heap := s.heap.push { cls := Value.type "tuple", data := Data.seq #[] } }) :=
  .of_wp fun prog w A R s h => by
    obtain ⟨hp, g, d, tk, os⟩ := s
    obtain ⟨hl, h⟩ := h
    have f1 := AutoSeq1.idx_int
    wp_walk using wpAny_loadPart' hl
    repeat (first
      | (refine wpAny_ite_false (decide_eq_false (by rw [c0]; exact Bool.false_ne_true)) ?_; wp_walk using wpAny_loadPart' hl)
      | (refine wpAny_ite_false (decide_eq_false (by rw [c1]; exact Bool.false_ne_true)) ?_; wp_walk using wpAny_loadPart' hl)
      | (refine wpAny_ite_true (decide_eq_true c2) ?_; wp_walk using wpAny_loadPart' hl))
    exact ⟨_, rfl, h⟩
def rRepA (K : PySem.W.Frag) : R2 := fun x y H Q => ∃ l k xs, x = .ref l ∧ y = .int k ∧ SqT K H l xs ∧ -1000 ≤ k ∧ k ≤ 1000 ∧ xs.length ≤ 1000 ∧ ((k = 1 → Q (.ref l) H) ∧ (xs = [] → Q (.ref l) H) ∧ (k ≠ 1 → xs ≠ [] → ∀ p, H p = none → Q (.ref p) (upd H p (.tup (List.replicate k.toNat xs).flatten))))
theorem op_repA {X : Cx} : OpR X (binaryOp .Mult) (rRepA X.K) := by
  intro pins s σ H x y v u Q I rx ry h
  obtain ⟨l, k, xs, rfl, rfl, hT, h1, h2, hz, q1, q2, q3⟩ := h
  by_cases big : xs ≠ [] ∧ 2 ≤ k
  · exact op_repT pins s σ H _ _ v u Q I rx ry ⟨l, k, xs, rfl, rfl, hT, big.1, big.2, h2, hz, q3 (by omega) big.1⟩
  cases rx
  obtain ⟨t, rfl⟩ := ry
  obtain ⟨its, r, ⟨⟨cls, dd, data, sl⟩, ho, hc, n, hd⟩, hs⟩ := I.tuple hT
  simp only at hc hd
  subst hc hd
  have hle : its.length = xs.length := r.length.symm
  have c0 : (decide (k < -(2 ^ 63)) || decide (k ≥ 2 ^ 63)) = false := by
    rw [decide_eq_false (by omega), decide_eq_false (by omega)] <;> rfl
  have ie : its.toArray.isEmpty = decide (xs = []) := by
    cases its with
    | nil =>
      have : xs = [] := List.eq_nil_of_length_eq_zero hle.symm
      rw [decide_eq_true this]
      rfl
    | cons a b =>
      have : xs ≠ [] := fun e => by rw [e] at hle; cases hle
      rw [decide_eq_false this]
      rfl
  by_cases c1 : (its.toArray.isEmpty || k == 1) = true
  · refine wpAny_binaryOp_repeat_ref (T := "tuple") (U := "int") (by decide) ⟨_, ho, rfl⟩ (fun s' => typeIs_int s' k t) noFill_tuple_mul F.fills_int_mul F.slot_int_rmul repeat_tuple F.slot_int_index.lookup
      (call_meets F.slot_int_rmul (typeIs_int s k t) F.entry_int_rmul (F.args_int_rmul_2 _ _) (int_rmul_tuple k t l its.toArray n dd sl)
        ⟨ho, rfl, ⟨_, ho, rfl⟩, call_meets F.slot_tuple_mul ⟨_, ho, rfl⟩ F.entry_tuple_mul (F.args_tuple_mul_2 _ _) (tuple_mul_same l its.toArray n dd sl k t c0 c1) ⟨ho, ?_⟩⟩)
    rw [ie] at c1
    refine ⟨.ref l, H, I, rfl, ?_⟩
    by_cases e : xs = []
    · exact q2 e
    · rw [decide_eq_false e, Bool.false_or] at c1
      exact q1 (eq_of_beq c1)
  · have c1 : (its.toArray.isEmpty || k == 1) = false := by simpa using c1
    have c1' := c1
    rw [ie] at c1'
    have hne : xs ≠ [] := fun e => by rw [decide_eq_true e, Bool.true_or] at c1'; cases c1'
    have hk : k ≠ 1 := fun e => by rw [e] at c1'; simp at c1'
    have h0 : k ≤ 0 := by
      rcases Int.lt_or_le k 2 with z | z
      · omega
      · exact (big ⟨hne, z⟩).elim
    have c2 : (decide (k ≤ 0) || its.toArray.isEmpty) = true := by rw [decide_eq_true h0] <;> rfl
    refine wpAny_binaryOp_repeat_ref (T := "tuple") (U := "int") (by decide) ⟨_, ho, rfl⟩ (fun s' => typeIs_int s' k t) noFill_tuple_mul F.fills_int_mul F.slot_int_rmul repeat_tuple F.slot_int_index.lookup
      (call_meets F.slot_int_rmul (typeIs_int s k t) F.entry_int_rmul (F.args_int_rmul_2 _ _) (int_rmul_tuple k t l its.toArray n dd sl)
        ⟨ho, rfl, ⟨_, ho, rfl⟩, call_meets F.slot_tuple_mul ⟨_, ho, rfl⟩ F.entry_tuple_mul (F.args_tuple_mul_2 _ _) (tuple_mul_none l its.toArray n dd sl k t c0 c1 c2) ⟨ho, ?_⟩⟩)
    have ez : (List.replicate k.toNat xs).flatten = [] := by
      rw [show k.toNat = 0 by omega]
      rfl
    have q := q3 hk hne
    rw [ez] at q
    refine ⟨.ref s.heap.objs.size, _, I.laid (t' := s.toks) (o := .tup []) (fun b ob q => Heap.get?_push_of_some _ q) (Nat.le_refl _) ?_, rfl, q _ (I.hok.fresh (Nat.le_refl _))⟩
    exact ⟨Nat.zero_le _, [], .nil, IsTup.new _ _⟩
end L2

/-! The data layer, part 3: operators, comparisons, subscripts by values. -/
namespace DL
open PySem PySem.Spec PyProof.Rows L2

/-! ### data for the library's == -/
mutual
def toPy : D → PyData
  | .non => .none
  | .bl b => .bool b
  | .int i => .int i
  | .str z => .str z
  | .tup xs => .tuple (toPys xs)
  | .kup xs => .tuple (toPys xs)
  | .rol xs => .list (toPys xs)
  | .ref _ => .none
  | .fn _ => .none
def toPys : List D → List PyData
  | [] => []
  | x :: xs => toPy x :: toPys xs
end
mutual
/-- no cell, no def within -/
def pure? : D → Bool
  | .tup xs => pures? xs
  | .kup xs => pures? xs
  | .rol xs => pures? xs
  | .ref _ => false
  | .fn _ => false
  | _ => true
def pures? : List D → Bool
  | [] => true
  | x :: xs => pure? x && pures? xs
end
/-- as data, a list's cell opened -/
def pyM (M : Mem) (d : D) : Option PyData := match d with
  | .ref n => (match M[n]? with
    | some (.lst xs) => if pures? xs = true then some (.list (toPys xs)) else none
    | _ => none)
  | d => if pure? d = true then some (toPy d) else none
section
variable {K : PySem.W.Frag} {fa : Org} {α : List Addr} {H : Hp} {M : Mem}
mutual
theorem Rp.dp : ∀ {v : V} {d : D}, Rp K fa α H v d → pure? d = true → Dp K H v (toPy d)
  | _, _, .non, _ => .non
  | _, _, .bl b, _ => .bl b
  | _, _, .int i, _ => .int i
  | _, _, .str z, _ => .str z
  | _, _, .tup s l r, h => .tup (.inl (.inl s)) (Rps.dp r h)
  | _, _, .kup s l r, h => .tup (s H) (Rps.dp r h)
  | _, _, .rol s l r, h => .lst (s.elim (fun z => .inl (.inr z)) fun z => z H) (Rps.dp r h)
  | _, _, .ref _, h => nomatch h
  | _, _, .fn _, h => nomatch h
theorem Rps.dp : ∀ {vs : List V} {ds : List D}, Rps K fa α H vs ds → pures? ds = true → DpAll K H vs (toPys ds)
  | _, _, .nil, _ => .nil
  | _, _, .cons h t, q => .cons (Rp.dp h (Bool.and_eq_true_iff.mp q).1) (Rps.dp t (Bool.and_eq_true_iff.mp q).2)
end
theorem pyM_dp {v : V} {d : D} {p : PyData} (st : StR K fa α H M) (r : Rp K fa α H v d) (h : pyM M d = some p) : Dp K H v p := by
  cases r with
  | @ref n a ea =>
    have h : (match M[n]? with
      | some (.lst xs) => if pures? xs = true then some (PyData.list (toPys xs)) else none
      | _ => none) = some p := h
    cases q : M[n]? with
    | none => rw [q] at h; cases h
    | some c =>
      rw [q] at h
      cases c with
      | lst xs =>
        obtain ⟨vs, hv, _, r⟩ := st.cell n _ a q ea
        have h : (if pures? xs = true then some (PyData.list (toPys xs)) else none) = some p := h
        by_cases g : pures? xs = true
        · rw [if_pos g] at h
          cases h
          exact .lst (.inl (.inl hv)) (r.dp g)
        · rw [if_neg g] at h; cases h
      | dK _ => cases h
      | dT _ => cases h
  | fn i => exact nomatch h
  | non => cases h; exact .non
  | bl b => cases h; exact .bl b
  | int i => cases h; exact .int i
  | str z => cases h; exact .str z
  | @tup a vs ds s l r =>
    have h : (if pures? ds = true then some (toPy (.tup ds)) else none) = some p := h
    by_cases g : pures? ds = true
    · rw [if_pos g] at h; cases h; exact Rp.dp (.tup s l r) g
    · rw [if_neg g] at h; cases h
  | @kup a vs ds s l r =>
    have h : (if pures? ds = true then some (toPy (.kup ds)) else none) = some p := h
    by_cases g : pures? ds = true
    · rw [if_pos g] at h; cases h; exact Rp.dp (.kup s l r) g
    · rw [if_neg g] at h; cases h
  | @rol a vs ds s l r =>
    have h : (if pures? ds = true then some (toPy (.rol ds)) else none) = some p := h
    by_cases g : pures? ds = true
    · rw [if_pos g] at h; cases h; exact Rp.dp (.rol s l r) g
    · rw [if_neg g] at h; cases h
end

/-! ### the operations' meanings -/
def opAdd : DOp := fun d e M P => match d, e with
  | .int i, .int j => P (.int (i + j)) M
  | .str a, .str b => a.length + b.length ≤ sizeLine ∧ P (.str (a ++ b)) M
  | .tup xs, .tup ys => xs.length + ys.length ≤ sizeLine ∧ P (.tup (xs ++ ys)) M
  | .ref m, .ref n => (match M[m]?, M[n]? with
    | some (.lst xs), some (.lst ys) => xs.length + ys.length ≤ sizeLine ∧ P (.ref M.length) (M ++ [.lst (xs ++ ys)])
    | _, _ => False)
  | _, _ => False
def opSub : DOp := fun d e M P => match d, e with
  | .int i, .int j => P (.int (i - j)) M
  | _, _ => False
def opMul : DOp := fun d e M P => match d, e with
  | .int i, .int j => IntMulOk i j ∧ P (.int (i * j)) M
  | .ref m, .int k => (match M[m]? with
    | some (.lst xs) => (-(2 ^ 63) ≤ k ∧ k < 2 ^ 63 ∧ xs.length * k.toNat ≤ sizeLine) ∧ P (.ref M.length) (M ++ [.lst (List.replicate k.toNat xs).flatten])
    | _ => False)
  | .tup xs, .int k => (-1000 ≤ k ∧ k ≤ 1000 ∧ xs.length ≤ 1000) ∧ P (.tup (List.replicate k.toNat xs).flatten) M
  | _, _ => False
def opDiv : DOp := fun d e M P => match d, e with
  | .int i, .int j => (0 < j ∧ j.natAbs.log2 < 9000) ∧ P (.int (i / j)) M
  | _, _ => False
def opMod : DOp := fun d e M P => match d, e with
  | .int i, .int j => 0 < j ∧ P (.int (i % j)) M
  | _, _ => False
def opPow : DOp := fun d e M P => match d, e with
  | .int i, .int j => (0 ≤ j ∧ j ≤ 1000000 ∧ i.natAbs < 2 ^ 64) ∧ P (.int (i ^ j.toNat)) M
  | _, _ => False
def opShl : DOp := fun d e M P => match d, e with
  | .int i, .int j => (0 ≤ j ∧ j ≤ 1000000 ∧ i.natAbs < 2 ^ 64) ∧ P (.int (i * 2 ^ j.toNat)) M
  | _, _ => False
def opShr : DOp := fun d e M P => match d, e with
  | .int i, .int j => 0 ≤ j ∧ P (.int (i / 2 ^ j.toNat)) M
  | _, _ => False
def opAnd : DOp := fun d e M P => match d, e with
  | .int i, .int j => P (.int (Builtin.bitAnd i j)) M
  | _, _ => False
def opOr : DOp := fun d e M P => match d, e with
  | .int i, .int j => P (.int (Builtin.bitOr i j)) M
  | _, _ => False
def opXor : DOp := fun d e M P => match d, e with
  | .int i, .int j => P (.int (Builtin.bitXor i j)) M
  | _, _ => False
def opNeg : DUn := fun d M P => match d with
  | .int i => P (.int (-i)) M
  | _ => False
/-- < of two ints, texts -/
def opLt : DOp := fun d e M P => match d, e with
  | .int i, .int j => P (.bl (decide (i < j))) M
  | .str a, .str b => P (.bl (decide (a.cps.toList < b.cps.toList))) M
  | _, _ => False
def opLe : DOp := fun d e M P => match d, e with
  | .int i, .int j => P (.bl (decide (i ≤ j))) M
  | _, _ => False
def opGt : DOp := fun d e M P => match d, e with
  | .int i, .int j => P (.bl (decide (j < i))) M
  | _, _ => False
def opGe : DOp := fun d e M P => match d, e with
  | .int i, .int j => P (.bl (decide (j ≤ i))) M
  | _, _ => False
def opEq : DOp := fun d e M P => match pyM M d, pyM M e with
  | some p, some q => (SeqAt.shaped p = true ∧ SeqAt.shaped q = true) ∧ P (.bl (PyData.eqv p q)) M
  | _, _ => False
def opNe : DOp := fun d e M P => match pyM M d, pyM M e with
  | some p, some q => (SeqAt.shaped p = true ∧ SeqAt.shaped q = true) ∧ P (.bl (!PyData.eqv p q)) M
  | _, _ => False
def isNon : D → Bool
  | .non => true
  | _ => false
def opIs : DOp := fun d e M P => match e with
  | .non => P (.bl (isNon d)) M
  | .bl c => (match d with
    | .bl b => P (.bl (decide (b = c))) M
    | _ => False)
  | _ => False
def opIsNot : DOp := fun d e M P => match e with
  | .non => P (.bl (!isNon d)) M
  | .bl c => (match d with
    | .bl b => P (.bl (!decide (b = c))) M
    | _ => False)
  | _ => False
/-- the items of a list or tuple -/
def seqOf (M : Mem) : D → Option (List D)
  | .tup xs => some xs
  | .kup xs => some xs
  | .rol xs => some xs
  | .ref n => (match M[n]? with
    | some (.lst xs) => some xs
    | _ => none)
  | _ => none
def flat? : D → Bool
  | .non => true
  | .bl _ => true
  | .int _ => true
  | .str _ => true
  | _ => false
def isList (M : Mem) : D → Bool
  | .rol _ => true
  | .ref _ => true
  | _ => false
def keyK : D → Option Key
  | .int i => some (.inl i)
  | .str z => some (.inr z)
  | _ => none
def keysK : List D → Option (List Key)
  | [] => some []
  | d :: ds => (keyK d).bind fun k => (keysK ds).map fun ks => k :: ks
def keyT : D → Option (List Key)
  | .tup xs => keysK xs
  | _ => none
section
variable {κ : Type} [DecidableEq κ]
def valD (kvs : List (κ × D)) (k : κ) : Option D := (kvs.find? fun kv => decide (kv.1 = k)).map (·.2)
def putD (kvs : List (κ × D)) (k : κ) (v : D) : List (κ × D) :=
  if (kvs.any fun kv => decide (kv.1 = k)) = true then kvs.map (fun kv => if kv.1 = k then (kv.1, v) else kv) else kvs ++ [(k, v)]
end
/-- what a dict has at a key -/
def dgetD (M : Mem) (n : Nat) (k : D) : Option (Option D) := match M[n]? with
  | some (.dK kvs) => (keyK k).map (valD kvs)
  | some (.dT kvs) => (keyT k).map (valD kvs)
  | _ => none
def inD (neg : Bool) : DOp := fun x y M P => match seqOf M y with
  | some ys => ((flat? x = true ∧ ys.all flat? = true) ∨ (isList M y = true ∧ pure? x = true ∧ pures? ys = true ∧ SeqAt.shaped (toPy x) = true ∧ SeqAt.shaped (.list (toPys ys)) = true)) ∧
    P (.bl (if neg = true then !(toPys ys).any (fun z => PyData.eqv z (toPy x)) else (toPys ys).any fun z => PyData.eqv z (toPy x))) M
  | none => (match y with
    | .ref n => (match dgetD M n x with
      | some o => P (.bl (if neg = true then !o.isSome else o.isSome)) M
      | none => False)
    | _ => False)
def opIx : DOp := fun x y M P => match x with
  | .str z => (match y with
    | .int i => z.length ≤ sizeLine ∧ (match atI z.cps.toList i with
      | some c => P (.str ⟨#[c]⟩) M
      | none => False)
    | _ => False)
  | x => (match seqOf M x with
    | some xs => (match y with
      | .int i => (match atI xs i with
        | some d => P d M
        | none => False)
      | _ => False)
    | none => (match x with
      | .ref n => (match dgetD M n y with
        | some (some d) => P d M
        | _ => False)
      | _ => False))

section
variable {X : Cx} {fa : Org}
theorem o_add : OpR X (binaryOp .Add) (LO X.K fa opAdd) := ((op_add.or op_add_str).or (op_catA.or op_cat)).imp fun x y H Q ⟨M, α, d, e, P, st, rx, ry, h, an⟩ => by
  unfold opAdd at h
  split at h
  · cases rx; cases ry; exact .inl (.inl ⟨_, _, rfl, rfl, an.here st (.int _) h⟩)
  · cases rx; cases ry; exact .inl (.inr ⟨_, _, rfl, rfl, h.1, an.here st (.str _) h.2⟩)
  · cases rx with
    | @tup a vs _ s l r =>
      cases ry with
      | @tup b ws _ s2 l2 r2 =>
        have hl : vs.length + ws.length ≤ sizeLine := by rw [r.length, r2.length]; exact h.1
        refine .inr (.inl ⟨a, b, vs, ws, rfl, rfl, .inl (.inl s), .inl (.inl s2), hl, fun e => ?_, fun _ e => ?_, fun _ _ p hp => ?_⟩)
        · subst e; cases r
          exact an.here st (.tup s2 l2 r2) h.2
        · subst e; cases r2
          have h2 := h.2
          rw [List.append_nil] at h2
          exact an.here st (.tup s l r) h2
        · exact an.tup st (r.append r2) (by rw [List.length_append]; exact hl) hp h.2
  · cases rx with
    | @ref m a ea =>
      cases ry with
      | @ref n b eb =>
        split at h
        · rename_i xs ys q1 q2
          obtain ⟨vs, hv, _, r⟩ := st.cell _ _ a q1 ea
          obtain ⟨ws, hw, _, r2⟩ := st.cell _ _ b q2 eb
          exact .inr (.inr ⟨a, b, vs, ws, rfl, rfl, hv, hw, by rw [r.length, r2.length]; exact h.1, fun p hp => an.lst st (r.append r2) (by rw [List.length_append, r.length, r2.length]; exact h.1) hp h.2⟩)
        · exact h.elim
  · exact h.elim
theorem o_sub : OpR X (binaryOp .Sub) (LO X.K fa opSub) := op_sub.imp fun x y H Q ⟨M, α, d, e, P, st, rx, ry, h, an⟩ => by
  unfold opSub at h
  split at h
  · cases rx; cases ry; exact ⟨_, _, rfl, rfl, an.here st (.int _) h⟩
  · exact h.elim
theorem rep_len {α : Type} (xs : List α) : ∀ n : Nat, (List.replicate n xs).flatten.length = n * xs.length
  | 0 => by simp
  | n + 1 => by rw [List.replicate_succ, List.flatten_cons, List.length_append, rep_len xs n, Nat.succ_mul, Nat.add_comm]
theorem op_mulG : OpR X (binaryOp .Mult) (rI IntMulOk fun i j => .int (i * j)) := opI fun _ _ _ _ _ _ _ hc q => mul_int q hc
theorem o_mul : OpR X (binaryOp .Mult) (LO X.K fa opMul) := ((op_mulG.or op_rep).or op_repA).imp fun x y H Q ⟨M, α, d, e, P, st, rx, ry, h, an⟩ => by
  unfold opMul at h
  split at h
  · cases rx; cases ry; exact .inl (.inl ⟨_, _, rfl, rfl, h.1, an.here st (.int _) h.2⟩)
  · cases rx with
    | @ref m a ea =>
      cases ry
      split at h
      · rename_i xs q1
        obtain ⟨vs, hv, _, r⟩ := st.cell _ _ a q1 ea
        exact .inl (.inr ⟨a, _, vs, rfl, rfl, hv, h.1.1, h.1.2.1, by rw [r.length]; exact h.1.2.2, fun p hp => an.lst st (r.rep _) (by rw [rep_len, r.length, Nat.mul_comm]; exact h.1.2.2) hp h.2⟩)
      · exact h.elim
  · rename_i xs k
    obtain ⟨⟨h1, h2, h3⟩, h⟩ := h
    cases ry
    cases rx with
    | @tup a vs _ s l r =>
      refine .inr ⟨a, k, vs, rfl, rfl, .inl (.inl s), h1, h2, by rw [r.length]; exact h3, fun e => ?_, fun e => ?_, fun _ _ p hp => an.tup st (r.rep _) ?_ hp h⟩
      · subst e
        exact an.here st (.tup s l r) (by simpa using h)
      · subst e
        have e2 : xs = [] := List.eq_nil_of_length_eq_zero r.length.symm
        subst e2
        have e3 : (List.replicate k.toNat ([] : List D)).flatten = [] := by simp
        rw [e3] at h
        exact an.here st (.tup s l r) h
      · rw [rep_len, r.length, sizeLine_eq]
        have : k.toNat * xs.length ≤ 1000 * 1000 := Nat.mul_le_mul (by omega) h3
        omega
  · exact h.elim
theorem o_div : OpR X (binaryOp .FloorDiv) (LO X.K fa opDiv) := op_fdivW.imp fun x y H Q ⟨M, α, d, e, P, st, rx, ry, h, an⟩ => by
  unfold opDiv at h
  split at h
  · cases rx; cases ry; exact ⟨_, _, rfl, rfl, h.1, an.here st (.int _) h.2⟩
  · exact h.elim
theorem o_mod : OpR X (binaryOp .Mod) (LO X.K fa opMod) := op_mod.imp fun x y H Q ⟨M, α, d, e, P, st, rx, ry, h, an⟩ => by
  unfold opMod at h
  split at h
  · cases rx; cases ry; exact ⟨_, _, rfl, rfl, h.1, an.here st (.int _) h.2⟩
  · exact h.elim
theorem o_pow : OpR X (binaryOp .Pow) (LO X.K fa opPow) := op_pow.imp fun x y H Q ⟨M, α, d, e, P, st, rx, ry, h, an⟩ => by
  unfold opPow at h
  split at h
  · cases rx; cases ry; exact ⟨_, _, rfl, rfl, h.1, an.here st (.int _) h.2⟩
  · exact h.elim
theorem o_shl : OpR X (binaryOp .LShift) (LO X.K fa opShl) := op_shl.imp fun x y H Q ⟨M, α, d, e, P, st, rx, ry, h, an⟩ => by
  unfold opShl at h
  split at h
  · cases rx; cases ry; exact ⟨_, _, rfl, rfl, h.1, an.here st (.int _) h.2⟩
  · exact h.elim
theorem o_shr : OpR X (binaryOp .RShift) (LO X.K fa opShr) := op_shr.imp fun x y H Q ⟨M, α, d, e, P, st, rx, ry, h, an⟩ => by
  unfold opShr at h
  split at h
  · cases rx; cases ry; exact ⟨_, _, rfl, rfl, h.1, an.here st (.int _) h.2⟩
  · exact h.elim
theorem o_and : OpR X (binaryOp .BitAnd) (LO X.K fa opAnd) := op_and.imp fun x y H Q ⟨M, α, d, e, P, st, rx, ry, h, an⟩ => by
  unfold opAnd at h
  split at h
  · cases rx; cases ry; exact ⟨_, _, rfl, rfl, an.here st (.int _) h⟩
  · exact h.elim
theorem o_or : OpR X (binaryOp .BitOr) (LO X.K fa opOr) := op_or.imp fun x y H Q ⟨M, α, d, e, P, st, rx, ry, h, an⟩ => by
  unfold opOr at h
  split at h
  · cases rx; cases ry; exact ⟨_, _, rfl, rfl, an.here st (.int _) h⟩
  · exact h.elim
theorem o_xor : OpR X (binaryOp .BitXor) (LO X.K fa opXor) := op_xor.imp fun x y H Q ⟨M, α, d, e, P, st, rx, ry, h, an⟩ => by
  unfold opXor at h
  split at h
  · cases rx; cases ry; exact ⟨_, _, rfl, rfl, an.here st (.int _) h⟩
  · exact h.elim
theorem o_neg : UnR X (unaryOp .USub) (LU X.K fa opNeg) := un_neg.imp fun x H Q ⟨M, α, d, P, st, rx, h, an⟩ => by
  unfold opNeg at h
  split at h
  · cases rx; exact ⟨_, rfl, an.here st (.int _) h⟩
  · exact h.elim
theorem o_lt : OpR X (compareOp .Lt) (LO X.K fa opLt) := (op_lt.or op_lt_str).imp fun x y H Q ⟨M, α, d, e, P, st, rx, ry, h, an⟩ => by
  unfold opLt at h
  split at h
  · cases rx; cases ry; exact .inl ⟨_, _, rfl, rfl, an.here st (.bl _) h⟩
  · cases rx; cases ry; exact .inr ⟨_, _, rfl, rfl, an.here st (.bl _) h⟩
  · exact h.elim
theorem o_le : OpR X (compareOp .LtE) (LO X.K fa opLe) := op_le.imp fun x y H Q ⟨M, α, d, e, P, st, rx, ry, h, an⟩ => by
  unfold opLe at h
  split at h
  · cases rx; cases ry; exact ⟨_, _, rfl, rfl, an.here st (.bl _) h⟩
  · exact h.elim
theorem o_gt : OpR X (compareOp .Gt) (LO X.K fa opGt) := op_gt.imp fun x y H Q ⟨M, α, d, e, P, st, rx, ry, h, an⟩ => by
  unfold opGt at h
  split at h
  · cases rx; cases ry; exact ⟨_, _, rfl, rfl, an.here st (.bl _) h⟩
  · exact h.elim
theorem o_ge : OpR X (compareOp .GtE) (LO X.K fa opGe) := op_ge.imp fun x y H Q ⟨M, α, d, e, P, st, rx, ry, h, an⟩ => by
  unfold opGe at h
  split at h
  · cases rx; cases ry; exact ⟨_, _, rfl, rfl, an.here st (.bl _) h⟩
  · exact h.elim
theorem o_eq (hu : X.A.units + 64 < cLine) : OpR X (compareOp .Eq) (LO X.K fa opEq) := (op_eqD hu).imp fun x y H Q ⟨M, α, d, e, P, st, rx, ry, h, an⟩ => by
  unfold opEq at h
  split at h
  · rename_i p q h1 h2
    exact ⟨p, q, pyM_dp st rx h1, pyM_dp st ry h2, h.1.1, h.1.2, an.here st (.bl _) h.2⟩
  · exact h.elim
theorem o_ne (hu : X.A.units + 64 < cLine) : OpR X (compareOp .NotEq) (LO X.K fa opNe) := (op_neD hu).imp fun x y H Q ⟨M, α, d, e, P, st, rx, ry, h, an⟩ => by
  unfold opNe at h
  split at h
  · rename_i p q h1 h2
    exact ⟨p, q, pyM_dp st rx h1, pyM_dp st ry h2, h.1.1, h.1.2, an.here st (.bl _) h.2⟩
  · exact h.elim
theorem isNon_v {K : PySem.W.Frag} {α : List Addr} {H : Hp} {v : V} {d : D} (r : Rp K fa α H v d) : decide (v = .non) = isNon d := by
  cases r <;> rfl
theorem o_is : OpR X (compareOp .Is) (LO X.K fa opIs) := (op_isN.or op_is_bl).imp fun x y H Q ⟨M, α, d, e, P, st, rx, ry, h, an⟩ => by
  unfold opIs at h
  split at h
  · cases ry
    rw [← isNon_v rx] at h
    exact .inl ⟨rfl, an.here st (.bl _) h⟩
  · cases ry
    split at h
    · cases rx; exact .inr ⟨_, _, rfl, rfl, an.here st (.bl _) h⟩
    · exact h.elim
  · exact h.elim
theorem o_isnot : OpR X (compareOp .IsNot) (LO X.K fa opIsNot) := (op_notN.or op_isnot_bl).imp fun x y H Q ⟨M, α, d, e, P, st, rx, ry, h, an⟩ => by
  unfold opIsNot at h
  split at h
  · cases ry
    rw [← isNon_v rx] at h
    exact .inl ⟨rfl, an.here st (.bl _) h⟩
  · cases ry
    split at h
    · cases rx; exact .inr ⟨_, _, rfl, rfl, an.here st (.bl _) h⟩
    · exact h.elim
  · exact h.elim
end

/-! ### lists and tuples as they are read -/
section
variable {K : PySem.W.Frag} {fa : Org} {α : List Addr} {H : Hp} {M : Mem}
theorem seq_v {v : V} {d : D} {xs : List D} (st : StR K fa α H M) (r : Rp K fa α H v d) (h : seqOf M d = some xs) :
    ∃ a vs, v = .ref a ∧ (SqL K H a vs ∨ SqT K H a vs) ∧ Rps K fa α H vs xs := by
  cases r with
  | @tup a vs ds s l r => cases h; exact ⟨a, vs, rfl, .inr (.inl (.inl s)), r⟩
  | @kup a vs ds s l r => cases h; exact ⟨a, vs, rfl, .inr (s H), r⟩
  | @rol a vs ds s l r => cases h; exact ⟨a, vs, rfl, .inl (s.elim (fun z => .inl (.inr z)) fun z => z H), r⟩
  | @ref n a ea =>
    have h : (match M[n]? with
      | some (.lst xs) => some xs
      | _ => none) = some xs := h
    cases q : M[n]? with
    | none => rw [q] at h; cases h
    | some c =>
      rw [q] at h
      cases c with
      | lst ys =>
        cases h
        obtain ⟨vs, hv, _, r⟩ := st.cell n _ a q ea
        exact ⟨a, vs, rfl, .inl (.inl (.inl hv)), r⟩
      | dK _ => cases h
      | dT _ => cases h
  | _ => cases h
theorem Rp.flat {v : V} {d : D} (r : Rp K fa α H v d) (h : flat? d = true) : flatV v = true := by
  cases r <;> first | rfl | cases h
theorem eqV_py {v w : V} {d e : D} (r : Rp K fa α H v d) (s : Rp K fa α H w e) (h1 : flat? d = true) (h2 : flat? e = true) : eqV v w = PyData.eqv (toPy d) (toPy e) := by
  cases r <;> first
    | (cases h1; done)
    | (cases s <;> first | (cases h2; done) | rfl | (simp [eqV, toPy, PyData.eqv]))
theorem Rps.flat : ∀ {vs : List V} {ds : List D}, Rps K fa α H vs ds → ds.all flat? = true → vs.all flatV = true
  | _, _, .nil, _ => rfl
  | _, _, .cons h t, q => by
    rw [List.all_cons, Bool.and_eq_true] at q ⊢
    exact ⟨h.flat q.1, Rps.flat t q.2⟩
theorem inV_py {x : V} {d : D} (r : Rp K fa α H x d) (h1 : flat? d = true) : ∀ {vs : List V} {ds : List D}, Rps K fa α H vs ds → ds.all flat? = true → inV x vs = (toPys ds).any fun z => PyData.eqv z (toPy d)
  | _, _, .nil, _ => rfl
  | _, _, .cons h t, q => by
    rw [List.all_cons, Bool.and_eq_true] at q
    show (eqV _ x || _) = (PyData.eqv _ _ || _)
    rw [eqV_py h r q.1 h1]
    exact congrArg _ (inV_py r h1 t q.2)
theorem Rps.at {vs : List V} {ds : List D} {i : Int} {d : D} (r : Rps K fa α H vs ds) (h : atI ds i = some d) : ∃ v, atI vs i = some v ∧ Rp K fa α H v d := by
  unfold atI at h ⊢
  rw [r.length]
  cases q : ixN ds.length i with
  | none => rw [q] at h; cases h
  | some j =>
    rw [q] at h
    exact r.get (i := j) h
theorem Rp.keyK {v : V} {d : D} {k : Key} (r : Rp K fa α H v d) (h : keyK d = some k) : v = kV k := by
  cases r <;> first | (cases h; rfl) | cases h
theorem Rps.keysK : ∀ {vs : List V} {ds : List D} {ks : List Key}, Rps K fa α H vs ds → DL.keysK ds = some ks → vs = ks.map kV
  | _, _, _, .nil, h => by cases h; rfl
  | _, _, ks, .cons r t, h => by
    obtain ⟨k, h1, h2⟩ := Option.bind_eq_some_iff.mp h
    obtain ⟨l, h3, h4⟩ := Option.map_eq_some_iff.mp h2
    subst h4
    rw [r.keyK h1, Rps.keysK t h3]
    rfl
section
variable {κ : Type} [DecidableEq κ]
theorem val_v {k : κ} : ∀ {ws : List (κ × V)} {kvs : List (κ × D)}, Paired (KR K fa α H) ws kvs → (∀ d, valD kvs k = some d → ∃ v, valV ws k = some v ∧ Rp K fa α H v d) ∧ (valD kvs k).isSome = (valV ws k).isSome
  | _, _, .nil => ⟨fun _ h => (by cases h), rfl⟩
  | (k1, v) :: ws, (k2, d) :: kvs, .cons ⟨e, r⟩ t => by
    have e : k1 = k2 := e
    subst e
    have ih := val_v (k := k) t
    by_cases hk : k1 = k
    · subst hk
      have e1 : valD ((k1, d) :: kvs) k1 = some d := by simp [valD, List.find?_cons]
      have e2 : valV ((k1, v) :: ws) k1 = some v := valV_pos rfl
      rw [e1, e2]
      exact ⟨fun x h => by cases h; exact ⟨v, rfl, r⟩, rfl⟩
    · have e1 : valD ((k1, d) :: kvs) k = valD kvs k := by simp [valD, List.find?_cons, hk]
      have e2 : valV ((k1, v) :: ws) k = valV ws k := valV_neg hk
      rw [e1, e2]
      exact ih
theorem any_v {k : κ} : ∀ {ws : List (κ × V)} {kvs : List (κ × D)}, Paired (KR K fa α H) ws kvs → (ws.any fun kv => decide (kv.1 = k)) = kvs.any fun kv => decide (kv.1 = k)
  | _, _, .nil => rfl
  | (k1, v) :: ws, (k2, d) :: kvs, .cons ⟨e, r⟩ t => by
    have e : k1 = k2 := e
    subst e
    rw [List.any_cons, List.any_cons, any_v t]
theorem put_v {k : κ} {v : V} {d : D} (r : Rp K fa α H v d) {ws : List (κ × V)} {kvs : List (κ × D)} (h : Paired (KR K fa α H) ws kvs) : Paired (KR K fa α H) (putK ws k v) (putD kvs k d) := by
  unfold putK putD
  rw [any_v h]
  split
  · have go : ∀ {ws : List (κ × V)} {kvs : List (κ × D)}, Paired (KR K fa α H) ws kvs → Paired (KR K fa α H) (ws.map fun kv => if kv.1 = k then (kv.1, v) else kv) (kvs.map fun kv => if kv.1 = k then (kv.1, d) else kv) := by
      intro ws kvs h
      induction h with
      | nil => exact .nil
      | @cons a b as bs hab t ih =>
        obtain ⟨k1, v1⟩ := a
        obtain ⟨k2, d2⟩ := b
        obtain ⟨e, r2⟩ := hab
        have e : k1 = k2 := e
        subst e
        refine .cons ?_ ih
        by_cases hk : k1 = k
        · simp only [hk, if_true]; exact ⟨rfl, r⟩
        · simp only [hk, if_false]; exact ⟨rfl, r2⟩
    exact go h
  · have go : ∀ {ws : List (κ × V)} {kvs : List (κ × D)}, Paired (KR K fa α H) ws kvs → Paired (KR K fa α H) (ws ++ [(k, v)]) (kvs ++ [(k, d)]) := by
      intro ws kvs h
      induction h with
      | nil => exact .cons ⟨rfl, r⟩ .nil
      | cons hab t ih => exact .cons hab ih
    exact go h
end
theorem dget_v {v : V} {n : Nat} {a : Addr} {k : D} {o : Option D} (st : StR K fa α H M) (ea : α[n]? = some a) (r : Rp K fa α H v k) (h : dgetD M n k = some o) :
    ∃ ov, DGet H a v ov ∧ o.isSome = ov.isSome ∧ ∀ d, o = some d → ∃ w, ov = some w ∧ Rp K fa α H w d := by
  unfold dgetD at h
  split at h
  · rename_i kvs q
    obtain ⟨ws, hw, p⟩ := st.cell n _ a q ea
    obtain ⟨key, h1, h2⟩ := Option.map_eq_some_iff.mp h
    subst h2
    obtain ⟨f1, f2⟩ := val_v (k := key) p
    refine ⟨valV ws key, ?_, f2, fun d e => f1 d e⟩
    rw [r.keyK h1]
    exact DGet.k hw
  · rename_i kvs q
    obtain ⟨ws, hw, p⟩ := st.cell n _ a q ea
    obtain ⟨key, h1, h2⟩ := Option.map_eq_some_iff.mp h
    subst h2
    obtain ⟨f1, f2⟩ := val_v (k := key) p
    cases r with
    | @tup b vs ds s l r =>
      refine ⟨valV ws key, ?_, f2, fun d e => f1 d e⟩
      have e : vs = key.map kV := r.keysK h1
      subst e
      exact DGet.t hw s
    | _ => cases h1
  · cases h
end

section
variable {X : Cx} {fa : Org}
def rDIn (neg : Bool) : R2 := fun y x H Q => ∃ a o, x = .ref a ∧ DGet H a y o ∧ Q (.bl (if neg = true then !o.isSome else o.isSome)) H
theorem op_din (hu : X.A.units + 1 < cLine) : OpR X (compareOp .In) (rDIn false) := fun pins s σ H y x u v Q I ry rx ⟨a, o, e, g, q⟩ => by
  subst e
  obtain rfl : v = Value.ref a := rx
  exact d_in hu I g ry fun s3 I3 => ⟨.bl o.isSome, H, I3, rfl, q⟩
theorem op_dnotin (hu : X.A.units + 1 < cLine) : OpR X (compareOp .NotIn) (rDIn true) := fun pins s σ H y x u v Q I ry rx ⟨a, o, e, g, q⟩ => by
  subst e
  obtain rfl : v = Value.ref a := rx
  exact d_notIn hu I g ry fun s3 I3 => ⟨.bl (!o.isSome), H, I3, rfl, q⟩
theorem in_go {neg : Bool} {x y : V} {H : Hp} {Q : VK} (h : LO X.K fa (inD neg) x y H Q) : rIn X.K neg x y H Q ∨ (∃ d ds, Dp X.K H x d ∧ Dp X.K H y (.list ds) ∧ SeqAt.shaped d = true ∧ SeqAt.shaped (.list ds) = true ∧ Q (.bl (if neg = true then !ds.any (fun z => PyData.eqv z d) else ds.any fun z => PyData.eqv z d)) H) ∨ rDIn neg x y H Q := by
  obtain ⟨M, α, d, e, P, st, rx, ry, h, an⟩ := h
  unfold inD at h
  split at h
  · rename_i ys hs
    obtain ⟨h1, h⟩ := h
    rcases h1 with ⟨f1, f2⟩ | ⟨l1, p1, p2, z1, z2⟩
    · obtain ⟨a, vs, e, hq, r⟩ := seq_v st ry hs
      rw [← inV_py rx f1 r f2] at h
      exact .inl ⟨a, vs, e, hq, rx.flat f1, r.flat f2, an.here st (.bl _) h⟩
    · refine .inr (.inl ⟨toPy d, toPys ys, rx.dp p1, ?_, z1, z2, an.here st (.bl _) h⟩)
      cases ry with
      | @rol a vs ds s l r => cases hs; exact .lst (s.elim (fun z => .inl (.inr z)) fun z => z H) (r.dp p2)
      | @ref n a ea =>
        obtain ⟨b, vs, e, hq, r⟩ := seq_v st (.ref ea) hs
        cases e
        have hs : (match M[n]? with
          | some (.lst xs) => some xs
          | _ => none) = some ys := hs
        cases q : M[n]? with
        | none => rw [q] at hs; cases hs
        | some c =>
          rw [q] at hs
          cases c with
          | lst zs =>
            cases hs
            obtain ⟨vs, hv, _, r⟩ := st.cell n _ a q ea
            exact .lst (.inl (.inl hv)) (r.dp p2)
          | dK _ => cases hs
          | dT _ => cases hs
      | _ => cases l1
  · split at h
    · split at h
      · rename_i o hd
        cases ry with
        | ref ea =>
          obtain ⟨ov, g, f1, f2⟩ := dget_v st ea rx hd
          rw [f1] at h
          exact .inr (.inr ⟨_, ov, rfl, g, an.here st (.bl _) h⟩)
      · exact h.elim
    · exact h.elim
theorem o_in (hu : X.A.units + 65 < cLine) : OpR X (compareOp .In) (LO X.K fa (inD false)) := (op_in_seq.or ((op_inD hu).or (op_din (by omega)))).imp fun x y H Q h => in_go h
theorem o_notin (hu : X.A.units + 65 < cLine) : OpR X (compareOp .NotIn) (LO X.K fa (inD true)) := (op_notIn_seq.or ((op_notInD hu).or (op_dnotin (by omega)))).imp fun x y H Q h => in_go h
def rIxDc : R2 := fun x y H Q => ∃ a v, x = .ref a ∧ DGet H a y (some v) ∧ Q v H
theorem ix_dict (hu : X.A.units + 1 < cLine) : IxR X rIxDc := fun value slice pins s σ H x y v u Q I rx ry ⟨a, w, e, g, q⟩ hs => by
  subst e
  obtain rfl : v = Value.ref a := rx
  unfold subscriptTail
  refine wpAny_bind ?_
  rw [getitemInPython_of_ne (dict_typeIs I g).not_modules]
  refine wpAny_bind (wpAny_specialOf (dict_typeIs I g) PySem.F.slot_dict_getitem.lookup ?_)
  have fin : wpAny (model X.prog X.w) X.A (subscripted slice false (.ref a) u) (fun r s₃ => wpAny (model X.prog X.w) X.A (letTemporaryGo value (.ref a) r >>= fun _ => pure r) (EP X pins σ Q) X.xe s₃) X.xe s := by
    rw [hs]
    exact wpAny_operating (d_getItem hu I g ry fun w' s3 I3 rw' => wpAny_bind (wpAny_letTemporaryGo (wpAny_pure ⟨w, H, I3, rw', q⟩)))
  first
    | exact wpAny_pure (wpAny_bind fin)
    | exact wpAny_bind (wpAny_pure (wpAny_bind fin))
    | exact wpAny_bind fin
theorem ix_go {x y : V} {H : Hp} {Q : VK} (h : LO X.K fa opIx x y H Q) : rIx X.K x y H Q ∨ rIxDc x y H Q := by
  obtain ⟨M, α, d, e, P, st, rx, ry, h, an⟩ := h
  unfold opIx at h
  split at h
  · split at h
    · obtain ⟨hl, h⟩ := h
      split at h
      · rename_i c hc
        cases rx; cases ry
        exact .inl (.inr (.inr ⟨_, _, c, rfl, rfl, hl, hc, an.here st (.str _) h⟩))
      · exact h.elim
    · exact h.elim
  · split at h
    · rename_i xs hs
      split at h
      · split at h
        · rename_i g hg
          cases ry
          obtain ⟨a, vs, e, hq, r⟩ := seq_v st rx hs
          obtain ⟨v, hv, rv⟩ := r.at hg
          rcases hq with hq | hq
          · exact .inl (.inl ⟨a, vs, _, v, e, rfl, hq, hv, an.here st rv h⟩)
          · exact .inl (.inr (.inl ⟨a, vs, _, v, e, rfl, hq, hv, an.here st rv h⟩))
        · exact h.elim
      · exact h.elim
    · split at h
      · split at h
        · rename_i g hg
          cases rx with
          | ref ea =>
            obtain ⟨ov, hd, _, f2⟩ := dget_v st ea ry hg
            obtain ⟨w, e, rw'⟩ := f2 _ rfl
            subst e
            exact .inr ⟨_, w, rfl, hd, an.here st rw' h⟩
        · exact h.elim
      · exact h.elim
theorem i_ix (hu : X.A.units + 1 < cLine) : IxR X (LO X.K fa opIx) := (ix_seq.or (ix_dict hu)).imp fun x y H Q h => ix_go h
end
end DL

/-! The data layer, part 4: statements, targets, loops, comprehensions. -/
namespace L2
open PySem PySem.Spec PyProof.Rows
theorem PS.imp {X : Cx} {e : Stmt} {t t' : TS} (h : PS X e t) (i : ∀ D σ H, t' D σ H → t D σ H) : PS X e t' := ⟨fun pins s σ H D I q => h.run pins s σ H D I (i D σ H q)⟩
theorem PSs.imp {X : Cx} {e : List Stmt} {t t' : TS} (h : PSs X e t) (i : ∀ D σ H, t' D σ H → t D σ H) : PSs X e t' := ⟨fun pins s σ H D I q => h.run pins s σ H D I (i D σ H q)⟩
theorem PG.imp {X : Cx} {e : Expr} {t t' : TG} (h : PG X e t) (i : ∀ v σ H Q, t' v σ H Q → t v σ H Q) : PG X e t' := ⟨fun pins s σ H v u Q I r q => h.run pins s σ H v u Q I r (i v σ H Q q)⟩
theorem PGs.imp {X : Cx} {e : List Expr} {t t' : TGs} (h : PGs X e t) (i : ∀ v σ H Q, t' v σ H Q → t v σ H Q) : PGs X e t' := ⟨fun pins s σ H v u Q I r q => h.run pins s σ H v u Q I r (i v σ H Q q)⟩
theorem PI.imp {X : Cx} {tg e : Expr} {t t' : TI} (h : PI X tg e t) (i : ∀ σ H R, t' σ H R → t σ H R) : PI X tg e t' := ⟨fun pins s σ H R I q => h.run pins s σ H R I (i σ H R q)⟩
theorem PTs.imp {X : Cx} {e : List Expr} {t t' : TT} (h : PTs X e t) (i : ∀ σ H Q, t' σ H Q → t σ H Q) : PTs X e t' := ⟨fun pins s σ H Q I q => h.run pins s σ H Q I (i σ H Q q)⟩
theorem PSet.or {X : Cx} {t u : TSet} (h : PSet X t) (g : PSet X u) : PSet X (fun o i v H Q => t o i v H Q ∨ u o i v H Q) := fun pins s σ H o i v ov iv w Q I ro ri rv q => q.elim (h pins s σ H o i v ov iv w Q I ro ri rv) (g pins s σ H o i v ov iv w Q I ro ri rv)
theorem PSet.imp {X : Cx} {t t' : TSet} (h : PSet X t) (g : ∀ o i v H Q, t' o i v H Q → t o i v H Q) : PSet X t' := fun pins s σ H o i v ov iv w Q I ro ri rv q => h pins s σ H o i v ov iv w Q I ro ri rv (g o i v H Q q)
/-- a list or a tuple, walked -/
def iSq (K : PySem.W.Frag) (tl : TE) : TI := fun σ H R => tl σ H fun x H1 => ∃ a, x = .ref a ∧ (((∃ xs, SqL K H1 a xs) ∧ R (Itl K a) H1) ∨ ((∃ xs, SqT K H1 a xs) ∧ R (Itt K a) H1))
theorem pi_sq {X : Cx} {tg l : Expr} {tl : TE} (hl : PE X l tl) : PI X tg l (iSq X.K tl) := by
  refine ⟨fun pins s σ H R I h => ?_⟩
  refine thn (hl.run pins s σ H _ I h) fun v s1 ⟨x, H1, I1, r1, q1⟩ => ?_
  obtain ⟨a, e, q⟩ := q1
  subst e
  cases r1
  rcases q with ⟨⟨xs, hq⟩, q⟩ | ⟨⟨xs, hq⟩, q⟩
  · obtain ⟨its, rv, p, hz⟩ := I1.list hq
    refine wpAny_pyIter_list p.isList ?_
    refine ⟨s1.heap.objs.size, [s1.heap.objs.size], _, _, H1, rfl, I1.kept (t' := s1.toks) fun b o e => Heap.get?_push_of_some _ e, turn_list a _, ⟨_, Heap.get?_push_size _ rfl, rfl, rfl⟩, fun b hb => ?_, q⟩
    have e : b = s1.heap.objs.size := by simpa using hb
    subst e
    exact I1.fpOk (Nat.le_refl _) (I1.hok.fresh (Nat.le_refl _))
  · obtain ⟨its, rv, p, hz⟩ := I1.tuple hq
    refine wpAny_pyIter_tuple (show s1.heap.IsTuple a its.toArray from p) ?_
    refine ⟨s1.heap.objs.size, [s1.heap.objs.size], _, _, H1, rfl, I1.kept (t' := s1.toks) fun b o e => Heap.get?_push_of_some _ e, turn_tuple a _, ⟨_, Heap.get?_push_size _ rfl, rfl, rfl⟩, fun b hb => ?_, q⟩
    have e : b = s1.heap.objs.size := by simpa using hb
    subst e
    exact I1.fpOk (Nat.le_refl _) (I1.hok.fresh (Nat.le_refl _))
end L2
namespace DL
open PySem PySem.Spec PyProof.Rows L2

structure EndsR (K : PySem.W.Frag) (fa : Org) (α : List Addr) (H : Hp) (E : DEnds) (D : Ends) : Prop where
  nx : ∀ (σ' : L2.St) (ρ' : Env) (H' : Hp) (α' : List Addr) (M' : Mem), Ext K H H' α α' → EnvR K fa α' H' σ' ρ' → StR K fa α' H' M' → E.nx ρ' M' → D.nx σ' H'
  rt : Ans K fa α H E.rt D.rt
  bk : ∀ (σ' : L2.St) (ρ' : Env) (H' : Hp) (α' : List Addr) (M' : Mem), Ext K H H' α α' → EnvR K fa α' H' σ' ρ' → StR K fa α' H' M' → E.bk ρ' M' → D.bk σ' H'
  ct : ∀ (σ' : L2.St) (ρ' : Env) (H' : Hp) (α' : List Addr) (M' : Mem), Ext K H H' α α' → EnvR K fa α' H' σ' ρ' → StR K fa α' H' M' → E.ct ρ' M' → D.ct σ' H'
theorem EndsR.ext {K : PySem.W.Frag} {fa : Org} {α α' : List Addr} {H H' : Hp} {E : DEnds} {D : Ends} (h : EndsR K fa α H E D) (e : Ext K H H' α α') : EndsR K fa α' H' E D :=
  ⟨fun σ2 ρ2 H2 α2 M2 e2 => h.nx σ2 ρ2 H2 α2 M2 (e.trans e2), h.rt.ext e, fun σ2 ρ2 H2 α2 M2 e2 => h.bk σ2 ρ2 H2 α2 M2 (e.trans e2), fun σ2 ρ2 H2 α2 M2 e2 => h.ct σ2 ρ2 H2 α2 M2 (e.trans e2)⟩
def LS (K : PySem.W.Frag) (fa : Org) (C : Ctx) (t : DS) : TS := fun D σ H => ∃ (ρ : Env) (M : Mem) (α : List Addr) (E : DEnds), EnvR K fa α H σ ρ ∧ StR K fa α H M ∧ t C E ρ M ∧ EndsR K fa α H E D
/-- a target; ws: the names it may store -/
def LG (K : PySem.W.Frag) (fa : Org) (C : Ctx) (ws : List Nat) (g : DG) : TG := fun v σ H Q => ∃ (ρ : Env) (M : Mem) (α : List Addr) (d : D) (P : Env → Mem → Prop), EnvR K fa α H σ ρ ∧ StR K fa α H M ∧ Rp K fa α H v d ∧ g C d ρ M P ∧
  ∀ (σ' : L2.St) (ρ' : Env) (H' : Hp) (α' : List Addr) (M' : Mem), Ext K H H' α α' → EnvR K fa α' H' σ' ρ' → StR K fa α' H' M' → (∀ vs : List Nat, (∀ i ∈ ws, i ∈ vs) → wipe σ' vs = wipe σ vs) → P ρ' M' → Q σ' H'
abbrev DGs := Ctx → List D → Env → Mem → (Env → Mem → Prop) → Prop
def LGs (K : PySem.W.Frag) (fa : Org) (C : Ctx) (ws : List Nat) (g : DGs) : TGs := fun xs σ H Q => ∃ (ρ : Env) (M : Mem) (α : List Addr) (ds : List D) (P : Env → Mem → Prop), EnvR K fa α H σ ρ ∧ StR K fa α H M ∧ Rps K fa α H xs ds ∧ g C ds ρ M P ∧
  ∀ (σ' : L2.St) (ρ' : Env) (H' : Hp) (α' : List Addr) (M' : Mem), Ext K H H' α α' → EnvR K fa α' H' σ' ρ' → StR K fa α' H' M' → (∀ vs : List Nat, (∀ i ∈ ws, i ∈ vs) → wipe σ' vs = wipe σ vs) → P ρ' M' → Q σ' H'

/-! ### meanings -/
def sNext : DS := fun _ E ρ M => E.nx ρ M
def sSeq (t u : DS) : DS := fun C E ρ M => t C { E with nx := fun ρ' M' => u C E ρ' M' } ρ M
def sBreak : DS := fun _ E ρ M => E.bk ρ M
def sCont : DS := fun _ E ρ M => E.ct ρ M
def sDrop (e : DE) : DS := fun C E ρ M => e C ρ M fun _ M1 => E.nx ρ M1
def sRet (e : DE) : DS := fun C E ρ M => e C ρ M E.rt
def sRetN : DS := fun _ E _ M => E.rt .non M
def sIf (c : DT) (t u : DS) : DS := fun C E ρ M => c C ρ M fun b M1 => if b = true then t C E ρ M1 else u C E ρ M1
def sNever : DS := fun _ _ _ _ => False
def sAsg (e : DE) (g : DG) : DS := fun C E ρ M => e C ρ M fun d M1 => g C d ρ M1 E.nx
def gName (i : Nat) : DG := fun _ d ρ M P => P (ρ.set i (some d)) M
def gNil : DGs := fun _ ds ρ M P => ds = [] ∧ P ρ M
def gCons (g : DG) (gs : DGs) : DGs := fun C ds ρ M P => match ds with
  | d :: ds => g C d ρ M fun ρ' M' => gs C ds ρ' M' P
  | [] => False
def gTup (n : Nat) (gs : DGs) : DG := fun C d ρ M P => match d with
  | .tup xs => xs.length = n ∧ gs C xs ρ M P
  | .kup xs => xs.length = n ∧ gs C xs ρ M P
  | _ => False
def opSet : D → D → D → Mem → (Mem → Prop) → Prop := fun x y d M P => match x with
  | .ref n => (match M[n]? with
    | some (.lst xs) => (match y with
      | .int k => (match ixN xs.length k with
        | some j => P (M.set n (.lst (xs.set j d)))
        | none => False)
      | _ => False)
    | some (.dK kvs) => (match keyK y with
      | some k => kvs.length < sizeLine ∧ P (M.set n (.dK (putD kvs k d)))
      | none => False)
    | some (.dT kvs) => (match keyT y with
      | some k => kvs.length < sizeLine ∧ P (M.set n (.dT (putD kvs k d)))
      | none => False)
    | _ => False)
  | _ => False
def gSub (o i : DE) : DG := fun C d ρ M P => o C ρ M fun x M1 => i C ρ M1 fun y M2 => opSet x y d M2 fun M3 => P ρ M3
def sAug (i : Nat) (e : DE) (op : DOp) : DS := fun C E ρ M => got ρ[i]? fun x => e C ρ M fun y M1 => op x y M1 fun z M2 => E.nx (ρ.set i (some z)) M2
def sPar (i j : Nat) (a : DA) : DS := fun C E ρ M => a C ρ M fun ds M1 => match ds with
  | [x, y] => E.nx ((ρ.set i (some x)).set j (some y)) M1
  | _ => False
def wloop (c : Env → Mem → (Bool → Mem → Prop) → Prop) (b : DEnds → Env → Mem → Prop) (E : DEnds) : Nat → Env → Mem → Prop
  | 0, _, _ => False
  | n + 1, ρ, M => c ρ M fun k M1 => if k = true then b { E with nx := wloop c b E n, ct := wloop c b E n, bk := E.nx } ρ M1 else E.nx ρ M1
def sWhile (c : DT) (b : DS) : DS := fun C E ρ M => ∃ n, wloop (c C) (b C) E n ρ M
def floop (g : D → Env → Mem → (Env → Mem → Prop) → Prop) (b : DEnds → Env → Mem → Prop) (E : DEnds) (grd : Mem → Prop) : List D → Env → Mem → Prop
  | [], ρ, M => grd M ∧ E.nx ρ M
  | x :: xs, ρ, M => grd M ∧ g x ρ M fun ρ' M' => b { E with nx := floop g b E grd xs, ct := floop g b E grd xs, bk := E.nx } ρ' M'
def sFor (it : DI) (g : DG) (b : DS) : DS := fun C E ρ M => it C ρ M fun xs grd M1 => floop (g C) (b C) E grd xs ρ M1
/-- items: what a loop walks -/
def grdOf (d : D) (xs : List D) : Mem → Prop := match d with
  | .ref n => fun M => M[n]? = some (.lst xs)
  | _ => fun _ => True
def iSeq (e : DE) : DI := fun C ρ M P => e C ρ M fun d M1 => match seqOf M1 d with
  | some xs => P xs (grdOf d xs) M1
  | none => False
def rngI (lo : Int) (n : Nat) : List D := (List.range n).map fun (k : Nat) => D.int (lo + (k : Int))
def iRng1 (a : DE) : DI := fun C ρ M P => a C ρ M fun d M1 => match d with
  | .int j => (-(2 ^ 62) ≤ j ∧ j.toNat ≤ sizeLine) ∧ P (rngI 0 j.toNat) (fun _ => True) M1
  | _ => False
def iRng2 (a b : DE) : DI := fun C ρ M P => a C ρ M fun d M1 => b C ρ M1 fun e M2 => match d, e with
  | .int i, .int j => ((j - i).toNat ≤ sizeLine ∧ -(2 ^ 62) ≤ i ∧ i < 2 ^ 62 ∧ -(2 ^ 62) ≤ j ∧ j < 2 ^ 62) ∧ P (rngI i (j - i).toNat) (fun _ => True) M2
  | _, _ => False
/-- range(i, j, c), c below 0 -/
def rngC (lo c : Int) (n : Nat) : List D := (List.range n).map fun (k : Nat) => D.int (lo + (k : Int) * c)
def iRng3 (a b c : DE) : DI := fun C ρ M P => a C ρ M fun d M1 => b C ρ M1 fun e M2 => c C ρ M2 fun f M3 => match d, e, f with
  | .int i, .int j, .int c => ∃ n : Nat, (n ≤ sizeLine ∧ RgC i j c n) ∧ P (rngC i c n) (fun _ => True) M3
  | _, _, _ => False

/-! ### soundness: small statements -/
section
variable {X : Cx} {fa : Org} {C : Ctx} {a b c e : Expr} {es rest : List Expr} {pos : Pos} {ta tb tc te : DE} {ua ub uc : DT} {da : DA} {st : Stmt} {sts p q : List Stmt} {t u : DS} {ws ws' : List Nat}
theorem s_nil : PSs X [] (LS X.K fa C sNext) := pss_nil.imp fun D σ H ⟨ρ, M, α, E, er, sr, h, en⟩ => en.nx σ ρ H α M Ext.refl er sr h
theorem s_cons (h1 : PS X st (LS X.K fa C t)) (h2 : PSs X sts (LS X.K fa C u)) : PSs X (st :: sts) (LS X.K fa C (sSeq t u)) :=
  (pss_cons h1 h2).imp fun D σ H ⟨ρ, M, α, E, er, sr, h, en⟩ => ⟨ρ, M, α, _, er, sr, h, ⟨fun σ' ρ' H' α' M' e' er' sr' h' => ⟨ρ', M', α', E, er', sr', h', en.ext e'⟩, en.rt, en.bk, en.ct⟩⟩
theorem s_one (h1 : PS X st (LS X.K fa C t)) : PSs X [st] (LS X.K fa C t) := pss_one h1
theorem s_pass : PS X (.Pass pos) (LS X.K fa C sNext) := ps_pass.imp fun D σ H ⟨ρ, M, α, E, er, sr, h, en⟩ => en.nx σ ρ H α M Ext.refl er sr h
theorem s_break : PS X (.Break pos) (LS X.K fa C sBreak) := ps_break.imp fun D σ H ⟨ρ, M, α, E, er, sr, h, en⟩ => en.bk σ ρ H α M Ext.refl er sr h
theorem s_cont : PS X (.Continue pos) (LS X.K fa C sCont) := ps_continue.imp fun D σ H ⟨ρ, M, α, E, er, sr, h, en⟩ => en.ct σ ρ H α M Ext.refl er sr h
theorem s_doc {x j pos'} : PS X (.Expr (.Constant (.str x) j pos) pos') (LS X.K fa C sNext) := ps_doc.imp fun D σ H ⟨ρ, M, α, E, er, sr, h, en⟩ => en.nx σ ρ H α M Ext.refl er sr h
theorem s_drop (he : PE X e (LE X.K fa C te)) (hs : swapsWith e none pos.line X.env = pure false) : PS X (.Expr e pos) (LS X.K fa C (sDrop te)) :=
  (ps_expr he hs).imp fun D σ H ⟨ρ, M, α, E, er, sr, h, en⟩ => ⟨ρ, M, α, _, er, sr, h, fun v d H' α' M' e s r p => en.nx σ ρ H' α' M' e (er.mono e) s p⟩
theorem s_ret (he : PE X e (LE X.K fa C te)) : PS X (.Return (some e) pos) (LS X.K fa C (sRet te)) :=
  (ps_ret he).imp fun D σ H ⟨ρ, M, α, E, er, sr, h, en⟩ => ⟨ρ, M, α, _, er, sr, h, en.rt⟩
theorem s_retN : PS X (.Return none pos) (LS X.K fa C sRetN) := ps_retN.imp fun D σ H ⟨ρ, M, α, E, er, sr, h, en⟩ => en.rt.here sr .non h
theorem s_if (hc : PT X c (LT X.K fa C uc)) (ha : PSs X p (LS X.K fa C t)) (hb : PSs X q (LS X.K fa C u)) : PS X (.If c p q pos) (LS X.K fa C (sIf uc t u)) :=
  (ps_if hc ha hb).imp fun D σ H ⟨ρ, M, α, E, er, sr, h, en⟩ => ⟨ρ, M, α, _, er, sr, h, fun k H' α' M' e s pk => by
    cases k with
    | true => exact ⟨ρ, M', α', E, er.mono e, s, pk, en.ext e⟩
    | false => exact ⟨ρ, M', α', E, er.mono e, s, pk, en.ext e⟩⟩
theorem s_never : PS X st (LS X.K fa C sNever) := ps_never.imp fun D σ H ⟨ρ, M, α, E, er, sr, h, en⟩ => h.elim
theorem d_never : PE X e (LE X.K fa C fun _ _ _ _ => False) := ⟨fun _ _ _ _ _ _ ⟨_, _, _, _, _, _, h, _⟩ => h.elim⟩
theorem s_asg {tg : Expr} {g : DG} (he : PE X e (LE X.K fa C te)) (hg : PG X tg (LG X.K fa C ws g)) (hs : swapsWithSole [tg] e pos.line X.env = pure false) (hw : swappedStores [tg] e X.env = pure none)
    (h1 : (assignEach [tg] X.env).map (·.2) = [assign tg X.env]) : PS X (.Assign [tg] e pos) (LS X.K fa C (sAsg te g)) :=
  (ps_asg he hg hs hw h1).imp fun D σ H ⟨ρ, M, α, E, er, sr, h, en⟩ => ⟨ρ, M, α, _, er, sr, h, fun v d H' α' M' e s r p => ⟨ρ, M', α', d, _, er.mono e, s, r, p, fun σ' ρ' H2 α2 M2 e2 er2 sr2 _ p2 => en.nx σ' ρ' H2 α2 M2 (e.trans e2) er2 sr2 p2⟩⟩
theorem s_set {i : Nat} {x : Str} {pos' : Pos} (hN : X.N.Nodup) (hi : X.N[i]? = some x) (hx : Loc X.env.scope x) (he : PE X e (LE X.K fa C te)) (hs : swapsWith e (some (.Name x pos')) pos.line X.env = pure false) (hf : X.fn x = true ∨ X.env.scope.names.lookup x = some .local)  (hz : fa.exs = []) :
    PS X (.Assign [.Name x pos'] e pos) (LS X.K fa C (sAsg te (gName i))) :=
  (ps_set hN hi hx he hs hf).imp fun D σ H ⟨ρ, M, α, E, er, sr, h, en⟩ => ⟨ρ, M, α, _, er, sr, h, fun v d H' α' M' e s r p => en.nx _ _ H' α' M' e ((er.mono e).set r hz) s p⟩

/-! ### targets -/
theorem wipe_get {σ : L2.St} {j : Nat} : ∀ {vs : List Nat}, (wipe σ vs)[j]? = if j ∈ vs then (if j < σ.length then some none else none) else σ[j]?
  | [] => by simp [wipe]
  | v :: vs => by
    show ((wipe σ vs).set v none)[j]? = _
    by_cases hv : v = j
    · subst hv
      rw [if_pos List.mem_cons_self]
      by_cases hl : v < σ.length
      · rw [List.getElem?_set_self (by rw [wipe_length]; exact hl), if_pos hl]
      · rw [List.getElem?_eq_none (by rw [List.length_set, wipe_length]; omega), if_neg hl]
    · rw [List.getElem?_set_ne hv, wipe_get]
      have : (j ∈ v :: vs) ↔ j ∈ vs := by
        rw [List.mem_cons]
        exact ⟨fun h => h.elim (fun e => absurd e.symm hv) id, .inr⟩
      by_cases hj : j ∈ vs
      · rw [if_pos hj, if_pos (this.mpr hj)]
      · rw [if_neg hj, if_neg (fun z => hj (this.mp z))]
theorem wipe_set {σ : L2.St} {i : Nat} {x : Option V} {vs : List Nat} (h : i ∈ vs) : wipe (σ.set i x) vs = wipe σ vs := by
  apply List.ext_getElem?
  intro j
  rw [wipe_get, wipe_get, List.length_set]
  by_cases hj : j ∈ vs
  · rw [if_pos hj, if_pos hj]
  · rw [if_neg hj, if_neg hj, List.getElem?_set_ne (fun e => by subst e; exact hj h)]
theorem g_name {i : Nat} {x : Str} (hN : X.N.Nodup) (hi : X.N[i]? = some x) (hx : Loc X.env.scope x) (hf : X.fn x = true ∨ X.env.scope.names.lookup x = some .local) (hz : fa.exs = []) : PG X (.Name x pos) (LG X.K fa C [i] (gName i)) :=
  (pg_name hN hi hx hf).imp fun v σ H Q ⟨ρ, M, α, d, P, er, sr, r, h, k⟩ => k _ _ H α M Ext.refl (er.set r hz) sr (fun vs hv => wipe_set (hv i List.mem_cons_self)) h
theorem gs_nil : PGs X [] (LGs X.K fa C [] gNil) := pgs_nil.imp fun vs σ H Q ⟨ρ, M, α, ds, P, er, sr, r, h, k⟩ => by
  obtain ⟨e, h2⟩ := (show ds = [] ∧ P ρ M from h)
  subst e
  cases r
  exact ⟨rfl, k σ ρ H α M Ext.refl er sr (fun _ _ => rfl) h2⟩
theorem gs_cons {g : DG} {gs : DGs} (h1 : PG X e (LG X.K fa C ws g)) (h2 : PGs X es (LGs X.K fa C ws' gs)) (hs : (assignEach (e :: es) X.env).map (·.2) = assign e X.env :: (assignEach es X.env).map (·.2)) : PGs X (e :: es) (LGs X.K fa C (ws ++ ws') (gCons g gs)) :=
  (pgs_cons h1 h2 hs).imp fun vs σ H Q ⟨ρ, M, α, ds, P, er, sr, r, h, k⟩ => by
    cases r with
    | nil => exact (show False from h).elim
    | @cons v vs d ds r t =>
      refine ⟨v, vs, rfl, ρ, M, α, d, _, er, sr, r, h, fun σ' ρ' H' α' M' e er' sr' hw p => ?_⟩
      refine ⟨ρ', M', α', ds, P, er', sr', t.mono e, p, fun σ2 ρ2 H2 α2 M2 e2 er2 sr2 hw2 p2 => ?_⟩
      exact k σ2 ρ2 H2 α2 M2 (e.trans e2) er2 sr2 (fun vs hv => (hw2 vs fun i hi => hv i (List.mem_append_right _ hi)).trans (hw vs fun i hi => hv i (List.mem_append_left _ hi))) p2
theorem g_tup {gs : DGs} {k n : Nat} (hc : X.calm = true) (h : PGs X es (LGs X.K fa C ws gs)) (hn : (assignEach es X.env).length = n) (hst : (assignEach es X.env).findIdx? (·.1) = none) : PG X (.Tuple es k pos) (LG X.K fa C ws (gTup n gs)) :=
  (pg_tup hc h hn hst).imp fun v σ H Q ⟨ρ, M, α, d, P, er, sr, r, h, k⟩ => by
    cases r with
    | @tup a vs ds s l r =>
      obtain ⟨hl, h⟩ := (show ds.length = n ∧ gs C ds ρ M P from h)
      exact ⟨a, vs, rfl, .inl (.inl s), r.length.trans hl, ρ, M, α, ds, P, er, sr, r, h, k⟩
    | @kup a vs ds s l r =>
      obtain ⟨hl, h⟩ := (show ds.length = n ∧ gs C ds ρ M P from h)
      exact ⟨a, vs, rfl, s H, r.length.trans hl, ρ, M, α, ds, P, er, sr, r, h, k⟩
    | _ => exact (show False from h).elim
/-- a store by values -/
def LSet (K : PySem.W.Frag) (fa : Org) : TSet := fun o i v H Q => ∃ (M : Mem) (α : List Addr) (x y d : D) (P : Mem → Prop), StR K fa α H M ∧ Rp K fa α H o x ∧ Rp K fa α H i y ∧ Rp K fa α H v d ∧ opSet x y d M P ∧
  ∀ (H' : Hp) (M' : Mem), Ext K H H' α α → StR K fa α H' M' → P M' → Q H'
theorem p_set (hu : X.A.units + 1 < cLine) : PSet X (LSet X.K fa) := ((set_list (X := X)).or (set_dict hu)).imp fun o i v H Q ⟨M, α, x, y, d, P, sr, ro, ri, rv, h, k⟩ => by
  unfold opSet at h
  split at h
  · cases ro with
    | @ref n a ea =>
      split at h
      · rename_i xs hM
        obtain ⟨vs, hv, l, r⟩ := sr.cell _ _ _ hM ea
        split at h
        · split at h
          · rename_i j hj
            cases ri
            have ex : Ext X.K H (upd H a (.lst (vs.set j v))) α α := Ext.write hv (List.mem_of_getElem? ea) True.intro
            refine .inl ⟨a, vs, _, j, rfl, rfl, hv, by rw [r.length]; exact hj, k _ _ ex (sr.write ea hv True.intro ?_) h⟩
            exact ⟨_, upd_same, by rw [List.length_set]; exact l, (Rps.set rv j r).mono ex⟩
          · exact h.elim
        · exact h.elim
      · rename_i kvs hM
        obtain ⟨ws, hw, r⟩ := sr.cell _ _ _ hM ea
        split at h
        · rename_i key hk
          have ex : Ext X.K H (upd H a (.dK (putK ws key v))) α α := Ext.write hw (List.mem_of_getElem? ea) True.intro
          have hl : ws.length < sizeLine := by rw [Paired.length r]; exact h.1
          refine .inr ⟨a, _, rfl, by rw [ri.keyK hk]; exact DPut.k hw hl, k _ _ ex (sr.write ea hw True.intro ?_) h.2⟩
          exact ⟨_, upd_same, Paired.kr ex (put_v rv r)⟩
        · exact h.elim
      · rename_i kvs hM
        obtain ⟨ws, hw, r⟩ := sr.cell _ _ _ hM ea
        split at h
        · rename_i key hk
          have hl : ws.length < sizeLine := by rw [Paired.length r]; exact h.1
          cases ri with
          | @tup b vs ds s l rs =>
            have e : vs = key.map kV := rs.keysK hk
            subst e
            have ex : Ext X.K H (upd H a (.dT (putK ws key v))) α α := Ext.write hw (List.mem_of_getElem? ea) True.intro
            refine .inr ⟨a, _, rfl, DPut.t hw s hl, k _ _ ex (sr.write ea hw True.intro ?_) h.2⟩
            exact ⟨_, upd_same, Paired.kr ex (put_v rv r)⟩
          | _ => cases hk
        · exact h.elim
      · exact h.elim
  · exact h.elim
theorem g_sub {o i : Expr} {eo ei : DE} (hu : X.A.units + 1 < cLine) (ho : PE X o (LE X.K fa C eo)) (hi : PE X i (LE X.K fa C ei))
    (ha : ∀ v, assign (.Subscript o i pos) X.env v = (do
      let ov ← holding [v] (eval o X.env)
      let iv ← holding [v, ov] (eval i X.env)
      standAt pos
      holding [v, ov, iv] (setItem ov iv v)
      release [v, ov, iv] [])) : PG X (.Subscript o i pos) (LG X.K fa C [] (gSub eo ei)) :=
  (pg_sub ho hi (p_set (fa := fa) hu) ha).imp fun v σ H Q ⟨ρ, M, α, d, P, er, sr, r, h, k⟩ =>
    ⟨ρ, M, α, _, er, sr, h, fun x dx H1 α1 M1 e1 s1 r1 p1 => ⟨ρ, M1, α1, _, er.mono e1, s1, p1, fun y dy H2 α2 M2 e2 s2 r2 p2 =>
      ⟨M2, α2, dx, dy, d, _, s2, r1.mono e2, r2, r.mono (e1.trans e2), p2, fun H3 M3 e3 s3 p3 => k σ ρ H3 α2 M3 ((e1.trans e2).trans e3) (er.mono ((e1.trans e2).trans e3)) s3 (fun _ _ => rfl) p3⟩⟩⟩
/-- name op= e -/
def LIp (K : PySem.W.Frag) (fa : Org) (op : DOp) : TIp := LO K fa op
theorem s_aug {i : Nat} {x : Str} {op : Operator} {o : DOp} {pos' : Pos} (hN : X.N.Nodup) (hi : X.N[i]? = some x) (hx : Loc X.env.scope x) (he : PE X e (LE X.K fa C te)) (ho : PIp X op (LIp X.K fa o)) (hf : X.fn x = true ∨ X.env.scope.names.lookup x = some .local) (hz : fa.exs = []) :
    PS X (.AugAssign (.Name x pos') op e pos) (LS X.K fa C (sAug i te o)) :=
  (ps_aug hN hi hx he ho hf).imp fun D σ H ⟨ρ, M, α, E, er, sr, h, en⟩ => by
    have h : got ρ[i]? fun x => te C ρ M fun y M1 => o x y M1 fun z M2 => E.nx (ρ.set i (some z)) M2 := h
    cases q : ρ[i]? with
    | none => rw [q] at h; exact h.elim
    | some od =>
      cases od with
      | none => rw [q] at h; exact h.elim
      | some d =>
        rw [q] at h
        obtain ⟨v, e1, r⟩ := er.2.1 i d q
        refine ⟨v, e1, ρ, M, α, _, er, sr, h, fun y dy H1 α1 M1 e1 s1 r1 p1 => ⟨M1, α1, d, dy, _, s1, r.mono e1, r1, p1, fun z dz H2 α2 M2 e2 s2 r2 p2 => ?_⟩⟩
        exact en.nx _ _ H2 α2 M2 (e1.trans e2) ((er.mono (e1.trans e2)).set r2 hz) s2 p2
theorem s_par {i j : Nat} {x y : Str} {px py pt : Pos} {kt k2 pt2} (hc : X.calm = true) (hN : X.N.Nodup) (hi : X.N[i]? = some x) (hj : X.N[j]? = some y) (hij : i ≠ j)
    (hx : X.env.scope.names.lookup x = some .local) (hy : X.env.scope.names.lookup y = some .local) (ha : PA X [a, b] (LA X.K fa C da))
    (hw : swappedStores [.Tuple [.Name x px, .Name y py] kt pt] (.Tuple [a, b] k2 pt2) X.env = pure (some [x, y]))
    (hs : swapsWithSole [.Tuple [.Name x px, .Name y py] kt pt] (.Tuple [a, b] k2 pt2) pos.line X.env = pure false) (hz : fa.exs = []) :
    PS X (.Assign [.Tuple [.Name x px, .Name y py] kt pt] (.Tuple [a, b] k2 pt2) pos) (LS X.K fa C (sPar i j da)) :=
  (ps_par hc hN hi hj hij hx hy ha hw hs).imp fun D σ H ⟨ρ, M, α, E, er, sr, h, en⟩ => ⟨ρ, M, α, _, er, sr, h, fun vs ds H1 α1 M1 e1 s1 r1 p1 => by
    rcases r1 with _ | ⟨ra, _ | ⟨rb, _ | _⟩⟩
    · exact p1.elim
    · exact p1.elim
    · exact ⟨_, _, rfl, en.nx _ _ H1 α1 M1 e1 (((er.mono e1).set ra hz).set rb hz) s1 p1⟩
    · exact p1.elim⟩

/-! ### while -/
theorem s_while (hp : PassesOwn (model X.prog X.w) X.A X.env X.xe) (hc : PT X c (LT X.K fa C uc)) (hb : PSs X p (LS X.K fa C t)) : PS X (.While c p [] pos) (LS X.K fa C (sWhile uc t)) :=
  (ps_while hp hc hb).imp fun D σ H ⟨ρ, M, α, E, er, sr, ⟨n, h⟩, en⟩ => by
    refine ⟨fun m σ1 H1 => ∃ ρ1 M1 α1, Ext X.K H H1 α α1 ∧ EnvR X.K fa α1 H1 σ1 ρ1 ∧ StR X.K fa α1 H1 M1 ∧ wloop (uc C) (t C) E m ρ1 M1, ⟨n, ρ, M, α, Ext.refl, er, sr, h⟩, ?_⟩
    rintro m σ1 H1 ⟨ρ1, M1, α1, e1, er1, sr1, h1⟩
    cases m with
    | zero => exact h1.elim
    | succ m =>
      refine ⟨ρ1, M1, α1, _, er1, sr1, h1, fun k H2 α2 M2 e2 s2 p2 => ?_⟩
      cases k with
      | false => exact en.nx σ1 ρ1 H2 α2 M2 (e1.trans e2) (er1.mono e2) s2 p2
      | true =>
        refine ⟨fun σ' H' => ∃ ρ1 M1 α1, Ext X.K H H' α α1 ∧ EnvR X.K fa α1 H' σ' ρ1 ∧ StR X.K fa α1 H' M1 ∧ wloop (uc C) (t C) E m ρ1 M1, fun σ' H' z => ⟨m, Nat.lt_succ_self m, z⟩, ?_⟩
        refine ⟨ρ1, M2, α2, _, er1.mono e2, s2, p2, ⟨fun σ' ρ' H' α' M' e' er' sr' w => ⟨ρ', M', α', (e1.trans e2).trans e', er', sr', w⟩, en.rt.ext (e1.trans e2), fun σ' ρ' H' α' M' e' er' sr' w => en.nx σ' ρ' H' α' M' ((e1.trans e2).trans e') er' sr' w, fun σ' ρ' H' α' M' e' er' sr' w => ⟨ρ', M', α', (e1.trans e2).trans e', er', sr', w⟩⟩⟩
end

/-! ### what is walked -/
/-- from here on J yields the items xs, as long as grd holds -/
structure ItOk (K : PySem.W.Frag) (fa : Org) (J : It) (α : List Addr) (H : Hp) (xs : List D) (grd : Mem → Prop) : Prop where
  len : xs.length ≤ sizeLine
  go : ∀ (H' : Hp) (α' : List Addr) (M' : Mem), Ext K H H' α α' → StR K fa α' H' M' → grd M' → ∀ i : Nat, (i = xs.length → J.stop i H') ∧ (i < xs.length → J.go i H') ∧
    ∀ (x : D) (v : V) (H2 : Hp), xs[i]? = some x → J.yld i H' v H2 → Ext K H' H2 α' α' ∧ StR K fa α' H2 M' ∧ Rp K fa α' H2 v x
def LI (K : PySem.W.Frag) (fa : Org) (C : Ctx) (t : DI) : TI := fun σ H R => ∃ (ρ : Env) (M : Mem) (α : List Addr) (P : List D → (Mem → Prop) → Mem → Prop), EnvR K fa α H σ ρ ∧ StR K fa α H M ∧ t C ρ M P ∧
  ∀ (J : It) (H' : Hp) (α' : List Addr) (M' : Mem) (xs : List D) (grd : Mem → Prop), Ext K H H' α α' → StR K fa α' H' M' → ItOk K fa J α' H' xs grd → P xs grd M' → R J H'
section
variable {K : PySem.W.Frag} {fa : Org} {α : List Addr} {H : Hp} {M : Mem}
end
section
variable {X : Cx} {fa : Org} {C : Ctx} {tg e : Expr} {es : List Expr} {pos : Pos} {te : DE} {da : DA}
theorem i_seq (he : PE X e (LE X.K fa C te)) : PI X tg e (LI X.K fa C (iSeq te)) :=
  (pi_sq he).imp fun σ H R ⟨ρ, M, α, P, er, sr, h, k⟩ => by
    refine ⟨ρ, M, α, _, er, sr, h, fun v d H1 α1 M1 e1 s1 r1 p1 => ?_⟩
    cases r1 with
    | @tup a vs ds s l r =>
      refine ⟨a, rfl, .inr ⟨⟨vs, .inl (.inl s)⟩, k _ H1 α1 M1 ds _ e1 s1 ?_ p1⟩⟩
      refine ⟨by rw [← r.length]; exact l, fun H' α' M' e sr _ i => ⟨fun hi => ⟨vs, .inl (.inl (e.tup _ _ s)), by rw [r.length]; omega⟩, fun hi => ?_, fun x v H2 hx hy => ?_⟩⟩
      · obtain ⟨v, hv, _⟩ := r.get (List.getElem?_eq_getElem hi)
        exact ⟨vs, v, .inl (.inl (e.tup _ _ s)), hv⟩
      · obtain ⟨e2, hy⟩ := hy
        subst e2
        obtain ⟨w, hw, rw'⟩ := r.get hx
        have : v = w := Option.some.inj ((hy vs (.inl (.inl (e.tup _ _ s)))).symm.trans hw)
        subst this
        exact ⟨Ext.refl, sr, rw'.mono e⟩
    | @kup a vs ds s l r =>
      refine ⟨a, rfl, .inr ⟨⟨vs, s H1⟩, k _ H1 α1 M1 ds _ e1 s1 ?_ p1⟩⟩
      refine ⟨by rw [← r.length]; exact l, fun H' α' M' e sr _ i => ⟨fun hi => ⟨vs, s H', by rw [r.length]; omega⟩, fun hi => ?_, fun x v H2 hx hy => ?_⟩⟩
      · obtain ⟨v, hv, _⟩ := r.get (List.getElem?_eq_getElem hi)
        exact ⟨vs, v, s H', hv⟩
      · obtain ⟨e2, hy⟩ := hy
        subst e2
        obtain ⟨w, hw, rw'⟩ := r.get hx
        have : v = w := Option.some.inj ((hy vs (s H2)).symm.trans hw)
        subst this
        exact ⟨Ext.refl, sr, rw'.mono e⟩
    | @rol a vs ds s l r =>
      have sq : ∀ H' α', Ext X.K H1 H' α1 α' → SqL X.K H' a vs := fun H' α' e => s.elim (fun ⟨o, z⟩ => .inl (.inr ⟨o, e.frz _ _ _ z⟩)) fun z => z H'
      refine ⟨a, rfl, .inl ⟨⟨vs, sq H1 α1 Ext.refl⟩, k _ H1 α1 M1 ds _ e1 s1 ?_ p1⟩⟩
      refine ⟨by rw [← r.length]; exact l, fun H' α' M' e sr _ i => ⟨fun hi => ⟨vs, sq _ _ e, by rw [r.length]; omega⟩, fun hi => ?_, fun x v H2 hx hy => ?_⟩⟩
      · obtain ⟨v, hv, _⟩ := r.get (List.getElem?_eq_getElem hi)
        exact ⟨vs, v, sq _ _ e, hv⟩
      · obtain ⟨e2, hy⟩ := hy
        subst e2
        obtain ⟨w, hw, rw'⟩ := r.get hx
        have : v = w := Option.some.inj ((hy vs (sq _ _ e)).symm.trans hw)
        subst this
        exact ⟨Ext.refl, sr, rw'.mono e⟩
    | @ref n a ea =>
      have p1 : (match seqOf M1 (.ref n) with
        | some xs => P xs (grdOf (.ref n) xs) M1
        | none => False) := p1
      cases q : M1[n]? with
      | none => simp only [seqOf, q] at p1
      | some c =>
        cases c with
        | dK _ => simp only [seqOf, q] at p1
        | dT _ => simp only [seqOf, q] at p1
        | lst ds =>
          simp only [seqOf, q] at p1
          obtain ⟨vs, hv, l, r⟩ := s1.cell n _ a q ea
          refine ⟨a, rfl, .inl ⟨⟨vs, .inl (.inl hv)⟩, k _ H1 α1 M1 ds _ e1 s1 ?_ p1⟩⟩
          refine ⟨by rw [← r.length]; exact l, fun H' α' M' e sr hg i => ?_⟩
          obtain ⟨ws, hw, _, r2⟩ := sr.cell n _ a hg (e.at ea)
          refine ⟨fun hi => ⟨ws, .inl (.inl hw), by rw [r2.length]; omega⟩, fun hi => ?_, fun x v H2 hx hy => ?_⟩
          · obtain ⟨v, hv, _⟩ := r2.get (List.getElem?_eq_getElem hi)
            exact ⟨ws, v, .inl (.inl hw), hv⟩
          · obtain ⟨e2, hy⟩ := hy
            subst e2
            obtain ⟨w, hw', rw'⟩ := r2.get hx
            have : v = w := Option.some.inj ((hy ws (.inl (.inl hw))).symm.trans hw')
            subst this
            exact ⟨Ext.refl, sr, rw'⟩
    | _ => exact (show False from p1).elim
theorem rngI_get {lo : Int} {n i : Nat} {x : D} (h : (rngI lo n)[i]? = some x) : x = .int (lo + i) := by
  unfold rngI at h
  rw [List.getElem?_map] at h
  obtain ⟨k, h1, h2⟩ := Option.map_eq_some_iff.mp h
  have := (List.getElem?_eq_some_iff.mp h1)
  obtain ⟨hl, e⟩ := this
  rw [List.getElem_range] at e
  subst e
  exact h2.symm
theorem rngI_len {lo : Int} {n : Nat} : (rngI lo n).length = n := by unfold rngI; simp
theorem itok_r {K : PySem.W.Frag} {α : List Addr} {H : Hp} {lo : Int} {n : Nat} (h : n ≤ sizeLine) : ItOk K fa (Itr lo n) α H (rngI lo n) fun _ => True := by
  refine ⟨by rw [rngI_len]; exact h, fun H' α' M' e sr _ i => ⟨fun hi => ?_, fun hi => ?_, fun x v H2 hx hy => ?_⟩⟩
  · rw [rngI_len] at hi; exact Nat.le_of_eq hi.symm
  · rw [rngI_len] at hi; exact hi
  · obtain ⟨e2, e3⟩ := hy
    subst e2 e3
    rw [rngI_get hx]
    exact ⟨Ext.refl, sr, .int _⟩
theorem small62 {j : Int} (h : j.toNat ≤ sizeLine) : j < 2 ^ 62 := by
  have e : sizeLine = 16777216 := by decide
  omega
theorem i_rng1 {a : Expr} {p : Pos} {ta : DE} (hg : Gl X "range") (hm : X.mg "range" = none) (ha : PE X a (LE X.K fa C ta)) (hs : starEach [a] X.env = [(false, eval a X.env)]) : PI X tg (.Call (.Name "range" p) [a] [] pos) (LI X.K fa C (iRng1 ta)) :=
  (pi_range1 hg hm (pa_cons ha pa_nil hs) hs).imp fun σ H R ⟨ρ, M, α, P, er, sr, h, k⟩ => ⟨ρ, M, α, _, er, sr, h, fun v d H1 α1 M1 e1 s1 r1 p1 => by
    cases r1 <;> first | exact (show False from p1).elim | skip
    obtain ⟨⟨z1, z2⟩, p2⟩ := p1
    exact ⟨_, rfl, z1, small62 z2, k _ H1 α1 M1 _ _ e1 s1 (itok_r z2) p2⟩⟩
theorem i_rng2 {a b : Expr} {p : Pos} {ta tb : DE} (hg : Gl X "range") (hm : X.mg "range" = none) (ha : PE X a (LE X.K fa C ta)) (hb : PE X b (LE X.K fa C tb)) (hs : starEach [a, b] X.env = [(false, eval a X.env), (false, eval b X.env)]) (hs2 : starEach [b] X.env = [(false, eval b X.env)]) : PI X tg (.Call (.Name "range" p) [a, b] [] pos) (LI X.K fa C (iRng2 ta tb)) :=
  (pi_range2 hg hm (pa_cons ha (pa_cons hb pa_nil hs2) (by rw [hs, hs2])) hs hs2).imp fun σ H R ⟨ρ, M, α, P, er, sr, h, k⟩ => ⟨ρ, M, α, _, er, sr, h, fun v d H1 α1 M1 e1 s1 r1 p1 => ⟨ρ, M1, α1, _, er.mono e1, s1, p1, fun w e H2 α2 M2 e2 s2 r2 p2 => by
    cases r1 <;> cases r2 <;> first | exact (show False from p2).elim | skip
    obtain ⟨⟨z1, z2⟩, p3⟩ := p2
    exact ⟨_, _, rfl, z2, k _ H2 α2 M2 _ _ (e1.trans e2) s2 (itok_r z1) p3⟩⟩⟩
theorem rngC_get {lo c : Int} {n i : Nat} {x : D} (h : (rngC lo c n)[i]? = some x) : x = .int (lo + (i : Nat) * c) := by
  unfold rngC at h
  rw [List.getElem?_map] at h
  obtain ⟨k, h1, h2⟩ := Option.map_eq_some_iff.mp h
  obtain ⟨hl, e⟩ := (List.getElem?_eq_some_iff.mp h1)
  rw [List.getElem_range] at e
  subst e
  exact h2.symm
theorem rngC_len {lo c : Int} {n : Nat} : (rngC lo c n).length = n := by unfold rngC; simp
theorem itok_c {K : PySem.W.Frag} {α : List Addr} {H : Hp} {lo c : Int} {n : Nat} (h : n ≤ sizeLine) : ItOk K fa (Itc lo c n) α H (rngC lo c n) fun _ => True := by
  refine ⟨by rw [rngC_len]; exact h, fun H' α' M' e sr _ i => ⟨fun hi => ?_, fun hi => ?_, fun x v H2 hx hy => ?_⟩⟩
  · rw [rngC_len] at hi; exact Nat.le_of_eq hi.symm
  · rw [rngC_len] at hi; exact hi
  · obtain ⟨e2, e3⟩ := hy
    subst e2 e3
    rw [rngC_get hx]
    exact ⟨Ext.refl, sr, .int _⟩
theorem i_rng3 {a b c : Expr} {p : Pos} {ta tb tc : DE} (hg : Gl X "range") (hm : X.mg "range" = none) (ha : PE X a (LE X.K fa C ta)) (hb : PE X b (LE X.K fa C tb)) (hc : PE X c (LE X.K fa C tc))
    (hs : starEach [a, b, c] X.env = (false, eval a X.env) :: starEach [b, c] X.env) (hs2 : starEach [b, c] X.env = (false, eval b X.env) :: starEach [c] X.env) (hs3 : starEach [c] X.env = (false, eval c X.env) :: starEach [] X.env) (hpl : (backTo pos (starEach [b, c] X.env)).any (·.1) = false) : PI X tg (.Call (.Name "range" p) [a, b, c] [] pos) (LI X.K fa C (iRng3 ta tb tc)) :=
  (pi_range3 hg hm (pa_cons ha (pa_cons hb (pa_cons hc pa_nil hs3) hs2) hs) hs hpl).imp fun σ H R ⟨ρ, M, α, P, er, sr, h, k⟩ => ⟨ρ, M, α, _, er, sr, h, fun v d H1 α1 M1 e1 s1 r1 p1 => ⟨ρ, M1, α1, _, er.mono e1, s1, p1, fun w e H2 α2 M2 e2 s2 r2 p2 =>
    ⟨ρ, M2, α2, _, er.mono (e1.trans e2), s2, p2, fun u f H3 α3 M3 e3 s3 r3 p3 => by
    cases d <;> cases e <;> cases f <;> first | exact (show False from p3).elim | skip
    cases r1; cases r2; cases r3
    obtain ⟨n, ⟨hn, hc⟩, p4⟩ := (show ∃ n : Nat, (n ≤ sizeLine ∧ RgC _ _ _ n) ∧ P _ _ M3 from p3)
    exact ⟨_, _, _, n, rfl, hc, k _ H3 α3 M3 _ _ ((e1.trans e2).trans e3) s3 (itok_c hn) p4⟩⟩⟩⟩

/-! ### for -/
theorem s_for {it : Expr} {p : List Stmt} {ws : List Nat} {w : DI} {g : DG} {t : DS} (hp : PassesOwn (model X.prog X.w) X.A X.env X.xe) (hc : X.calm = true) (hi : PI X tg it (LI X.K fa C w)) (hg : PG X tg (LG X.K fa C ws g)) (hb : PSs X p (LS X.K fa C t))
    (hs : ∀ x, foldedSetIterable it X.env x = pure x) : PS X (.For tg it p [] pos) (LS X.K fa C (sFor w g t)) :=
  (ps_for hp hc hi hg hb hs).imp fun D σ H ⟨ρ, M, α, E, er, sr, h, en⟩ => ⟨ρ, M, α, _, er, sr, h, fun J H1 α1 M1 xs grd e1 s1 ok p1 => by
    refine ⟨fun i m σ2 H2 => ∃ ρ2 M2 α2, i + m = xs.length ∧ Ext X.K H1 H2 α1 α2 ∧ EnvR X.K fa α2 H2 σ2 ρ2 ∧ StR X.K fa α2 H2 M2 ∧ floop (g C) (t C) E grd (xs.drop i) ρ2 M2, ⟨xs.length, ρ, M1, α1, by omega, Ext.refl, er.mono e1, s1, p1⟩, ?_⟩
    rintro i m σ2 H2 ⟨ρ2, M2, α2, em, e2, er2, s2, p2⟩
    cases m with
    | zero =>
      have hd : xs.drop i = [] := List.drop_eq_nil_of_le (by omega)
      rw [hd] at p2
      exact .inl ⟨((ok.go H2 α2 M2 e2 s2 p2.1 i).1 (by omega)), en.nx σ2 ρ2 H2 α2 M2 (e1.trans e2) er2 s2 p2.2⟩
    | succ m =>
      have hi : i < xs.length := by omega
      have hd : xs.drop i = xs[i] :: xs.drop (i + 1) := List.drop_eq_getElem_cons hi
      rw [hd] at p2
      obtain ⟨hg2, p2⟩ := p2
      obtain ⟨_, go, yl⟩ := ok.go H2 α2 M2 e2 s2 hg2 i
      refine .inr ⟨go hi, fun σ' H' => ∃ ρ2 M2 α2, Ext X.K H1 H' α1 α2 ∧ EnvR X.K fa α2 H' σ' ρ2 ∧ StR X.K fa α2 H' M2 ∧ floop (g C) (t C) E grd (xs.drop (i + 1)) ρ2 M2,
        fun σ' H' ⟨ρ3, M3, α3, a1, a2, a3, a4⟩ => ⟨m, Nat.lt_succ_self m, ρ3, M3, α3, by omega, a1, a2, a3, a4⟩, fun v H3 hy => ?_⟩
      obtain ⟨e3, s3, r3⟩ := yl _ v H3 (List.getElem?_eq_getElem hi) hy
      refine ⟨ρ2, M2, α2, xs[i], _, er2.mono e3, s3, r3, p2, fun σ4 ρ4 H4 α4 M4 e4 er4 s4 _ p4 => ?_⟩
      have ee : Ext X.K H1 H4 α1 α4 := (e2.trans e3).trans e4
      exact ⟨ρ4, M4, α4, _, er4, s4, p4, ⟨fun σ' ρ' H' α' M' e' er' sr' w => ⟨ρ', M', α', ee.trans e', er', sr', w⟩, en.rt.ext (e1.trans ee), fun σ' ρ' H' α' M' e' er' sr' w => en.nx σ' ρ' H' α' M' ((e1.trans ee).trans e') er' sr' w,
        fun σ' ρ' H' α' M' e' er' sr' w => ⟨ρ', M', α', ee.trans e', er', sr', w⟩⟩⟩⟩
end
end DL

/-! The data layer, part 5: lists made on the way, comprehensions, built-ins, methods. -/
namespace DL
open PySem PySem.Spec PyProof.Rows L2

/-! ### a new list that stands apart -/
abbrev DLs := Ctx → Env → Mem → (List D → Mem → Prop) → Prop
def LL (K : PySem.W.Frag) (fa : Org) (C : Ctx) (t : DLs) : TE := fun σ H Q => ∃ (ρ : Env) (M : Mem) (α : List Addr) (P : List D → Mem → Prop), EnvR K fa α H σ ρ ∧ StR K fa α H M ∧ t C ρ M P ∧
  ∀ (a : Addr) (vs : List V) (ds : List D) (H' : Hp) (α' : List Addr) (M' : Mem), Ext K H H' α α' → StR K fa α' H' M' → H' a = some (.lst vs) → NT H a → a ∉ α' → vs.length ≤ sizeLine → Rps K fa α' H' vs ds → P ds M' → Q (.ref a) H'
def eNew (l : DLs) : DE := fun C ρ M P => l C ρ M fun ds M1 => P (.ref M1.length) (M1 ++ [.lst ds])
def eTupL (l : DLs) : DE := fun C ρ M P => l C ρ M fun ds M1 => P (.tup ds) M1
def eqL (neg : Bool) (l r : DLs) : DE := fun C ρ M P => l C ρ M fun ds M1 => r C ρ M1 fun es M2 => (pures? ds = true ∧ pures? es = true ∧ SeqAt.shaped (.list (toPys ds)) = true ∧ SeqAt.shaped (.list (toPys es)) = true) ∧
  P (.bl (if neg = true then !PyData.eqvAll (toPys ds) (toPys es) else PyData.eqvAll (toPys ds) (toPys es))) M2
/-- what looks at a list's items alone -/
abbrev DC := List D → (D → Prop) → Prop
def eFL (c : DC) (l : DLs) : DE := fun C ρ M P => l C ρ M fun ds M1 => c ds fun r => P r M1
def fC (c : DC) (tup : Bool) : DF := fun ds M P => match ds with
  | [d] => (match seqOf M d with
    | some xs => (tup = true ∨ isList M d = true) ∧ c xs fun r => P r M
    | none => False)
  | _ => False
def LC (K : PySem.W.Frag) (fa : Org) (c : DC) : List V → Hp → VK → Prop := fun vs H Q => ∃ (a : Addr) (ws : List V) (α : List Addr) (ds : List D) (k : D → Prop), vs = [.ref a] ∧ SqL K H a ws ∧ Rps K fa α H ws ds ∧ c ds k ∧ ∀ v d, Rp K fa α H v d → k d → Q v H
def LCt (K : PySem.W.Frag) (fa : Org) (c : DC) : List V → Hp → VK → Prop := fun vs H Q => ∃ (a : Addr) (ws : List V) (α : List Addr) (ds : List D) (k : D → Prop), vs = [.ref a] ∧ SqT K H a ws ∧ Rps K fa α H ws ds ∧ c ds k ∧ ∀ v d, Rp K fa α H v d → k d → Q v H

section
variable {X : Cx} {fa : Org} {C : Ctx} {a b c e : Expr} {es rest : List Expr} {pos : Pos} {l r : DLs} {da : DA} {ta tb : DE}
theorem d_new (h : PE X e (LL X.K fa C l)) : PE X e (LE X.K fa C (eNew l)) := h.imp fun σ H Q ⟨ρ, M, α, P, er, sr, h, an⟩ =>
  ⟨ρ, M, α, _, er, sr, h, fun a vs ds H' α' M' e s ha hn na l r p => an _ _ _ (α' ++ [a]) _ ⟨⟨e.tup, e.frz, e.xd, by obtain ⟨β, hβ⟩ := e.pre; exact ⟨β ++ [a], by rw [hβ, List.append_assoc]⟩⟩, e.keep, e.there, fun b hb => by
    rcases List.mem_append.mp hb with z | z
    · exact e.fresh b z
    · have : b = a := by simpa using z
      subst this
      exact .inr hn⟩ (s.adopt ha na l r (sr.h0 hn)) (.ref (by rw [← s.len, List.getElem?_concat_length])) p⟩
theorem l_disp (h : PA X es (LA X.K fa C da)) (hl : es.length ≤ 1000) : PE X (.List es pos) (LE X.K fa C (eLst da)) := d_lst h
theorem d_tupL {p : Pos} (hg : Gl X "tuple") (hm : X.mg "tuple" = none) (h : PE X e (LL X.K fa C l)) (he : starEach [e] X.env = (false, eval e X.env) :: starEach [] X.env) (hpl : (backTo pos (starEach [] X.env)).any (·.1) = false) :
    PE X (.Call (.Name "tuple" p) [e] [] pos) (LE X.K fa C (eTupL l)) :=
  (pe_callTy call_tuple_of hg hm (by decide +kernel) (pa_cons h pa_nil he) (by decide) (by decide) he hpl).imp fun σ H Q ⟨ρ, M, α, P, er, sr, h, an⟩ =>
    ⟨ρ, M, α, _, er, sr, h, fun a vs ds H' α' M' e s ha hn na l r p => ⟨a, vs, rfl, .inl ⟨.inl (.inl ha), fun q hq => (an.ext e).tup s r l hq p⟩⟩⟩
theorem d_callBL {x : Str} {p : Pos} {id : String} {cc : DC} (hc : CallR X (.builtin id) (LC X.K fa cc)) (hg : Gl X x) (hm : X.mg x = none) (hv : bootBuiltins x = some (.builtin id)) (h : PE X e (LL X.K fa C l)) (hn : x ≠ "__name__") (hdb : (x == ("__debug__" : Str)) = false)
    (he : starEach [e] X.env = (false, eval e X.env) :: starEach [] X.env) (hpl : (backTo pos (starEach [] X.env)).any (·.1) = false) : PE X (.Call (.Name x p) [e] [] pos) (LE X.K fa C (eFL cc l)) :=
  (pe_callB hc hg hm hv (pa_cons h pa_nil he) hn hdb he hpl).imp fun σ H Q ⟨ρ, M, α, P, er, sr, h, an⟩ =>
    ⟨ρ, M, α, _, er, sr, h, fun a vs ds H' α' M' e s ha hn na l r p => ⟨a, vs, α', ds, _, rfl, .inl (.inl ha), r, p, fun v d rv pd => an v d H' α' M' e s rv pd⟩⟩
theorem fc_l {f : Value} {cc : DC} (hc : CallR X f (LC X.K fa cc)) : CallR X f (LF X.K fa (fC cc false)) := hc.imp fun vs H Q ⟨M, α, ds, P, sr, rs, h, an⟩ => by
  unfold fC at h
  split at h
  · split at h
    · rename_i xs hs
      rcases rs with _ | ⟨r, _ | _⟩
      obtain ⟨h1, h⟩ := h
      have h2 := h1.elim (fun z => by cases z) id
      cases r with
      | @rol a ws ds s l r => cases hs; exact ⟨a, ws, α, _, _, rfl, s.elim (fun z => .inl (.inr z)) fun z => z H, r, h, fun v d rv pd => an.here sr rv pd⟩
      | @ref n a ea =>
        obtain ⟨b, ws, e, hq, r⟩ := seq_v sr (.ref ea) hs
        cases e
        have hs : (match M[n]? with
          | some (.lst xs) => some xs
          | _ => none) = some xs := hs
        cases q : M[n]? with
        | none => rw [q] at hs; cases hs
        | some c =>
          rw [q] at hs
          cases c with
          | lst zs =>
            cases hs
            obtain ⟨vs, hv, _, r⟩ := sr.cell n _ a q ea
            exact ⟨a, vs, α, _, _, rfl, .inl (.inl hv), r, h, fun v d rv pd => an.here sr rv pd⟩
          | dK _ => cases hs
          | dT _ => cases hs
      | _ => cases h2
    · exact h.elim
  · exact h.elim
theorem fc_t {f : Value} {cc : DC} (hc : CallR X f (LC X.K fa cc)) (ht : CallR X f (LCt X.K fa cc)) : CallR X f (LF X.K fa (fC cc true)) := (hc.or ht).imp fun vs H Q ⟨M, α, ds, P, sr, rs, h, an⟩ => by
  unfold fC at h
  split at h
  · split at h
    · rename_i xs hs
      rcases rs with _ | ⟨r, _ | _⟩
      obtain ⟨h1, h⟩ := h
      obtain ⟨a, ws, e, hq, rs⟩ := seq_v sr r hs
      subst e
      rcases hq with hq | hq
      · exact .inl ⟨a, ws, α, _, _, rfl, hq, rs, h, fun v d rv pd => an.here sr rv pd⟩
      · exact .inr ⟨a, ws, α, _, _, rfl, hq, rs, h, fun v d rv pd => an.here sr rv pd⟩
    · exact h.elim
  · exact h.elim

/-! ### consumers -/
def intsOf : List D → Option (List Int)
  | [] => some []
  | .int i :: r => (intsOf r).map (i :: ·)
  | _ :: _ => none
def boolsOf : List D → Option (List Bool)
  | [] => some []
  | .bl i :: r => (boolsOf r).map (i :: ·)
  | _ :: _ => none
theorem ints_v {K : PySem.W.Frag} {α : List Addr} {H : Hp} : ∀ {ds : List D} {vs : List V} {ns : List Int}, Rps K fa α H vs ds → intsOf ds = some ns → vs = ns.map V.int
  | _, _, _, .nil, h => by cases h; rfl
  | _, _, ns, .cons (d := d) r t, h => by
    cases d <;> first | cases h | skip
    obtain ⟨l, h1, h2⟩ := Option.map_eq_some_iff.mp h
    subst h2
    cases r
    rw [ints_v t h1]
    rfl
theorem bools_v {K : PySem.W.Frag} {α : List Addr} {H : Hp} : ∀ {ds : List D} {vs : List V} {ns : List Bool}, Rps K fa α H vs ds → boolsOf ds = some ns → vs = ns.map V.bl
  | _, _, _, .nil, h => by cases h; rfl
  | _, _, ns, .cons (d := d) r t, h => by
    cases d <;> first | cases h | skip
    obtain ⟨l, h1, h2⟩ := Option.map_eq_some_iff.mp h
    subst h2
    cases r
    rw [bools_v t h1]
    rfl
def cSum : DC := fun ds k => match intsOf ds with
  | some ns => k (.int ns.sum)
  | none => False
def cAny : DC := fun ds k => match boolsOf ds with
  | some bs => k (.bl (bs.any id))
  | none => False
def cAll : DC := fun ds k => match boolsOf ds with
  | some bs => k (.bl (bs.all id))
  | none => False
def cLen : DC := fun ds k => k (.int ds.length)
def maxL : List Int → Int
  | [] => 0
  | [x] => x
  | x :: r => max x (maxL r)
def minL : List Int → Int
  | [] => 0
  | [x] => x
  | x :: r => min x (minL r)
theorem maxL_mem : ∀ {l : List Int}, 0 < l.length → maxL l ∈ l ∧ ∀ y ∈ l, y ≤ maxL l
  | [x], _ => ⟨List.mem_singleton.mpr rfl, fun y hy => by rw [List.mem_singleton.mp hy]; exact Int.le_refl _⟩
  | x :: z :: r, _ => by
    obtain ⟨h1, h2⟩ := maxL_mem (l := z :: r) (by simp)
    show max x (maxL (z :: r)) ∈ _ ∧ ∀ y ∈ _, y ≤ max x (maxL (z :: r))
    refine ⟨?_, fun y hy => ?_⟩
    · by_cases h : x ≤ maxL (z :: r)
      · rw [Int.max_eq_right h]; exact List.mem_cons_of_mem _ h1
      · rw [Int.max_eq_left (by omega)]; exact List.mem_cons_self
    · rcases List.mem_cons.mp hy with e | hy
      · rw [e]; exact Int.le_max_left _ _
      · exact Int.le_trans (h2 y hy) (Int.le_max_right _ _)
theorem minL_mem : ∀ {l : List Int}, 0 < l.length → minL l ∈ l ∧ ∀ y ∈ l, minL l ≤ y
  | [x], _ => ⟨List.mem_singleton.mpr rfl, fun y hy => by rw [List.mem_singleton.mp hy]; exact Int.le_refl _⟩
  | x :: z :: r, _ => by
    obtain ⟨h1, h2⟩ := minL_mem (l := z :: r) (by simp)
    show min x (minL (z :: r)) ∈ _ ∧ ∀ y ∈ _, min x (minL (z :: r)) ≤ y
    refine ⟨?_, fun y hy => ?_⟩
    · by_cases h : x ≤ minL (z :: r)
      · rw [Int.min_eq_left h]; exact List.mem_cons_self
      · rw [Int.min_eq_right (by omega)]; exact List.mem_cons_of_mem _ h1
    · rcases List.mem_cons.mp hy with e | hy
      · rw [e]; exact Int.min_le_left _ _
      · exact Int.le_trans (Int.min_le_right _ _) (h2 y hy)
def cMax : DC := fun ds k => match intsOf ds with
  | some ns => 0 < ns.length ∧ k (.int (maxL ns))
  | none => False
def cMin : DC := fun ds k => match intsOf ds with
  | some ns => 0 < ns.length ∧ k (.int (minL ns))
  | none => False
theorem c_sum (hc : X.calm = true) : CallR X (.builtin "sum") (LC X.K fa cSum) := (cr_sum hc).imp fun vs H Q ⟨a, ws, α, ds, k, e, hq, r, h, an⟩ => by
  unfold cSum at h
  split at h
  · rename_i ns hn
    have := ints_v r hn
    subst this
    exact ⟨a, ns, e, hq, an _ _ (.int _) h⟩
  · exact h.elim
theorem c_any (hc : X.calm = true) : CallR X (.builtin "any") (LC X.K fa cAny) := (cr_any hc).imp fun vs H Q ⟨a, ws, α, ds, k, e, hq, r, h, an⟩ => by
  unfold cAny at h
  split at h
  · rename_i ns hn
    have := bools_v r hn
    subst this
    exact ⟨a, ns, e, hq, an _ _ (.bl _) h⟩
  · exact h.elim
theorem c_all (hc : X.calm = true) : CallR X (.builtin "all") (LC X.K fa cAll) := (cr_all hc).imp fun vs H Q ⟨a, ws, α, ds, k, e, hq, r, h, an⟩ => by
  unfold cAll at h
  split at h
  · rename_i ns hn
    have := bools_v r hn
    subst this
    exact ⟨a, ns, e, hq, an _ _ (.bl _) h⟩
  · exact h.elim
theorem c_max (hc : X.calm = true) : CallR X (.builtin "max") (LC X.K fa cMax) := (cr_max hc).imp fun vs H Q ⟨a, ws, α, ds, k, e, hq, r, h, an⟩ => by
  unfold cMax at h
  split at h
  · rename_i ns hn
    have := ints_v r hn
    subst this
    obtain ⟨m1, m2⟩ := maxL_mem h.1
    refine ⟨a, ns, e, hq, h.1, fun m hm hle => ?_⟩
    have : m = maxL ns := Int.le_antisymm (m2 m hm) (hle _ m1)
    rw [this]
    exact an _ _ (.int _) h.2
  · exact h.elim
theorem c_min (hc : X.calm = true) : CallR X (.builtin "min") (LC X.K fa cMin) := (cr_min hc).imp fun vs H Q ⟨a, ws, α, ds, k, e, hq, r, h, an⟩ => by
  unfold cMin at h
  split at h
  · rename_i ns hn
    have := ints_v r hn
    subst this
    obtain ⟨m1, m2⟩ := minL_mem h.1
    refine ⟨a, ns, e, hq, h.1, fun m hm hle => ?_⟩
    have : m = minL ns := Int.le_antisymm (hle _ m1) (m2 m hm)
    rw [this]
    exact an _ _ (.int _) h.2
  · exact h.elim
theorem c_len : CallR X (.builtin "len") (LC X.K fa cLen) := call_len_seq.imp fun vs H Q ⟨a, ws, α, ds, k, e, hq, r, h, an⟩ => ⟨a, ws, e, .inl hq, by rw [r.length]; exact an _ _ (.int _) h⟩
theorem c_lenT : CallR X (.builtin "len") (LCt X.K fa cLen) := call_len_seq.imp fun vs H Q ⟨a, ws, α, ds, k, e, hq, r, h, an⟩ => ⟨a, ws, e, .inr hq, by rw [r.length]; exact an _ _ (.int _) h⟩

/-! ### built-ins by values -/
def fLen : DF := fun ds M P => match ds with
  | [.str z] => z.length ≤ sizeLine ∧ P (.int z.length) M
  | [d] => (match seqOf M d with
    | some xs => P (.int xs.length) M
    | none => (match d with
      | .ref n => (match M[n]? with
        | some (.dK kvs) => P (.int kvs.length) M
        | _ => False)
      | _ => False))
  | _ => False
def fAbs : DF := fun ds M P => match ds with
  | [.int i] => P (.int (if i < 0 then -i else i)) M
  | _ => False
def fInt : DF := fun ds M P => match ds with
  | [.int i] => P (.int i) M
  | [.bl k] => P (.int (if k then 1 else 0)) M
  | _ => False
def fBool : DF := fun ds M P => match ds with
  | [.int i] => P (.bl (i != 0)) M
  | [.bl k] => P (.bl k) M
  | _ => False
def fMax2 : DF := fun ds M P => match ds with
  | [.int i, .int j] => P (.int (if j > i then j else i)) M
  | _ => False
def fMin2 : DF := fun ds M P => match ds with
  | [.int i, .int j] => P (.int (if j < i then j else i)) M
  | _ => False
def fGcd : DF := fun ds M P => match ds with
  | [.int i, .int j] => P (.int ((Nat.gcd i.natAbs j.natAbs : Nat) : Int)) M
  | _ => False
/-- tuple(x) of a list, of a tuple -/
def fTuple : DF := fun ds M P => match ds with
  | [.tup xs] => P (.tup xs) M
  | [.kup xs] => P (.kup xs) M
  | [d] => (match seqOf M d with
    | some xs => P (.tup xs) M
    | none => False)
  | _ => False
/-- list(x): a new cell -/
def fList : DF := fun ds M P => match ds with
  | [d] => (match seqOf M d with
    | some xs => P (.ref M.length) (M ++ [.lst xs])
    | none => False)
  | _ => False
theorem seq_len {K : PySem.W.Frag} {α : List Addr} {H : Hp} {M : Mem} {v : V} {d : D} {xs : List D} (st : StR K fa α H M) (r : Rp K fa α H v d) (h : seqOf M d = some xs) : xs.length ≤ sizeLine := by
  cases r with
  | tup s l r => cases h; rw [← r.length]; exact l
  | kup s l r => cases h; rw [← r.length]; exact l
  | rol s l r => cases h; rw [← r.length]; exact l
  | @ref n a ea =>
    have h : (match M[n]? with
      | some (.lst xs) => some xs
      | _ => none) = some xs := h
    cases q : M[n]? with
    | none => rw [q] at h; cases h
    | some c =>
      rw [q] at h
      cases c with
      | lst ys =>
        cases h
        obtain ⟨vs, hv, l, r⟩ := st.cell n _ a q ea
        rw [← r.length]; exact l
      | dK _ => cases h
      | dT _ => cases h
  | _ => cases h
theorem f_len : CallR X (.builtin "len") (LF X.K fa fLen) := (call_len_seq.or (call_len_str.or call_lenD)).imp fun vs H Q ⟨M, α, ds, P, sr, rs, h, an⟩ => by
  unfold fLen at h
  split at h
  · rcases rs with _ | ⟨r, _ | _⟩
    cases r
    exact .inr (.inl ⟨_, rfl, h.1, an.here sr (.int _) h.2⟩)
  · rcases rs with _ | ⟨r, _ | _⟩
    split at h
    · rename_i xs hs
      obtain ⟨a, ws, e, hq, rs⟩ := seq_v sr r hs
      subst e
      exact .inl ⟨a, ws, rfl, hq, by rw [rs.length]; exact an.here sr (.int _) h⟩
    · split at h
      · split at h
        · rename_i kvs hM
          cases r with
          | ref ea =>
            obtain ⟨ws, hw, p⟩ := sr.cell _ _ _ hM ea
            exact .inr (.inr ⟨_, ws, rfl, hw, by rw [Paired.length p]; exact an.here sr (.int _) h⟩)
        · exact h.elim
      · exact h.elim
  · exact h.elim
theorem f_abs : CallR X (.builtin "abs") (LF X.K fa fAbs) := call_abs.imp fun vs H Q ⟨M, α, ds, P, sr, rs, h, an⟩ => by
  unfold fAbs at h
  split at h
  · rcases rs with _ | ⟨r, _ | _⟩
    cases r
    exact ⟨_, rfl, an.here sr (.int _) h⟩
  · exact h.elim
theorem f_int : CallR X (.type "int") (LF X.K fa fInt) := call_int1.imp fun vs H Q ⟨M, α, ds, P, sr, rs, h, an⟩ => by
  unfold fInt at h
  split at h
  · rcases rs with _ | ⟨r, _ | _⟩
    cases r
    exact .inl ⟨_, rfl, an.here sr (.int _) h⟩
  · rcases rs with _ | ⟨r, _ | _⟩
    cases r
    exact .inr ⟨_, rfl, an.here sr (.int _) h⟩
  · exact h.elim
theorem f_bool : CallR X (.type "bool") (LF X.K fa fBool) := call_bool1.imp fun vs H Q ⟨M, α, ds, P, sr, rs, h, an⟩ => by
  unfold fBool at h
  split at h
  · rcases rs with _ | ⟨r, _ | _⟩
    cases r
    exact .inl ⟨_, rfl, an.here sr (.bl _) h⟩
  · rcases rs with _ | ⟨r, _ | _⟩
    cases r
    exact .inr ⟨_, rfl, an.here sr (.bl _) h⟩
  · exact h.elim
theorem f_max2 (hc : X.calm = true) : CallR X (.builtin "max") (LF X.K fa fMax2) := (call_max2 hc).imp fun vs H Q ⟨M, α, ds, P, sr, rs, h, an⟩ => by
  unfold fMax2 at h
  split at h
  · rcases rs with _ | ⟨r, _ | ⟨r2, _ | _⟩⟩
    cases r; cases r2
    exact ⟨_, _, rfl, an.here sr (.int _) h⟩
  · exact h.elim
theorem f_min2 (hc : X.calm = true) : CallR X (.builtin "min") (LF X.K fa fMin2) := (call_min2 hc).imp fun vs H Q ⟨M, α, ds, P, sr, rs, h, an⟩ => by
  unfold fMin2 at h
  split at h
  · rcases rs with _ | ⟨r, _ | ⟨r2, _ | _⟩⟩
    cases r; cases r2
    exact ⟨_, _, rfl, an.here sr (.int _) h⟩
  · exact h.elim
theorem f_gcd : CallR X (.builtin "math.gcd") (LF X.K fa fGcd) := cr_gcd.imp fun vs H Q ⟨M, α, ds, P, sr, rs, h, an⟩ => by
  unfold fGcd at h
  split at h
  · rcases rs with _ | ⟨r, _ | ⟨r2, _ | _⟩⟩
    cases r; cases r2
    exact ⟨_, _, rfl, an.here sr (.int _) h⟩
  · exact h.elim
theorem f_tuple : CallR X (.type "tuple") (LF X.K fa fTuple) := call_tuple_of.imp fun vs H Q ⟨M, α, ds, P, sr, rs, h, an⟩ => by
  unfold fTuple at h
  split at h
  · rcases rs with _ | ⟨r, _ | _⟩
    cases r with
    | @tup a ws _ s l r => exact ⟨a, ws, rfl, .inr ⟨.inl (.inl s), an.here sr (.tup s l r) h⟩⟩
  · rcases rs with _ | ⟨r, _ | _⟩
    cases r with
    | @kup a ws _ s l r => exact ⟨a, ws, rfl, .inr ⟨s H, an.here sr (.kup s l r) h⟩⟩
  · rename_i d h1 h2
    rcases rs with _ | ⟨r, _ | _⟩
    split at h
    · rename_i xs hs
      obtain ⟨a, ws, e, hq, rs⟩ := seq_v sr r hs
      subst e
      have hl := seq_len sr r hs
      rcases hq with hq | hq
      · exact ⟨a, ws, rfl, .inl ⟨hq, fun q hp => an.tup sr rs (by rw [rs.length]; exact hl) hp h⟩⟩
      · cases r with
        | @rol _ ws2 _ s l r =>
          cases hs
          have hq2 : SqL X.K H a ws2 := s.elim (fun z => .inl (.inr z)) fun z => z H
          exact ⟨a, ws2, rfl, .inl ⟨hq2, fun q hp => an.tup sr r l hp h⟩⟩
        | @ref n _ ea =>
          have hs : (match M[n]? with
            | some (.lst xs) => some xs
            | _ => none) = some xs := hs
          cases q : M[n]? with
          | none => rw [q] at hs; cases hs
          | some c =>
            rw [q] at hs
            cases c with
            | lst zs =>
              cases hs
              obtain ⟨us, hv, l, r⟩ := sr.cell n _ a q ea
              exact ⟨a, us, rfl, .inl ⟨.inl (.inl hv), fun q hp => an.tup sr r l hp h⟩⟩
            | dK _ => cases hs
            | dT _ => cases hs
        | tup s l r => exact (h1 _ rfl).elim
        | kup s l r => exact (h2 _ rfl).elim
        | _ => cases hs
    · exact h.elim
  · exact h.elim
theorem f_list : CallR X (.type "list") (LF X.K fa fList) := call_list_of.imp fun vs H Q ⟨M, α, ds, P, sr, rs, h, an⟩ => by
  unfold fList at h
  split at h
  · rcases rs with _ | ⟨r, _ | _⟩
    split at h
    · rename_i xs hs
      obtain ⟨a, ws, e, hq, rs⟩ := seq_v sr r hs
      subst e
      have hl := seq_len sr r hs
      exact ⟨a, ws, rfl, hq, fun q hp => an.lst sr rs (by rw [rs.length]; exact hl) hp h⟩
    · exact h.elim
  · exact h.elim
/-- isinstance(x, T) -/
def tyOf (M : Mem) : D → Option String
  | .non => some "NoneType"
  | .bl _ => some "bool"
  | .int _ => some "int"
  | .str _ => some "str"
  | .tup _ => some "tuple"
  | .kup _ => some "tuple"
  | .rol _ => some "list"
  | .ref n => (match M[n]? with
    | some (.lst _) => some "list"
    | some (.dK _) => some "dict"
    | some (.dT _) => some "dict"
    | none => none)
  | .fn _ => none
def eIsi (T : String) (a : DE) : DE := fun C ρ M P => a C ρ M fun d M1 => match tyOf M1 d with
  | some t => (match kitB t T with
    | some b => P (.bl b) M1
    | none => False)
  | none => False
theorem tyX_v {K : PySem.W.Frag} {α : List Addr} {H : Hp} {M : Mem} {v : V} {d : D} {t : String} (st : StR K fa α H M) (r : Rp K fa α H v d) (h : tyOf M d = some t) : TyX K H v (.type t) := by
  cases r with
  | non => cases h; exact .base .non
  | bl b => cases h; exact .base (.bl b)
  | int i => cases h; exact .base (.int i)
  | str z => cases h; exact .base (.str z)
  | tup s l r => cases h; exact .base (.tup s)
  | @kup a vs ds s l r =>
    cases h
    rcases s (fun _ => none) with (q | ⟨o, q⟩) | ⟨o, its, n, e, c, _⟩
    · cases q
    · cases q
    · exact .kTuple e c
  | @rol a vs ds s l r =>
    cases h
    rcases s with ⟨o, s⟩ | s
    · exact .base (.frz s)
    · rcases s (fun _ => none) with (q | ⟨o, q⟩) | ⟨o, its, n, e, c, _⟩
      · cases q
      · cases q
      · exact .kList e c
  | @ref n a ea =>
    have h : (match M[n]? with
      | some (.lst _) => some "list"
      | some (.dK _) => some "dict"
      | some (.dT _) => some "dict"
      | none => none) = some t := h
    cases q : M[n]? with
    | none => rw [q] at h; cases h
    | some c =>
      rw [q] at h
      cases c with
      | lst ys => cases h; obtain ⟨vs, hv, _⟩ := st.cell n _ a q ea; exact .base (.lst hv)
      | dK ys => cases h; obtain ⟨vs, hv, _⟩ := st.cell n _ a q ea; exact .base (.dK hv)
      | dT ys => cases h; obtain ⟨vs, hv, _⟩ := st.cell n _ a q ea; exact .base (.dT hv)
  | fn i => cases h
theorem d_isi {x : Str} {T : String} {p p2 : Pos} (hg : Gl X "isinstance") (hm : X.mg "isinstance" = none) (hg2 : Gl X x) (hm2 : X.mg x = none) (hv2 : bootBuiltins x = some (.type T)) (hn2 : x ≠ "__name__") (hdb2 : (x == ("__debug__" : Str)) = false) (ha : PE X a (LE X.K fa C ta))
    (he : starEach [a, .Name x p2] X.env = (false, eval a X.env) :: starEach [.Name x p2] X.env) (he2 : starEach [.Name x p2] X.env = (false, eval (.Name x p2) X.env) :: starEach [] X.env) (hpl : (backTo pos (starEach [.Name x p2] X.env)).any (·.1) = false) :
    PE X (.Call (.Name "isinstance" p) [a, .Name x p2] [] pos) (LE X.K fa C (eIsi T ta)) :=
  (pe_callB call_isi hg hm (by decide +kernel) (pa_cons ha (pa_cons (pe_bltn (v := .ty T) hg2 hm2 hv2 rfl hn2 hdb2) pa_nil he2) he) (by decide) (by decide) he hpl).imp fun σ H Q ⟨ρ, M, α, P, er, sr, h, an⟩ =>
    ⟨ρ, M, α, _, er, sr, h, fun v d H' α' M' e s r p => by
      have p : (match tyOf M' d with
        | some t => (match kitB t T with
          | some b => P (.bl b) M'
          | none => False)
        | none => False) := p
      cases q : tyOf M' d with
      | none => rw [q] at p; exact p.elim
      | some t =>
        rw [q] at p
        cases q2 : kitB t T with
        | none => simp only [q2] at p
        | some b =>
          simp only [q2] at p
          exact ⟨v, .ty T, _, _, b, rfl, .ty T, tyX_v s r q, kit_ty q2, an _ _ _ _ _ e s (.bl b) p⟩⟩
end
end DL

/-! The data layer, part 6: comprehensions, methods, slices, enumerate, zip. -/
namespace DL
open PySem PySem.Spec PyProof.Rows L2

/-! ### comprehensions -/
def cloop (g : D → Env → Mem → (Env → Mem → Prop) → Prop) (tt : Env → Mem → (Bool → Mem → Prop) → Prop) (e : Env → Mem → (D → Mem → Prop) → Prop) (grd : Mem → Prop) (ρ : Env) (P : List D → Mem → Prop) : List D → List D → Mem → Prop
  | [], acc, M => grd M ∧ P acc M
  | x :: xs, acc, M => grd M ∧ g x ρ M fun ρ2 M2 => tt ρ2 M2 fun b M3 => if b = true then e ρ2 M3 fun d M4 => cloop g tt e grd ρ P xs (acc ++ [d]) M4 else cloop g tt e grd ρ P xs acc M3
def Ctx.calm (C : Ctx) : Ctx := { C with ex := fun _ _ _ _ => False }
def wiped (ρ : Env) (vs : List Nat) : Env := vs.foldr (fun i (r : Env) => r.set i none) ρ
def lcomp (w : DI) (g : DG) (tt : DT) (e : DE) (vs : List Nat) : DLs := fun C ρ M P => w C ρ M fun xs grd M1 => cloop (g C.calm) (tt C.calm) (e C.calm) grd (wiped ρ vs) P xs [] M1
def tYesD : DT := fun _ _ M P => P true M

section
variable {K : PySem.W.Frag} {fa : Org} {α α' : List Addr} {H H' : Hp} {M : Mem}
/-- an object of ours that is no cell is written -/
theorem Ext.priv {p : Addr} {o : HO} (e : Ext K H H' α α') (hp : NT H p) (ho : NTb o := by nofun) : Ext K H (upd H' p o) α α' where
  tup := fun a vs h => by rw [upd_ne (hp.ne h nofun)]; exact e.tup a vs h
  frz := fun a o vs h => by rw [upd_ne (hp.ne h nofun)]; exact e.frz a o vs h
  xd := fun a fs h => by rw [upd_ne (hp.ne h nofun)]; exact e.xd a fs h
  pre := e.pre
  keep := fun a u n t h => by rw [upd_ne (hp.ne h t)]; exact e.keep a u n t h
  there := fun a u n h => by
    obtain ⟨u', n', h'⟩ := e.there a u n h
    exact ⟨u', n', by rw [upd_ne (hp.ne h n)]; exact h'⟩
  fresh := e.fresh
theorem StR.priv {p : Addr} {u o : HO} (s : StR K fa α H M) (hp : H p = some u) (hm : Mu u) (na : p ∉ α) (h0 : NT fa.H0 p) (ho : NTb o := by nofun) : StR K fa α (upd H p o) M where
  len := s.len
  nod := s.nod
  cell := fun n c a e1 e2 => by
    have g : Gr K H (upd H p o) α α := ⟨fun a vs h => by rw [upd_ne (ne_of h hp (fun z => by subst z; exact hm))]; exact h, fun a o vs h => by rw [upd_ne (ne_of h hp (fun z => by subst z; exact hm))]; exact h, fun a fs h => by rw [upd_ne (ne_of h hp (fun z => by subst z; exact hm))]; exact h, ⟨[], by simp⟩⟩
    refine (s.cell n c a e1 e2).grow g fun w h => ?_
    have hne : a ≠ p := fun z => by
      subst z
      exact na (List.mem_of_getElem? e2)
    rw [upd_ne hne]; exact h
  org := s.org.priv h0 ho
  tabs := fun t ht => tab_upd (fun w hw => by rw [hp] at hw; cases hw; exact hm) (s.tabs t ht)
theorem Gr.priv {p : Addr} {u o : HO} (hp : H p = some u) (hm : Mu u) : Gr K H (upd H p o) α α :=
  ⟨fun a vs h => by rw [upd_ne (ne_of h hp (fun z => by subst z; exact hm))]; exact h, fun a o vs h => by rw [upd_ne (ne_of h hp (fun z => by subst z; exact hm))]; exact h, fun a fs h => by rw [upd_ne (ne_of h hp (fun z => by subst z; exact hm))]; exact h, ⟨[], by simp⟩⟩
end

section
variable {X : Cx} {fa : Org} {C : Ctx} {a b c e elt tg iter : Expr} {es rest ifs : List Expr} {pos : Pos} {l r : DLs} {da : DA} {ta tb te : DE} {w : DI} {g : DG} {tt : DT} {ws : List Nat} {scope : Scope} {own : List (Str × Nat)}
theorem comp_go {vs : List Nat} (hz : fa.exs = []) (hw : ∀ i ∈ ws, i ∈ vs) {σ : L2.St} {H : Hp} {Q : VK} (h : LL X.K fa C (lcomp w g tt te vs) σ H Q) : tLc (LI X.K fa C w) (LG X.K fa C.calm ws g) (LT X.K fa C.calm tt) (LE X.K fa C.calm te) vs σ H Q := by
  obtain ⟨ρ, M, α, P, er, sr, h, an⟩ := h
  refine ⟨ρ, M, α, _, er, sr, h, fun J H1 α1 M1 xs grd e1 s1 ok p1 => ?_⟩
  intro Dn hD
  have hD0 : NT H Dn := fun o e n => by
    obtain ⟨_, n', h'⟩ := e1.there _ _ n e
    rw [hD] at h'; cases h'
  have erw := EnvR.wiped (vs := vs) (er.mono e1) hz
  refine ⟨fun i m H2 => ∃ (M2 : Mem) (α2 : List Addr) (acc : List D) (us : List V), i + m = xs.length ∧ Ext X.K H1 H2 α1 α2 ∧ StR X.K fa α2 H2 M2 ∧ H2 Dn = some (.lst us) ∧ Dn ∉ α2 ∧ us.length ≤ i ∧ Rps X.K fa α2 H2 us acc ∧
    cloop (g C.calm) (tt C.calm) (te C.calm) grd (wiped ρ vs) P (xs.drop i) acc M2, ⟨xs.length, M1, α1, [], [], by omega, Ext.refl.priv (.of hD), ?_, upd_same, s1.notin hD, Nat.le_refl _, .nil, p1⟩, ?_⟩
  · exact s1.new hD
  · rintro i m H2 ⟨M2, α2, acc, us, em, e2, s2, h2, n2, l2, r2, p2⟩
    cases m with
    | zero =>
      have hd : xs.drop i = [] := List.drop_eq_nil_of_le (by omega)
      rw [hd] at p2
      refine .inl ⟨(ok.go H2 α2 M2 e2 s2 p2.1 i).1 (by omega), ?_⟩
      exact an Dn us acc H2 α2 M2 (e1.trans e2) s2 h2 hD0 n2 (by have := ok.len; omega) r2 p2.2
    | succ m =>
      have hi : i < xs.length := by omega
      have hd : xs.drop i = xs[i] :: xs.drop (i + 1) := List.drop_eq_getElem_cons hi
      rw [hd] at p2
      obtain ⟨hg2, p2⟩ := p2
      obtain ⟨_, go, yl⟩ := ok.go H2 α2 M2 e2 s2 hg2 i
      refine .inr ⟨go hi, fun H3 => ∃ (M2 : Mem) (α2 : List Addr) (acc : List D) (us : List V), Ext X.K H1 H3 α1 α2 ∧ StR X.K fa α2 H3 M2 ∧ H3 Dn = some (.lst us) ∧ Dn ∉ α2 ∧ us.length ≤ i + 1 ∧ Rps X.K fa α2 H3 us acc ∧
        cloop (g C.calm) (tt C.calm) (te C.calm) grd (wiped ρ vs) P (xs.drop (i + 1)) acc M2,
        fun H3 ⟨M3, α3, acc3, us3, a1, a2, a3, a4, a5, a6, a7⟩ => ⟨m, Nat.lt_succ_self m, M3, α3, acc3, us3, by omega, a1, a2, a3, a4, a5, a6, a7⟩, fun v H3 hy => ?_⟩
      obtain ⟨e3, s3, r3⟩ := yl _ v H3 (List.getElem?_eq_getElem hi) hy
      have k3 : H3 Dn = some (.lst us) := e3.keep _ _ n2 nofun h2
      refine ⟨wiped ρ vs, M2, α2, xs[i], _, erw.mono (e2.trans e3), s3, r3, p2, fun σ4 ρ4 H4 α4 M4 e4 er4 s4 hw4 p4 => ?_⟩
      refine ⟨by rw [hw4 vs hw, wipe_wipe], ρ4, M4, α4, _, er4, s4, p4, fun k H5 α5 M5 e5 s5 p5 => ?_⟩
      have n4 : Dn ∉ α4 := fun z => (e4.fresh _ z).elim n2 fun q => q.no k3
      have k4 : H4 Dn = some (.lst us) := e4.keep _ _ n2 nofun k3
      have n5 : Dn ∉ α5 := fun z => (e5.fresh _ z).elim n4 fun q => q.no k4
      have k5 : H5 Dn = some (.lst us) := e5.keep _ _ n4 nofun k4
      cases k with
      | false => exact ⟨M5, α5, acc, us, ((e2.trans e3).trans e4).trans e5, s5, k5, n5, by omega, r2.mono ((e3.trans e4).trans e5), p5⟩
      | true =>
        refine ⟨ρ4, M5, α5, _, er4.mono e5, s5, p5, fun y d H6 α6 M6 e6 s6 r6 p6 => ?_⟩
        have n6 : Dn ∉ α6 := fun z => (e6.fresh _ z).elim n5 fun q => q.no k5
        have k6 : H6 Dn = some (.lst us) := e6.keep _ _ n5 nofun k5
        have ee := (((e2.trans e3).trans e4).trans e5).trans e6
        refine ⟨us, k6, by have := ok.len; omega, M6, α6, acc ++ [d], us ++ [y], ee.priv (.of hD), s6.priv k6 True.intro n6 (sr.h0 hD0), upd_same, n6, by rw [List.length_append]; show us.length + 1 ≤ i + 1; omega, ?_, p6⟩
        exact ((r2.mono (((e3.trans e4).trans e5).trans e6)).append (.cons r6 .nil)).grow (Gr.priv k6 True.intro)
where
  wipe_wipe {σ : L2.St} {vs : List Nat} : wipe (wipe σ vs) vs = wipe σ vs := by
    apply List.ext_getElem?
    intro j
    rw [wipe_get, wipe_length, wipe_get]
    by_cases h : j ∈ vs
    · rw [if_pos h, if_pos h]
    · rw [if_neg h, if_neg h]
theorem l_comp (hz : fa.exs = []) (hc : X.calm = true) (hN : X.N.Nodup) (hi : PI X tg iter (LI X.K fa C w)) (ok : BlkOk X.N X.env.scope scope own) (hws : ∀ i ∈ ws, i ∈ own.map (·.2))
    (hg : ∀ (s : Shared) (H : Hp) (Ca : Addr) (cl : List (Str × Addr)) (fp : List Addr), PG (X.blk s H scope (compEnvC scope cl Ca X.env) fp) tg (LG X.K fa C.calm ws g)) (ht : ∀ (s : Shared) (H : Hp) (Ca : Addr) (cl : List (Str × Addr)) (fp : List Addr), PTs (X.blk s H scope (compEnvC scope cl Ca X.env) fp) ifs (LT X.K fa C.calm tt))
    (he : ∀ (s : Shared) (H : Hp) (Ca : Addr) (cl : List (Str × Addr)) (fp : List Addr), PE (X.blk s H scope (compEnvC scope cl Ca X.env) fp) elt (LE X.K fa C.calm te)) (hs : ∀ x, foldedSetIterable iter X.env x = pure x) :
    PE X (.ListComp elt [⟨tg, iter, ifs, 0⟩] scope pos) (LL X.K fa C (lcomp w g tt te (own.map (·.2)))) := (pe_lc hc hN hi ok hg ht he hs).imp fun _ _ _ h => comp_go hz hws h
theorem s_setLc {i : Nat} {y : Str} {py spos : Pos} (hz : fa.exs = []) (hc : X.calm = true) (hN : X.N.Nodup) (hy : X.N[i]? = some y) (hyl : X.env.scope.names.lookup y = some .local)
    (hsw : swapsWith (.ListComp elt [⟨tg, iter, ifs, 0⟩] scope pos) (some (.Name y py)) spos.line X.env = pure true) (hi : PI X tg iter (LI X.K fa C w)) (ok : BlkOk X.N X.env.scope scope own) (hws : ∀ i ∈ ws, i ∈ own.map (·.2))
    (hg : ∀ (s : Shared) (H : Hp) (Ca : Addr) (cl : List (Str × Addr)) (fp : List Addr), PG (X.blk s H scope (compEnvC scope cl Ca X.env) fp) tg (LG X.K fa C.calm ws g)) (ht : ∀ (s : Shared) (H : Hp) (Ca : Addr) (cl : List (Str × Addr)) (fp : List Addr), PTs (X.blk s H scope (compEnvC scope cl Ca X.env) fp) ifs (LT X.K fa C.calm tt))
    (he : ∀ (s : Shared) (H : Hp) (Ca : Addr) (cl : List (Str × Addr)) (fp : List Addr), PE (X.blk s H scope (compEnvC scope cl Ca X.env) fp) elt (LE X.K fa C.calm te)) (hs : ∀ x, foldedSetIterable iter X.env x = pure x) :
    PS X (.Assign [.Name y py] (.ListComp elt [⟨tg, iter, ifs, 0⟩] scope pos) spos) (LS X.K fa C (sAsg (eNew (lcomp w g tt te (own.map (·.2)))) (gName i))) :=
  (ps_setLc hc hN hy hyl hsw hi ok hg ht he hs).imp fun D σ H ⟨ρ, M, α, E, er, sr, h, en⟩ => by
    have q : LE X.K fa C (eNew (lcomp w g tt te (own.map (·.2)))) σ H (fun x H1 => D.nx (σ.set i (some x)) H1) :=
      ⟨ρ, M, α, _, er, sr, h, fun v d H' α' M' e s r p => en.nx _ _ H' α' M' e ((er.mono e).set r hz) s p⟩
    obtain ⟨ρ, M, α, P, er, sr, h, an⟩ := q
    refine comp_go hz hws ⟨ρ, M, α, _, er, sr, h, fun a vs ds H' α' M' e s ha hn na l r p => an _ _ _ (α' ++ [a]) _ ⟨⟨e.tup, e.frz, e.xd, by obtain ⟨β, hβ⟩ := e.pre; exact ⟨β ++ [a], by rw [hβ, List.append_assoc]⟩⟩, e.keep, e.there, fun b hb => ?_⟩ (s.adopt ha na l r (sr.h0 hn)) (.ref (by rw [← s.len, List.getElem?_concat_length])) p⟩
    rcases List.mem_append.mp hb with z | z
    · exact e.fresh b z
    · have : b = a := by simpa using z
      subst this
      exact .inr hn
theorem ts_nil : PTs X [] (LT X.K fa C tYesD) := pts_nil.imp fun σ H Q ⟨ρ, M, α, P, er, sr, h, an⟩ => an true H α M Ext.refl sr h
theorem ts_one (h : PT X c (LT X.K fa C tt)) : PTs X [c] (LT X.K fa C tt) := pts_one h
end

/-! ### methods -/
abbrev DM := D → List D → Mem → Po → Prop
def LM (K : PySem.W.Frag) (fa : Org) (m : DM) : V → List V → Hp → VK → Prop := fun x xs H Q => ∃ (M : Mem) (α : List Addr) (d : D) (ds : List D) (P : Po), StR K fa α H M ∧ Rp K fa α H x d ∧ Rps K fa α H xs ds ∧ m d ds M P ∧ Ans K fa α H P Q
def tyIs (T : String) (M : Mem) : D → Prop
  | .str _ => T = "str"
  | .int _ => T = "int"
  | .rol _ => T = "list"
  | .ref n => (match M[n]? with
    | some (.lst _) => T = "list"
    | some (.dK _) => T = "dict"
    | some (.dT _) => T = "dict"
    | none => False)
  | _ => False
def eM (T : String) (m : DM) (o : DE) (a : DA) : DE := fun C ρ M P => o C ρ M fun d M1 => tyIs T M1 d ∧ a C ρ M1 fun ds M2 => m d ds M2 P
theorem ty_v {K : PySem.W.Frag} {fa : Org} {α : List Addr} {H : Hp} {M : Mem} {v : V} {d : D} {T : String} (st : StR K fa α H M) (r : Rp K fa α H v d) (h : tyIs T M d) : tyV K T v H := by
  cases r with
  | str z => exact h
  | int z => exact h
  | @rol a vs ds s l r => exact .inl ⟨h, vs, s.elim (fun z => .inl (.inr z)) fun z => z H⟩
  | @ref n a ea =>
    have h : (match M[n]? with
      | some (.lst _) => T = "list"
      | some (.dK _) => T = "dict"
      | some (.dT _) => T = "dict"
      | none => False) := h
    cases q : M[n]? with
    | none => rw [q] at h; exact h.elim
    | some c =>
      rw [q] at h
      cases c with
      | lst ys => obtain ⟨vs, hv, _⟩ := st.cell n _ a q ea; exact .inl ⟨h, vs, .inl (.inl hv)⟩
      | dK ys => obtain ⟨vs, hv, _⟩ := st.cell n _ a q ea; exact .inr (.inr (.inl ⟨h, .inl ⟨vs, hv⟩⟩))
      | dT ys => obtain ⟨vs, hv, _⟩ := st.cell n _ a q ea; exact .inr (.inr (.inl ⟨h, .inr ⟨vs, hv⟩⟩))
  | _ => exact (show False from h).elim
section
variable {X : Cx} {fa : Org} {C : Ctx} {o e : Expr} {es : List Expr} {da : DA} {to : DE} {m : DM}
theorem d_meth {name : Str} {apos cpos : Pos} {T id : String} (pa : PlainAttrs T) (slot : Slot T name id) (hty : typeOf (.builtin id) = pure (.type "method_descriptor")) (hm : MtR X id (LM X.K fa m)) (ho : PE X o (LE X.K fa C to)) (ha : PA X (e :: es) (LA X.K fa C da))
    (h1 : attributeBase o name X.env (eval o X.env) = eval o X.env)
    (h2 : (((((backTo cpos (starEach (e :: es) X.env)).all fun x => !x.fst) && (backToKw cpos (keywordEach [] X.env)).all fun x => x.fst.isSome) && decide (((e :: es).length + ([] : List Keyword).length + if ([] : List Keyword).isEmpty = true then 0 else 1) < 30)) = true))
    (h3 : (apos.endLine == cpos.line) = true) (h4 : starEach (e :: es) X.env = (false, eval e X.env) :: starEach es X.env) (h5 : ((backTo cpos (starEach es X.env)).any fun x => x.fst) = false) :
    PE X (.Call (.Attribute o name apos) (e :: es) [] cpos) (LE X.K fa C (eM T m to da)) :=
  (pe_bm pa slot hty hm ho ha h1 h2 h3 h4 h5).imp fun σ H Q ⟨ρ, M, α, P, er, sr, h, an⟩ => ⟨ρ, M, α, _, er, sr, h, fun v d H' α' M' e s r p => ⟨ty_v s r p.1, ρ, M', α', _, er.mono e, s, p.2, fun vs ds H2 α2 M2 e2 s2 r2 p2 =>
    ⟨M2, α2, d, ds, P, s2, r.mono e2, r2, p2, an.ext (e.trans e2)⟩⟩⟩
end
def mAppend : DM := fun d ds M P => match d, ds with
  | .ref n, [x] => (match M[n]? with
    | some (.lst xs) => xs.length < sizeLine ∧ P .non (M.set n (.lst (xs ++ [x])))
    | _ => False)
  | _, _ => False
def mExtend : DM := fun d ds M P => match d, ds with
  | .ref n, [.ref k] => (match M[n]?, M[k]? with
    | some (.lst xs), some (.lst ys) => xs.length + ys.length ≤ sizeLine ∧ P .non (M.set n (.lst (xs ++ ys)))
    | _, _ => False)
  | _, _ => False
def mPop : DM := fun d ds M P => match d, ds with
  | .ref n, [] => (match M[n]? with
    | some (.lst xs) => (match xs[xs.length - 1]? with
      | some y => P y (M.set n (.lst xs.dropLast))
      | none => False)
    | _ => False)
  | .ref n, [.int i] => (match M[n]? with
    | some (.lst xs) => (-(2 ^ 63) ≤ i ∧ i < 2 ^ 63) ∧ (match seqIndex? i xs.length with
      | some k => (match xs[k]? with
        | some y => P y (M.set n (.lst (xs.eraseIdx k)))
        | none => False)
      | none => False)
    | _ => False)
  | _, _ => False
def mReverse : DM := fun d ds M P => match d, ds with
  | .ref n, [] => (match M[n]? with
    | some (.lst xs) => P .non (M.set n (.lst xs.reverse))
    | _ => False)
  | _, _ => False
section
variable {X : Cx} {fa : Org}
theorem cell_l {K : PySem.W.Frag} {α : List Addr} {H : Hp} {M : Mem} {n : Nat} {a : Addr} {xs : List D} (st : StR K fa α H M) (ea : α[n]? = some a) (q : M[n]? = some (.lst xs)) : ∃ vs, H a = some (.lst vs) ∧ vs.length ≤ sizeLine ∧ Rps K fa α H vs xs := st.cell n _ a q ea
/-- a list's cell is written, the answer a flat value -/
theorem Ans.wr {K : PySem.W.Frag} {α : List Addr} {H : Hp} {M : Mem} {P : Po} {Q : VK} {n : Nat} {a : Addr} {vs ws : List V} {ds : List D} {v : V} {d : D} (an : Ans K fa α H P Q) (st : StR K fa α H M) (ea : α[n]? = some a) (hv : H a = some (.lst vs)) (l : ws.length ≤ sizeLine) (r : Rps K fa α H ws ds) (rv : Rp K fa α H v d) (h : P d (M.set n (.lst ds))) : Q v (upd H a (.lst ws)) := by
  have ex : Ext K H (upd H a (.lst ws)) α α := Ext.write hv (List.mem_of_getElem? ea) True.intro
  exact an v d _ α _ ex (st.write (c := .lst ds) ea hv True.intro ⟨ws, upd_same, l, r.mono ex⟩) (rv.mono ex) h
theorem m_append : MtR X "list.append" (LM X.K fa mAppend) := (show MtR X "list.append" rAppend from mt_append).imp fun x xs H Q ⟨M, α, d, ds, P, sr, r, rs, h, an⟩ => by
  unfold mAppend at h
  split at h
  · rcases rs with _ | ⟨ry, _ | _⟩
    split at h
    · rename_i zs hM
      cases r with
      | @ref n a ea =>
        obtain ⟨vs, hv, l, rz⟩ := cell_l sr ea hM
        have hl : vs.length < sizeLine := by rw [rz.length]; exact h.1
        exact ⟨a, vs, _, rfl, rfl, hv, hl, an.wr sr ea hv (by rw [List.length_append]; exact hl) (rz.snoc ry) .non h.2⟩
    · exact h.elim
  · exact h.elim
theorem m_extend : MtR X "list.extend" (LM X.K fa mExtend) := (show MtR X "list.extend" rExtend from mt_extend).imp fun x xs H Q ⟨M, α, d, ds, P, sr, r, rs, h, an⟩ => by
  unfold mExtend at h
  split at h
  · rcases rs with _ | ⟨ry, _ | _⟩
    split at h
    · rename_i zs ys hM hM2
      cases r with
      | @ref n a ea =>
        cases ry with
        | @ref k b eb =>
          obtain ⟨vs, hv, l, rz⟩ := cell_l sr ea hM
          obtain ⟨us, hu, l2, rz2⟩ := cell_l sr eb hM2
          have hl : vs.length + us.length ≤ sizeLine := by rw [rz.length, rz2.length]; exact h.1
          exact ⟨a, b, vs, us, rfl, rfl, hv, hu, hl, an.wr sr ea hv (by rw [List.length_append]; exact hl) (rz.append rz2) .non h.2⟩
    · exact h.elim
  · exact h.elim
theorem m_pop : MtR X "list.pop" (LM X.K fa mPop) := ((show MtR X "list.pop" rPop from mt_pop).or (show MtR X "list.pop" rPopAt from mt_popAt)).imp fun x xs H Q ⟨M, α, d, ds, P, sr, r, rs, h, an⟩ => by
  unfold mPop at h
  split at h
  · rcases rs with _ | _
    split at h
    · rename_i zs hM
      split at h
      · rename_i y hy
        cases r with
        | @ref n a ea =>
          obtain ⟨vs, hv, l, rz⟩ := cell_l sr ea hM
          obtain ⟨v, e1, rv⟩ := rz.get hy
          rw [← rz.length] at e1
          exact .inl ⟨a, vs, v, rfl, rfl, hv, e1, an.wr sr ea hv (by rw [List.length_dropLast]; omega) rz.dropLast rv h⟩
      · exact h.elim
    · exact h.elim
  · rcases rs with _ | ⟨ry, _ | _⟩
    cases ry
    split at h
    · rename_i zs hM
      obtain ⟨hb, h⟩ := h
      split at h
      · rename_i k hk
        split at h
        · rename_i y hy
          cases r with
          | @ref n a ea =>
            obtain ⟨vs, hv, l, rz⟩ := cell_l sr ea hM
            obtain ⟨v, e1, rv⟩ := rz.get hy
            exact .inr ⟨a, vs, _, k, v, rfl, rfl, hv, hb.1, hb.2, by rw [rz.length]; exact hk, e1, an.wr sr ea hv (Nat.le_trans (List.length_eraseIdx_le _ _) l) (rz.erase k) rv h⟩
        · exact h.elim
      · exact h.elim
    · exact h.elim
  · exact h.elim
theorem m_reverse : MtR X "list.reverse" (LM X.K fa mReverse) := (show MtR X "list.reverse" rReverse from mt_reverse).imp fun x xs H Q ⟨M, α, d, ds, P, sr, r, rs, h, an⟩ => by
  unfold mReverse at h
  split at h
  · rcases rs with _ | _
    split at h
    · rename_i zs hM
      cases r with
      | @ref n a ea =>
        obtain ⟨vs, hv, l, rz⟩ := cell_l sr ea hM
        exact ⟨a, vs, rfl, rfl, hv, an.wr sr ea hv (by rw [List.length_reverse]; exact l) rz.rev .non h⟩
    · exact h.elim
  · exact h.elim
end

/-! ### slices -/
abbrev DO := Ctx → Env → Mem → (Option Int → Mem → Prop) → Prop
def oNone : DO := fun _ _ M P => P none M
def oSome (a : DE) : DO := fun C ρ M P => a C ρ M fun d M1 => match d with
  | .int i => P (some i) M1
  | _ => False
def cutD (xs : List D) (lo hi : Option Int) : List D := (xs.drop (HT.sIx xs.length 0 lo)).take (HT.sIx xs.length xs.length hi - HT.sIx xs.length 0 lo)
theorem Rps.cut {K : PySem.W.Frag} {fa : Org} {α : List Addr} {H : Hp} {vs : List V} {ds : List D} (r : Rps K fa α H vs ds) (lo hi : Option Int) : Rps K fa α H (cutV vs lo hi) (cutD ds lo hi) := by
  unfold cutV cutD
  rw [r.length]
  exact (r.drop _).take _
/-- x[lo:hi]: a tuple, a text; a list gives a new cell -/
def opCut (d : D) (lo hi : Option Int) (M : Mem) (P : Po) : Prop := match d with
  | .tup xs => P (.tup (cutD xs lo hi)) M
  | .str z => z.length ≤ sizeLine ∧ P (.str (cutS z lo hi)) M
  | .rol xs => P (.ref M.length) (M ++ [.lst (cutD xs lo hi)])
  | .ref n => (match M[n]? with
    | some (.lst xs) => P (.ref M.length) (M ++ [.lst (cutD xs lo hi)])
    | _ => False)
  | _ => False
def eCut (a : DE) (lo hi : DO) : DE := fun C ρ M P => a C ρ M fun d M1 => lo C ρ M1 fun x M2 => hi C ρ M2 fun y M3 => opCut d x y M3 P
def LOp (K : PySem.W.Frag) (fa : Org) (C : Ctx) (t : DO) : TO := fun σ H Q => ∃ (ρ : Env) (M : Mem) (α : List Addr) (P : Option Int → Mem → Prop), EnvR K fa α H σ ρ ∧ StR K fa α H M ∧ t C ρ M P ∧
  ∀ (o : Option Int) (H' : Hp) (α' : List Addr) (M' : Mem), Ext K H H' α α' → StR K fa α' H' M' → P o M' → Q o H'
section
variable {X : Cx} {fa : Org} {C : Ctx} {e : Expr} {ta te : DE} {tl th : DO} {lo hi : Option Expr} {pos p2 : Pos}
theorem o_none : PO X none (LOp X.K fa C oNone) := ⟨fun pins s σ H Q I ⟨ρ, M, α, P, er, sr, h, an⟩ => po_none.run pins s σ H Q I (an none H α M Ext.refl sr h)⟩
theorem o_some (he : PE X e (LE X.K fa C te)) : PO X (some e) (LOp X.K fa C (oSome te)) := ⟨fun pins s σ H Q I ⟨ρ, M, α, P, er, sr, h, an⟩ => (po_some he).run pins s σ H Q I ⟨ρ, M, α, _, er, sr, h, fun v d H' α' M' e s r p => by
  cases d with
  | int i => cases r; exact ⟨i, rfl, an _ H' α' M' e s p⟩
  | _ => exact (show False from p).elim⟩⟩
theorem d_cut (ha : PE X e (LE X.K fa C ta)) (hl : PO X lo (LOp X.K fa C tl)) (hh : PO X hi (LOp X.K fa C th)) : PE X (.Subscript e (.Slice lo hi none p2) pos) (LE X.K fa C (eCut ta tl th)) :=
  (pe_slice (sl_list.or (sl_tupA.or sl_str)) ha hl hh).imp fun σ H Q ⟨ρ, M, α, P, er, sr, h, an⟩ => ⟨ρ, M, α, _, er, sr, h, fun v d H1 α1 M1 e1 s1 r1 p1 => ⟨ρ, M1, α1, _, er.mono e1, s1, p1, fun x H2 α2 M2 e2 s2 p2 => ⟨ρ, M2, α2, _, er.mono (e1.trans e2), s2, p2, fun y H3 α3 M3 e3 s3 p3 => by
    have an3 := an.ext ((e1.trans e2).trans e3)
    have r3 := r1.mono (e2.trans e3)
    cases r3 with
    | @tup a vs ds s l r =>
      refine .inr (.inl ⟨a, vs, rfl, .inl (.inl s), fun hz => ?_, fun hz q hq => ?_⟩)
      · have e : cutD ds x y = ds := by
          unfold cutD
          rw [← r.length, hz.1, hz.2, List.drop_zero, Nat.sub_zero, r.length, List.take_length]
        have p3 : P (.tup (cutD ds x y)) M3 := p3
        rw [e] at p3
        exact an3.here s3 (.tup s l r) p3
      · exact an3.tup s3 (r.cut x y) (Nat.le_trans (cutV_length _ _ _) l) hq p3
    | @rol a vs ds s l r =>
      exact .inl ⟨a, vs, rfl, s.elim (fun z => .inl (.inr z)) fun z => z _, fun q hq => an3.lst s3 (r.cut x y) (Nat.le_trans (cutV_length _ _ _) l) hq p3⟩
    | @str z => exact .inr (.inr ⟨z, rfl, p3.1, an3.here s3 (.str _) p3.2⟩)
    | @ref n a ea =>
      have p3 : (match M3[n]? with
        | some (.lst xs) => P (.ref M3.length) (M3 ++ [.lst (cutD xs x y)])
        | _ => False) := p3
      cases q : M3[n]? with
      | none => rw [q] at p3; exact p3.elim
      | some c =>
        rw [q] at p3
        cases c with
        | lst xs =>
          obtain ⟨vs, hv, l, r⟩ := cell_l s3 ea q
          exact .inl ⟨a, vs, rfl, .inl (.inl hv), fun q hq => an3.lst s3 (r.cut x y) (Nat.le_trans (cutV_length _ _ _) l) hq p3⟩
        | _ => exact p3.elim
    | _ => exact (show False from p3).elim⟩⟩⟩
end
end DL

/-! The data layer: defs that may be called whether or not an exception is handled. -/
namespace DL
open PySem PySem.Spec PyProof.Rows L2
/-- a def's promise, whatever is handled -/
structure FnG (P : Program) (w : World) (K : PySem.W.Frag) (mg : Str → Option Value) (base : Heap) (CX : CXT) (k : Nat) (f : Addr) (fd : FuncData) (ps : List Str) (sp : Sp) : Prop where
  len : ∀ vs H Q E, sp vs H Q E → vs.length = ps.length
  run : ∀ (A : Around) (outer : List PySem.Env) (s : Shared) (H : Hp) (args : Args) (us : List Value) (vs : List V) (Q : VK) (E : XK), L2H.RoomH k A → Env0 P w K mg base A outer s H → BindsTo s fd args (ps.zip us) → Vals vs us → sp vs H Q E →
    codeAny (model P w) A (.call (.ref f) args) (CR CX outer P w H s Q E) s
/-- the context of such a def's body -/
def cxG (CX : CXT) (P : Program) (w : World) (K : PySem.W.Frag) (mg : Str → Option Value) (base : Heap) (N : List Str) (qual : Str) (scope : Scope) (f : Addr) (cd : Value) (A : Around) (outer : List PySem.Env) (s : Shared) (H : Hp) (E : XK) : Cx :=
  { cxOf CX P w K mg base N qual scope f cd A outer s H E with calm := false }
section
variable {CX : CXT} {P : Program} {w : World} {K : PySem.W.Frag} {mg : Str → Option Value} {base : Heap} {N ps : List Str} {x qual : Str} {scope : Scope} {f : Addr} {cd : Value} {A : Around} {outer : List PySem.Env} {s s1 : Shared} {H : Hp} {E : XK} {us : List Value} {vs : List V}
theorem inv_startG (S : FnScope N ps scope) (e0 : Env0 P w K mg base A outer s H) (hl : vs.length = ps.length) (r : Vals vs us)
    (z : InCallC s s.heap.objs.size (bindL (envOfC qual scope s.heap.objs.size f cd).kindOf (ps.zip us) fun _ => none) (cellsFrom (s.heap.objs.size + 1) scope.names []) (bindC (envOfC qual scope s.heap.objs.size f cd).kindOf (ps.zip us) fun _ => none) s1) :
    Inv (cxG CX P w K mg base N qual scope f cd A outer s H E) [] (L2.start N vs) H s1 := by
  have e1 : Env0 P w K mg base ({ A with handled := none } : Around) outer s H := ⟨e0.frames, e0.mod, e0.bs, e0.bsz, e0.funs, e0.frf, e0.hok, e0.bare⟩
  have I : Inv (cxOf CX P w K mg base N qual scope f cd ({ A with handled := none } : Around) outer s H E) [] (L2.start N vs) H s1 := inv_start S rfl e1 hl r z
  have o := I.ok
  exact ⟨⟨o.mod, o.kind, o.glob, o.blt, o.above, o.inj, o.has, o.cab, nofun, Around.frames_deeper e0.frames, o.stk, o.exf, o.bs, o.bsz, o.noex, o.exfs, o.funs, o.frf⟩, I.os, I.bare, I.base, I.loc, I.cell, I.free, I.freeC, I.pin, I.hok, I.len⟩
theorem okG {k : Nat} {params : Arguments} {body : List Stmt} {fd : FuncData} {sp : Sp} (F : FunD K x qual params body scope [] [] f fd) (S : FnScope N ps scope) (len : ∀ vs H Q E, sp vs H Q E → vs.length = ps.length)
    (go : ∀ (A : Around) (outer : List PySem.Env) (s : Shared) (H : Hp) (vs : List V) (Q : VK) (E : XK), L2H.RoomH k (A.deeper (envOfC qual scope s.heap.objs.size f fd.code)) → sp vs H Q E →
      ∃ t, PSs (cxG CX P w K mg base N qual scope f fd.code A outer s H E) body t ∧ t { nx := fun _ H' => Q .non H', rt := Q } (start N vs) H) : FnG P w K mg base CX (k + 1) f fd ps sp := by
  obtain ⟨o1, o2, v1, v2, v3, v4, an1, cv, ctv, sl1, e, lk1, hc1, _⟩ := F.ex
  subst e
  refine ⟨len, fun A outer s H args us vs Q E hr e0 hb r hsp => ?_⟩
  have hl := len _ _ _ _ hsp
  have KS : K.In s.heap := e0.mod.kin.keeps fun b o e => (e0.bs b o e).1
  have li : s.heap.NoLimit := e0.mod.nolimit.keeps fun b o e => (e0.bs b o e).1
  refine codeAny_call_function hr.depth (KS _ _ lk1) rfl S.co S.gen rfl (PySem.W.codeRec_of KS hc1) (hb _ _ _ _ ?_)
  refine wpAny_newFunctionEnv_cells S.kind (fun y hy => ?_) fun env he s1 z => ?_
  · rcases S.par y.1 (List.of_mem_zip (show (y.1, y.2) ∈ ps.zip us from hy)).1 with q | q
    · exact .inl q
    · exact .inr ⟨q, PySem.W.cellsFrom_some _ _ _ (.inl q)⟩
  subst he
  refine ⟨li.keeps z.toInCall.keep, codeAny_func ?_⟩
  obtain ⟨t, ht, hq⟩ := go A outer s H vs Q E (hr.deeper _) hsp
  refine wpAny_mono (ht.run [] s1 (start N vs) H _ (inv_startG S e0 hl r z) hq) (fun fl s' hs => ?_) fun e s' hs => hs
  have ends : ∀ {σ' : L2.St} {H' : Hp} {v : V} {u : Value}, Inv (cxG CX P w K mg base N qual scope f cv A outer s H E) [] σ' H' s' → RelV v u → Q v H' → CE outer P w H s Q u s' :=
    fun {σ' H' v u} J rv q => ⟨v, H', J.os, J.bare, J.base, J.hok, rv, q⟩
  cases fl with
  | ret u =>
    obtain ⟨v, σ', H', J, rv, q⟩ := hs
    exact ends J rv q
  | next =>
    obtain ⟨σ', H', J, q⟩ := hs
    exact ends (v := V.non) (u := Value.none) J rfl q
  | brk =>
    obtain ⟨_, _, _, q⟩ := hs
    exact q.elim
  | cont =>
    obtain ⟨_, _, _, q⟩ := hs
    exact q.elim
end
section
variable {X : Cx} {CX : CXT} {k : Nat} {f C : Addr} {fd : FuncData} {ps : List Str} {sp : Sp} {E : L2.St → XK} {x : Str} {p pos : Pos} {e : Expr} {es : List Expr} {t : TA}
theorem pe_callG (F : FnG X.prog X.w X.K X.mg X.base CX k f fd ps sp) (hr : L2H.RoomH k X.A) (hg : Gl X x) (hm : X.mg x = some (.ref f)) (hk : PySem.W.keepIn X.K (.ref f) = true) (hb : Binds X.K fd ps []) (hx : ∀ σ, PassesAt CX X σ (E σ))
    (ha : PA X (e :: es) t) (hdb : (x == ("__debug__" : Str)) = false) (he : starEach (e :: es) X.env = (false, eval e X.env) :: starEach es X.env) (hpl : (backTo pos (starEach es X.env)).any (·.1) = false) :
    PE X (.Call (.Name x p) (e :: es) [] pos) (tCallS sp E t) := by
  refine ⟨fun pins s σ H Q I h => wpAny_Call_Name_kw (ld_glob I hg hm ?_ hdb)⟩
  refine PySem.W.callWith_K (h₀ := X.base) I.ok.mod.kin hk (thn (ha.run pos pins s σ H _ I h) fun us s1 ⟨vs, H1, I1, r, q⟩ => ⟨I1.kIn, ?_⟩) he hpl
  have hl : us.length = ps.length := by rw [← r.length]; exact F.len _ _ _ _ q
  have b := hb s1 us I1.kIn (by rw [List.append_nil]; exact hl)
  rw [List.append_nil] at b
  refine wpAny_call (codeAny_mono (F.run X.A X.stack s1 H1 ⟨us, []⟩ us vs Q (E σ) hr I1.env0 b r q) fun r s' hq => ?_)
  match r, hq with
  | .error er, hq => exact hx σ pins H1 s1 er s' I1 hq
  | .ok (.ret u), hq => exact I1.after hq
  | .ok .next, hq => exact hq.elim
  | .ok .brk, hq => exact hq.elim
  | .ok .cont, hq => exact hq.elim
end
end DL

/-! The data layer: try with several clauses, the first ones with a name or not. -/
namespace DL
open PySem PySem.Spec PyProof.Rows L2
abbrev Suite := Addr → Value → Option Addr → TS
/-- the slot of the clause's name is empty behind the suite -/
def goneD (i : Nat) (D : Ends) : Ends := { nx := fun σ H => D.nx (σ.set i none) H, rt := D.rt, bk := fun σ H => D.bk (σ.set i none) H, ct := fun σ H => D.ct (σ.set i none) H }
def runC (o : Option Nat) (ts : Suite) (a : Addr) (cls : Value) (d : Option Addr) (D : Ends) (σ : L2.St) (H : Hp) : Prop := match o with
  | none => ts a cls d D σ H
  | some i => ts a cls d (goneD i D) (σ.set i (some (.ref a))) H
/-- what the clauses wish, one behind the other -/
def wCl (K : PySem.W.Frag) (Wo : WX) (D : Ends) : List (Value × Option Nat × Suite) → WX
  | [] => Wo
  | q :: r => fun cls d σ H => ∃ b, PySem.W.exmOne K cls q.1 = some b ∧ (b = true → ∀ a, H a = none → runC q.2.1 q.2.2 a cls d D σ H) ∧ (b = false → wCl K Wo D r cls d σ H)
inductive ClOk (X : Cx) : List ExceptHandler → List (Value × Option Nat × Suite) → Prop
  | nil : ClOk X [] []
  | bare {x : Str} {c : Value} {ts : Suite} {b0 : Stmt} {su : List Stmt} {q1 q2 : Pos} {hs : List ExceptHandler} {l : List (Value × Option Nat × Suite)} (hc : Names X x c)
      (ht : ∀ (a : Addr) (oe : Obj) (cls : Value) (d : Option Addr) (pn : List (Addr × Obj)), Zc cls d oe → (∃ us, oe.data = .fields us) → PSs (X.suite a ((a, oe) :: pn)) (b0 :: su) (ts a cls d)) (r : ClOk X hs l) :
      ClOk X (.ExceptHandler (some (.Name x q1)) none (b0 :: su) q2 :: hs) ((c, none, ts) :: l)
  | as {x n : Str} {i : Nat} {c : Value} {ts : Suite} {b0 : Stmt} {su : List Stmt} {q1 q2 : Pos} {hs : List ExceptHandler} {l : List (Value × Option Nat × Suite)} (hN : X.N.Nodup) (hi : X.N[i]? = some n) (hl : X.env.kindOf n = some .local) (hc : Names X x c)
      (ht : ∀ (a : Addr) (oe : Obj) (cls : Value) (d : Option Addr) (pn : List (Addr × Obj)), Zc cls d oe → (∃ us, oe.data = .fields us) → PSs (X.suite a ((a, oe) :: pn)) (b0 :: su) (ts a cls d)) (r : ClOk X hs l) :
      ClOk X (.ExceptHandler (some (.Name x q1)) (some n) (b0 :: su) q2 :: hs) ((c, some i, ts) :: l)
section
variable {X : Cx} {body : List Stmt} {h0 : ExceptHandler} {hs : List ExceptHandler} {l : List (Value × Option Nat × Suite)} {pos : Pos} {tb : WX → TS} {Wo : WX}
theorem ps_tryC (sk : X.stack = X.env :: X.outer) (fr : X.env.frame = some X.env.locals) (tk : Takes X Wo)
    (hb : ∀ (W : WX) (pn : List (Addr × Obj)) (xe : Value → Shared → Prop), Takes (X.tr pn xe) W → PassesOwn (model X.prog X.w) X.A X.env xe → PSs (X.tr pn xe) body (tb W))
    (hh : ClOk X (h0 :: hs) l) : PS X (.Try body (h0 :: hs) [] [] pos) (fun D σ H => tb (wCl X.K Wo D l) D σ H) := by
  refine ⟨fun pins s σ H D I hw => ?_⟩
  have ok := I.ok
  have af : X.A.frames = some (X.env :: X.outer) := by
    rw [ok.frames, sk]
  refine wpAny_Try_except (wpAny_mono ((hb (wCl X.K Wo D l) (X.pn ++ pins) (fun e t1 => wpAny (model X.prog X.w) X.A (noteFrame e X.env) (fun _ t2 => wpAny (model X.prog X.w) X.A (setFlight e none) (fun _ t3 =>
    wpAny (model X.prog X.w) X.A (handleBy e X.env (h0 :: hs)) (SP X pins D) X.xe t3) X.xe t2) X.xe t1) (fun u t xx => ?_) PassesOwn.looking).run [] s σ H D (I.toTry _) hw) (fun f t hsp => ?_) fun _ _ z => z)
  · obtain ⟨a, B, sI, pins2, σ2, H2, cls, d, rfl, J0, nb, up, sky, na, os, ag, w⟩ := xx
    have J := J0.ofTry ok
    rw [sk] at sky
    show wpAny _ X.A (noteFrame (.ref a) X.env) _ _ _
    refine Sky.land Zc.steady af fr sky fun g3 fl3 up3 => ?_
    have J3 : Inv X pins σ2 H2 { t with heap := g3 } := J.landed nb fl3.1 (up.trans up3) os ag
    obtain ⟨o3, us3, ge3, gz3, gd3⟩ := fl3.there
    have nfr : a ∉ frs (X.env :: X.outer) := fun hm => by
      obtain ⟨_, o', e', hn⟩ := fl3.2.2.1.mem hm
      rw [ge3] at e'
      cases e'
      exact hn _ gd3
    have nL : a ≠ X.env.locals := fun z => nfr (List.mem_filterMap.mpr ⟨X.env, List.mem_cons_self, by rw [fr, z]⟩)
    have nF : a ∉ X.fs := fun hm => by
      obtain ⟨e, he, q⟩ := List.mem_filterMap.mp hm
      exact nfr (List.mem_filterMap.mpr ⟨e, List.mem_cons_of_mem _ he, q⟩)
    have S3 := J3.suite ge3 gd3 na nL nF
    have test : ∀ {x : Str} {c : Value} {b : Bool} {np : Pos} {R : Bool → Shared → Prop} {E : Value → Shared → Prop}, Names X x c → PySem.W.exmOne X.K cls c = some b → R b { t with heap := g3 } →
        wpAny (model X.prog X.w) (X.A.mark (some (.ref a))) (eval (.Name x np) X.env) (fun v t4 => wpAny (model X.prog X.w) (X.A.mark (some (.ref a))) (excMatches (.ref a) v) R E t4) E { t with heap := g3 } := fun {x c b np R E} hc he hR => by
      have LT : PySem.W.Looks (model X.prog X.w) g3 (typeOf (.ref a)) cls := fun A Q E s k q => wpAny_typeOf_ref (k _ _ ge3) (by rw [gz3.1]; exact q)
      have LM := PySem.W.exm_one (M := model X.prog X.w) J3.kIn LT he
      obtain ⟨hg, hd, hm | ⟨hm, hv, hn⟩⟩ := hc
      · exact ld_glob (X := X.suite a ((a, o3) :: (X.pn ++ pins))) S3 hg hm (LM.here hR) hd
      · exact ld_blt (X := X.suite a ((a, o3) :: (X.pn ++ pins))) S3 hg hm hv (LM.here hR) hn hd
    have pass : wCl X.K Wo D [] cls d σ2 H2 → wpAny (model X.prog X.w) X.A (handleBy (.ref a) X.env []) (SP X pins D) X.xe { t with heap := g3 } := fun w => by
      refine wpAny_handleBy_nil ?_
      obtain ⟨_, _, _, o, us, tb1, ot, ts1, ge, _, gd, g1, _⟩ := id fl3
      unfold PySem.passOn
      refine wpAny_bind (wpAny_field ge gd g1 ?_)
      have nn : ¬ ((Value.ref tb1 == Value.none) = true) := by simp
      rw [if_neg nn]
      have last : wpAny (model X.prog X.w) X.A (setFlight (.ref a) X.env.frame) (fun _ t4 => wpAny (model X.prog X.w) X.A (throw (.ref a) : Sem Flow) (SP X pins D) X.xe t4) X.xe { t with heap := g3 } := by
        rw [fr]
        exact HandSPX.setFlight_upZ fl3 fun g4 hh4 up4 => wpAny_throw (tk _ _ ⟨a, B, sI, pins, σ2, H2, cls, d, rfl, J, nb, (up.trans up3).trans up4, .inr (.inr (by rw [sk]; exact hh4)), na, os, ag, w⟩)
      first
        | exact wpAny_bind (wpAny_pure (wpAny_bind last))
        | exact wpAny_bind last
    have clauses : ∀ {hs1 : List ExceptHandler} {l1 : List (Value × Option Nat × Suite)}, ClOk X hs1 l1 → wCl X.K Wo D l1 cls d σ2 H2 → wpAny (model X.prog X.w) X.A (handleBy (.ref a) X.env hs1) (SP X pins D) X.xe { t with heap := g3 } := by
      intro hs1 l1 hk
      induction hk with
      | nil => exact pass
      | @bare x c ts b0 su q1 q2 hs2 l2 hc ht r ih =>
        rintro ⟨b, e1, e2, e3⟩
        refine wpAny_handleBy_cons (codeAny_handlers_test (test hc e1 ?_)) (by intro q; cases q)
        cases b with
        | false => exact ih (e3 rfl)
        | true =>
          refine codeAny_handlers_suite (HandSPX.lands_againZ fl3 fun g4 fl4 up4 => ?_)
          have J4 : Inv X pins σ2 H2 { t with heap := g4 } := J.landed nb fl4.1 ((up.trans up3).trans up4) os ag
          obtain ⟨o4, us4, ge4, gz4, gd4⟩ := fl4.there
          have S4 := J4.suite ge4 gd4 na nL nF
          refine wpAny_mono ((ht a o4 cls d (X.pn ++ pins) gz4 ⟨_, gd4⟩).run [] _ _ H2 _ S4 (e2 rfl a na)) (fun f t6 z => ?_) fun _ _ z => z.elim
          cases f with
          | next => obtain ⟨_, _, S6, q6⟩ := z; exact ⟨_, _, S6.unsuite ok, q6⟩
          | brk => obtain ⟨_, _, S6, q6⟩ := z; exact ⟨_, _, S6.unsuite ok, q6⟩
          | cont => obtain ⟨_, _, S6, q6⟩ := z; exact ⟨_, _, S6.unsuite ok, q6⟩
          | ret u => obtain ⟨_, _, _, S6, r6, q6⟩ := z; exact ⟨_, _, _, S6.unsuite ok, r6, q6⟩
      | @as x n i c ts b0 su q1 q2 hs2 l2 hN hi hl hc ht r ih =>
        rintro ⟨b, e1, e2, e3⟩
        refine wpAny_handleBy_cons (codeAny_handlers_test (test hc e1 ?_)) (by intro q; cases q)
        cases b with
        | false => exact ih (e3 rfl)
        | true =>
          refine codeAny_handlers_suite_as (HandSPX.lands_againZ fl3 fun g4 fl4 up4 => ?_)
          have J4 : Inv X pins σ2 H2 { t with heap := g4 } := J.landed nb fl4.1 ((up.trans up3).trans up4) os ag
          obtain ⟨o4, us4, ge4, gz4, gd4⟩ := fl4.there
          have S4 := J4.suite ge4 gd4 na nL nF
          refine store_ok (X := X.suite a ((a, o4) :: (X.pn ++ pins))) (v := .ref a) S4 hN hi (.inl hl) rfl (fun t5 S5 => ?_) (.inr hl)
          refine wpAny_mono ((ht a o4 cls d (X.pn ++ pins) gz4 ⟨_, gd4⟩).run [] t5 _ H2 _ S5 (e2 rfl a na)) (fun f t6 z => ?_) fun _ _ z => z.elim
          have gone : ∀ {σ6 : L2.St} {H6 : Hp} {R : Shared → Prop}, Inv (X.suite a ((a, o4) :: (X.pn ++ pins))) [] σ6 H6 t6 → (∀ t7, Inv X pins (σ6.set i none) H6 t7 → R t7) →
              wpAny (model X.prog X.w) X.A (do bindName X.env n .none; unbindBehindTheSuite X.env n q2) (fun _ t7 => R t7) X.xe t6 := fun S6 hq => gone_ok (S6.unsuite ok) hN hi hl hq
          cases f with
          | next => obtain ⟨_, _, S6, q6⟩ := z; exact gone S6 fun t7 J7 => ⟨_, _, J7, q6⟩
          | brk => obtain ⟨_, _, S6, q6⟩ := z; exact gone S6 fun t7 J7 => ⟨_, _, J7, q6⟩
          | cont => obtain ⟨_, _, S6, q6⟩ := z; exact gone S6 fun t7 J7 => ⟨_, _, J7, q6⟩
          | ret u => obtain ⟨_, _, _, S6, r6, q6⟩ := z; exact gone S6 fun t7 J7 => ⟨_, _, _, J7, r6, q6⟩
    exact clauses hh w
  · cases f with
    | next =>
      obtain ⟨_, _, J1, q⟩ := hsp
      exact wpAny_execs_nil ⟨_, _, J1.ofTry ok, q⟩
    | brk =>
      obtain ⟨_, _, J1, q⟩ := hsp
      exact ⟨_, _, J1.ofTry ok, q⟩
    | cont =>
      obtain ⟨_, _, J1, q⟩ := hsp
      exact ⟨_, _, J1.ofTry ok, q⟩
    | ret u =>
      obtain ⟨_, _, _, J1, rv, q⟩ := hsp
      exact ⟨_, _, _, J1.ofTry ok, rv, q⟩
end
end DL

/-! The data layer: isinstance of a caught exception that has a dict; its fields. -/
namespace DL.Xi
open PySem PySem.W PySem.Spec PySem.Calls PyProof.Rows
section
variable {prog : Program} {w : World} {A : Around} {E : Value → Shared → Prop} {s : Shared} {K : Frag} {x D : Addr} {ox : Obj} {od : Option Obj}
theorem find_class (C : L2.ExcC K D) : findObj K D od "__class__" = some (.bind (.builtin "getset_descriptor.__get__") (.builtin "object.__class__")) := by
  obtain ⟨cd, e1, _⟩ := any_some C.hd
  unfold findObj
  rw [e1, Option.bind_some, C.ha, Option.bind_some]
  simp [C.hn, C.ht]
/-- x.__class__, whatever its dict -/
theorem class_any {Q : Option Value → Shared → Prop} (C : L2.ExcC K D) (KI : K.In s.heap) (J : InstAt s.heap x ox D od) (go : Q (some (.ref D)) { s with toks := s.toks + 1 }) : wpAny (model prog w) A (getAttr? (.ref x) "__class__") Q E s := by
  obtain ⟨m0, g0, d0, k0, z0⟩ := s
  have c0 := J.type (M := model prog w)
  have c1 := looks_findIn (M := model prog w) KI C.hg
  have c2 := looks_findIn (M := model prog w) KI C.hk
  have c3 := looks_find (M := model prog w) KI J (find_class C)
  have isB : Looks (model prog w) m0 (isInstance (.ref x) (.type "BaseException")) true := c0.andThen (looks_subIn KI C.hs)
  have f0 : (false && onTheHeap (Value.builtin "BaseException.__getattribute__")) = false := rfl
  have f1 : (onTheHeap (Value.ref D) && Value.builtin "BaseException.__getattribute__" == Value.builtin "object.__getattribute__") = false := by
    rw [show (Value.builtin "BaseException.__getattribute__" == Value.builtin "object.__getattribute__") = false by decide +kernel]
    rfl
  unfold getAttr? getAttrBy? getAttrBy
  refine wpAny_bind (wpAny_mkText (wpAny_bind (wpAny_attempt (wpAny_holding (wpAny_bind (c0.at (wpAny_bind (c1.at ?_))))))))
  show wpAny _ _ (if (onTheHeap (.ref D) && Value.builtin "BaseException.__getattribute__" == Value.builtin "object.__getattribute__") = true then _ else _) _ _ _
  rw [f1, if_neg (by decide)]
  unfold getAttrByItsOwn hookBefore
  refine wpAny_bind ?_
  rw [if_pos (show onTheHeap (.ref D) = true from rfl)]
  refine c2.at (wpAny_bind (wpAny_attempt (wpAny_holding ?_)))
  unfold callGetattribute
  rw [f0, if_neg (by decide)]
  unfold boundAndCalled
  rw [PySem.F.excAttr_ValueError.ga.bind (Value.ref x)]
  refine wpAny_bind (wpAny_pure ?_)
  show wpAny _ _ (call (.builtin "BaseException.__getattribute__") [.ref x, .str "__class__" k0]) _ _ _
  refine wpAny_call (codeAny_call_builtin PySem.F.excAttr_ValueError.ga.plain PySem.F.entry_bexc_ga ?_)
  refine @check_slot (model prog w) _ _ ⟨m0, g0, d0, k0 + 1, z0⟩ "BaseException.__getattribute__" "BaseException" "__getattribute__" (.ref x) [.str "__class__" k0] [] _ (by decide +kernel) (by decide +kernel) isB (PySem.F.args_bexc_ga (.ref x) (.str "__class__" k0)) ?_
  unfold Builtin.«object.__getattribute__»
  refine wpAny_bind (wpAny_of_eq (a := ((Value.ref x : Value), [Value.str "__class__" k0])) (by first | rfl | (simp only [slotArgs]; rfl)) (wpAny_bind (wpAny_pure (wpAny_bind (c0.at (wpAny_bind (c3.at ?_)))))))
  show wpAny _ _ (holding [Value.builtin "object.__class__"] (call (.builtin "getset_descriptor.__get__") [.builtin "object.__class__", Value.ref x, Value.ref D]) >>= ret) _ _ _
  refine wpAny_bind (wpAny_holding (wpAny_call (class_get (s := ⟨m0, g0, d0, k0 + 1, z0⟩) (ox := ox) (od := od) KI J C.hm (wpAny_pure ?_))))
  show wpAny _ _ (handedOut (Value.ref D)) _ _ _
  rw [handedOut_of (v := Value.ref D) rfl]
  first
    | exact wpAny_pure (wpAny_pure go)
    | exact wpAny_pure go
    | exact wpAny_pure (wpAny_bind (wpAny_pure (wpAny_pure go)))
theorem kit (C : L2.ExcC K D) : KitX K (.ref x) (.ref D) (fun h => InstAt h x ox D od) where
  ty := fun _ _ _ J => J.type
  it := fun _ m KI _ => by
    obtain ⟨cd, e, _⟩ := any_some C.hd
    unfold clsIn at e
    split at e
    · rename_i c1 d1 v1 l1 ho
      intro A1 Q1 E1 s1 k1 q1
      unfold isType loadHead
      exact wpAny_bind (wpAny_loadPart (k1 _ _ (KI _ _ ho)) (wpAny_pure q1))
    · cases e
  ne := fun m tp dd its n sl KI htp => by
    obtain ⟨cd, e, _⟩ := any_some C.hd
    refine Bool.eq_false_iff.mpr fun q => ?_
    have e2 : D = tp := Value.ref.inj (beq_iff_eq.mp q)
    subst e2
    unfold clsIn at e
    split at e
    · rename_i c1 d1 v1 l1 ho
      have z := (KI _ _ ho).symm.trans htp
      cases z
    · cases e
  ca := fun KI J go => class_any C KI J go
end
end DL.Xi
namespace DL
open PySem PySem.Spec PyProof.Rows L2
section
variable {X : Cx} {a D dd : Addr} {oe : Obj} {pn : List (Addr × Obj)} {us : Array Value}
/-- the exception that the suite holds, with its dict -/
theorem inst_of {pins : List (Addr × Obj)} {σ : L2.St} {H : Hp} {s : Shared} {fs : List (Str × V)} (hz : Zc (.ref D) (some dd) oe) (hf : oe.data = .fields us) (I : Inv (X.suite a ((a, oe) :: pn)) pins σ H s) (hd : H dd = some (.xd fs)) : ∃ od, PySem.W.InstAt s.heap a oe D (some od) := by
  obtain ⟨hget, _⟩ := I.pin (a, oe) (List.mem_append.mpr (.inl List.mem_cons_self))
  have hx : ObjOk X.prog X.w H s.heap dd (.xd fs) := I.hok dd _ hd
  obtain ⟨mA, hns, _⟩ := hx
  obtain ⟨od, ho, _⟩ := lookIn_ns hns
  obtain ⟨oc, odc, oda, osl⟩ := oe
  obtain ⟨h1, h2⟩ := hz
  dsimp only at h1 h2 hf
  subst h1 h2 hf
  exact ⟨od, hget, rfl, rfl, ho⟩
/-- isinstance(e, c) of the exception that the suite holds -/
def rIsX (K : PySem.W.Frag) (D a dd : Addr) : List V → Hp → VK → Prop := fun xs H Q => ∃ (c : V) (cv : Value) (b : Bool) (fs : List (Str × V)), xs = [.ref a, c] ∧ (∀ u, RelV c u → u = cv) ∧ PySem.W.kitOne K (.ref D) cv = some b ∧ H dd = some (.xd fs) ∧ Q (.bl b) H
theorem call_isX (C : ExcC X.K D) (hz : Zc (.ref D) (some dd) oe) (hf : oe.data = .fields us) : CallR (X.suite a ((a, oe) :: pn)) (.builtin "isinstance") (rIsX X.K D a dd) := by
  intro pins s σ H xs vs Q I r h
  obtain ⟨c, cv, b, fs, rfl, hcv, e, hd, q⟩ := h
  rcases r with _ | ⟨rx, _ | ⟨rt, _ | _⟩⟩
  cases rx
  have ec := hcv _ rt
  subst ec
  obtain ⟨od, J⟩ := inst_of hz hf I hd
  exact PySem.W.kia_one (Xi.kit C) I.kIn J e (fun z => nomatch z) fun tk => ⟨.bl b, H, I.kept (t' := tk) fun _ _ z => z, rfl, q⟩
/-- isinstance(e, (c, ..)) -/
def rIsXs (K : PySem.W.Frag) (D a dd : Addr) : List V → Hp → VK → Prop := fun xs H Q => ∃ (p : Addr) (cs : List V) (cvs : List Value) (b : Bool) (fs : List (Str × V)), xs = [.ref a, .ref p] ∧ H p = some (.tup cs) ∧ (∀ us, Vals cs us → us = cvs) ∧ PySem.W.kitAny K (.ref D) cvs = some b ∧ H dd = some (.xd fs) ∧ Q (.bl b) H
theorem call_isXs (C : ExcC X.K D) (hz : Zc (.ref D) (some dd) oe) (hf : oe.data = .fields us) : CallR (X.suite a ((a, oe) :: pn)) (.builtin "isinstance") (rIsXs X.K D a dd) := by
  intro pins s σ H xs vs Q I r h
  obtain ⟨p, cs, cvs, b, fs, rfl, hp, hcv, e, hd, q⟩ := h
  rcases r with _ | ⟨rx, _ | ⟨rt, _ | _⟩⟩
  cases rx
  cases rt
  obtain ⟨its, r1, ⟨o, e1, e2, n, e3⟩, _⟩ := I.tuple (.inl (.inl hp))
  have ec := hcv _ r1
  subst ec
  obtain ⟨od, J⟩ := inst_of hz hf I hd
  obtain ⟨oc, odd, oda, osl⟩ := o
  dsimp only at e2 e3
  subst e2 e3
  exact PySem.W.kia_tup (Xi.kit C) I.kIn J e1 e (fun z => nomatch z) fun tk => ⟨.bl b, H, I.kept (t' := tk) fun _ _ z => z, rfl, q⟩
end
end DL

/-! The data layer, part 7: calls of the text's own defs; a whole program's meaning. -/
namespace DL
open PySem PySem.Spec PyProof.Rows L2

section
variable {X : Cx} {fa : Org} {C : Ctx} {o e : Expr} {es : List Expr} {da : DA} {to : DE} {m : DM}
theorem d_meth0 {name : Str} {apos cpos : Pos} {T id : String} (pa : PlainAttrs T) (slot : Slot T name id) (hty : typeOf (.builtin id) = pure (.type "method_descriptor")) (hm : MtR X id (LM X.K fa m)) (ho : PE X o (LE X.K fa C to))
    (h1 : attributeBase o name X.env (eval o X.env) = eval o X.env) (h3 : (apos.endLine == cpos.line) = true) :
    PE X (.Call (.Attribute o name apos) [] [] cpos) (LE X.K fa C (eM T m to aNil)) :=
  (pe_bm0 pa slot hty hm ho h1 h3).imp fun σ H Q ⟨ρ, M, α, P, er, sr, h, an⟩ => ⟨ρ, M, α, _, er, sr, h, fun v d H' α' M' e s r p => ⟨ty_v s r p.1, M', α', d, [], P, s, r, .nil, p.2, an.ext e⟩⟩
def mBits : DM := fun d ds M P => match d, ds with
  | .int i, [] => P (.int (Builtin.Int.intBits i : Nat)) M
  | _, _ => False
theorem d_bits {apos cpos : Pos} (ho : PE X o (LE X.K fa C to)) (h1 : attributeBase o "bit_length" X.env (eval o X.env) = eval o X.env) (h3 : (apos.endLine == cpos.line) = true) :
    PE X (.Call (.Attribute o "bit_length" apos) [] [] cpos) (LE X.K fa C (eM "int" mBits to aNil)) :=
  (pe_bits ho h1 h3).imp fun σ H Q ⟨ρ, M, α, P, er, sr, h, an⟩ => ⟨ρ, M, α, _, er, sr, h, fun v d H' α' M' e s r p => by
    cases d with
    | int i => cases r; exact ⟨i, rfl, an.ext e |>.here s (.int _) p.2⟩
    | _ => exact (show False from p.2).elim⟩
end

/-! ### what a def promises, over data -/
/-- an exception's end -/
def XA (K : PySem.W.Frag) (fa : Org) (α : List Addr) (H : Hp) (ex : XP) (E : XK) : Prop :=
  ∀ (c : Nat) (fs : List D) (vs : List V) (dx : Addr) (H' : Hp) (α' : List Addr) (M' : Mem), Ext K H H' α α' → StR K fa α' H' M' → Rps K fa α' H' vs fs → H' dx = some (.xd ((fa.flds c).zip vs)) → vs.length = (fa.flds c).length → ex c fs M' → E (.ref (fa.cls c)) (some dx) H'
abbrev DSp := XP → List D → Mem → Po → Prop
def LSp (K : PySem.W.Frag) (fa : Org) (sp : DSp) : Sp := fun vs H Q E => ∃ (ds : List D) (M : Mem) (α : List Addr) (P : Po) (ex : XP), Rps K fa α H vs ds ∧ StR K { fa with H0 := H, α0 := α } α H M ∧ sp ex ds M P ∧ Ans K { fa with H0 := H, α0 := α } α H P Q ∧ XA K { fa with H0 := H, α0 := α } α H ex E
/-- how the meaning's exceptions lie in the wish -/
structure XS (X : Cx) (fa : Org) (C : Ctx) : Prop where
  ex : ∃ W : WX, Takes X W ∧ ∀ (σ : L2.St) (ρ : Env) (α : List Addr) (H : Hp) (M : Mem) (c : Nat) (fs : List D) (vs : List V) (dx : Addr), EnvR X.K fa α H σ ρ → StR X.K fa α H M → Rps X.K fa α H vs fs → H dx = some (.xd ((fa.flds c).zip vs)) → vs.length = (fa.flds c).length → C.ex ρ c fs M → W (.ref (fa.cls c)) (some dx) σ H
theorem XS.calm {X : Cx} {fa : Org} {C : Ctx} : XS X fa C.calm := ⟨⟨fun _ _ _ _ => False, takes0, fun _ _ _ _ _ _ _ _ _ _ _ _ _ _ h => h⟩⟩
/-- a class of exceptions: its name, the fields that its own __init__ stores (none: it has no __init__ of its own), itself and those above it -/
structure Cl where
  x : Str
  fs : List Str
  sup : List Nat
/-- what the module has -/
structure Glb where
  fns : List (Str × List Str)
  free : List Str
  bfn : List (Str × String)
  nums : List (Str × Int)
  tups : List (Str × List D)
  btys : List (Str × String)
  hot : List Nat
  cls : List Cl
def supB (G : Glb) (j k : Nat) : Bool := match G.cls[j]? with
  | some cl => cl.sup.contains k
  | none => false
structure ClF (G : Glb) (K : PySem.W.Frag) (fa : Org) (j : Nat) (fs : List Str) : Prop where
  is : ExcC K (fa.cls j)
  xf : XfC K (fa.cls j)
  no : ∀ f ∈ fs, PySem.W.findIn K (.ref (fa.cls j)) f = some none
  flds : fa.flds j = fs.reverse
  exm : ∀ k cl, G.cls[k]? = some cl → PySem.W.exmOne K (.ref (fa.cls j)) (.ref (fa.cls k)) = some (supB G j k)
  kit : ∀ k cl, G.cls[k]? = some cl → PySem.W.kitOne K (.ref (fa.cls j)) (.ref (fa.cls k)) = some (supB G j k)
/-- what __init__(self, ..) of a class at C does: self.f = y, one field behind the other -/
def ISp (C : Addr) (fs : List Str) : Sp := fun vs H Q _ => ∃ (a : Addr) (ys : List V), vs = .ref a :: ys ∧ ys.length = fs.length ∧ H a = some (exo a C none) ∧ ∀ dx, H dx = none → dx ≠ a → Q .non (upd (upd H dx (exd dx (fs.reverse.zip ys.reverse))) a (exo a C (some dx)))
structure Mo (G : Glb) (hot : Bool) (X : Cx) (fa : Org) (call : Nat → DSp) : Prop where
  hu : X.A.units + 65 < cLine
  free : ∀ x ∈ G.free, X.mg x = none
  bfn : ∀ p ∈ G.bfn, X.mg p.1 = some (.builtin p.2)
  nums : ∀ p ∈ G.nums, ∃ t, X.mg p.1 = some (.int p.2 t)
  btys : ∀ p ∈ G.btys, X.mg p.1 = some (.type p.2)
  tups : ∀ p ∈ G.tups, ∃ a, X.mg p.1 = some (.ref a) ∧ ∀ α H, Rp X.K fa α H (.ref a) (.kup p.2)
  nam : ∀ (i : Nat) (x : Str) (ps : List Str), G.fns[i]? = some (x, ps) → X.mg x = some (.ref (fa.fn i)) ∧ PySem.W.keepIn X.K (.ref (fa.fn i)) = true
  fn : hot = false → ∀ (i : Nat) (x : Str) (ps : List Str), G.fns[i]? = some (x, ps) →
    ∃ k fd, FnOk X.prog X.w X.K X.mg X.base (L2.CX X.prog X.w) k (fa.fn i) fd ps (LSp X.K fa (call i)) ∧ Room k X.A ∧ Binds X.K fd ps []
  hfn : ∀ (j i : Nat) (x : Str) (ps : List Str), G.hot[j]? = some i → G.fns[i]? = some (x, ps) →
    ∃ k fd, FnG X.prog X.w X.K X.mg X.base (L2.CX X.prog X.w) k (fa.fn i) fd ps (LSp X.K fa (call (G.fns.length + j))) ∧ L2H.RoomH k X.A ∧ Binds X.K fd ps []
  cls : ∀ (j : Nat) (cl : Cl), G.cls[j]? = some cl → X.mg cl.x = some (.ref (fa.cls j))
  clf : ∀ (j : Nat) (cl : Cl), G.cls[j]? = some cl → cl.fs ≠ [] → ClF G X.K fa j cl.fs
  ini : hot = false → ∀ (j : Nat) (cl : Cl), G.cls[j]? = some cl → cl.fs ≠ [] → ∃ (k : Nat) (fd : FuncData) (fI : Addr) (ps : List Str), OexC X.K (fa.cls j) ∧ PySem.W.findIn X.K (.ref (fa.cls j)) "__init__" = some (some (.ref fI)) ∧ PySem.W.typeIn X.K (.ref fI) = some (.type "function") ∧
    FnOk X.prog X.w X.K X.mg X.base (L2.CX X.prog X.w) k fI fd ps (ISp (fa.cls j) cl.fs) ∧ Room (k + 1) X.A ∧ Binds X.K fd ps []
section
variable {X : Cx} {fa : Org} {C : Ctx} {G : Glb} {e : Expr} {es : List Expr} {pos p : Pos} {da : DA} {x : Str} {i : Nat} {ps : List Str}
theorem call_go (xs : XS X fa C) : ∃ W : WX, Takes X W ∧ ∀ {σ : L2.St} {H : Hp} {Q : VK}, LE X.K fa C (eCall i da) σ H Q → tCallS (LSp X.K fa (C.call i)) (WE W) (LA X.K fa C da) σ H Q := by
  obtain ⟨W, tk, hw⟩ := xs.ex
  refine ⟨W, tk, fun {σ H Q} ⟨ρ, M, α, P, er, sr, h, an⟩ => ⟨ρ, M, α, _, er, sr, h, fun vs ds H1 α1 M1 e1 s1 r1 p1 => ?_⟩⟩
  refine ⟨ds, M1, α1, P, C.ex ρ, r1, s1.start, p1, fun v d H' α' M' e s r p => ?_, fun c fs vs dx H' α' M' e s r hd nd p => ?_⟩
  · exact an v d H' α' M' (e1.trans e) (s1.back s) (Rp.org (fa := { fa with H0 := H1, α0 := α1 }) (fb := fa) ⟨rfl, rfl, rfl⟩ r) p
  · exact hw σ ρ α' H' M' c fs vs dx (er.mono (e1.trans e)) (s1.back s) (Rps.org (fa := { fa with H0 := H1, α0 := α1 }) (fb := fa) ⟨rfl, rfl, rfl⟩ r) hd nd p
theorem d_call (xs : XS X fa C) (mo : Mo G false X fa C.call) (hi : G.fns[i]? = some (x, ps)) (hg : Gl X x) (ha : PA X (e :: es) (LA X.K fa C da)) (hdb : (x == ("__debug__" : Str)) = false)
    (he : starEach (e :: es) X.env = (false, eval e X.env) :: starEach es X.env) (hpl : (backTo pos (starEach es X.env)).any (·.1) = false) : PE X (.Call (.Name x p) (e :: es) [] pos) (LE X.K fa C (eCall i da)) := by
  obtain ⟨W, tk, hw⟩ := call_go (i := i) (da := da) xs
  obtain ⟨hm, hk⟩ := mo.nam i x ps hi
  obtain ⟨k, fd, F, hr, hb⟩ := mo.fn rfl i x ps hi
  exact (pe_callS F hr hg hm hk hb (fun σ => passAt tk σ) ha hdb he hpl).imp fun _ _ _ h => hw h
theorem d_callH {hot : Bool} {j : Nat} (xs : XS X fa C) (mo : Mo G hot X fa C.call) (hj : G.hot[j]? = some i) (hi : G.fns[i]? = some (x, ps)) (hg : Gl X x) (ha : PA X (e :: es) (LA X.K fa C da)) (hdb : (x == ("__debug__" : Str)) = false)
    (he : starEach (e :: es) X.env = (false, eval e X.env) :: starEach es X.env) (hpl : (backTo pos (starEach es X.env)).any (·.1) = false) : PE X (.Call (.Name x p) (e :: es) [] pos) (LE X.K fa C (eCall (G.fns.length + j) da)) := by
  obtain ⟨W, tk, hw⟩ := call_go (i := G.fns.length + j) (da := da) xs
  obtain ⟨hm, hk⟩ := mo.nam i x ps hi
  obtain ⟨k, fd, F, hr, hb⟩ := mo.hfn j i x ps hj hi
  exact (pe_callG F hr hg hm hk hb (fun σ => passAt tk σ) ha hdb he hpl).imp fun _ _ _ h => hw h
end
end DL

/-! The data layer, part 8: from the text's syntax to its meaning, with the proof beside it. -/
namespace DL
open PySem PySem.Spec PyProof.Rows L2

structure Cp where
  N : List Str
  sc : Scope
  fnb : Str → Bool
  lam : Bool
  hot : Bool
  xc : Option (Str × Nat × Nat × List D)
/-- the suite of an except clause with a name: the slot, the class, the fields of what is caught -/
def SxH (G : Glb) (X : Cx) (fa : Org) (nm : Str) (i j : Nat) (fs : List D) : Prop := ∃ (X0 : Cx) (oe : Obj) (pn : List (Addr × Obj)) (us : Array Value) (q : Ex) (cl : Cl), X = X0.suite q.a ((q.a, oe) :: pn) ∧ oe.data = .fields us ∧ Zc (.ref (fa.cls j)) (some q.dd) oe ∧ q ∈ fa.exs ∧
  q.i = i ∧ q.fs = fs ∧ q.ns = cl.fs.reverse ∧ q.vs.length = cl.fs.length ∧ ClF G X.K fa j cl.fs ∧ G.cls[j]? = some cl ∧ X.N[i]? = some nm ∧ Vis X.env.scope nm
/-- the def may make lambdas: its code object, its table -/
structure LamH (X : Cx) (fa : Org) : Prop where
  ex : ∃ cc P, X.env.code = .ref cc ∧ LamX.TabB X.base X.mg cc P ∧ (P, X.env.qual ++ "<lambda>") ∈ fa.tabs ∧ ∀ p ∈ fa.tabs, p.1 = P → p.2 = X.env.qual ++ "<lambda>"
  room : Room 0 X.A
structure Hy (G : Glb) (c : Cp) (X : Cx) (fa : Org) (C : Ctx) : Prop where
  N : X.N = c.N
  nd : X.N.Nodup
  sc : X.env.scope = c.sc
  fn : X.fn = c.fnb
  calm : c.hot = false → X.calm = true
  mo : Mo G c.hot X fa C.call
  xs : XS X fa C
  lam : c.lam = true → LamH X fa
  hz : c.xc = none → fa.exs = []
  sx : ∀ nm i j fs, c.xc = some (nm, i, j, fs) → SxH G X fa nm i j fs
structure HyS (G : Glb) (c : Cp) (X : Cx) (fa : Org) (C : Ctx) : Prop extends Hy G c X fa C where
  pa : PassesOwn (model X.prog X.w) X.A X.env X.xe
  stk : X.stack = X.env :: X.outer
  frm : X.env.frame = some X.env.locals
section
variable (G : Glb) (c : Cp)
def CE (e : Expr) := { t : DE // ∀ X fa C, Hy G c X fa C → PE X e (LE X.K fa C t) }
def CT (e : Expr) := { t : DT // ∀ X fa C, Hy G c X fa C → PT X e (LT X.K fa C t) }
def CW (op : BoolOp) (es : List Expr) := { t : DT // ∀ X fa C pos, Hy G c X fa C → PW X (.BoolOp op es pos) (LT X.K fa C t) }
def CV (op : BoolOp) (es : List Expr) := { t : DE // ∀ X fa C pos, Hy G c X fa C → PE X (.BoolOp op es pos) (LE X.K fa C t) }
def CA (es : List Expr) := { t : DA // ∀ X fa C, Hy G c X fa C → PA X es (LA X.K fa C t) }
def CL (e : Expr) := { t : DLs // ∀ X fa C, Hy G c X fa C → PE X e (LL X.K fa C t) }
def CI (tg e : Expr) := { t : DI // ∀ X fa C, Hy G c X fa C → PI X tg e (LI X.K fa C t) }
def CO (e : Option Expr) := { t : DO // ∀ X fa C, Hy G c X fa C → PO X e (LOp X.K fa C t) }
structure CG (e : Expr) where
  g : DG
  ws : List Nat
  ok : ∀ X fa C, Hy G c X fa C → PG X e (LG X.K fa C ws g)
structure CGs (es : List Expr) where
  g : DGs
  ws : List Nat
  ok : ∀ X fa C, Hy G c X fa C → PGs X es (LGs X.K fa C ws g)
def CTs (es : List Expr) := { t : DT // ∀ X fa C, Hy G c X fa C → PTs X es (LT X.K fa C t) }
def CS (s : Stmt) := { t : DS // ∀ X fa C, HyS G c X fa C → PS X s (LS X.K fa C t) }
def CSs (s : List Stmt) := { t : DS // ∀ X fa C, HyS G c X fa C → PSs X s (LS X.K fa C t) }
end

/-! ### side conditions -/
def plainE : Expr → Bool
  | .Starred .. => false
  | .ListComp .. => false
  | .SetComp .. => false
  | .DictComp .. => false
  | .Set .. => false
  | .Slice .. => false
  | _ => true
def notStar : Expr → Bool
  | .Starred .. => false
  | _ => true
def notSet : Expr → Bool
  | .Set .. => false
  | _ => true
def notSlice : Expr → Bool
  | .Slice .. => false
  | _ => true
def notComp : Expr → Bool
  | .ListComp .. => false
  | .SetComp .. => false
  | .DictComp .. => false
  | _ => true
def notCall : Expr → Bool
  | .Call .. => false
  | _ => true
theorem star_ok {e : Expr} {es : List Expr} {env : PySem.Env} (h : notStar e = true) : starEach (e :: es) env = (false, eval e env) :: starEach es env := by
  cases e <;> first | rfl | cases h
theorem stars_ok {pos : Pos} {env : PySem.Env} : ∀ {es : List Expr}, es.all notStar = true → (backTo pos (starEach es env)).any (·.1) = false
  | [], _ => rfl
  | e :: es, h => by
    rw [List.all_cons, Bool.and_eq_true] at h
    rw [star_ok h.1]
    show (false || (backTo pos (starEach es env)).any (·.1)) = false
    rw [stars_ok h.2]
    rfl
theorem stars_len {env : PySem.Env} : ∀ {es : List Expr}, es.all notStar = true → (starEach es env).length = es.length
  | [], _ => rfl
  | e :: es, h => by
    rw [List.all_cons, Bool.and_eq_true] at h
    rw [star_ok h.1]
    exact congrArg (· + 1) (stars_len h.2)
theorem few_ok {pos : Pos} {env : PySem.Env} {es : List Expr} (h : es.all notStar = true) (hl : es.length < 20) :
    (((((backTo pos (starEach es env)).all fun x => !x.fst) && (backToKw pos (keywordEach [] env)).all fun x => x.fst.isSome) && decide ((es.length + ([] : List Keyword).length + if ([] : List Keyword).isEmpty = true then 0 else 1) < 30)) = true) := by
  have h1 : ∀ {es : List Expr}, es.all notStar = true → ((backTo pos (starEach es env)).all fun x => !x.fst) = true := fun {es} h => by
    induction es with
    | nil => rfl
    | cons e es ih =>
      rw [List.all_cons, Bool.and_eq_true] at h
      rw [star_ok h.1]
      exact ih h.2
  rw [h1 h]
  show decide _ = true
  refine decide_eq_true ?_
  show es.length + 0 + 0 < 30
  omega
theorem swap_ok {e : Expr} {tg : Option Expr} {l : Nat} {env : PySem.Env} (h : notComp e = true) : swapsWith e tg l env = pure false := by
  cases e <;> first | rfl | cases h
theorem sole_ok {e tg : Expr} {l : Nat} {env : PySem.Env} (h : notComp e = true) : swapsWithSole [tg] e l env = pure false := swap_ok h
theorem base_ok {o : Expr} {n : Str} {env : PySem.Env} (h : notCall o = true) : attributeBase o n env (eval o env) = eval o env := by
  cases o <;> first | rfl | cases h
theorem ix_ok {b : Expr} (h : notSlice b = true) : PlainIx b := fun o i => by
  cases b <;> first | rfl | cases h
theorem mark_ok {op : CmpOp} {e : Expr} (h : notSet e = true) : behindInMarks op e = false := by
  cases e <;> first | rfl | cases h
theorem fold_ok {e : Expr} {env : PySem.Env} (h : notSet e = true) (x : Value) : foldedSetIterable e env x = pure x := by
  cases e <;> first | rfl | cases h
/-- as a test an expression is taken by its value -/
def byValue : Expr → Bool
  | .UnaryOp .Not _ _ => false
  | .BoolOp .. => false
  | .IfExp .. => false
  | .Compare .. => false
  | _ => true
theorem true_ok {e : Expr} {env : PySem.Env} (h : byValue e = true) (whole : Sem Value) : isTrue e env whole = (do let v ← whole; standAt e.pos; holding [v] (truthy v)) := by
  cases e with
  | UnaryOp op a p => cases op <;> first | rfl | cases h
  | _ => first | rfl | cases h
def glB (sc : Scope) (x : Str) : Bool := match sc.names.lookup x with
  | some .globalImplicit => true
  | _ => false
def visB (sc : Scope) (x : Str) : Bool := match sc.names.lookup x with
  | some .local => true
  | some .cell => true
  | some .free => true
  | _ => false
/-- a name that may be stored -/
def locB (c : Cp) (x : Str) : Bool := match c.sc.names.lookup x with
  | some .local => true
  | some .cell => c.fnb x
  | _ => false
def plainName (x : Str) : Bool := !(x == ("__debug__" : Str)) && !(x == ("__classdict__" : Str)) && !(x == ("__name__" : Str))
section
variable {G : Glb} {c : Cp} {X : Cx} {fa : Org} {C : Ctx} {x : Str}
theorem gl_ok (hy : Hy G c X fa C) (h : glB c.sc x = true) : Gl X x := by
  unfold glB at h
  rw [← hy.sc] at h
  show X.env.scope.names.lookup x = _
  split at h
  · assumption
  · cases h
theorem vis_ok (hy : Hy G c X fa C) (h : visB c.sc x = true) : Vis X.env.scope x := by
  unfold visB at h
  rw [← hy.sc] at h
  split at h
  · exact .inl (by assumption)
  · exact .inr (.inl (by assumption))
  · exact .inr (.inr (by assumption))
  · cases h
theorem loc_ok (hy : Hy G c X fa C) (h : locB c x = true) : Loc X.env.scope x ∧ (X.fn x = true ∨ X.env.scope.names.lookup x = some .local) := by
  unfold locB at h
  rw [← hy.sc, ← hy.fn] at h
  split at h
  · rename_i h1; exact ⟨.inl h1, .inr h1⟩
  · rename_i h1; exact ⟨.inr h1, .inl h⟩
  · cases h
theorem pn_ok (h : plainName x = true) : (x == ("__debug__" : Str)) = false ∧ (x == ("__classdict__" : Str)) = false ∧ x ≠ ("__name__" : Str) := by
  unfold plainName at h
  rw [Bool.and_eq_true, Bool.and_eq_true] at h
  refine ⟨by simpa using h.1.1, by simpa using h.1.2, fun e => ?_⟩
  have := h.2
  rw [e] at this
  simp at this
end
/-- the built-in nm, under its own name -/
def bi (G : Glb) (c : Cp) (f nm : Str) : Bool := decide (f = nm) && (glB c.sc nm && decide (nm ∈ G.free))
theorem bi_ok {G : Glb} {c : Cp} {f nm : Str} (h : bi G c f nm = true) : f = nm ∧ ∀ {X : Cx} {fa : Org} {C : Ctx}, Hy G c X fa C → Gl X nm ∧ X.mg nm = none := by
  unfold bi at h
  rw [Bool.and_eq_true, Bool.and_eq_true] at h
  exact ⟨of_decide_eq_true h.1, fun hy => ⟨gl_ok hy h.2.1, hy.mo.free nm (of_decide_eq_true h.2.2)⟩⟩

/-! ### the steps -/
structure Comp (G : Glb) where
  E : (c : Cp) → (e : Expr) → Option (CE G c e)
  T : (c : Cp) → (e : Expr) → Option (CT G c e)
  W : (c : Cp) → (op : BoolOp) → (es : List Expr) → Option (CW G c op es)
  V : (c : Cp) → (op : BoolOp) → (es : List Expr) → Option (CV G c op es)
  A : (c : Cp) → (es : List Expr) → Option (CA G c es)
  L : (c : Cp) → (e : Expr) → Option (CL G c e)
  I : (c : Cp) → (tg e : Expr) → Option (CI G c tg e)
  O : (c : Cp) → (e : Option Expr) → Option (CO G c e)
  Gt : (c : Cp) → (e : Expr) → Option (CG G c e)
  Gs : (c : Cp) → (es : List Expr) → Option (CGs G c es)
  S : (c : Cp) → (s : Stmt) → Option (CS G c s)
  Ss : (c : Cp) → (s : List Stmt) → Option (CSs G c s)
def binD : Operator → Option DOp
  | .Add => some opAdd
  | .Sub => some opSub
  | .Mult => some opMul
  | .FloorDiv => some opDiv
  | .Mod => some opMod
  | .Pow => some opPow
  | .LShift => some opShl
  | .RShift => some opShr
  | .BitAnd => some opAnd
  | .BitOr => some opOr
  | .BitXor => some opXor
  | _ => none
theorem binD_ok {X : Cx} {fa : Org} {op : Operator} {o : DOp} (h : binD op = some o) : OpR X (binaryOp op) (LO X.K fa o) := by
  cases op <;> first | (cases h; done) | skip
  all_goals
    cases h
    first | exact o_add | exact o_sub | exact o_mul | exact o_div | exact o_mod | exact o_pow | exact o_shl | exact o_shr | exact o_and | exact o_or | exact o_xor
def cmpD : CmpOp → Option DOp
  | .Lt => some opLt
  | .LtE => some opLe
  | .Gt => some opGt
  | .GtE => some opGe
  | .Eq => some opEq
  | .NotEq => some opNe
  | .Is => some opIs
  | .IsNot => some opIsNot
  | .In => some (inD false)
  | .NotIn => some (inD true)
theorem cmpD_ok {X : Cx} {fa : Org} {op : CmpOp} {o : DOp} (hu : X.A.units + 65 < cLine) (h : cmpD op = some o) : OpR X (compareOp op) (LO X.K fa o) := by
  cases op <;> cases h
  · exact o_eq (by omega)
  · exact o_ne (by omega)
  · exact o_lt
  · exact o_le
  · exact o_gt
  · exact o_ge
  · exact o_is
  · exact o_isnot
  · exact o_in hu
  · exact o_notin hu

theorem Mo.blk {G : Glb} {hot : Bool} {X : Cx} {fa : Org} {call : Nat → DSp} (m : Mo G hot X fa call) {s : Shared} {H : Hp} {scope : Scope} {cenv : PySem.Env} {fp : List Addr} : Mo G hot (X.blk s H scope cenv fp) fa call := ⟨m.hu, m.free, m.bfn, m.nums, m.btys, m.tups, m.nam, m.fn, m.hfn, m.cls, m.clf, m.ini⟩
/-- the block of a comprehension -/
def blkCp (c : Cp) (scope : Scope) : Cp := { c with sc := relS scope c.sc, fnb := fun x => scope.names.lookup x == some .cell, lam := false, xc := none, hot := false }
theorem Hy.blk {G : Glb} {c : Cp} {X : Cx} {fa : Org} {C : Ctx} (hy : Hy G c X fa C) (hh : c.hot = false) (hx : c.xc = none) {scope : Scope} (s : Shared) (H : Hp) (Ca : Addr) (cl : List (Str × Addr)) (fp : List Addr) : Hy G (blkCp c scope) (X.blk s H scope (compEnvC scope cl Ca X.env) fp) fa C.calm where
  N := hy.N
  nd := hy.nd
  sc := by
    show relabel scope X.env = relS scope c.sc
    rw [← hy.sc]
    rfl
  fn := rfl
  calm := fun _ => hy.calm hh
  mo := by
    have m := hy.mo.blk (s := s) (H := H) (scope := scope) (cenv := compEnvC scope cl Ca X.env) (fp := fp)
    rw [hh] at m
    exact m
  xs := XS.calm
  lam := nofun
  hz := fun _ => hy.hz hx
  sx := nofun

/-! ### expressions -/
/-- built in, and nothing is handled -/
def bic (G : Glb) (c : Cp) (f nm : Str) : Bool := !c.hot && bi G c f nm
theorem bic_ok {G : Glb} {c : Cp} {f nm : Str} (h : bic G c f nm = true) : bi G c f nm = true ∧ c.hot = false := by
  unfold bic at h
  rw [Bool.and_eq_true] at h
  exact ⟨h.2, by simpa using h.1⟩
section
variable {G : Glb} (p : Comp G) (c : Cp)
/-- a name: a slot; a def; a module's constant -/
def stepName (x : Str) (pos : Pos) : Option (CE G c (.Name x pos)) :=
  if hp : plainName x = true then
    if hv : visB c.sc x = true then
      match hi : c.N.findIdx? (fun y => decide (y = x)) with
      | some i => (match hN : c.N[i]? with
        | some y => if hy : y = x then some ⟨eVar i, fun X fa C h => d_var (by rw [h.N, hN, hy]) (vis_ok h hv) (pn_ok hp).1 (pn_ok hp).2.1⟩ else none
        | none => none)
      | none => none
    else if hg : glB c.sc x = true then
      match hn : G.nums.find? (fun q => decide (q.1 = x)) with
      | some q => if hx : q.1 = x ∧ q ∈ G.nums then some ⟨eK (.int q.2), fun X fa C h => by
          obtain ⟨t, e⟩ := h.mo.nums q hx.2
          rw [hx.1] at e
          exact d_glob (gl_ok h hg) e (v := .int q.2) ⟨t, rfl⟩ (fun _ _ => .int _) (pn_ok hp).1⟩ else none
      | none => (match ht : G.tups.find? (fun q => decide (q.1 = x)) with
        | some q => if hx : q.1 = x then some ⟨eK (.kup q.2), fun X fa C h => by
            obtain ⟨a, e, r⟩ := h.mo.tups q (List.mem_of_find?_eq_some ht)
            rw [hx] at e
            exact d_glob (gl_ok h hg) e (v := .ref a) rfl r (pn_ok hp).1⟩ else none
        | none => (match hf : G.fns.findIdx? (fun q => decide (q.1 = x)) with
          | some i => (match hq : G.fns[i]? with
            | some q => if hx : q.1 = x then some ⟨eK (.fn i), fun X fa C h => by
                obtain ⟨y, ps⟩ := q
                obtain ⟨e, _⟩ := h.mo.nam i y ps hq
                have hx : y = x := hx
                subst hx
                exact d_glob (gl_ok h hg) e (v := .ref (fa.fn i)) rfl (fun _ _ => .fn i) (pn_ok hp).1⟩ else none
            | none => none)
          | none => none))
    else none
  else none
/-- f(a) -/
def stepCall1 (f : Str) (pf : Pos) (a : Expr) (pos : Pos) : Option (CE G c (.Call (.Name f pf) [a] [] pos)) :=
  if hs : notStar a = true then
    if hb : bi G c f "len" = true then (match p.L c a with
      | some ta => some ⟨eFL cLen ta.1, fun X fa C h => by
          obtain ⟨e, k⟩ := bi_ok hb
          subst e
          exact d_callBL c_len (k h).1 (k h).2 PySem.boot_len (ta.2 X fa C h) (by decide) (by decide) (star_ok hs) rfl⟩
      | none => (p.A c [a]).map fun ta => ⟨eF fLen ta.1, fun X fa C h => by
          obtain ⟨e, k⟩ := bi_ok hb
          subst e
          exact d_callB f_len (k h).1 (k h).2 PySem.boot_len (ta.2 X fa C h) (by decide) (by decide) (star_ok hs) rfl⟩)
    else if hb : bi G c f "tuple" = true then (match p.L c a with
      | some ta => some ⟨eTupL ta.1, fun X fa C h => by
          obtain ⟨e, k⟩ := bi_ok hb
          subst e
          exact d_tupL (k h).1 (k h).2 (ta.2 X fa C h) (star_ok hs) rfl⟩
      | none => (p.A c [a]).map fun ta => ⟨eF fTuple ta.1, fun X fa C h => by
          obtain ⟨e, k⟩ := bi_ok hb
          subst e
          exact d_callTy f_tuple (k h).1 (k h).2 (by decide +kernel) (ta.2 X fa C h) (by decide) (by decide) (star_ok hs) rfl⟩)
    else if hb : bi G c f "list" = true then (p.A c [a]).map fun ta => ⟨eF fList ta.1, fun X fa C h => by
          obtain ⟨e, k⟩ := bi_ok hb
          subst e
          exact d_callTy f_list (k h).1 (k h).2 (by decide +kernel) (ta.2 X fa C h) (by decide) (by decide) (star_ok hs) rfl⟩
    else if hb : bi G c f "int" = true then (p.A c [a]).map fun ta => ⟨eF fInt ta.1, fun X fa C h => by
          obtain ⟨e, k⟩ := bi_ok hb
          subst e
          exact d_callTy f_int (k h).1 (k h).2 (by decide +kernel) (ta.2 X fa C h) (by decide) (by decide) (star_ok hs) rfl⟩
    else if hb : bi G c f "bool" = true then (p.A c [a]).map fun ta => ⟨eF fBool ta.1, fun X fa C h => by
          obtain ⟨e, k⟩ := bi_ok hb
          subst e
          exact d_callTy f_bool (k h).1 (k h).2 (by decide +kernel) (ta.2 X fa C h) (by decide) (by decide) (star_ok hs) rfl⟩
    else if hb : bi G c f "abs" = true then (p.A c [a]).map fun ta => ⟨eF fAbs ta.1, fun X fa C h => by
          obtain ⟨e, k⟩ := bi_ok hb
          subst e
          exact d_callB f_abs (k h).1 (k h).2 (by decide +kernel) (ta.2 X fa C h) (by decide) (by decide) (star_ok hs) rfl⟩
    else if hb : bic G c f "sum" = true then (match p.L c a with
      | some ta => some ⟨eFL cSum ta.1, fun X fa C h => by
          obtain ⟨e, k⟩ := bi_ok (bic_ok hb).1
          subst e
          exact d_callBL (c_sum (h.calm (bic_ok hb).2)) (k h).1 (k h).2 (by decide +kernel) (ta.2 X fa C h) (by decide) (by decide) (star_ok hs) rfl⟩
      | none => (p.A c [a]).map fun ta => ⟨eF (fC cSum false) ta.1, fun X fa C h => by
          obtain ⟨e, k⟩ := bi_ok (bic_ok hb).1
          subst e
          exact d_callB (fc_l (c_sum (h.calm (bic_ok hb).2))) (k h).1 (k h).2 (by decide +kernel) (ta.2 X fa C h) (by decide) (by decide) (star_ok hs) rfl⟩)
    else if hb : bic G c f "any" = true then (match p.L c a with
      | some ta => some ⟨eFL cAny ta.1, fun X fa C h => by
          obtain ⟨e, k⟩ := bi_ok (bic_ok hb).1
          subst e
          exact d_callBL (c_any (h.calm (bic_ok hb).2)) (k h).1 (k h).2 (by decide +kernel) (ta.2 X fa C h) (by decide) (by decide) (star_ok hs) rfl⟩
      | none => none)
    else if hb : bic G c f "all" = true then (match p.L c a with
      | some ta => some ⟨eFL cAll ta.1, fun X fa C h => by
          obtain ⟨e, k⟩ := bi_ok (bic_ok hb).1
          subst e
          exact d_callBL (c_all (h.calm (bic_ok hb).2)) (k h).1 (k h).2 (by decide +kernel) (ta.2 X fa C h) (by decide) (by decide) (star_ok hs) rfl⟩
      | none => none)
    else if hb : bic G c f "max" = true then (match p.L c a with
      | some ta => some ⟨eFL cMax ta.1, fun X fa C h => by
          obtain ⟨e, k⟩ := bi_ok (bic_ok hb).1
          subst e
          exact d_callBL (c_max (h.calm (bic_ok hb).2)) (k h).1 (k h).2 (by decide +kernel) (ta.2 X fa C h) (by decide) (by decide) (star_ok hs) rfl⟩
      | none => (p.A c [a]).map fun ta => ⟨eF (fC cMax false) ta.1, fun X fa C h => by
          obtain ⟨e, k⟩ := bi_ok (bic_ok hb).1
          subst e
          exact d_callB (fc_l (c_max (h.calm (bic_ok hb).2))) (k h).1 (k h).2 (by decide +kernel) (ta.2 X fa C h) (by decide) (by decide) (star_ok hs) rfl⟩)
    else if hb : bic G c f "min" = true then (match p.L c a with
      | some ta => some ⟨eFL cMin ta.1, fun X fa C h => by
          obtain ⟨e, k⟩ := bi_ok (bic_ok hb).1
          subst e
          exact d_callBL (c_min (h.calm (bic_ok hb).2)) (k h).1 (k h).2 (by decide +kernel) (ta.2 X fa C h) (by decide) (by decide) (star_ok hs) rfl⟩
      | none => (p.A c [a]).map fun ta => ⟨eF (fC cMin false) ta.1, fun X fa C h => by
          obtain ⟨e, k⟩ := bi_ok (bic_ok hb).1
          subst e
          exact d_callB (fc_l (c_min (h.calm (bic_ok hb).2))) (k h).1 (k h).2 (by decide +kernel) (ta.2 X fa C h) (by decide) (by decide) (star_ok hs) rfl⟩)
    else none
  else none
/-- f(a, b), built in -/
def stepCall2 (f : Str) (pf : Pos) (a b : Expr) (pos : Pos) : Option (CE G c (.Call (.Name f pf) [a, b] [] pos)) :=
  if hs : notStar a = true ∧ notStar b = true then
    if hb : bi G c f "isinstance" = true then (match b with
      | .Name x p2 => (match p.E c a with
        | some ta => (match (["int", "bool", "str", "tuple", "list", "dict"] : List String).find? (fun T => decide (x = (Str.ofString T))) with
          | some T => if hT : x = Str.ofString T ∧ glB c.sc x = true ∧ x ∈ G.free ∧ plainName x = true ∧ bootBuiltins x = some (.type T) then some ⟨eIsi T ta.1, fun X fa C h => by
              obtain ⟨e, k⟩ := bi_ok hb
              subst e
              exact d_isi (k h).1 (k h).2 (gl_ok h hT.2.1) (h.mo.free x hT.2.2.1) hT.2.2.2.2 (pn_ok hT.2.2.2.1).2.2 (pn_ok hT.2.2.2.1).1 (ta.2 X fa C h) (star_ok hs.1) rfl rfl⟩ else none
          | none => none)
        | none => none)
      | _ => none)
    else if hb : bic G c f "max" = true then (p.A c [a, b]).map fun ta => ⟨eF fMax2 ta.1, fun X fa C h => by
          obtain ⟨e, k⟩ := bi_ok (bic_ok hb).1
          subst e
          exact d_callB (f_max2 (h.calm (bic_ok hb).2)) (k h).1 (k h).2 (by decide +kernel) (ta.2 X fa C h) (by decide) (by decide) (star_ok hs.1) (stars_ok (by simp [hs.2]))⟩
    else if hb : bic G c f "min" = true then (p.A c [a, b]).map fun ta => ⟨eF fMin2 ta.1, fun X fa C h => by
          obtain ⟨e, k⟩ := bi_ok (bic_ok hb).1
          subst e
          exact d_callB (f_min2 (h.calm (bic_ok hb).2)) (k h).1 (k h).2 (by decide +kernel) (ta.2 X fa C h) (by decide) (by decide) (star_ok hs.1) (stars_ok (by simp [hs.2]))⟩
    else if hb : decide ((f, "math.gcd") ∈ G.bfn) = true ∧ glB c.sc f = true ∧ plainName f = true then (p.A c [a, b]).map fun ta => ⟨eF fGcd ta.1, fun X fa C h =>
          d_callBfun f_gcd (gl_ok h hb.2.1) (h.mo.bfn _ (of_decide_eq_true hb.1)) (ta.2 X fa C h) (pn_ok hb.2.2).1 (star_ok hs.1) (stars_ok (by simp [hs.2]))⟩
    else none
  else none
/-- f(..), a def of the text -/
def stepOwn (f : Str) (pf : Pos) (a : Expr) (as : List Expr) (pos : Pos) : Option (CE G c (.Call (.Name f pf) (a :: as) [] pos)) :=
  if hg : glB c.sc f = true ∧ plainName f = true ∧ notStar a = true ∧ as.all notStar = true then
    match hf : G.fns.findIdx? (fun q => decide (q.1 = f)) with
    | some i => (match hq : G.fns[i]? with
      | some q => if hx : q.1 = f then
          if hh : c.hot = false then (p.A c (a :: as)).map fun ta => ⟨eCall i ta.1, fun X fa C h => by
            obtain ⟨y, ps⟩ := q
            have hx : y = f := hx
            subst hx
            exact d_call h.xs (hh ▸ h.mo) hq (gl_ok h hg.1) (ta.2 X fa C h) (pn_ok hg.2.1).1 (star_ok hg.2.2.1) (stars_ok hg.2.2.2)⟩
          else (match hj : G.hot.findIdx? (fun z => decide (z = i)) with
            | some j => if hi : G.hot[j]? = some i then (p.A c (a :: as)).map fun ta => ⟨eCall (G.fns.length + j) ta.1, fun X fa C h => by
                obtain ⟨y, ps⟩ := q
                have hx : y = f := hx
                subst hx
                exact d_callH h.xs h.mo hi hq (gl_ok h hg.1) (ta.2 X fa C h) (pn_ok hg.2.1).1 (star_ok hg.2.2.1) (stars_ok hg.2.2.2)⟩ else none
            | none => none)
        else none
      | none => none)
    | none => none
  else none
def stepMeth (o : Expr) (m : Str) (apos : Pos) (as : List Expr) (pos : Pos) : Option (CE G c (.Call (.Attribute o m apos) as [] pos)) :=
  if hb : notCall o = true ∧ (apos.endLine == pos.line) = true ∧ as.all notStar = true ∧ as.length < 20 then
    match p.E c o with
    | some to => (match as with
      | [] => if hm : m = "pop" then some ⟨eM "list" mPop to.1 aNil, fun X fa C h => by
            subst hm
            exact d_meth0 PySem.F.plainAttrs_list PySem.F.slot_list_pop PySem.F.type_list_pop m_pop (to.2 X fa C h) (base_ok hb.1) hb.2.1⟩
          else if hm : m = "reverse" then some ⟨eM "list" mReverse to.1 aNil, fun X fa C h => by
            subst hm
            exact d_meth0 PySem.F.plainAttrs_list PySem.F.slot_list_reverse PySem.F.type_list_reverse m_reverse (to.2 X fa C h) (base_ok hb.1) hb.2.1⟩
          else if hm : m = "bit_length" then some ⟨eM "int" mBits to.1 aNil, fun X fa C h => by
            subst hm
            exact d_bits (to.2 X fa C h) (base_ok hb.1) hb.2.1⟩
          else none
      | a :: as => (match p.A c (a :: as) with
        | some ta => if hm : m = "append" then some ⟨eM "list" mAppend to.1 ta.1, fun X fa C h => by
            subst hm
            have hs : notStar a = true ∧ as.all notStar = true := by simpa using hb.2.2.1
            exact d_meth PySem.F.plainAttrs_list PySem.F.slot_list_append PySem.F.type_list_append m_append (to.2 X fa C h) (ta.2 X fa C h) (base_ok hb.1) (few_ok hb.2.2.1 hb.2.2.2) hb.2.1 (star_ok hs.1) (stars_ok hs.2)⟩
          else if hm : m = "extend" then some ⟨eM "list" mExtend to.1 ta.1, fun X fa C h => by
            subst hm
            have hs : notStar a = true ∧ as.all notStar = true := by simpa using hb.2.2.1
            exact d_meth PySem.F.plainAttrs_list PySem.F.slot_list_extend PySem.F.type_list_extend m_extend (to.2 X fa C h) (ta.2 X fa C h) (base_ok hb.1) (few_ok hb.2.2.1 hb.2.2.2) hb.2.1 (star_ok hs.1) (stars_ok hs.2)⟩
          else if hm : m = "pop" then some ⟨eM "list" mPop to.1 ta.1, fun X fa C h => by
            subst hm
            have hs : notStar a = true ∧ as.all notStar = true := by simpa using hb.2.2.1
            exact d_meth PySem.F.plainAttrs_list PySem.F.slot_list_pop PySem.F.type_list_pop m_pop (to.2 X fa C h) (ta.2 X fa C h) (base_ok hb.1) (few_ok hb.2.2.1 hb.2.2.2) hb.2.1 (star_ok hs.1) (stars_ok hs.2)⟩
          else none
        | none => none))
    | none => none
  else none
def stepE (e : Expr) : Option (CE G c e) := match e with
  | .Name x pos => stepName c x pos
  | .Constant (.int i) _ _ => some ⟨eK (.int i), fun X fa C h => d_int⟩
  | .Constant (.bool b) _ _ => some ⟨eK (.bl b), fun X fa C h => d_bl⟩
  | .Constant .none _ _ => some ⟨eK .non, fun X fa C h => d_non⟩
  | .Constant (.str s) _ _ => some ⟨eK (.str s), fun X fa C h => d_str⟩
  | .BinOp a op b pos => (match p.E c a, p.E c b, ho : binD op with
    | some ta, some tb, some o => some ⟨eBin o ta.1 tb.1, fun X fa C h => d_bin (binD_ok ho) (ta.2 X fa C h) (tb.2 X fa C h)⟩
    | _, _, _ => none)
  | .UnaryOp .USub a pos => (p.E c a).map fun ta => ⟨eUn opNeg ta.1, fun X fa C h => d_un o_neg (ta.2 X fa C h)⟩
  | .UnaryOp .Not a pos => (p.E c a).map fun ta => ⟨eNot ta.1, fun X fa C h => d_not (ta.2 X fa C h)⟩
  | .BoolOp op es pos => (p.V c op es).map fun ta => ⟨ta.1, fun X fa C h => ta.2 X fa C pos h⟩
  | .Compare a [op] [b] pos => if hm : notSet b = true then (match p.E c a, p.E c b, ho : cmpD op with
    | some ta, some tb, some o => some ⟨eBin o ta.1 tb.1, fun X fa C h => d_cmp (cmpD_ok h.mo.hu ho) (ta.2 X fa C h) (tb.2 X fa C h) (mark_ok hm)⟩
    | _, _, _ => none) else none
  | .Compare a [op, op'] [b, d] pos => if hm : notSet d = true then (match p.E c a, p.E c b, p.E c d, ho : cmpD op, ho' : cmpD op' with
    | some ta, some tb, some td, some o, some o' => some ⟨eChain o o' ta.1 tb.1 td.1, fun X fa C h => d_chain (cmpD_ok h.mo.hu ho) (cmpD_ok h.mo.hu ho') (ta.2 X fa C h) (tb.2 X fa C h) (td.2 X fa C h) (mark_ok (op := op') hm)⟩
    | _, _, _, _, _ => none) else none
  | .IfExp t a b pos => (match p.T c t, p.E c a, p.E c b with
    | some tt, some ta, some tb => some ⟨eIf tt.1 ta.1 tb.1, fun X fa C h => d_if (tt.2 X fa C h) (ta.2 X fa C h) (tb.2 X fa C h)⟩
    | _, _, _ => none)
  | .Tuple es _ pos => (p.A c es).map fun ta => ⟨eTup ta.1, fun X fa C h => d_tup (ta.2 X fa C h)⟩
  | .List es pos => (p.A c es).map fun ta => ⟨eLst ta.1, fun X fa C h => d_lst (ta.2 X fa C h)⟩
  | .Subscript a (.Slice lo hi none p2) pos => (match p.E c a, p.O c lo, p.O c hi with
    | some ta, some tl, some th => some ⟨eCut ta.1 tl.1 th.1, fun X fa C h => d_cut (ta.2 X fa C h) (tl.2 X fa C h) (th.2 X fa C h)⟩
    | _, _, _ => none)
  | .Subscript a b pos => if hb : notSlice b = true then (match p.E c a, p.E c b with
    | some ta, some tb => some ⟨eBin opIx ta.1 tb.1, fun X fa C h => (pe_ix (i_ix (by have := h.mo.hu; omega)) (ta.2 X fa C h) (tb.2 X fa C h) (ix_ok hb)).imp fun _ _ _ q => two q⟩
    | _, _ => none) else none
  | .Call (.Name f pf) [a] [] pos => (match stepOwn p c f pf a [] pos with
    | some t => some t
    | none => stepCall1 p c f pf a pos)
  | .Call (.Name f pf) [a, b] [] pos => (match stepOwn p c f pf a [b] pos with
    | some t => some t
    | none => stepCall2 p c f pf a b pos)
  | .Call (.Name f pf) (a :: as) [] pos => stepOwn p c f pf a as pos
  | .Call (.Attribute o m apos) as [] pos => stepMeth p c o m apos as pos
  | .ListComp elt gs scope pos => (p.L c (.ListComp elt gs scope pos)).map fun ta => ⟨eNew ta.1, fun X fa C h => d_new (ta.2 X fa C h)⟩
  | _ => none
def stepT (e : Expr) : Option (CT G c e) := match e with
  | .BoolOp op es pos => (p.W c op es).map fun ta => ⟨ta.1, fun X fa C h => (ta.2 X fa C pos h).pt⟩
  | .UnaryOp .Not a pos => (p.T c a).map fun ta => ⟨tNot ta.1, fun X fa C h => t_not (ta.2 X fa C h)⟩
  | .Compare a [op] [b] pos => if hm : notSet b = true then (match p.E c a, p.E c b, ho : cmpD op with
    | some ta, some tb, some o => some ⟨tOf (eBin o ta.1 tb.1), fun X fa C h => t_cmp (cmpD_ok h.mo.hu ho) (ta.2 X fa C h) (tb.2 X fa C h) (mark_ok hm)⟩
    | _, _, _ => none) else none
  | .Compare a [op, op'] [b, d] pos => if hm : notSet d = true then (match p.E c a, p.E c b, p.E c d, ho : cmpD op, ho' : cmpD op' with
    | some ta, some tb, some td, some o, some o' => some ⟨tOf (eChain o o' ta.1 tb.1 td.1), fun X fa C h => t_chain (cmpD_ok h.mo.hu ho) (cmpD_ok h.mo.hu ho') (ta.2 X fa C h) (tb.2 X fa C h) (td.2 X fa C h) (mark_ok (op := op') hm)⟩
    | _, _, _, _, _ => none) else none
  | e => if hv : byValue e = true then (p.E c e).map fun ta => ⟨tTru ta.1, fun X fa C h => t_tru (ta.2 X fa C h) (true_ok hv)⟩ else none
def stepW (op : BoolOp) (es : List Expr) : Option (CW G c op es) := match op, es with
  | .And, [a] => (p.T c a).map fun ta => ⟨ta.1, fun X fa C pos h => t_and1 (ta.2 X fa C h)⟩
  | .Or, [a] => (p.T c a).map fun ta => ⟨ta.1, fun X fa C pos h => t_or1 (ta.2 X fa C h)⟩
  | .And, a :: b :: es => (match p.T c a, p.W c .And (b :: es) with
    | some ta, some tb => some ⟨tAnd ta.1 tb.1, fun X fa C pos h => t_and (ta.2 X fa C h) (tb.2 X fa C pos h)⟩
    | _, _ => none)
  | .Or, a :: b :: es => (match p.T c a, p.W c .Or (b :: es) with
    | some ta, some tb => some ⟨tOr ta.1 tb.1, fun X fa C pos h => t_or (ta.2 X fa C h) (tb.2 X fa C pos h)⟩
    | _, _ => none)
  | _, _ => none
def stepV (op : BoolOp) (es : List Expr) : Option (CV G c op es) := match op, es with
  | op, [a] => (p.E c a).map fun ta => ⟨ta.1, fun X fa C pos h => d_one (ta.2 X fa C h)⟩
  | .And, a :: b :: es => (match p.E c a, p.V c .And (b :: es) with
    | some ta, some tb => some ⟨eAnd ta.1 tb.1, fun X fa C pos h => d_and (ta.2 X fa C h) (tb.2 X fa C pos h)⟩
    | _, _ => none)
  | .Or, a :: b :: es => (match p.E c a, p.V c .Or (b :: es) with
    | some ta, some tb => some ⟨eOr ta.1 tb.1, fun X fa C pos h => d_or (ta.2 X fa C h) (tb.2 X fa C pos h)⟩
    | _, _ => none)
  | _, _ => none
def stepA (es : List Expr) : Option (CA G c es) := match es with
  | [] => some ⟨aNil, fun X fa C h => a_nil⟩
  | e :: es => if hs : notStar e = true then (match p.E c e, p.A c es with
    | some te, some ta => some ⟨aCons te.1 ta.1, fun X fa C h => a_cons (te.2 X fa C h) (ta.2 X fa C h) (star_ok hs)⟩
    | _, _ => none) else none
def stepO (e : Option Expr) : Option (CO G c e) := match e with
  | none => some ⟨oNone, fun X fa C h => o_none⟩
  | some e => (p.E c e).map fun ta => ⟨oSome ta.1, fun X fa C h => o_some (ta.2 X fa C h)⟩
def stepTs (es : List Expr) : Option (CTs G c es) := match es with
  | [] => some ⟨tYesD, fun X fa C h => ts_nil⟩
  | [e] => (p.T c e).map fun ta => ⟨ta.1, fun X fa C h => ts_one (ta.2 X fa C h)⟩
  | _ => none
/-- the block's own names with their places -/
def ownOf (N : List Str) (scope : Scope) : List (Str × Nat) := scope.names.filterMap fun y => match y.2 with
  | .local => (N.findIdx? (fun z => decide (z = y.1))).map fun i => (y.1, i)
  | .cell => (N.findIdx? (fun z => decide (z = y.1))).map fun i => (y.1, i)
  | _ => none
def stepL (e : Expr) : Option (CL G c e) := match e with
  | .ListComp elt [⟨tg, iter, ifs, 0⟩] scope pos =>
    if hb : blkC c.N c.sc scope (ownOf c.N scope) = true ∧ notSet iter = true ∧ c.hot = false ∧ c.xc = none then
      (match p.I c tg iter, p.Gt (blkCp c scope) tg, stepTs p (blkCp c scope) ifs, p.E (blkCp c scope) elt with
      | some ti, some tg, some tt, some te => if hw : (tg.ws.all fun i => decide (i ∈ (ownOf c.N scope).map (·.2))) = true then
          some ⟨lcomp ti.1 tg.g tt.1 te.1 ((ownOf c.N scope).map (·.2)), fun X fa C h =>
            l_comp (h.hz hb.2.2.2) (h.calm hb.2.2.1) h.nd (ti.2 X fa C h) (blkOk_by (by rw [h.N, h.sc]; exact hb.1)) (fun i hi => of_decide_eq_true (List.all_eq_true.mp hw i hi)) (fun s H Ca cl fp => tg.ok _ fa _ (h.blk hb.2.2.1 hb.2.2.2 s H Ca cl fp)) (fun s H Ca cl fp => tt.2 _ fa _ (h.blk hb.2.2.1 hb.2.2.2 s H Ca cl fp))
              (fun s H Ca cl fp => te.2 _ fa _ (h.blk hb.2.2.1 hb.2.2.2 s H Ca cl fp)) (fold_ok hb.2.1)⟩ else none
      | _, _, _, _ => none)
    else none
  | _ => none
def stepI (tg e : Expr) : Option (CI G c tg e) := match e with
  | .Call (.Name f pf) [a] [] pos => if hb : bi G c f "range" = true ∧ notStar a = true then (p.E c a).map fun ta => ⟨iRng1 ta.1, fun X fa C h => by
        obtain ⟨e, k⟩ := bi_ok hb.1
        subst e
        exact i_rng1 (k h).1 (k h).2 (ta.2 X fa C h) (star_ok hb.2)⟩
      else (p.E c (.Call (.Name f pf) [a] [] pos)).map fun ta => ⟨iSeq ta.1, fun X fa C h => i_seq (ta.2 X fa C h)⟩
  | .Call (.Name f pf) [a, b] [] pos => if hb : bi G c f "range" = true ∧ notStar a = true ∧ notStar b = true then (match p.E c a, p.E c b with
      | some ta, some tb => some ⟨iRng2 ta.1 tb.1, fun X fa C h => by
        obtain ⟨e, k⟩ := bi_ok hb.1
        subst e
        exact i_rng2 (k h).1 (k h).2 (ta.2 X fa C h) (tb.2 X fa C h) (by rw [star_ok hb.2.1, star_ok hb.2.2]; rfl) (star_ok hb.2.2)⟩
      | _, _ => none)
      else (p.E c (.Call (.Name f pf) [a, b] [] pos)).map fun ta => ⟨iSeq ta.1, fun X fa C h => i_seq (ta.2 X fa C h)⟩
  | .Call (.Name f pf) [a, b, d] [] pos => if hb : bi G c f "range" = true ∧ notStar a = true ∧ notStar b = true ∧ notStar d = true then (match p.E c a, p.E c b, p.E c d with
      | some ta, some tb, some td => some ⟨iRng3 ta.1 tb.1 td.1, fun X fa C h => by
        obtain ⟨e, k⟩ := bi_ok hb.1
        subst e
        exact i_rng3 (k h).1 (k h).2 (ta.2 X fa C h) (tb.2 X fa C h) (td.2 X fa C h) (star_ok hb.2.1) (star_ok hb.2.2.1) (star_ok hb.2.2.2) (stars_ok (by simp [hb.2.2]))⟩
      | _, _, _ => none)
      else (p.E c (.Call (.Name f pf) [a, b, d] [] pos)).map fun ta => ⟨iSeq ta.1, fun X fa C h => i_seq (ta.2 X fa C h)⟩
  | e => (p.E c e).map fun ta => ⟨iSeq ta.1, fun X fa C h => i_seq (ta.2 X fa C h)⟩
def stepG (e : Expr) : Option (CG G c e) := match e with
  | .Name x pos => if hl : locB c x = true ∧ c.xc = none then
      match hi : c.N.findIdx? (fun y => decide (y = x)) with
      | some i => if hN : c.N[i]? = some x then some ⟨gName i, [i], fun X fa C h => g_name h.nd (by rw [h.N]; exact hN) (loc_ok h hl.1).1 (loc_ok h hl.1).2 (h.hz hl.2)⟩ else none
      | none => none
      else none
  | .Tuple es k pos => if hs : es.all notStar = true ∧ c.hot = false then (p.Gs c es).map fun gs => ⟨gTup es.length gs.g, gs.ws, fun X fa C h => g_tup (h.calm hs.2) (gs.ok X fa C h) (asg_len hs.1) (asg_idx hs.1)⟩ else none
  | .Subscript o i pos => if hb : notSlice i = true then (match p.E c o, p.E c i with
    | some to, some ti => some ⟨gSub to.1 ti.1, [], fun X fa C h => g_sub (by have := h.mo.hu; omega) (to.2 X fa C h) (ti.2 X fa C h) (fun v => asg_sub hb v)⟩
    | _, _ => none) else none
  | _ => none
where
  asg_len {env : PySem.Env} : ∀ {es : List Expr}, es.all notStar = true → (assignEach es env).length = es.length
    | [], _ => rfl
    | e :: es, h => by
      rw [List.all_cons, Bool.and_eq_true] at h
      have : assignEach (e :: es) env = (false, assign e env) :: assignEach es env := by
        obtain ⟨h1, _⟩ := h
        cases e <;> first | rfl | cases h1
      rw [this]
      exact congrArg (· + 1) (asg_len h.2)
  asg_idx {env : PySem.Env} : ∀ {es : List Expr}, es.all notStar = true → (assignEach es env).findIdx? (·.1) = none
    | [], _ => rfl
    | e :: es, h => by
      rw [List.all_cons, Bool.and_eq_true] at h
      have : assignEach (e :: es) env = (false, assign e env) :: assignEach es env := by
        obtain ⟨h1, _⟩ := h
        cases e <;> first | rfl | cases h1
      rw [this, List.findIdx?_cons, asg_idx h.2]
      rfl
  asg_sub {o i : Expr} {pos : Pos} {env : PySem.Env} (h : notSlice i = true) (v : Value) : assign (.Subscript o i pos) env v = (do
      let ov ← holding [v] (eval o env)
      let iv ← holding [v, ov] (eval i env)
      standAt pos
      holding [v, ov, iv] (setItem ov iv v)
      release [v, ov, iv] []) := by
    cases i <;> first | rfl | cases h
def stepGs (es : List Expr) : Option (CGs G c es) := match es with
  | [] => some ⟨gNil, [], fun X fa C h => gs_nil⟩
  | e :: es => if hs : notStar e = true then (match p.Gt c e, p.Gs c es with
    | some g, some gs => some ⟨gCons g.g gs.g, g.ws ++ gs.ws, fun X fa C h => gs_cons (g.ok X fa C h) (gs.ok X fa C h) (by cases e <;> first | rfl | cases hs)⟩
    | _, _ => none) else none
end
end DL

/-! The data layer, part 9: statements, compiled. -/
namespace DL
open PySem PySem.Spec PyProof.Rows L2

/-! ### x op= e -/
def iaAdd : DOp := fun d e M P => match d, e with
  | .int i, .int j => P (.int (i + j)) M
  | .str a, .str b => a.length + b.length ≤ sizeLine ∧ P (.str (a ++ b)) M
  | .ref m, .ref n => (match M[m]?, M[n]? with
    | some (.lst xs), some (.lst ys) => xs.length + ys.length ≤ sizeLine ∧ P (.ref m) (M.set m (.lst (xs ++ ys)))
    | _, _ => False)
  | _, _ => False
def iaMul : DOp := fun d e M P => match d, e with
  | .int i, .int j => IntMulOk i j ∧ P (.int (i * j)) M
  | _, _ => False
section
variable {X : Cx} {fa : Org}
theorem io_add : OpR X (inplaceOp .Add) (LO X.K fa iaAdd) := ((iop_add.or iop_add_str).or iop_ext).imp fun x y H Q ⟨M, α, d, e, P, st, rx, ry, h, an⟩ => by
  unfold iaAdd at h
  split at h
  · cases rx; cases ry; exact .inl (.inl ⟨_, _, rfl, rfl, an.here st (.int _) h⟩)
  · cases rx; cases ry; exact .inl (.inr ⟨_, _, rfl, rfl, h.1, an.here st (.str _) h.2⟩)
  · cases rx with
    | @ref m a ea =>
      cases ry with
      | @ref n b eb =>
        split at h
        · rename_i xs ys q1 q2
          obtain ⟨vs, hv, l, r⟩ := cell_l st ea q1
          obtain ⟨ws, hw, l2, r2⟩ := cell_l st eb q2
          have hl : vs.length + ws.length ≤ sizeLine := by rw [r.length, r2.length]; exact h.1
          exact .inr ⟨a, b, vs, ws, rfl, rfl, hv, hw, hl, an.wr st ea hv (by rw [List.length_append]; exact hl) (r.append r2) (.ref ea) h.2⟩
        · exact h.elim
  · exact h.elim
theorem io_sub : OpR X (inplaceOp .Sub) (LO X.K fa opSub) := iop_sub.imp fun x y H Q ⟨M, α, d, e, P, st, rx, ry, h, an⟩ => by
  unfold opSub at h
  split at h
  · cases rx; cases ry; exact ⟨_, _, rfl, rfl, an.here st (.int _) h⟩
  · exact h.elim
theorem iop_mulG : OpR X (inplaceOp .Mult) (rI IntMulOk fun i j => .int (i * j)) := opI fun _ _ _ _ _ _ _ hc q => imul_int q hc
theorem io_mul : OpR X (inplaceOp .Mult) (LO X.K fa iaMul) := iop_mulG.imp fun x y H Q ⟨M, α, d, e, P, st, rx, ry, h, an⟩ => by
  unfold iaMul at h
  split at h
  · cases rx; cases ry; exact ⟨_, _, rfl, rfl, h.1, an.here st (.int _) h.2⟩
  · exact h.elim
theorem io_div : OpR X (inplaceOp .FloorDiv) (LO X.K fa opDiv) := iop_fdivW.imp fun x y H Q ⟨M, α, d, e, P, st, rx, ry, h, an⟩ => by
  unfold opDiv at h
  split at h
  · cases rx; cases ry; exact ⟨_, _, rfl, rfl, h.1, an.here st (.int _) h.2⟩
  · exact h.elim
theorem io_mod : OpR X (inplaceOp .Mod) (LO X.K fa opMod) := iop_mod.imp fun x y H Q ⟨M, α, d, e, P, st, rx, ry, h, an⟩ => by
  unfold opMod at h
  split at h
  · cases rx; cases ry; exact ⟨_, _, rfl, rfl, h.1, an.here st (.int _) h.2⟩
  · exact h.elim
theorem io_shr : OpR X (inplaceOp .RShift) (LO X.K fa opShr) := iop_shr.imp fun x y H Q ⟨M, α, d, e, P, st, rx, ry, h, an⟩ => by
  unfold opShr at h
  split at h
  · cases rx; cases ry; exact ⟨_, _, rfl, rfl, h.1, an.here st (.int _) h.2⟩
  · exact h.elim
theorem io_shl : OpR X (inplaceOp .LShift) (LO X.K fa opShl) := iop_shl.imp fun x y H Q ⟨M, α, d, e, P, st, rx, ry, h, an⟩ => by
  unfold opShl at h
  split at h
  · cases rx; cases ry; exact ⟨_, _, rfl, rfl, h.1, an.here st (.int _) h.2⟩
  · exact h.elim
theorem io_and : OpR X (inplaceOp .BitAnd) (LO X.K fa opAnd) := iop_and.imp fun x y H Q ⟨M, α, d, e, P, st, rx, ry, h, an⟩ => by
  unfold opAnd at h
  split at h
  · cases rx; cases ry; exact ⟨_, _, rfl, rfl, an.here st (.int _) h⟩
  · exact h.elim
theorem io_or : OpR X (inplaceOp .BitOr) (LO X.K fa opOr) := iop_or.imp fun x y H Q ⟨M, α, d, e, P, st, rx, ry, h, an⟩ => by
  unfold opOr at h
  split at h
  · cases rx; cases ry; exact ⟨_, _, rfl, rfl, an.here st (.int _) h⟩
  · exact h.elim
theorem io_xor : OpR X (inplaceOp .BitXor) (LO X.K fa opXor) := iop_xor.imp fun x y H Q ⟨M, α, d, e, P, st, rx, ry, h, an⟩ => by
  unfold opXor at h
  split at h
  · cases rx; cases ry; exact ⟨_, _, rfl, rfl, an.here st (.int _) h⟩
  · exact h.elim
end
def augD : Operator → Option DOp
  | .Add => some iaAdd
  | .Sub => some opSub
  | .Mult => some iaMul
  | .FloorDiv => some opDiv
  | .Mod => some opMod
  | .LShift => some opShl
  | .RShift => some opShr
  | .BitAnd => some opAnd
  | .BitOr => some opOr
  | .BitXor => some opXor
  | _ => none
theorem augD_ok {X : Cx} {fa : Org} {op : Operator} {o : DOp} (h : augD op = some o) : OpR X (inplaceOp op) (LO X.K fa o) := by
  cases op <;> first | (cases h; done) | skip
  all_goals
    cases h
    first | exact io_add | exact io_sub | exact io_mul | exact io_div | exact io_mod | exact io_shl | exact io_shr | exact io_and | exact io_or | exact io_xor

/-! ### o[i] op= e, o a list -/
def opGetL : D → D → Mem → Po → Prop := fun x y M P => match x, y with
  | .ref n, .int i => (match M[n]? with
    | some (.lst xs) => (match atI xs i with
      | some d => P d M
      | none => False)
    | _ => False)
  | _, _ => False
def sAugS (o i : DE) (e : DE) (op : DOp) : DS := fun C E ρ M => o C ρ M fun x M1 => i C ρ M1 fun y M2 => opGetL x y M2 fun z M3 => e C ρ M3 fun w M4 => op z w M4 fun u M5 => opSet x y u M5 fun M6 => E.nx ρ M6
section
variable {X : Cx} {fa : Org} {C : Ctx}
theorem get_list : PGet X (LO X.K fa opGetL) := by
  intro pins s σ H x y v u Q I rx ry ⟨M, α, d, e, P, st, rd, re, h, an⟩
  unfold opGetL at h
  split at h
  · rename_i n i
    split at h
    · rename_i xs hM
      split at h
      · rename_i z hz
        cases rd with
        | @ref _ a ea =>
          cases re
          cases rx
          obtain ⟨t, rfl⟩ := ry
          obtain ⟨vs, hv, l, r⟩ := cell_l st ea hM
          obtain ⟨j, h1, h2, h3, h4, h5⟩ := atI_get hz
          obtain ⟨z', hz', rz⟩ := r.get h2
          obtain ⟨its, ri, pl, hzz⟩ := I.list (show SqL X.K H a vs from .inl (.inl hv))
          obtain ⟨w, ew, rw'⟩ := ri.get hz'
          have hl := ri.length
          have hl2 := r.length
          have hn := line63
          have fin : EP X pins σ Q w s := ⟨z', H, I, rw', an.here st rz h⟩
          by_cases h0 : 0 ≤ i
          · have hj : i.toNat = j := by
              rw [seqIndex_of h0 h5] at h1
              exact Option.some.inj h1
            exact wpAny_getItem_list pl.isList h0 (by omega) (by rw [hj]; simpa using ew) fin
          · have hj : (i + (its.toArray.size : Int)).toNat = j := by
              rw [seqIndex_neg (by omega) h4] at h1
              rw [List.size_toArray, ← hl, hl2]
              exact Option.some.inj h1
            exact wpAny_getItem_list_neg pl.isList (by omega) (by rw [List.size_toArray] <;> omega) (by omega) (by rw [hj]; simpa using ew) fin
      · exact h.elim
    · exact h.elim
  · exact h.elim
theorem s_augS {o i e : Expr} {to ti te : DE} {op : Operator} {d : DOp} {tpos pos : Pos} (hu : X.A.units + 1 < cLine) (ho : PE X o (LE X.K fa C to)) (hi : PE X i (LE X.K fa C ti)) (he : PE X e (LE X.K fa C te)) (hp : OpR X (inplaceOp op) (LO X.K fa d))
    (ha : ∀ ov iv new, augStore i ov iv new = (do holding [new, ov, iv] (setItem ov iv new); release [new, ov, iv] []; pure .next)) : PS X (.AugAssign (.Subscript o i tpos) op e pos) (LS X.K fa C (sAugS to ti te d)) :=
  (ps_augS ho hi (get_list (fa := fa)) he hp (p_set (fa := fa) hu) ha).imp fun D σ H ⟨ρ, M, α, E, er, sr, h, en⟩ =>
    ⟨ρ, M, α, _, er, sr, h, fun x dx H1 α1 M1 e1 s1 r1 p1 => ⟨ρ, M1, α1, _, er.mono e1, s1, p1, fun y dy H2 α2 M2 e2 s2 r2 p2 =>
      ⟨M2, α2, dx, dy, _, s2, r1.mono e2, r2, p2, fun z dz H3 α3 M3 e3 s3 r3 p3 => ⟨ρ, M3, α3, _, er.mono ((e1.trans e2).trans e3), s3, p3, fun w dw H4 α4 M4 e4 s4 r4 p4 =>
        ⟨M4, α4, dz, dw, _, s4, r3.mono e4, r4, p4, fun u du H5 α5 M5 e5 s5 r5 p5 => ⟨M5, α5, dx, dy, du, _, s5, r1.mono (((e2.trans e3).trans e4).trans e5), r2.mono ((e3.trans e4).trans e5), r5, p5, fun H6 M6 e6 s6 p6 =>
          en.nx σ ρ H6 α5 M6 (((((e1.trans e2).trans e3).trans e4).trans e5).trans e6) (er.mono (((((e1.trans e2).trans e3).trans e4).trans e5).trans e6)) s6 p6⟩⟩⟩⟩⟩⟩
end

/-! ### side conditions of stores -/
theorem sw_false {elt : Expr} {gs : List Comprehension} {scope : Scope} {pos py : Pos} {y : Str} {l : Nat} {env : PySem.Env} (hy : (env.scope.names.lookup y == some .local) = false) : swapsWith (.ListComp elt gs scope pos) (some (.Name y py)) l env = pure false := by
  have ky : (env.kindOf y == some .local) = false := hy
  unfold swapsWith
  simp only [ky, Bool.and_false, Bool.false_and]
def isTup : Expr → Bool
  | .Tuple .. => true
  | _ => false
def isName : Expr → Bool
  | .Name .. => true
  | _ => false
theorem stores_none {tg e : Expr} {env : PySem.Env} (h : isTup e = false) : swappedStores [tg] e env = pure none := by
  cases e <;> first | cases h | skip
  all_goals
    cases tg <;> rfl
theorem stores_none2 {tg e : Expr} {env : PySem.Env} (h : isTup tg = false ∧ (match tg with | .List .. => true | _ => false) = false) : swappedStores [tg] e env = pure none := by
  cases tg <;> first | (cases h.1; done) | (cases h.2; done) | (cases e <;> rfl)
/-- the names among the targets that may be swapped -/
def swNames (sc : Scope) (line : Nat) (ts : List Expr) : List Str := ts.filterMap fun
  | .Name id pos => if sc.names.lookup id == some .local && pos.line == line then some id else none
  | _ => none
def swSafe (sc : Scope) (ts vs : List Expr) : Bool := vs.length != ts.length || !(ts.length == 2 || ts.length == 3) || (vs.all notStar && ((swNames sc ((ts.head?.map (·.pos.line)).getD 0) ts).length != ts.length || vs.all (foldedForSure 8)))
theorem any_star {vs : List Expr} (h : vs.all notStar = true) : (vs.any fun | .Starred .. => true | _ => false) = false := by
  induction vs with
  | nil => rfl
  | cons v vs ih =>
    rw [List.all_cons, Bool.and_eq_true] at h
    rw [List.any_cons, ih h.2]
    have := h.1
    cases v <;> first | rfl | cases this
theorem stores_none3 {ts vs : List Expr} {k k2} {pt pt2 : Pos} {env : PySem.Env} (h : swSafe env.scope ts vs = true) : swappedStores [.Tuple ts k pt] (.Tuple vs k2 pt2) env = pure none := by
  unfold swappedStores
  simp only [pure_bind]
  by_cases h1 : (!(ts.length == 2 || ts.length == 3) || vs.length != ts.length || env.blockKind != .function) = true
  · exact if_pos h1
  · rw [if_neg h1]
    have h1 : (!(ts.length == 2 || ts.length == 3)) = false ∧ (vs.length != ts.length) = false := by
      simp only [Bool.or_eq_true, not_or, Bool.not_eq_true] at h1
      exact h1.1
    unfold swSafe at h
    rw [h1.2, h1.1, Bool.false_or, Bool.false_or, Bool.and_eq_true] at h
    refine (if_neg ?_).trans ?_
    · exact fun z => Bool.false_ne_true ((any_star h.1).symm.trans z)
    rcases Bool.or_eq_true _ _ ▸ h.2 with h2 | h2
    · have h3 : ∀ b : Bool, ((swNames env.scope ((ts.head?.map (·.pos.line)).getD 0) ts).length != ts.length || b) = true := fun b => by rw [h2]; rfl
      exact if_pos (h3 _)
    · by_cases h4 : ((swNames env.scope ((ts.head?.map (·.pos.line)).getD 0) ts).length != ts.length || (swNames env.scope ((ts.head?.map (·.pos.line)).getD 0) ts).eraseDups.length != (swNames env.scope ((ts.head?.map (·.pos.line)).getD 0) ts).length) = true
      · exact if_pos h4
      · exact (if_neg h4).trans (if_pos h2)
theorem stores_two {x y : Str} {px py pt pt2 : Pos} {a b : Expr} {k k2} {env : PySem.Env} (hk : env.scope.kind = .function) (hx : env.scope.names.lookup x = some .local) (hy : env.scope.names.lookup y = some .local) (hl : (py.line == px.line) = true) (hne : (y == x) = false)
    (ha : notStar a = true ∧ notStar b = true) (h1 : [a, b].all (foldedForSure 8) = false) (h2 : [a, b].all (constantsAlone 8) = false) : swappedStores [.Tuple [.Name x px, .Name y py] k pt] (.Tuple [a, b] k2 pt2) env = pure (some [x, y]) := by
  have kx : env.kindOf x = some .local := hx
  have ky : env.kindOf y = some .local := hy
  have hb : env.blockKind = .function := by unfold Env.blockKind; rw [hk]; rfl
  have hl2 : (py.line == (Expr.Name x px).pos.line) = true := hl
  have hl3 : (px.line == (Expr.Name x px).pos.line) = true := by show (px.line == px.line) = true; exact beq_self_eq_true _
  have ed : [x, y].eraseDups = [x, y] := by simp [List.eraseDups_cons, hne]
  unfold swappedStores
  simp only [pure_bind]
  rw [if_neg (by rw [hb]; exact Bool.false_ne_true)]
  refine (if_neg ?_).trans ?_
  · exact fun z => Bool.false_ne_true ((any_star (vs := [a, b]) (by simp [ha.1, ha.2])).symm.trans z)
  simp only [List.filterMap_cons, List.filterMap_nil, kx, ky, List.head?_cons, Option.map_some, Option.getD_some, hl2, hl3, beq_self_eq_true, Bool.true_and, if_true, ed]
  rw [if_neg (by exact Bool.false_ne_true), if_neg (by rw [h1]; exact Bool.false_ne_true), if_neg (by rw [h2]; exact Bool.false_ne_true)]

/-! ### the steps -/
section
variable {G : Glb} (p : Comp G) (c : Cp)
def stepSetLc (y : Str) (py : Pos) (elt tg iter : Expr) (ifs : List Expr) (scope : Scope) (pos spos : Pos) : Option (CS G c (.Assign [.Name y py] (.ListComp elt [⟨tg, iter, ifs, 0⟩] scope pos) spos)) :=
  if hh : c.hot = false ∧ c.xc = none then if hb : c.sc.kind = .function ∧ c.sc.names.lookup y = some .local ∧ (py.line == pos.line) = true ∧ (scope.names.any fun (n, k) => n == y && (k == .local || k == .cell)) = false ∧ blkC c.N c.sc scope (ownOf c.N scope) = true ∧ notSet iter = true then
    (match hi : c.N.findIdx? (fun z => decide (z = y)) with
    | some i => if hN : c.N[i]? = some y then
        (match p.I c tg iter, p.Gt (blkCp c scope) tg, stepTs p (blkCp c scope) ifs, p.E (blkCp c scope) elt with
        | some ti, some tg, some tt, some te => if hw : (tg.ws.all fun i => decide (i ∈ (ownOf c.N scope).map (·.2))) = true then
            some ⟨sAsg (eNew (lcomp ti.1 tg.g tt.1 te.1 ((ownOf c.N scope).map (·.2)))) (gName i), fun X fa C h =>
              s_setLc (h.hz hh.2) (h.calm hh.1) h.nd (by rw [h.N]; exact hN) (by rw [h.sc]; exact hb.2.1) (sw_true (by rw [h.sc]; exact hb.1) (by rw [h.sc]; exact hb.2.1) hb.2.2.1 hb.2.2.2.1) (ti.2 X fa C h.toHy) (blkOk_by (by rw [h.N, h.sc]; exact hb.2.2.2.2.1)) (fun i hi => of_decide_eq_true (List.all_eq_true.mp hw i hi))
                (fun s H Ca cl fp => tg.ok _ fa _ (h.toHy.blk hh.1 hh.2 s H Ca cl fp)) (fun s H Ca cl fp => tt.2 _ fa _ (h.toHy.blk hh.1 hh.2 s H Ca cl fp)) (fun s H Ca cl fp => te.2 _ fa _ (h.toHy.blk hh.1 hh.2 s H Ca cl fp)) (fold_ok hb.2.2.2.2.2)⟩ else none
        | _, _, _, _ => none) else none
    | none => none)
  else none
  else none
def stepSetLf (y : Str) (py : Pos) (elt : Expr) (gs : List Comprehension) (scope : Scope) (pos spos : Pos) : Option (CS G c (.Assign [.Name y py] (.ListComp elt gs scope pos) spos)) :=
  if hh : c.xc = none then if hb : (c.sc.names.lookup y == some .local) = false ∧ locB c y = true then
    (match hi : c.N.findIdx? (fun z => decide (z = y)) with
    | some i => if hN : c.N[i]? = some y then
        (match p.L c (.ListComp elt gs scope pos) with
        | some tl => some ⟨sAsg (eNew tl.1) (gName i), fun X fa C h => s_set h.nd (by rw [h.N]; exact hN) (loc_ok h.toHy hb.2).1 (d_new (tl.2 X fa C h.toHy)) (sw_false (by rw [h.sc]; exact hb.1)) (loc_ok h.toHy hb.2).2 (h.hz hh)⟩
        | none => none) else none
    | none => none)
  else none
  else none
def stepPar (x y : Str) (px py pt pt2 pos : Pos) (a b : Expr) (k k2) : Option (CS G c (.Assign [.Tuple [.Name x px, .Name y py] k pt] (.Tuple [a, b] k2 pt2) pos)) :=
  if hh : c.hot = false ∧ c.xc = none then if hb : c.sc.kind = .function ∧ c.sc.names.lookup x = some .local ∧ c.sc.names.lookup y = some .local ∧ (py.line == px.line) = true ∧ (y == x) = false ∧ (notStar a = true ∧ notStar b = true) ∧ [a, b].all (foldedForSure 8) = false ∧ [a, b].all (constantsAlone 8) = false then
    (match hi : c.N.findIdx? (fun z => decide (z = x)), hj : c.N.findIdx? (fun z => decide (z = y)) with
    | some i, some j => if hN : c.N[i]? = some x ∧ c.N[j]? = some y ∧ i ≠ j then
        (match p.A c [a, b] with
        | some ta => some ⟨sPar i j ta.1, fun X fa C h => s_par (h.calm hh.1) h.nd (by rw [h.N]; exact hN.1) (by rw [h.N]; exact hN.2.1) hN.2.2 (by rw [h.sc]; exact hb.2.1) (by rw [h.sc]; exact hb.2.2.1) (ta.2 X fa C h.toHy)
            (stores_two (by rw [h.sc]; exact hb.1) (by rw [h.sc]; exact hb.2.1) (by rw [h.sc]; exact hb.2.2.1) hb.2.2.2.1 hb.2.2.2.2.1 hb.2.2.2.2.2.1 hb.2.2.2.2.2.2.1 hb.2.2.2.2.2.2.2) rfl (h.hz hh.2)⟩
        | none => none) else none
    | _, _ => none)
  else none
  else none
def notStarLike : Expr → Bool
  | .Starred .. => false
  | .List .. => false
  | _ => true
theorem asg_one {tg : Expr} {env : PySem.Env} (h : notStar tg = true) : (assignEach [tg] env).map (·.2) = [assign tg env] := by
  cases tg <;> first | rfl | cases h
/-- a store by its target -/
def stepAsg (tg e : Expr) (pos : Pos) : Option (CS G c (.Assign [tg] e pos)) :=
  if hb : notComp e = true ∧ notStarLike tg = true then
    if hq : isTup e = false ∨ isTup tg = false then
      (match p.E c e, p.Gt c tg with
      | some te, some g => some ⟨sAsg te.1 g.g, fun X fa C h => s_asg (te.2 X fa C h.toHy) (g.ok X fa C h.toHy) (sole_ok hb.1) (hq.elim stores_none fun q => stores_none2 ⟨q, by revert hb; cases tg <;> intro hb <;> first | rfl | cases hb.2⟩)
          (asg_one (by revert hb; cases tg <;> intro hb <;> first | rfl | cases hb.2))⟩
      | _, _ => none)
    else (match tg, e with
      | .Tuple ts k pt, .Tuple vs k2 pt2 => if hs : swSafe c.sc ts vs = true then
          (match p.E c (.Tuple vs k2 pt2), p.Gt c (.Tuple ts k pt) with
          | some te, some g => some ⟨sAsg te.1 g.g, fun X fa C h => s_asg (te.2 X fa C h.toHy) (g.ok X fa C h.toHy) (sole_ok rfl) (stores_none3 (by rw [h.sc]; exact hs)) (asg_one rfl)⟩
          | _, _ => none) else none
      | _, _ => none)
  else none
theorem aug_store {i : Expr} (h : notSlice i = true) (ov iv new : Value) : augStore i ov iv new = (do holding [new, ov, iv] (setItem ov iv new); release [new, ov, iv] []; pure .next) := by
  cases i <;> first | rfl | cases h
def stepS (s : Stmt) : Option (CS G c s) := match s with
  | .Pass pos => some ⟨sNext, fun X fa C h => s_pass⟩
  | .Break pos => some ⟨sBreak, fun X fa C h => s_break⟩
  | .Continue pos => some ⟨sCont, fun X fa C h => s_cont⟩
  | .Expr (.Constant (.str x) j pos) pos' => some ⟨sNext, fun X fa C h => s_doc⟩
  | .Expr e pos => if hn : notComp e = true then (p.E c e).map fun te => ⟨sDrop te.1, fun X fa C h => s_drop (te.2 X fa C h.toHy) (swap_ok hn)⟩ else none
  | .Return (some e) pos => (p.E c e).map fun te => ⟨sRet te.1, fun X fa C h => s_ret (te.2 X fa C h.toHy)⟩
  | .Return none pos => some ⟨sRetN, fun X fa C h => s_retN⟩
  | .If t a b pos => (match p.T c t, p.Ss c a, p.Ss c b with
    | some tt, some ta, some tb => some ⟨sIf tt.1 ta.1 tb.1, fun X fa C h => s_if (tt.2 X fa C h.toHy) (ta.2 X fa C h) (tb.2 X fa C h)⟩
    | _, _, _ => none)
  | .While t a [] pos => (match p.T c t, p.Ss c a with
    | some tt, some ta => some ⟨sWhile tt.1 ta.1, fun X fa C h => s_while h.pa (tt.2 X fa C h.toHy) (ta.2 X fa C h)⟩
    | _, _ => none)
  | .For tg it a [] pos => if hs : notSet it = true ∧ c.hot = false then (match p.I c tg it, p.Gt c tg, p.Ss c a with
    | some ti, some g, some ta => some ⟨sFor ti.1 g.g ta.1, fun X fa C h => s_for h.pa (h.calm hs.2) (ti.2 X fa C h.toHy) (g.ok X fa C h.toHy) (ta.2 X fa C h) (fold_ok hs.1)⟩
    | _, _, _ => none) else none
  | .Assign [.Name y py] (.ListComp elt [⟨tg, iter, ifs, 0⟩] scope pos) spos => (match stepSetLc p c y py elt tg iter ifs scope pos spos with
    | some t => some t
    | none => stepSetLf p c y py elt [⟨tg, iter, ifs, 0⟩] scope pos spos)
  | .Assign [.Tuple [.Name x px, .Name y py] k pt] (.Tuple [a, b] k2 pt2) pos => (match stepPar p c x y px py pt pt2 pos a b k k2 with
    | some t => some t
    | none => stepAsg p c (.Tuple [.Name x px, .Name y py] k pt) (.Tuple [a, b] k2 pt2) pos)
  | .Assign [tg] e pos => stepAsg p c tg e pos
  | .AugAssign (.Name y py) op e pos => if hl : locB c y = true ∧ c.xc = none then (match hi : c.N.findIdx? (fun z => decide (z = y)) with
    | some i => if hN : c.N[i]? = some y then (match p.E c e, ho : augD op with
      | some te, some o => some ⟨sAug i te.1 o, fun X fa C h => s_aug h.nd (by rw [h.N]; exact hN) (loc_ok h.toHy hl.1).1 (te.2 X fa C h.toHy) (augD_ok ho) (loc_ok h.toHy hl.1).2 (h.hz hl.2)⟩
      | _, _ => none) else none
    | none => none) else none
  | .AugAssign (.Subscript o i tpos) op e pos => if hs : notSlice i = true then (match p.E c o, p.E c i, p.E c e, ho : augD op with
    | some to, some ti, some te, some d => some ⟨sAugS to.1 ti.1 te.1 d, fun X fa C h => s_augS (by have := h.mo.hu; omega) (to.2 X fa C h.toHy) (ti.2 X fa C h.toHy) (te.2 X fa C h.toHy) (augD_ok ho) (aug_store hs)⟩
    | _, _, _, _ => none) else none
  | _ => none
/-- what is not covered never runs -/
def stepSs (ss : List Stmt) : Option (CSs G c ss) := match ss with
  | [] => some ⟨sNext, fun X fa C h => s_nil⟩
  | [s] => (match p.S c s with
    | some t => some ⟨t.1, fun X fa C h => s_one (t.2 X fa C h)⟩
    | none => some ⟨sNever, fun X fa C h => s_one s_never⟩)
  | s :: ss => (match p.S c s, p.Ss c ss with
    | some t, some u => some ⟨sSeq t.1 u.1, fun X fa C h => s_cons (t.2 X fa C h) (u.2 X fa C h)⟩
    | none, some u => some ⟨sSeq sNever u.1, fun X fa C h => s_cons s_never (u.2 X fa C h)⟩
    | _, none => none)
end
end DL

/-! The data layer: zip and enumerate over lists and tuples alike, whatever the target. -/
namespace DL
open PySem PySem.Spec PyProof.Rows L2
open Sem (wp)

/-! ### an iterator of a list (false), of a tuple (true) -/
def ItAt (t : Bool) (h : Heap) (i l : Addr) (k : Nat) : Prop := if t = true then h.IsTupleIter i l k else h.IsListIter i l k
def SqAt (t : Bool) (h : Heap) (l : Addr) (xs : Array Value) : Prop := if t = true then h.IsTuple l xs else h.IsList l xs
section
variable {prog : Program} {w : World} {A : Around} {E : Value → Shared → Prop} {s : Shared} {h h' : Heap} {t : Bool} {i l a : Addr} {k : Nat} {xs : Array Value} {x : Value}
theorem ItAt.at (p : ItAt t h i l k) (e : ∀ o, h.get? i = some o → h'.get? i = some o) : ItAt t h' i l k := by
  cases t with
  | false => exact Heap.IsListIter.at p e
  | true => exact Heap.IsTupleIter.at p e
theorem SqAt.at (p : SqAt t h l xs) (e : ∀ o, h.get? l = some o → h'.get? l = some o) : SqAt t h' l xs := by
  cases t with
  | false => obtain ⟨o, q, r⟩ := (show h.IsList l xs from p); exact ⟨o, e o q, r⟩
  | true => obtain ⟨o, q, r⟩ := (show h.IsTuple l xs from p); exact ⟨o, e o q, r⟩
theorem ItAt.there (p : ItAt t h i l k) : ∃ o, h.get? i = some o ∧ ∀ v, o.data ≠ .cell v := by
  cases t with
  | false => obtain ⟨o, q, _, d⟩ := (show h.IsListIter i l k from p); exact ⟨o, q, fun v z => by rw [d] at z; cases z⟩
  | true => obtain ⟨o, q, _, d⟩ := (show h.IsTupleIter i l k from p); exact ⟨o, q, fun v z => by rw [d] at z; cases z⟩
theorem draw_item {Q : Value → Shared → Prop} (p : ItAt t s.heap i l k) (q : SqAt t s.heap l xs) (hx : xs[k]? = some x) (go : ∀ h', ItAt t h' i l (k + 1) → Heap.ExtBut i s.heap h' → h'.objs.size = s.heap.objs.size → Q x { s with heap := h' }) :
    wpAny (model prog w) A (Builtin.SmallTypes.nextOf (.ref i)) Q E s := by
  cases t with
  | false => exact wpAny_nextOf_list_item (show s.heap.IsListIter i l k from p) q hx fun h' a b => go h' a b.extBut b.1
  | true => exact RZ.nextOf_tuple_item (show s.heap.IsTupleIter i l k from p) q hx fun h' a b => go h' a b.extBut b.1
theorem draw_end {Q : Value → Shared → Prop} (hh : A.handled = none) (p : ItAt t s.heap i l k) (q : SqAt t s.heap l xs) (hx : xs[k]? = none) (go : ∀ h' e, Heap.ExtBut i s.heap h' → (∃ o, h'.get? e = some o ∧ o.cls = .type "StopIteration") → E (.ref e) { s with heap := h' }) :
    wpAny (model prog w) A (Builtin.SmallTypes.nextOf (.ref i)) Q E s := by
  cases t with
  | false => exact wpAny_nextOf_list_end hh (show s.heap.IsListIter i l k from p) q hx go
  | true => exact RZ.nextOf_tuple_end hh (show s.heap.IsTupleIter i l k from p) q hx go

/-! ### zip -/
def zO (f0 f1 : Value) (TI TO : Addr) : Obj := { cls := .type "zip", dict := none, data := .fields #[f0, f1, .bool false, .ref TI, .ref TO], slots := #[] }
/-- f0: what was handed out last, if it must be thought of -/
def ZN (h : Heap) (z TI TO : Addr) : Prop := ∃ f0 f1 : Value, (f0 = .none ∨ ∃ T : Nat, f0 = rawInt (T : Int)) ∧ h.get? z = some (zO f0 f1 TI TO)
def Pr (h : Heap) (T : Addr) : Prop := ∃ a b, IsPair h T a b
theorem eb {a c : Addr} {h h' : Heap} {o : Obj} (e : Heap.ExtBut a h h') (hc : c ≠ a) (q : h.get? c = some o) : h'.get? c = some o := e c o hc q
/-- is the own tuple free? both may be; the zip object stays what it is -/
theorem zn_free {z TI TO : Addr} {Q : Bool → Shared → Prop} (hz : ZN s.heap z TI TO) (go : ∀ b h', ZN h' z TI TO → Heap.ExtBut z s.heap h' → h'.objs.size = s.heap.objs.size → Q b { s with heap := h' }) :
    wpAny (model prog w) A (Builtin.SmallTypes.ownedTupleIsFree (.ref z)) Q E s := by
  obtain ⟨f0, f1, hf, hz⟩ := hz
  unfold Builtin.SmallTypes.ownedTupleIsFree
  refine wpAny_bind (wpAny_field (vs := #[f0, f1, .bool false, .ref TI, .ref TO]) hz rfl (i := 0) (x := f0) rfl ?_)
  have same : Heap.ExtBut z s.heap s.heap := fun _ _ _ e => e
  rcases hf with e | ⟨T, e⟩
  · subst e
    exact wpAny_pure (go true s.heap ⟨_, _, .inl rfl, hz⟩ same rfl)
  · subst e
    show wpAny _ _ (loadIfAlive ((T : Int).toNat) >>= _) _ _ _
    rw [Int.toNat_natCast]
    have cut : ∀ {k : Option Obj → Sem Bool}, wpAny (model prog w) A (k (s.heap.get? T)) Q E s → wpAny (model prog w) A (loadIfAlive T >>= k) Q E s := fun {k} hk => wpAny_bind (m := loadIfAlive T) (show wpAny (model prog w) A (loadIfAlive T) (fun r s' => wpAny (model prog w) A (k r) Q E s') E s from fun _ _ _ => hk)
    refine cut ?_
    cases hT : s.heap.get? T with
    | none => exact wpAny_pure (go true s.heap ⟨_, _, .inr ⟨T, rfl⟩, hz⟩ same rfl)
    | some oT =>
      simp only [Option.isNone_some, Bool.false_eq_true, if_false]
      refine wpAny_bind (wpAny_field (vs := #[rawInt (T : Int), f1, .bool false, .ref TI, .ref TO]) hz rfl (i := 1) (x := f1) rfl ?_)
      by_cases hf1 : (f1 != .bool true) = true
      · rw [if_pos hf1]
        exact wpAny_bind (wpAny_setField_rec hz (by simp) fun h₁ hz₁ hs₁ => wpAny_pure (go false h₁ ⟨_, _, .inr ⟨T, rfl⟩, hz₁⟩ hs₁.extBut hs₁.1))
      · rw [if_neg hf1]
        exact wpAny_pure (go false s.heap ⟨_, _, .inr ⟨T, rfl⟩, hz⟩ same rfl)

variable {t1 t2 : Bool} {z TI TO i1 i2 l1 l2 : Addr} {k1 k2 : Nat} {ys : Array Value} {y : Value}
/-- what is there but the zip's own objects -/
abbrev Rest (h h' : Heap) (z TO i1 i2 : Addr) : Prop := ∀ c o, c ≠ z → c ≠ TO → c ≠ i1 → c ≠ i2 → h.get? c = some o → h'.get? c = some o
theorem zn_item {Q : Value → Shared → Prop} (D : ZipApart z TI TO i1 i2 l1 l2) (hz : ZN s.heap z TI TO) (hTI : IsPair s.heap TI (.ref i1) (.ref i2)) (hTO : Pr s.heap TO) (p1 : ItAt t1 s.heap i1 l1 k1) (p2 : ItAt t2 s.heap i2 l2 k2) (q1 : SqAt t1 s.heap l1 xs) (q2 : SqAt t2 s.heap l2 ys)
    (hx : xs[k1]? = some x) (hy : ys[k2]? = some y)
    (go : ∀ h', ZN h' z TI TO → Pr h' TO → ItAt t1 h' i1 l1 (k1 + 1) → ItAt t2 h' i2 l2 (k2 + 1) → IsPair h' s.heap.objs.size x y → h'.objs.size = s.heap.objs.size + 1 → Rest s.heap h' z TO i1 i2 → Q (.ref s.heap.objs.size) { s with heap := h' }) :
    wpAny (model prog w) A (Builtin.«zip.__next__» ⟨[.ref z], []⟩) (fun fin s' => ∃ v, fin = .done (.ret v) ∧ Q v s') E s := by
  have hz' := hz
  obtain ⟨f0, f1, hf, ho⟩ := hz
  show wpAny _ _ (field (.ref z) 2 >>= _) _ _ _
  refine wpAny_bind (wpAny_field (vs := #[f0, f1, .bool false, .ref TI, .ref TO]) ho rfl (x := .bool false) rfl ?_)
  show wpAny _ _ (field (.ref z) 3 >>= _) _ _ _
  refine wpAny_bind (wpAny_field (vs := #[f0, f1, .bool false, .ref TI, .ref TO]) ho rfl (x := .ref TI) rfl (wpAny_bind (wpAny_seqItems hTI rfl ?_)))
  show wpAny _ _ (Builtin.SmallTypes.ownedTupleIsFree (.ref z) >>= _) _ _ _
  refine wpAny_bind (zn_free hz' fun b h₁ hz₁ e₁ n₁ => ?_)
  have p1₁ := p1.at fun o q => eb e₁ D.i1z q
  have p2₁ := p2.at fun o q => eb e₁ D.i2z q
  have q1₁ := q1.at fun o q => eb e₁ D.l1z q
  have q2₁ := q2.at fun o q => eb e₁ D.l2z q
  obtain ⟨a, b', hTO⟩ := hTO
  have hTO₁ : IsPair h₁ TO a b' := eb e₁ D.TOz hTO
  cases b with
  | false =>
    simp only [Bool.false_eq_true, if_false]
    refine wpAny_bind ?_
    rw [← Array.forIn_toList]
    simp only [List.forIn_cons, List.forIn_nil]
    refine wpAny_bind (wpAny_bind (wpAny_holding ?_))
    show wpAny _ _ (Builtin.SmallTypes.nextOf (.ref i1) >>= _) _ _ _
    refine wpAny_bind (draw_item (s := { s with heap := h₁ }) p1₁ q1₁ hx fun h₂ p1₂ e₂ n₂ => wpAny_pure (wpAny_pure ?_))
    refine wpAny_bind (wpAny_bind (wpAny_holding ?_))
    show wpAny _ _ (Builtin.SmallTypes.nextOf (.ref i2) >>= _) _ _ _
    refine wpAny_bind (draw_item (s := { s with heap := h₂ }) (p2₁.at fun o q => eb e₂ D.i12.symm q) (q2₁.at fun o q => eb e₂ D.l2i1 q) hy fun h₃ p2₃ e₃ n₃ => wpAny_pure (wpAny_pure (wpAny_pure ?_)))
    show wpAny _ _ (newTuple [x, y] >>= _) _ _ _
    refine wpAny_bind (wpAny_newTuple (wpAny_pure ⟨_, rfl, ?_⟩))
    have n : h₃.objs.size = s.heap.objs.size := n₃.trans (n₂.trans n₁)
    obtain ⟨g0, g1, hg, hz₁⟩ := hz₁
    have hp : IsPair (h₃.push { cls := .type "tuple", data := .seq #[x, y] }) h₃.objs.size x y := Heap.get?_push_size _ rfl
    have up : ∀ c o, h₃.get? c = some o → (h₃.push { cls := .type "tuple", data := .seq #[x, y] }).get? c = some o := fun c o q => Heap.get?_push_of_some _ q
    have hn : (h₃.push { cls := .type "tuple", data := .seq #[x, y] }).objs.size = h₃.objs.size + 1 := Heap.size_push ..
    show Q (.ref h₃.objs.size) _
    rw [n] at hp hn ⊢
    exact go _ ⟨g0, g1, hg, up _ _ (eb e₃ D.i2z.symm (eb e₂ D.i1z.symm hz₁))⟩ ⟨a, b', up _ _ (eb e₃ D.TOi2 (eb e₂ D.TOi1 hTO₁))⟩ (p1₂.at fun o q => up _ _ (eb e₃ D.i12 q)) (p2₃.at fun o q => up _ _ q) hp hn
      fun c o c1 _ c3 c4 q => up _ _ (eb e₃ c4 (eb e₂ c3 (eb e₁ c1 q)))
  | true =>
    simp only [if_true]
    obtain ⟨g0, g1, hg, hz₁⟩ := hz₁
    refine wpAny_bind (wpAny_rule (wpAny_bind (wpAny_field (vs := #[g0, g1, .bool false, .ref TI, .ref TO]) hz₁ rfl (x := .ref TO) rfl ?_)))
    refine wpAny_bind (wpAny_setField_rec hz₁ (by simp) fun h₂ hz₂ s₂ => ?_)
    have hz₂ : h₂.get? z = some (zO .ellipsis g1 TI TO) := hz₂
    have e₂ := s₂.extBut
    refine wpAny_bind ?_
    simp only [List.zipIdx_cons, List.zipIdx_nil, List.forIn_cons, List.forIn_nil]
    refine wpAny_bind (wpAny_bind (wpAny_onRaise ?_))
    show wpAny _ _ (Builtin.SmallTypes.nextOf (.ref i1) >>= _) _ _ _
    refine wpAny_bind (draw_item (s := { s with heap := h₂ }) (p1₁.at fun o q => eb e₂ D.i1z q) (q1₁.at fun o q => eb e₂ D.l1z q) hx fun h₃ p1₃ e₃ n₃ => wpAny_pure ?_)
    have hTO₃ : IsPair h₃ TO a b' := eb e₃ D.TOi1 (eb e₂ D.TOz hTO₁)
    refine wpAny_bind (wpAny_seqItems hTO₃ rfl (wpAny_bind (wpAny_updateSeq_pair hTO₃ fun h₄ hTO₄ s₄ => wpAny_bind (wpAny_letGo (wpAny_pure ?_)))))
    have hTO₄ : IsPair h₄ TO x b' := hTO₄
    have e₄ := s₄.extBut
    refine wpAny_bind (wpAny_bind (wpAny_onRaise ?_))
    show wpAny _ _ (Builtin.SmallTypes.nextOf (.ref i2) >>= _) _ _ _
    refine wpAny_bind (draw_item (s := { s with heap := h₄ }) (p2₁.at fun o q => eb e₄ D.TOi2.symm (eb e₃ D.i12.symm (eb e₂ D.i2z q))) (q2₁.at fun o q => eb e₄ D.l2TO (eb e₃ D.l2i1 (eb e₂ D.l2z q))) hy fun h₅ p2₅ e₅ n₅ => wpAny_pure ?_)
    have hTO₅ : IsPair h₅ TO x b' := eb e₅ D.TOi2 hTO₄
    refine wpAny_bind (wpAny_seqItems hTO₅ rfl (wpAny_bind (wpAny_updateSeq_pair hTO₅ fun h₆ hTO₆ s₆ => wpAny_bind (wpAny_letGo (wpAny_pure (wpAny_pure ?_))))))
    have hTO₆ : IsPair h₆ TO x y := hTO₆
    have e₆ := s₆.extBut
    refine wpAny_bind (wpAny_seqItems hTO₆ rfl (wpAny_bind (wpAny_newTuple ?_)))
    have n : h₆.objs.size = s.heap.objs.size := s₆.1.trans (n₅.trans (s₄.1.trans (n₃.trans (s₂.1.trans n₁))))
    have hz₆ : h₆.get? z = some (zO .ellipsis g1 TI TO) := eb e₆ D.TOz.symm (eb e₅ D.i2z.symm (eb e₄ D.TOz.symm (eb e₃ D.i1z.symm hz₂)))
    have p1₆ : ItAt t1 h₆ i1 l1 (k1 + 1) := p1₃.at fun o q => eb e₆ D.TOi1.symm (eb e₅ D.i12 (eb e₄ D.TOi1.symm q))
    have p2₆ : ItAt t2 h₆ i2 l2 (k2 + 1) := p2₅.at fun o q => eb e₆ D.TOi2.symm q
    have r₆ : Rest s.heap h₆ z TO i1 i2 := fun c o c1 c2 c3 c4 q => eb e₆ c2 (eb e₅ c4 (eb e₄ c2 (eb e₃ c3 (eb e₂ c1 (eb e₁ c1 q)))))
    have zl : z < h₆.objs.size := Heap.lt_size hz₆
    show wpAny _ _ (Builtin.SmallTypes.ownedTupleHandOut (.ref z) (.ref h₆.objs.size) >>= _) _ _ _
    refine wpAny_bind ?_
    unfold Builtin.SmallTypes.ownedTupleHandOut
    have hz₇ : (h₆.push { cls := .type "tuple", data := .seq #[x, y] }).get? z = some (zO .ellipsis g1 TI TO) := Heap.get?_push_of_some _ hz₆
    refine wpAny_bind (wpAny_setField_rec hz₇ (by simp) fun h₈ hz₈ s₈ => ?_)
    have hz₈ : h₈.get? z = some (zO (rawInt (h₆.objs.size : Nat)) g1 TI TO) := hz₈
    refine wpAny_setField_rec hz₈ (by simp) fun h₉ hz₉ s₉ => wpAny_pure ⟨_, rfl, ?_⟩
    have hz₉ : h₉.get? z = some (zO (rawInt (h₆.objs.size : Nat)) (.bool false) TI TO) := hz₉
    have up : ∀ c o, c ≠ z → h₆.get? c = some o → h₉.get? c = some o := fun c o cz q => eb s₉.extBut cz (eb s₈.extBut cz (Heap.get?_push_of_some _ q))
    have hp : IsPair h₉ h₆.objs.size x y := eb s₉.extBut (Nat.ne_of_gt zl) (eb s₈.extBut (Nat.ne_of_gt zl) (Heap.get?_push_size _ rfl))
    have hn : h₉.objs.size = h₆.objs.size + 1 := s₉.1.trans (s₈.1.trans (Heap.size_push ..))
    show Q (.ref h₆.objs.size) _
    rw [n] at hp hn ⊢
    exact go h₉ ⟨_, _, .inr ⟨_, rfl⟩, hz₉⟩ ⟨x, y, up _ _ D.TOz hTO₆⟩ (p1₆.at fun o q => up _ _ D.i1z q) (p2₆.at fun o q => up _ _ D.i2z q) hp hn fun c o c1 c2 c3 c4 q => up c o c1 (r₆ c o c1 c2 c3 c4 q)
theorem zn_end {Q : Fin → Shared → Prop} (hh : A.handled = none) (D : ZipApart z TI TO i1 i2 l1 l2) (hz : ZN s.heap z TI TO) (hTI : IsPair s.heap TI (.ref i1) (.ref i2)) (hTO : Pr s.heap TO) (p1 : ItAt t1 s.heap i1 l1 k1) (p2 : ItAt t2 s.heap i2 l2 k2) (q1 : SqAt t1 s.heap l1 xs) (q2 : SqAt t2 s.heap l2 ys)
    (hend : xs[k1]? = none ∨ ys[k2]? = none) (go : ∀ h' e, Rest s.heap h' z TO i1 i2 → (∃ o, h'.get? e = some o ∧ o.cls = .type "StopIteration") → E (.ref e) { s with heap := h' }) :
    wpAny (model prog w) A (Builtin.«zip.__next__» ⟨[.ref z], []⟩) Q E s := by
  have hz' := hz
  obtain ⟨f0, f1, hf, ho⟩ := hz
  show wpAny _ _ (field (.ref z) 2 >>= _) _ _ _
  refine wpAny_bind (wpAny_field (vs := #[f0, f1, .bool false, .ref TI, .ref TO]) ho rfl (x := .bool false) rfl ?_)
  show wpAny _ _ (field (.ref z) 3 >>= _) _ _ _
  refine wpAny_bind (wpAny_field (vs := #[f0, f1, .bool false, .ref TI, .ref TO]) ho rfl (x := .ref TI) rfl (wpAny_bind (wpAny_seqItems hTI rfl ?_)))
  show wpAny _ _ (Builtin.SmallTypes.ownedTupleIsFree (.ref z) >>= _) _ _ _
  refine wpAny_bind (zn_free hz' fun b h₁ hz₁ e₁ n₁ => ?_)
  have p1₁ := p1.at fun o q => eb e₁ D.i1z q
  have p2₁ := p2.at fun o q => eb e₁ D.i2z q
  have q1₁ := q1.at fun o q => eb e₁ D.l1z q
  have q2₁ := q2.at fun o q => eb e₁ D.l2z q
  obtain ⟨a, b', hTO⟩ := hTO
  have hTO₁ : IsPair h₁ TO a b' := eb e₁ D.TOz hTO
  cases b with
  | false =>
    simp only [Bool.false_eq_true, if_false]
    refine wpAny_bind ?_
    rw [← Array.forIn_toList]
    simp only [List.forIn_cons, List.forIn_nil]
    refine wpAny_bind (wpAny_bind (wpAny_holding ?_))
    show wpAny _ _ (Builtin.SmallTypes.nextOf (.ref i1) >>= _) _ _ _
    cases hx : xs[k1]? with
    | none => exact wpAny_bind (draw_end (s := { s with heap := h₁ }) hh p1₁ q1₁ hx fun h₂ e e₂ he => go h₂ e (fun c o c1 _ c3 _ q => eb e₂ c3 (eb e₁ c1 q)) he)
    | some x =>
      have hy : ys[k2]? = none := hend.elim (fun z => by rw [hx] at z; cases z) id
      refine wpAny_bind (draw_item (s := { s with heap := h₁ }) p1₁ q1₁ hx fun h₂ p1₂ e₂ n₂ => wpAny_pure (wpAny_pure ?_))
      refine wpAny_bind (wpAny_bind (wpAny_holding ?_))
      show wpAny _ _ (Builtin.SmallTypes.nextOf (.ref i2) >>= _) _ _ _
      exact wpAny_bind (draw_end (s := { s with heap := h₂ }) hh (p2₁.at fun o q => eb e₂ D.i12.symm q) (q2₁.at fun o q => eb e₂ D.l2i1 q) hy fun h₃ e e₃ he => go h₃ e (fun c o c1 _ c3 c4 q => eb e₃ c4 (eb e₂ c3 (eb e₁ c1 q))) he)
  | true =>
    simp only [if_true]
    obtain ⟨g0, g1, hg, hz₁⟩ := hz₁
    refine wpAny_bind (wpAny_rule (wpAny_bind (wpAny_field (vs := #[g0, g1, .bool false, .ref TI, .ref TO]) hz₁ rfl (x := .ref TO) rfl ?_)))
    refine wpAny_bind (wpAny_setField_rec hz₁ (by simp) fun h₂ hz₂ s₂ => ?_)
    have hz₂ : h₂.get? z = some (zO .ellipsis g1 TI TO) := hz₂
    have e₂ := s₂.extBut
    refine wpAny_bind ?_
    simp only [List.zipIdx_cons, List.zipIdx_nil, List.forIn_cons, List.forIn_nil]
    refine wpAny_bind (wpAny_bind (wpAny_onRaise ?_))
    show wpAny _ _ (Builtin.SmallTypes.nextOf (.ref i1) >>= _) _ _ _
    have p1₂ := p1₁.at fun o q => eb e₂ D.i1z q
    have q1₂ := q1₁.at fun o q => eb e₂ D.l1z q
    cases hx : xs[k1]? with
    | none =>
      refine wpAny_bind (draw_end (s := { s with heap := h₂ }) hh p1₂ q1₂ hx fun h₃ e e₃ ⟨oe, he, ce⟩ => ?_)
      have hz₃ : h₃.get? z = some (zO .ellipsis g1 TI TO) := eb e₃ D.i1z.symm hz₂
      have ne : e ≠ z := fun q => by subst q; rw [hz₃] at he; cases he; simp [zO] at ce
      exact wpAny_setField_rec hz₃ (by simp) fun h₄ _ s₄ => go h₄ e (fun c o c1 _ c3 _ q => eb s₄.extBut c1 (eb e₃ c3 (eb e₂ c1 (eb e₁ c1 q)))) ⟨oe, eb s₄.extBut ne he, ce⟩
    | some x =>
      have hy : ys[k2]? = none := hend.elim (fun z => by rw [hx] at z; cases z) id
      refine wpAny_bind (draw_item (s := { s with heap := h₂ }) p1₂ q1₂ hx fun h₃ p1₃ e₃ n₃ => wpAny_pure ?_)
      have hTO₃ : IsPair h₃ TO a b' := eb e₃ D.TOi1 (eb e₂ D.TOz hTO₁)
      refine wpAny_bind (wpAny_seqItems hTO₃ rfl (wpAny_bind (wpAny_updateSeq_pair hTO₃ fun h₄ hTO₄ s₄ => wpAny_bind (wpAny_letGo (wpAny_pure ?_)))))
      have e₄ := s₄.extBut
      refine wpAny_bind (wpAny_bind (wpAny_onRaise ?_))
      show wpAny _ _ (Builtin.SmallTypes.nextOf (.ref i2) >>= _) _ _ _
      refine wpAny_bind (draw_end (s := { s with heap := h₄ }) hh (p2₁.at fun o q => eb e₄ D.TOi2.symm (eb e₃ D.i12.symm (eb e₂ D.i2z q))) (q2₁.at fun o q => eb e₄ D.l2TO (eb e₃ D.l2i1 (eb e₂ D.l2z q))) hy fun h₅ e e₅ ⟨oe, he, ce⟩ => ?_)
      have hz₅ : h₅.get? z = some (zO .ellipsis g1 TI TO) := eb e₅ D.i2z.symm (eb e₄ D.TOz.symm (eb e₃ D.i1z.symm hz₂))
      have ne : e ≠ z := fun q => by subst q; rw [hz₅] at he; cases he; simp [zO] at ce
      exact wpAny_setField_rec hz₅ (by simp) fun h₆ _ s₆ => go h₆ e (fun c o c1 c2 c3 c4 q => eb s₆.extBut c1 (eb e₅ c4 (eb e₄ c2 (eb e₃ c3 (eb e₂ c1 (eb e₁ c1 q)))))) ⟨oe, eb s₆.extBut ne he, ce⟩

/-- the step ahead of the store: the zip may forget what it handed out -/
theorem own_go {tg : Expr} {r : Addr} {v : Value} {o : Obj} {n : String} {vs : Array Value} {Q : Unit → Shared → Prop} (ho : s.heap.get? r = some o) (hc : o.cls = .type n) (hd : o.data = .fields vs) (hv : ∃ a, v = .ref a)
    (same : Q () s) (forget : wpAny (model prog w) A (updateField r 0 .none) Q E s) : wpAny (model prog w) A (letOwnedTupleGo tg (.ref r) v) Q E s := by
  obtain ⟨a, rfl⟩ := hv
  unfold letOwnedTupleGo
  cases tg <;> first
    | exact wpAny_pure same
    | (refine wpAny_bind (wpAny_load ho ?_)
       rw [hc, hd]
       dsimp only
       split
       · exact wpAny_bind (wpAny_rule forget)
       · exact wpAny_pure same)
theorem zn_own {tg : Expr} {z TI TO a : Addr} {Q : Unit → Shared → Prop} (hz : ZN s.heap z TI TO) (go : ∀ h', ZN h' z TI TO → Heap.ExtBut z s.heap h' → Q () { s with heap := h' }) : wpAny (model prog w) A (letOwnedTupleGo tg (.ref z) (.ref a)) Q E s := by
  obtain ⟨f0, f1, hf, hz'⟩ := hz
  refine own_go hz' rfl rfl ⟨a, rfl⟩ (go s.heap ⟨f0, f1, hf, hz'⟩ fun _ _ _ e => e) ?_
  show wpAny _ _ (setField (.ref z) 0 .none) Q E s
  exact wpAny_setField_rec hz' (by simp) fun h₁ hz₁ s₁ => go h₁ ⟨_, _, .inl rfl, hz₁⟩ s₁.extBut
theorem zn_pyNext {Q : Option Value → Shared → Prop} (D : ZipApart z TI TO i1 i2 l1 l2) (hz : ZN s.heap z TI TO) (hTI : IsPair s.heap TI (.ref i1) (.ref i2)) (hTO : Pr s.heap TO) (p1 : ItAt t1 s.heap i1 l1 k1) (p2 : ItAt t2 s.heap i2 l2 k2) (q1 : SqAt t1 s.heap l1 xs) (q2 : SqAt t2 s.heap l2 ys)
    (hx : xs[k1]? = some x) (hy : ys[k2]? = some y)
    (go : ∀ h', ZN h' z TI TO → Pr h' TO → ItAt t1 h' i1 l1 (k1 + 1) → ItAt t2 h' i2 l2 (k2 + 1) → IsPair h' s.heap.objs.size x y → h'.objs.size = s.heap.objs.size + 1 → Rest s.heap h' z TO i1 i2 → Q (some (.ref s.heap.objs.size)) { s with heap := h' }) :
    wpAny (model prog w) A (pyNext (.ref z)) Q E s := by
  have ty : s.TypeIs (.ref z) "zip" := by obtain ⟨f0, f1, _, h⟩ := hz; exact ⟨_, h, rfl⟩
  unfold pyNext
  exact wpAny_bind (wpAny_attempt (wpAny_callSpecial?_slot (name := Str.ofString "__next__") ty F.slot_zip_next (wpAny_call_entry F.slot_zip_next ty F.entry_zip_next
    (zn_item D hz hTI hTO p1 p2 q1 q2 hx hy fun h' a b c d e f g => wpAny_pure (go h' a b c d e f g)) (F.args_zip_next_1 _))))
theorem zn_pyStop {Q : Option Value → Shared → Prop} (hh : A.handled = none) (D : ZipApart z TI TO i1 i2 l1 l2) (hz : ZN s.heap z TI TO) (hTI : IsPair s.heap TI (.ref i1) (.ref i2)) (hTO : Pr s.heap TO) (p1 : ItAt t1 s.heap i1 l1 k1) (p2 : ItAt t2 s.heap i2 l2 k2) (q1 : SqAt t1 s.heap l1 xs) (q2 : SqAt t2 s.heap l2 ys)
    (hend : xs[k1]? = none ∨ ys[k2]? = none) (go : ∀ h', Rest s.heap h' z TO i1 i2 → Q none { s with heap := h' }) : wpAny (model prog w) A (pyNext (.ref z)) Q E s := by
  have ty : s.TypeIs (.ref z) "zip" := by obtain ⟨f0, f1, _, h⟩ := hz; exact ⟨_, h, rfl⟩
  unfold pyNext
  refine wpAny_bind (wpAny_attempt (wpAny_callSpecial?_slot (name := Str.ofString "__next__") ty F.slot_zip_next (wpAny_call_entry F.slot_zip_next ty F.entry_zip_next
    (zn_end hh D hz hTI hTO p1 p2 q1 q2 hend fun h' e r he => ?_) (F.args_zip_next_1 _))))
  obtain ⟨o, ho, hc⟩ := he
  exact wpAny_bind (wpAny_isInstance (T := "StopIteration") (b := true) ⟨o, ho, hc⟩ isSubtype_stop (wpAny_pure (go h' r)))
theorem zn_pyIter {Q : Value → Shared → Prop} (hz : ZN s.heap z TI TO) (h : Q (.ref z) s) : wpAny (model prog w) A (pyIter (.ref z)) Q E s := by
  have ty : s.TypeIs (.ref z) "zip" := by obtain ⟨f0, f1, _, h⟩ := hz; exact ⟨_, h, rfl⟩
  refine wpAny_pyIter_slot ty F.slot_zip_iter (wpAny_call_entry F.slot_zip_iter ty F.entry_zip_iter ?_ (F.args_zip_iter_1 _))
  show wpAny _ _ (ret (.ref z)) _ _ s
  exact wpAny_pure ⟨_, rfl, "zip", _, ty, F.slot_zip_next.lookup, h⟩
end

/-! ### a zip is made -/
def itO (t : Bool) (l : Addr) : Obj := { cls := .type (if t = true then "tuple_iterator" else "list_iterator"), data := .fields #[.ref l, .int 0 0] }
def zH1 (t : Bool) (h : Heap) (l : Addr) : Heap := h.push (itO t l)
def zH3 (t1 t2 : Bool) (h : Heap) (l1 l2 : Addr) : Heap := (zH1 t2 (zH1 t1 h l1) l2).push { cls := .type "tuple", data := .seq #[.ref h.objs.size, .ref (zH1 t1 h l1).objs.size] }
def zH4 (t1 t2 : Bool) (h : Heap) (l1 l2 : Addr) : Heap := (zH3 t1 t2 h l1 l2).push { cls := .type "tuple", data := .seq #[.none, .none] }
def zH5 (t1 t2 : Bool) (h : Heap) (l1 l2 : Addr) : Heap := (zH4 t1 t2 h l1 l2).push (zO .none (.bool false) (zH1 t2 (zH1 t1 h l1) l2).objs.size (zH3 t1 t2 h l1 l2).objs.size)
theorem zn_meets (t1 t2 : Bool) (l1 l2 : Addr) (xs ys : Array Value) : Meets (Builtin.«zip.__new__» ⟨[.type "zip", .ref l1, .ref l2], []⟩) (fun _ R s => SqAt t1 s.heap l1 xs ∧ SqAt t2 s.heap l2 ys ∧
    R (.ok (.ret (.ref (zH4 t1 t2 s.heap l1 l2).objs.size))) { s with heap := zH5 t1 t2 s.heap l1 l2 }) := by
  cases t1 <;> cases t2
  · exact meets_zip_new l1 l2 xs ys
  · refine .of_wp fun prog w A R s h => ?_
    obtain ⟨hp, g, d, tk, os⟩ := s
    obtain ⟨h1, h2, h⟩ := h
    have sb := sub_zip
    have b1 : Heap.IsList (Shared.heap ⟨hp, g, d, tk, os⟩) l1 xs := h1
    have b2 : Heap.IsTuple (Shared.heap ⟨hp.push { cls := .type "list_iterator", data := .fields #[.ref l1, .int 0 0] }, g, d, tk, os⟩) l2 ys := (show SqAt true hp l2 ys from h2).at fun o q => Heap.get?_push_of_some _ q
    wp_walk using wpAny_pyIter_list b1, wpAny_pyIter_tuple b2
    exact ⟨_, rfl, h⟩
  · refine .of_wp fun prog w A R s h => ?_
    obtain ⟨hp, g, d, tk, os⟩ := s
    obtain ⟨h1, h2, h⟩ := h
    have sb := sub_zip
    have b1 : Heap.IsTuple (Shared.heap ⟨hp, g, d, tk, os⟩) l1 xs := h1
    have b2 : Heap.IsList (Shared.heap ⟨hp.push { cls := .type "tuple_iterator", data := .fields #[.ref l1, .int 0 0] }, g, d, tk, os⟩) l2 ys := (show SqAt false hp l2 ys from h2).at fun o q => Heap.get?_push_of_some _ q
    wp_walk using wpAny_pyIter_tuple b1, wpAny_pyIter_list b2
    exact ⟨_, rfl, h⟩
  · exact RZ.meets_zipT_new l1 l2 xs ys
section
variable {prog : Program} {w : World} {A : Around} {E : Value → Shared → Prop} {s : Shared} {t1 t2 : Bool} {l1 l2 : Addr} {xs ys : Array Value}
theorem it_new {t : Bool} {h : Heap} {i l : Addr} (e : h.get? i = some (itO t l)) : ItAt t h i l 0 := by
  cases t with
  | false => exact ⟨_, e, rfl, rfl⟩
  | true => exact ⟨_, e, rfl, rfl⟩
theorem zn_call {Q : Value → Shared → Prop} (q1 : SqAt t1 s.heap l1 xs) (q2 : SqAt t2 s.heap l2 ys)
    (go : ∀ h', ZN h' (s.heap.objs.size + 4) (s.heap.objs.size + 2) (s.heap.objs.size + 3) → IsPair h' (s.heap.objs.size + 2) (.ref s.heap.objs.size) (.ref (s.heap.objs.size + 1)) → Pr h' (s.heap.objs.size + 3) → ItAt t1 h' s.heap.objs.size l1 0 → ItAt t2 h' (s.heap.objs.size + 1) l2 0 →
      (∀ c o, s.heap.get? c = some o → h'.get? c = some o) → Q (.ref (s.heap.objs.size + 4)) { s with heap := h' }) : wpAny (model prog w) A (call (.type "zip") [.ref l1, .ref l2]) Q E s := by
  refine callType_new F.called_zip (by decide) (F.typeCall_zip_2 _ _) (F.newCall_zip_2 _ _) (fun obj => F.args_object_init_3 obj _ _) F.entry_zip_new (zn_meets t1 t2 l1 l2 xs ys) ⟨q1, q2, ?_⟩
  have n1 : (zH1 t1 s.heap l1).objs.size = s.heap.objs.size + 1 := Heap.size_push ..
  have n2 : (zH1 t2 (zH1 t1 s.heap l1) l2).objs.size = s.heap.objs.size + 2 := (Heap.size_push ..).trans (by rw [n1])
  have n3 : (zH3 t1 t2 s.heap l1 l2).objs.size = s.heap.objs.size + 3 := (Heap.size_push ..).trans (by rw [n2])
  have n4 : (zH4 t1 t2 s.heap l1 l2).objs.size = s.heap.objs.size + 4 := (Heap.size_push ..).trans (by rw [n3])
  have u5 : ∀ c o, (zH4 t1 t2 s.heap l1 l2).get? c = some o → (zH5 t1 t2 s.heap l1 l2).get? c = some o := fun c o q => Heap.get?_push_of_some _ q
  have u4 : ∀ c o, (zH3 t1 t2 s.heap l1 l2).get? c = some o → (zH5 t1 t2 s.heap l1 l2).get? c = some o := fun c o q => u5 c o (Heap.get?_push_of_some _ q)
  have u3 : ∀ c o, (zH1 t2 (zH1 t1 s.heap l1) l2).get? c = some o → (zH5 t1 t2 s.heap l1 l2).get? c = some o := fun c o q => u4 c o (Heap.get?_push_of_some _ q)
  have u2 : ∀ c o, (zH1 t1 s.heap l1).get? c = some o → (zH5 t1 t2 s.heap l1 l2).get? c = some o := fun c o q => u3 c o (Heap.get?_push_of_some _ q)
  have g5 : (zH5 t1 t2 s.heap l1 l2).get? (zH4 t1 t2 s.heap l1 l2).objs.size = some (zO .none (.bool false) (zH1 t2 (zH1 t1 s.heap l1) l2).objs.size (zH3 t1 t2 s.heap l1 l2).objs.size) := Heap.get?_push_size _ rfl
  have g4 : IsPair (zH5 t1 t2 s.heap l1 l2) (zH3 t1 t2 s.heap l1 l2).objs.size .none .none := u5 _ _ (Heap.get?_push_size _ rfl)
  have g3 : IsPair (zH5 t1 t2 s.heap l1 l2) (zH1 t2 (zH1 t1 s.heap l1) l2).objs.size (.ref s.heap.objs.size) (.ref (zH1 t1 s.heap l1).objs.size) := u4 _ _ (Heap.get?_push_size _ rfl)
  have g2 : (zH5 t1 t2 s.heap l1 l2).get? (zH1 t1 s.heap l1).objs.size = some (itO t2 l2) := u3 _ _ (Heap.get?_push_size _ rfl)
  have g1 : (zH5 t1 t2 s.heap l1 l2).get? s.heap.objs.size = some (itO t1 l1) := u2 _ _ (Heap.get?_push_size _ rfl)
  rw [n1] at g2 g3
  rw [n2] at g3
  rw [n3] at g4
  rw [n4, n2, n3] at g5
  show _ ∧ _
  rw [n4]
  exact ⟨⟨_, g5, rfl⟩, go _ ⟨_, _, .inl rfl, g5⟩ g3 ⟨_, _, g4⟩ (it_new g1) (it_new g2) fun c o q => u2 c o (Heap.get?_push_of_some _ q)⟩
end
end DL

/-! The data layer: zip and enumerate as what a loop walks. -/
namespace DL
open PySem PySem.Spec PyProof.Rows L2

def SqB (t : Bool) (K : PySem.W.Frag) (H : Hp) (a : Addr) (xs : List V) : Prop := if t = true then SqT K H a xs else SqL K H a xs
section
variable {X : Cx} {pins : List (Addr × Obj)} {σ : L2.St} {H : Hp} {s : Shared} {t t1 t2 : Bool} {a b : Addr} {xs ys : List V}
theorem sq_in (I : Inv X pins σ H s) (h : SqB t X.K H a xs) : ∃ its : List Value, Vals xs its ∧ SqAt t s.heap a its.toArray := by
  cases t with
  | false => obtain ⟨its, r, p, _⟩ := I.list h; exact ⟨its, r, p.isList⟩
  | true => obtain ⟨its, r, p, _⟩ := I.tuple h; exact ⟨its, r, p⟩
theorem sq_one (I : Inv X pins σ H s) (h : SqB t X.K H a xs) (g : SqB t X.K H a ys) : xs = ys := by
  cases t with
  | false => exact I.list_inj h g
  | true => exact I.tuple_inj h g
theorem SqAt.lt {h : Heap} {its : Array Value} (p : SqAt t h a its) : a < h.objs.size := by
  cases t with
  | false => obtain ⟨o, e, _⟩ := (show h.IsList a its from p); exact Heap.lt_size e
  | true => obtain ⟨o, e, _⟩ := (show h.IsTuple a its from p); exact Heap.lt_size e
/-- the sequences at a and b as they stand at each turn, the items in new pairs -/
def ItZ (t1 t2 : Bool) (K : PySem.W.Frag) (a b : Addr) : It where
  go := fun i H => ∃ (xs ys : List V) (x y : V), SqB t1 K H a xs ∧ SqB t2 K H b ys ∧ xs[i]? = some x ∧ ys[i]? = some y
  yld := fun i H v H' => ∃ T x y, v = .ref T ∧ H T = none ∧ H' = upd H T (.tup [x, y]) ∧ (∀ xs, SqB t1 K H a xs → xs[i]? = some x) ∧ ∀ ys, SqB t2 K H b ys → ys[i]? = some y
  stop := fun i H => ∃ xs ys : List V, SqB t1 K H a xs ∧ SqB t2 K H b ys ∧ (xs.length ≤ i ∨ ys.length ≤ i)
theorem turn_Z {P : Program} {w : World} {K : PySem.W.Frag} {tg : Expr} {z TI TO i1 i2 : Addr} (D : ZipApart z TI TO i1 i2 a b) :
    Turn P w K tg (ItZ t1 t2 K a b) [z, TI, TO, i1, i2] z (fun i h => ZN h z TI TO ∧ IsPair h TI (.ref i1) (.ref i2) ∧ Pr h TO ∧ ItAt t1 h i1 a i ∧ ItAt t2 h i2 b i) where
  mem := List.mem_cons_self
  obj := fun i h ⟨⟨f0, f1, _, hz⟩, hTI, ⟨x, y, hTO⟩, p1, p2⟩ c hc => by
    rcases (show c = z ∨ c = TI ∨ c = TO ∨ c = i1 ∨ c = i2 by simpa using hc) with rfl | rfl | rfl | rfl | rfl
    · exact ⟨_, hz, fun _ q => nomatch q⟩
    · exact ⟨_, hTI, fun _ q => nomatch q⟩
    · exact ⟨_, hTO, fun _ q => nomatch q⟩
    · exact p1.there
    · exact p2.there
  keep := fun i h h' ⟨⟨f0, f1, hf, hz⟩, hTI, ⟨x, y, hTO⟩, p1, p2⟩ k => ⟨⟨f0, f1, hf, k _ (by simp) _ hz⟩, k _ (by simp) _ hTI, ⟨x, y, k _ (by simp) _ hTO⟩, p1.at fun o q => k _ (by simp) o q, p2.at fun o q => k _ (by simp) o q⟩
  item := by
    rintro X rfl rfl rfl hc i pins s σ H E I hf ⟨hz, hTI, hTO, p1, p2⟩ ⟨xs, ys, x, y, sx, sy, hx, hy⟩
    obtain ⟨us, ru, qu⟩ := sq_in I sx
    obtain ⟨vs, rv, qv⟩ := sq_in I sy
    obtain ⟨u, hu, r1⟩ := ru.get hx
    obtain ⟨v, hv, r2⟩ := rv.get hy
    refine zn_pyNext D hz hTI hTO p1 p2 qu qv (x := u) (y := v) (by simpa using hu) (by simpa using hv) fun h₁ hz₁ hTO₁ p1₁ p2₁ hT n rest => ⟨_, rfl, zn_own (s := { s with heap := h₁ }) hz₁ fun h₂ hz₂ e₂ => ?_⟩
    have lz : z < s.heap.objs.size := by obtain ⟨_, _, _, q⟩ := hz; exact Heap.lt_size q
    have hT₂ : IsPair h₂ s.heap.objs.size u v := eb e₂ (Nat.ne_of_gt lz) hT
    have keep : ∀ c o, c ∉ [z, TI, TO, i1, i2] → s.heap.get? c = some o → h₂.get? c = some o := fun c o hn q => by
      simp only [List.mem_cons, List.not_mem_nil, or_false, not_or] at hn
      exact eb e₂ hn.1 (rest c o hn.1 hn.2.2.1 hn.2.2.2.1 hn.2.2.2.2 q)
    have new : ObjOk X.prog X.w (upd H s.heap.objs.size (.tup [x, y])) h₂ s.heap.objs.size (.tup [x, y]) := ⟨by show 2 ≤ sizeLine; decide, [u, v], .cons r1 (.cons r2 .nil), ⟨_, hT₂, rfl, _, rfl⟩⟩
    have I₂ : Inv X pins σ (upd H s.heap.objs.size (.tup [x, y])) { s with heap := h₂ } := I.turnedNew (t' := s.toks) (ch := [z, TI, TO, i1, i2]) keep hf (Nat.le_refl _) new
    have hTI₁ : IsPair h₁ TI (.ref i1) (.ref i2) := rest _ _ D.TIz D.TITO D.TIi1 D.TIi2 hTI
    obtain ⟨g, g', hTO₁⟩ := hTO₁
    refine ⟨.ref s.heap.objs.size, _, I₂, rfl, ⟨_, x, y, rfl, I.hok.fresh (Nat.le_refl _), rfl, fun l hl => by rw [sq_one I hl sx]; exact hx, fun l hl => by rw [sq_one I hl sy]; exact hy⟩, ⟨hz₂, eb e₂ D.TIz hTI₁, ⟨g, g', eb e₂ D.TOz hTO₁⟩, p1₁.at fun o q => eb e₂ D.i1z q, p2₁.at fun o q => eb e₂ D.i2z q⟩, fun c hcm => ?_⟩
    have lc : c < s.heap.objs.size := by
      rcases (show c = z ∨ c = TI ∨ c = TO ∨ c = i1 ∨ c = i2 by simpa using hcm) with rfl | rfl | rfl | rfl | rfl
      · exact lz
      · exact Heap.lt_size hTI
      · obtain ⟨_, _, q⟩ := hTO; exact Heap.lt_size q
      · obtain ⟨_, q, _⟩ := p1.there; exact Heap.lt_size q
      · obtain ⟨_, q, _⟩ := p2.there; exact Heap.lt_size q
    rw [upd_ne (Nat.ne_of_lt lc)]
    exact (hf c hcm).1
  done := by
    rintro X rfl rfl rfl hc i pins s σ H E I hf ⟨hz, hTI, hTO, p1, p2⟩ ⟨xs, ys, sx, sy, hend⟩
    obtain ⟨us, ru, qu⟩ := sq_in I sx
    obtain ⟨vs, rv, qv⟩ := sq_in I sy
    have lu := ru.length
    have lv := rv.length
    have he : us.toArray[i]? = none ∨ vs.toArray[i]? = none := hend.imp (fun q => by simp; omega) fun q => by simp; omega
    refine zn_pyStop (I.ok.hd hc) D hz hTI hTO p1 p2 qu qv he fun h₁ rest => ⟨rfl, I.turnedL (t' := s.toks) (ch := [z, TI, TO, i1, i2]) (fun c o hn q => ?_) hf⟩
    simp only [List.mem_cons, List.not_mem_nil, or_false, not_or] at hn
    exact rest c o hn.1 hn.2.2.1 hn.2.2.2.1 hn.2.2.2.2 q
  self := fun A i s Q E ⟨hz, _⟩ h => zn_pyIter hz h
end
def iZ (K : PySem.W.Frag) (ta : TA) : TI := fun σ H R => ta σ H fun vs H1 => ∃ (t1 t2 : Bool) (a b : Addr) (xs ys : List V), vs = [.ref a, .ref b] ∧ SqB t1 K H1 a xs ∧ SqB t2 K H1 b ys ∧ R (ItZ t1 t2 K a b) H1
theorem pi_Z {X : Cx} {e e2 tg : Expr} {ta : TA} {p pos : Pos} (hg : Gl X "zip") (hm : X.mg "zip" = none) (ha : PA X [e, e2] ta)
    (hs : starEach [e, e2] X.env = (false, eval e X.env) :: starEach [e2] X.env) (hpl : (backTo pos (starEach [e2] X.env)).any (·.1) = false) : PI X tg (.Call (.Name "zip" p) [e, e2] [] pos) (iZ X.K ta) := by
  refine ⟨fun pins s σ H R I h => ?_⟩
  refine Call_ (ld_blt I hg hm PyProof.Rows.boot_zip (PyProof.Rows.callWith_type1 (thn (ha.run pos pins s σ H _ I h) fun us s1 ⟨vs, H1, I1, r1, t1, t2, a, b, xs, ys, ex, sx, sy, q⟩ => ?_) hs hpl))
  subst ex
  rcases r1 with _ | ⟨ra, _ | ⟨rb, _ | _⟩⟩
  cases ra
  cases rb
  obtain ⟨us, ru, qu⟩ := sq_in I1 sx
  obtain ⟨vs, rv, qv⟩ := sq_in I1 sy
  refine zn_call qu qv fun h₁ hz hTI hTO p1 p2 up => zn_pyIter hz ?_
  refine ⟨s1.heap.objs.size + 4, [s1.heap.objs.size + 4, s1.heap.objs.size + 2, s1.heap.objs.size + 3, s1.heap.objs.size, s1.heap.objs.size + 1], _, _, H1, rfl, I1.kept (t' := s1.toks) up, turn_Z (PySem.W.ktu_apart s1.heap.objs.size a b qu.lt qv.lt), ⟨hz, hTI, hTO, p1, p2⟩, fun c hc => ?_, q⟩
  have le : s1.heap.objs.size ≤ c := by
    rcases (show c = s1.heap.objs.size + 4 ∨ c = s1.heap.objs.size + 2 ∨ c = s1.heap.objs.size + 3 ∨ c = s1.heap.objs.size ∨ c = s1.heap.objs.size + 1 by simpa using hc) with rfl | rfl | rfl | rfl | rfl <;> omega
  exact I1.fpOk le (I1.hok.fresh le)

/-! ### over data -/
/-- the items of a walked sequence at H -/
def Wk (K : PySem.W.Frag) (fa : Org) (t : Bool) (a : Addr) (α : List Addr) (H : Hp) (xs : List D) (grd : Mem → Prop) : Prop :=
  ∀ (H' : Hp) (α' : List Addr) (M' : Mem), Ext K H H' α α' → StR K fa α' H' M' → grd M' → ∃ vs, SqB t K H' a vs ∧ Rps K fa α' H' vs xs
theorem wk_of {K : PySem.W.Frag} {fa : Org} {α : List Addr} {H : Hp} {M : Mem} {v : V} {d : D} {xs : List D} (st : StR K fa α H M) (r : Rp K fa α H v d) (h : seqOf M d = some xs) :
    ∃ (t : Bool) (a : Addr) (vs : List V), v = .ref a ∧ SqB t K H a vs ∧ xs.length ≤ sizeLine ∧ Wk K fa t a α H xs (grdOf d xs) := by
  cases r with
  | @tup a vs ds s l r =>
    cases h
    exact ⟨true, a, vs, rfl, .inl (.inl s), by rw [← r.length]; exact l, fun H' α' M' e _ _ => ⟨vs, .inl (.inl (e.tup _ _ s)), r.mono e⟩⟩
  | @kup a vs ds s l r =>
    cases h
    exact ⟨true, a, vs, rfl, s H, by rw [← r.length]; exact l, fun H' α' M' e _ _ => ⟨vs, s H', r.mono e⟩⟩
  | @rol a vs ds s l r =>
    cases h
    have sq : ∀ H' α', Ext K H H' α α' → SqL K H' a vs := fun H' α' e => s.elim (fun ⟨o, z⟩ => .inl (.inr ⟨o, e.frz _ _ _ z⟩)) fun z => z H'
    exact ⟨false, a, vs, rfl, sq H α Ext.refl, by rw [← r.length]; exact l, fun H' α' M' e _ _ => ⟨vs, sq _ _ e, r.mono e⟩⟩
  | @ref n a ea =>
    have h : (match M[n]? with
      | some (.lst xs) => some xs
      | _ => none) = some xs := h
    split at h
    · rename_i ys q
      cases h
      obtain ⟨vs, hv, l, r⟩ := cell_l st ea q
      refine ⟨false, a, vs, rfl, .inl (.inl hv), by rw [← r.length]; exact l, fun H' α' M' e st' hg => ?_⟩
      obtain ⟨ws, hw, _, r2⟩ := st'.cell n _ a hg (e.at ea)
      exact ⟨ws, .inl (.inl hw), r2⟩
    · cases h
  | _ => cases h
def zipD (xs ys : List D) : List D := (xs.zip ys).map fun p => .tup [p.1, p.2]
def iZip (a b : DE) : DI := fun C ρ M P => a C ρ M fun d M1 => b C ρ M1 fun e M2 => match seqOf M2 d with
  | some xs => (match seqOf M2 e with
    | some ys => P (zipD xs ys) (fun M => grdOf d xs M ∧ grdOf e ys M) M2
    | none => False)
  | none => False
section
variable {K : PySem.W.Frag} {fa : Org} {α : List Addr} {H : Hp} {M : Mem}
theorem rps_get {vs : List V} {ds : List D} {i : Nat} {v : V} {d : D} (r : Rps K fa α H vs ds) (h1 : vs[i]? = some v) (h2 : ds[i]? = some d) : Rp K fa α H v d := by
  obtain ⟨w, e, r'⟩ := r.get h2
  rw [h1] at e
  cases e
  exact r'
theorem zipD_get {xs ys : List D} {i : Nat} {d : D} (h : (zipD xs ys)[i]? = some d) : ∃ x y, xs[i]? = some x ∧ ys[i]? = some y ∧ d = .tup [x, y] := by
  unfold zipD at h
  rw [List.getElem?_map] at h
  obtain ⟨p, h1, h2⟩ := Option.map_eq_some_iff.mp h
  obtain ⟨h3, h4⟩ := List.getElem?_zip_eq_some.mp h1
  exact ⟨p.1, p.2, h3, h4, h2.symm⟩
theorem upd_pair {T : Addr} {x y : V} {dx dy : D} (sr : StR K fa α H M) (hT : H T = none) (r1 : Rp K fa α H x dx) (r2 : Rp K fa α H y dy) : Ext K H (upd H T (.tup [x, y])) α α ∧ StR K fa α (upd H T (.tup [x, y])) M ∧ Rp K fa α (upd H T (.tup [x, y])) (.ref T) (.tup [dx, dy]) := by
  have e := Ext.new (K := K) (α := α) (o := .tup [x, y]) hT
  exact ⟨e, sr.new hT, .tup upd_same (by show 2 ≤ sizeLine; decide) (.cons (r1.mono e) (.cons (r2.mono e) .nil))⟩
theorem itok_Z {t1 t2 : Bool} {a b : Addr} {xs ys : List D} {g1 g2 : Mem → Prop} (l1 : xs.length ≤ sizeLine) (w1 : Wk K fa t1 a α H xs g1) (w2 : Wk K fa t2 b α H ys g2) : ItOk K fa (ItZ t1 t2 K a b) α H (zipD xs ys) (fun M => g1 M ∧ g2 M) := by
  have len : (zipD xs ys).length = min xs.length ys.length := by simp [zipD]
  refine ⟨by omega, fun H' α' M' e sr hg i => ?_⟩
  obtain ⟨us, su, ru⟩ := w1 H' α' M' e sr hg.1
  obtain ⟨vs, sv, rv⟩ := w2 H' α' M' e sr hg.2
  have lu := ru.length
  have lv := rv.length
  refine ⟨fun hi => ⟨us, vs, su, sv, by omega⟩, fun hi => ?_, fun x v H2 hx ⟨T, x', y', e1, hT, e2, h1, h2⟩ => ?_⟩
  · rw [len] at hi
    exact ⟨us, vs, us[i]'(by omega), vs[i]'(by omega), su, sv, List.getElem?_eq_getElem _, List.getElem?_eq_getElem _⟩
  · obtain ⟨dx, dy, gx, gy, rfl⟩ := zipD_get hx
    subst e1 e2
    exact upd_pair sr hT (rps_get ru (h1 us su) gx) (rps_get rv (h2 vs sv) gy)
theorem i_zip {X : Cx} {C : Ctx} {e e2 tg : Expr} {te tf : DE} {p pos : Pos} (hg : Gl X "zip") (hm : X.mg "zip" = none) (ha : PE X e (LE X.K fa C te)) (hb : PE X e2 (LE X.K fa C tf)) (hs : starEach [e, e2] X.env = (false, eval e X.env) :: starEach [e2] X.env) (hs2 : starEach [e2] X.env = [(false, eval e2 X.env)]) (hpl : (backTo pos (starEach [e2] X.env)).any (·.1) = false) :
    PI X tg (.Call (.Name "zip" p) [e, e2] [] pos) (LI X.K fa C (iZip te tf)) :=
  (pi_Z hg hm (pa_cons ha (pa_cons hb pa_nil hs2) hs) hs hpl).imp fun σ H R ⟨ρ, M, α, P, er, sr, h, k⟩ => ⟨ρ, M, α, _, er, sr, h, fun v d H1 α1 M1 e1 s1 r1 p1 => ⟨ρ, M1, α1, _, er.mono e1, s1, p1, fun w e H2 α2 M2 e2 s2 r2 p2 => by
    split at p2
    · rename_i xs q1
      split at p2
      · rename_i ys q2
        obtain ⟨t1, a, us, ea, su, l1, w1⟩ := wk_of s2 (r1.mono e2) q1
        obtain ⟨t2, b, vs, eb, sv, l2, w2⟩ := wk_of s2 r2 q2
        subst ea eb
        exact ⟨t1, t2, a, b, us, vs, rfl, su, sv, k _ H2 α2 M2 _ _ (e1.trans e2) s2 (itok_Z l1 w1 w2) p2⟩
      · exact p2.elim
    · exact p2.elim⟩⟩
end
end DL

/-! The data layer: enumerate over lists and tuples. -/
namespace DL
open PySem PySem.Spec PyProof.Rows L2
open Sem (wp)

def eO (f0 f1 : Value) (it : Addr) (i : Int) (old : Value) : Obj := { cls := .type "enumerate", dict := none, data := .fields #[f0, f1, .ref it, rawInt i, .none, old], slots := #[] }
def EN (h : Heap) (e it : Addr) (i : Int) : Prop := ∃ f0 f1 old : Value, (f0 = .none ∨ ∃ T : Nat, f0 = rawInt (T : Int)) ∧ h.get? e = some (eO f0 f1 it i old)
section
variable {prog : Program} {w : World} {A : Around} {E : Value → Shared → Prop} {s : Shared} {t : Bool} {e it l a : Addr} {k : Nat} {xs : Array Value} {x : Value}
theorem en_free {i : Int} {Q : Bool → Shared → Prop} (he : EN s.heap e it i) (go : ∀ b h', EN h' e it i → Heap.ExtBut e s.heap h' → h'.objs.size = s.heap.objs.size → Q b { s with heap := h' }) :
    wpAny (model prog w) A (Builtin.SmallTypes.ownedTupleIsFree (.ref e)) Q E s := by
  obtain ⟨f0, f1, old, hf, hz⟩ := he
  unfold Builtin.SmallTypes.ownedTupleIsFree
  refine wpAny_bind (wpAny_field (vs := #[f0, f1, .ref it, rawInt i, .none, old]) hz rfl (i := 0) (x := f0) rfl ?_)
  have same : Heap.ExtBut e s.heap s.heap := fun _ _ _ q => q
  rcases hf with q | ⟨T, q⟩
  · subst q
    exact wpAny_pure (go true s.heap ⟨_, _, _, .inl rfl, hz⟩ same rfl)
  · subst q
    show wpAny _ _ (loadIfAlive ((T : Int).toNat) >>= _) _ _ _
    rw [Int.toNat_natCast]
    have cut : ∀ {k : Option Obj → Sem Bool}, wpAny (model prog w) A (k (s.heap.get? T)) Q E s → wpAny (model prog w) A (loadIfAlive T >>= k) Q E s := fun {k} hk => wpAny_bind (m := loadIfAlive T) (show wpAny (model prog w) A (loadIfAlive T) (fun r s' => wpAny (model prog w) A (k r) Q E s') E s from fun _ _ _ => hk)
    refine cut ?_
    cases hT : s.heap.get? T with
    | none => exact wpAny_pure (go true s.heap ⟨_, _, _, .inr ⟨T, rfl⟩, hz⟩ same rfl)
    | some oT =>
      simp only [Option.isNone_some, Bool.false_eq_true, if_false]
      refine wpAny_bind (wpAny_field (vs := #[rawInt (T : Int), f1, .ref it, rawInt i, .none, old]) hz rfl (i := 1) (x := f1) rfl ?_)
      by_cases hf1 : (f1 != .bool true) = true
      · rw [if_pos hf1]
        exact wpAny_bind (wpAny_setField_rec hz (by simp) fun h₁ hz₁ hs₁ => wpAny_pure (go false h₁ ⟨_, _, _, .inr ⟨T, rfl⟩, hz₁⟩ hs₁.extBut hs₁.1))
      · rw [if_neg hf1]
        exact wpAny_pure (go false s.heap ⟨_, _, _, .inr ⟨T, rfl⟩, hz⟩ same rfl)
abbrev Rest2 (h h' : Heap) (e it : Addr) : Prop := ∀ c o, c ≠ e → c ≠ it → h.get? c = some o → h'.get? c = some o
theorem en_item {Q : Value → Shared → Prop} (he : EN s.heap e it (k : Nat)) (p : ItAt t s.heap it l k) (q : SqAt t s.heap l xs) (hx : xs[k]? = some x) (hne : e ≠ it)
    (go : ∀ h', EN h' e it ((k + 1 : Nat) : Int) → ItAt t h' it l (k + 1) → IsPair h' s.heap.objs.size (.int (k : Nat) s.toks) x → h'.objs.size = s.heap.objs.size + 1 → Rest2 s.heap h' e it → Q (.ref s.heap.objs.size) { s with heap := h', toks := s.toks + 1 }) :
    wpAny (model prog w) A (Builtin.«enumerate.__next__» ⟨[.ref e], []⟩) (fun fin s' => ∃ v, fin = .done (.ret v) ∧ Q v s') E s := by
  obtain ⟨f0, f1, old, hf, he⟩ := he
  obtain ⟨hp, g, d, tk, os⟩ := s
  show wpAny _ _ (field (.ref e) 2 >>= _) _ _ _
  refine wpAny_bind (wpAny_field (vs := #[f0, f1, .ref it, rawInt (k : Nat), .none, old]) he rfl (x := .ref it) rfl (wpAny_bind (draw_item p q hx fun h₁ p₁ e₁ n₁ => ?_)))
  have he₁ : h₁.get? e = some (eO f0 f1 it (k : Nat) old) := eb e₁ hne he
  show wpAny _ _ (field (.ref e) 3 >>= _) _ _ _
  refine wpAny_bind (wpAny_field (vs := #[f0, f1, .ref it, rawInt (k : Nat), .none, old]) he₁ rfl (x := rawInt (k : Nat)) rfl ?_)
  show wpAny _ _ (field (.ref e) 4 >>= _) _ _ _
  refine wpAny_bind (wpAny_field (vs := #[f0, f1, .ref it, rawInt (k : Nat), .none, old]) he₁ rfl (x := .none) rfl ?_)
  show wpAny _ _ (mkInt (k : Nat) >>= _) _ _ ⟨h₁, g, d, tk, os⟩
  refine wpAny_bind (wpAny_mkInt ?_)
  show wpAny _ _ (setField (.ref e) 3 (rawInt (((k : Nat) : Int) + 1)) >>= _) _ _ ⟨h₁, g, d, tk + 1, os⟩
  refine wpAny_bind (wpAny_setField_rec he₁ (by simp) fun h₂ he₂ s₂ => ?_)
  have he₂ : h₂.get? e = some (eO f0 f1 it (((k : Nat) : Int) + 1) old) := he₂
  show wpAny _ _ (setField (.ref e) 4 .none >>= _) _ _ ⟨h₂, g, d, tk + 1, os⟩
  refine wpAny_bind (wpAny_setField_rec he₂ (by simp) fun h₃ he₃ s₃ => ?_)
  have he₃ : h₃.get? e = some (eO f0 f1 it (((k : Nat) : Int) + 1) old) := he₃
  show wpAny _ _ (newTuple [.int (k : Nat) tk, x] >>= _) _ _ ⟨h₃, g, d, tk + 1, os⟩
  refine wpAny_bind (wpAny_newTuple ?_)
  have n : h₃.objs.size = hp.objs.size := s₃.1.trans (s₂.1.trans n₁)
  have pr : IsPair (h₃.push { cls := .type "tuple", data := .seq #[.int (k : Nat) tk, x] }) h₃.objs.size (.int (k : Nat) tk) x := Heap.get?_push_size _ rfl
  have hn : (h₃.push { cls := .type "tuple", data := .seq #[.int (k : Nat) tk, x] }).objs.size = h₃.objs.size + 1 := Heap.size_push ..
  have up : ∀ c o, h₃.get? c = some o → (h₃.push { cls := .type "tuple", data := .seq #[.int (k : Nat) tk, x] }).get? c = some o := fun c o z => Heap.get?_push_of_some _ z
  have one : (((k : Nat) : Int) + 1) = ((k + 1 : Nat) : Int) := by omega
  rw [one] at he₃
  have le : e < hp.objs.size := Heap.lt_size he
  have ne : hp.objs.size ≠ e := Nat.ne_of_gt le
  rw [n] at pr hn
  generalize hG : (h₃.push { cls := .type "tuple", data := .seq #[.int (k : Nat) tk, x] }) = h₄ at pr hn up
  show wpAny _ _ (Builtin.SmallTypes.ownedTupleIsFree (.ref e) >>= _) _ _ ⟨h₄, g, d, tk + 1, os⟩
  rw [n]
  have p₄ : ItAt t h₄ it l (k + 1) := p₁.at fun o z => up _ _ (eb s₃.extBut (Ne.symm hne) (eb s₂.extBut (Ne.symm hne) z))
  have r₄ : Rest2 hp h₄ e it := fun c o c1 c2 z => up _ _ (eb s₃.extBut c1 (eb s₂.extBut c1 (eb e₁ c2 z)))
  refine wpAny_bind (en_free (s := ⟨h₄, g, d, tk + 1, os⟩) ⟨f0, f1, old, hf, up _ _ he₃⟩ fun b h₅ he₅ e₅ n₅ => ?_)
  have hp₅ : IsPair h₅ hp.objs.size (.int (k : Nat) tk) x := eb e₅ ne pr
  have p₅ : ItAt t h₅ it l (k + 1) := p₄.at fun o z => eb e₅ (Ne.symm hne) z
  have r₅ : Rest2 hp h₅ e it := fun c o c1 c2 z => eb e₅ c1 (r₄ c o c1 c2 z)
  have n₆ : h₅.objs.size = hp.objs.size + 1 := n₅.trans hn
  cases b with
  | false =>
    simp only [Bool.false_eq_true, if_false]
    exact wpAny_pure ⟨_, rfl, go h₅ he₅ p₅ hp₅ n₆ r₅⟩
  | true =>
    simp only [if_true]
    obtain ⟨g0, g1, old', hg, he₅⟩ := he₅
    refine wpAny_bind (wpAny_rule (wpAny_bind (wpAny_field (vs := #[g0, g1, .ref it, rawInt ((k + 1 : Nat) : Int), .none, old']) he₅ rfl (x := old') rfl ?_)))
    refine wpAny_bind (wpAny_setField_rec he₅ (by simp) fun h₆ he₆ s₆ => ?_)
    have he₆ : h₆.get? e = some (eO g0 g1 it ((k + 1 : Nat) : Int) x) := he₆
    show wpAny _ _ (Builtin.SmallTypes.ownedTupleHandOut (.ref e) (.ref hp.objs.size) >>= _) _ _ _
    refine wpAny_bind ?_
    unfold Builtin.SmallTypes.ownedTupleHandOut
    refine wpAny_bind (wpAny_setField_rec he₆ (by simp) fun h₇ he₇ s₇ => ?_)
    have he₇ : h₇.get? e = some (eO (rawInt (hp.objs.size : Nat)) g1 it ((k + 1 : Nat) : Int) x) := he₇
    refine wpAny_setField_rec he₇ (by simp) fun h₈ he₈ s₈ => ?_
    have he₈ : h₈.get? e = some (eO (rawInt (hp.objs.size : Nat)) (.bool false) it ((k + 1 : Nat) : Int) x) := he₈
    refine wpAny_bind (wpAny_letGo (wpAny_pure ⟨_, rfl, go h₈ ⟨_, _, _, .inr ⟨_, rfl⟩, he₈⟩ (p₅.at fun o z => eb s₈.extBut (Ne.symm hne) (eb s₇.extBut (Ne.symm hne) (eb s₆.extBut (Ne.symm hne) z))) ?_ ?_ fun c o c1 c2 z => eb s₈.extBut c1 (eb s₇.extBut c1 (eb s₆.extBut c1 (r₅ c o c1 c2 z)))⟩))
    · exact eb s₈.extBut ne (eb s₇.extBut ne (eb s₆.extBut ne hp₅))
    · exact s₈.1.trans (s₇.1.trans (s₆.1.trans n₆))
theorem en_pyNext {Q : Option Value → Shared → Prop} (he : EN s.heap e it (k : Nat)) (p : ItAt t s.heap it l k) (q : SqAt t s.heap l xs) (hx : xs[k]? = some x) (hne : e ≠ it)
    (go : ∀ h', EN h' e it ((k + 1 : Nat) : Int) → ItAt t h' it l (k + 1) → IsPair h' s.heap.objs.size (.int (k : Nat) s.toks) x → h'.objs.size = s.heap.objs.size + 1 → Rest2 s.heap h' e it → Q (some (.ref s.heap.objs.size)) { s with heap := h', toks := s.toks + 1 }) :
    wpAny (model prog w) A (pyNext (.ref e)) Q E s := by
  have ty : s.TypeIs (.ref e) "enumerate" := by obtain ⟨_, _, _, _, h⟩ := he; exact ⟨_, h, rfl⟩
  unfold pyNext
  exact wpAny_bind (wpAny_attempt (wpAny_callSpecial?_slot (name := Str.ofString "__next__") ty F.slot_enumerate_next (wpAny_call_entry F.slot_enumerate_next ty F.entry_enumerate_next
    (en_item he p q hx hne fun h' a b c d r => wpAny_pure (go h' a b c d r)) (F.args_enumerate_next_1 _))))
theorem en_pyStop {Q : Option Value → Shared → Prop} (hh : A.handled = none) (he : EN s.heap e it (k : Nat)) (p : ItAt t s.heap it l k) (q : SqAt t s.heap l xs) (hx : xs[k]? = none) (go : ∀ h', Heap.ExtBut it s.heap h' → Q none { s with heap := h' }) :
    wpAny (model prog w) A (pyNext (.ref e)) Q E s := by
  have ty : s.TypeIs (.ref e) "enumerate" := by obtain ⟨_, _, _, _, h⟩ := he; exact ⟨_, h, rfl⟩
  obtain ⟨f0, f1, old, hf, he⟩ := he
  unfold pyNext
  refine wpAny_bind (wpAny_attempt (wpAny_callSpecial?_slot (name := Str.ofString "__next__") ty F.slot_enumerate_next (wpAny_call_entry F.slot_enumerate_next ty F.entry_enumerate_next ?_ (F.args_enumerate_next_1 _))))
  show wpAny _ _ (field (.ref e) 2 >>= _) _ _ _
  refine wpAny_bind (wpAny_field (vs := #[f0, f1, .ref it, rawInt (k : Nat), .none, old]) he rfl (x := .ref it) rfl (wpAny_bind (draw_end hh p q hx fun h₁ x e₁ hs => ?_)))
  obtain ⟨o, ho, hc⟩ := hs
  exact wpAny_bind (wpAny_isInstance (T := "StopIteration") (b := true) ⟨o, ho, hc⟩ isSubtype_stop (wpAny_pure (go h₁ e₁)))
theorem en_own {tg : Expr} {i : Int} {Q : Unit → Shared → Prop} (he : EN s.heap e it i) (go : ∀ h', EN h' e it i → Heap.ExtBut e s.heap h' → Q () { s with heap := h' }) : wpAny (model prog w) A (letOwnedTupleGo tg (.ref e) (.ref a)) Q E s := by
  obtain ⟨f0, f1, old, hf, he'⟩ := he
  refine own_go he' rfl rfl ⟨a, rfl⟩ (go s.heap ⟨f0, f1, old, hf, he'⟩ fun _ _ _ z => z) ?_
  show wpAny _ _ (setField (.ref e) 0 .none) Q E s
  exact wpAny_setField_rec he' (by simp) fun h₁ he₁ s₁ => go h₁ ⟨_, _, _, .inl rfl, he₁⟩ s₁.extBut
theorem en_pyIter {i : Int} {Q : Value → Shared → Prop} (he : EN s.heap e it i) (h : Q (.ref e) s) : wpAny (model prog w) A (pyIter (.ref e)) Q E s := by
  have ty : s.TypeIs (.ref e) "enumerate" := by obtain ⟨_, _, _, _, z⟩ := he; exact ⟨_, z, rfl⟩
  refine wpAny_pyIter_slot ty F.slot_enumerate_iter (wpAny_call_entry F.slot_enumerate_iter ty F.entry_enumerate_iter ?_ (F.args_enumerate_iter_1 _))
  show wpAny _ _ (ret (.ref e)) _ _ s
  exact wpAny_pure ⟨_, rfl, "enumerate", _, ty, F.slot_enumerate_next.lookup, h⟩
end

/-! ### an enumerate is made -/
theorem en_meets (l : Addr) (xs : Array Value) (n : Nat) (dct : Option Addr) (sl : Array (Option Value)) :
    Meets (Builtin.«enumerate.__new__» ⟨[.type "enumerate", .ref l], []⟩) (fun _ R s => s.heap.get? l = some { cls := .type "tuple", dict := dct, data := .seq xs n, slots := sl } ∧
      R (.ok (.ret (.ref (zH1 true s.heap l).objs.size))) { s with heap := (zH1 true s.heap l).push (eO .none (.bool false) s.heap.objs.size 0 .none) }) := .of_wp fun prog w A R s h => by
  obtain ⟨hp, g, d, tk, os⟩ := s
  obtain ⟨hl, h⟩ := h
  have sb := sub_enumerate
  have b1 : Heap.IsTuple (Shared.heap ⟨hp, g, d, tk, os⟩) l xs := ⟨_, hl, rfl, _, rfl⟩
  wp_walk using wpAny_loadPart' hl
  refine wpAny_stack_any fun st => wpAny_pure ?_
  split
  · rename_i c _ _ _ _ _
    cases (c == Value.type "enumerate")
    · wp_walk using wpAny_loadPart' hl, wpAny_pyIter_tuple b1
      exact ⟨_, rfl, h⟩
    · wp_walk using wpAny_loadPart' hl, wpAny_pyIter_tuple b1
      exact ⟨_, rfl, h⟩
  · wp_walk using wpAny_loadPart' hl, wpAny_pyIter_tuple b1
    exact ⟨_, rfl, h⟩

section
variable {prog : Program} {w : World} {A : Around} {E : Value → Shared → Prop} {s : Shared} {t : Bool} {l : Addr} {xs : Array Value}
theorem en_call {Q : Value → Shared → Prop} (q : SqAt t s.heap l xs) (go : ∀ h', EN h' (s.heap.objs.size + 1) s.heap.objs.size ((0 : Nat) : Int) → ItAt t h' s.heap.objs.size l 0 → (∀ c o, s.heap.get? c = some o → h'.get? c = some o) → Q (.ref (s.heap.objs.size + 1)) { s with heap := h' }) :
    wpAny (model prog w) A (call (.type "enumerate") [.ref l]) Q E s := by
  cases t with
  | false => exact call_enumerate_list (show s.heap.IsList l xs from q) fun h' he hi _ up => go h' ⟨_, _, _, .inl rfl, he⟩ hi up
  | true =>
    obtain ⟨⟨c, dct, dt, sl⟩, hl, hc, n, hd⟩ := (show s.heap.IsTuple l xs from q)
    have hc : c = .type "tuple" := hc
    have hd : dt = .seq xs n := hd
    subst hc hd
    refine callType_new F.called_enumerate (by decide) (F.typeCall_enumerate_1 _) (F.newCall_enumerate_1 _) (fun obj => F.args_object_init_2 obj _) F.entry_enumerate_new (en_meets l xs n dct sl) ⟨hl, ?_⟩
    have n1 : (zH1 true s.heap l).objs.size = s.heap.objs.size + 1 := Heap.size_push ..
    have g : ((zH1 true s.heap l).push (eO .none (.bool false) s.heap.objs.size 0 .none)).get? (zH1 true s.heap l).objs.size = some (eO .none (.bool false) s.heap.objs.size 0 .none) := Heap.get?_push_size _ rfl
    have g1 : ((zH1 true s.heap l).push (eO .none (.bool false) s.heap.objs.size 0 .none)).get? s.heap.objs.size = some (itO true l) := Heap.get?_push_of_some _ (Heap.get?_push_size _ rfl)
    show _ ∧ _
    rw [n1] at g ⊢
    exact ⟨⟨_, g, rfl⟩, go _ ⟨_, _, _, .inl rfl, g⟩ (it_new g1) fun c o z => Heap.get?_push_of_some _ (Heap.get?_push_of_some _ z)⟩
end
/-- the sequence at a as it stands at each turn, each item in a new pair -/
def ItE (t : Bool) (K : PySem.W.Frag) (a : Addr) : It where
  go := fun i H => ∃ (xs : List V) (x : V), SqB t K H a xs ∧ xs[i]? = some x
  yld := fun i H v H' => ∃ T x, v = .ref T ∧ H T = none ∧ H' = upd H T (.tup [.int (i : Nat), x]) ∧ ∀ xs, SqB t K H a xs → xs[i]? = some x
  stop := fun i H => ∃ xs : List V, SqB t K H a xs ∧ xs.length ≤ i
section
variable {X : Cx} {pins : List (Addr × Obj)} {σ : L2.St} {H : Hp} {s : Shared} {t : Bool} {a b : Addr} {xs ys : List V}
theorem turn_E {P : Program} {w : World} {K : PySem.W.Frag} {tg : Expr} {e it : Addr} (hne : e ≠ it) : Turn P w K tg (ItE t K a) [e, it] e (fun i h => EN h e it (i : Nat) ∧ ItAt t h it a i) where
  mem := List.mem_cons_self
  obj := fun i h ⟨⟨f0, f1, old, _, he⟩, p⟩ c hc => by
    rcases (show c = e ∨ c = it by simpa using hc) with rfl | rfl
    · exact ⟨_, he, fun _ q => nomatch q⟩
    · exact p.there
  keep := fun i h h' ⟨⟨f0, f1, old, hf, he⟩, p⟩ k => ⟨⟨f0, f1, old, hf, k _ (by simp) _ he⟩, p.at fun o q => k _ (by simp) o q⟩
  item := by
    rintro X rfl rfl rfl hc i pins s σ H E I hf ⟨he, p⟩ ⟨xs, x, sx, hx⟩
    obtain ⟨us, ru, qu⟩ := sq_in I sx
    obtain ⟨u, hu, r1⟩ := ru.get hx
    refine en_pyNext he p qu (x := u) (by simpa using hu) hne fun h₁ he₁ p₁ hT n rest => ⟨_, rfl, en_own (s := { s with heap := h₁, toks := s.toks + 1 }) he₁ fun h₂ he₂ e₂ => ?_⟩
    have le : e < s.heap.objs.size := by obtain ⟨_, _, _, _, q⟩ := he; exact Heap.lt_size q
    have hT₂ : IsPair h₂ s.heap.objs.size (.int (i : Nat) s.toks) u := eb e₂ (Nat.ne_of_gt le) hT
    have keep : ∀ c o, c ∉ [e, it] → s.heap.get? c = some o → h₂.get? c = some o := fun c o hn q => by
      simp only [List.mem_cons, List.not_mem_nil, or_false, not_or] at hn
      exact eb e₂ hn.1 (rest c o hn.1 hn.2 q)
    have new : ObjOk X.prog X.w (upd H s.heap.objs.size (.tup [.int (i : Nat), x])) h₂ s.heap.objs.size (.tup [.int (i : Nat), x]) := ⟨by show 2 ≤ sizeLine; decide, [.int (i : Nat) s.toks, u], .cons ⟨_, rfl⟩ (.cons r1 .nil), ⟨_, hT₂, rfl, _, rfl⟩⟩
    have I₂ : Inv X pins σ (upd H s.heap.objs.size (.tup [.int (i : Nat), x])) { s with heap := h₂, toks := s.toks + 1 } := I.turnedNew (ch := [e, it]) keep hf (Nat.le_refl _) new
    refine ⟨.ref s.heap.objs.size, _, I₂, rfl, ⟨_, x, rfl, I.hok.fresh (Nat.le_refl _), rfl, fun l hl => by rw [sq_one I hl sx]; exact hx⟩, ⟨he₂, p₁.at fun o q => eb e₂ (Ne.symm hne) q⟩, fun c hcm => ?_⟩
    have lc : c < s.heap.objs.size := by
      rcases (show c = e ∨ c = it by simpa using hcm) with rfl | rfl
      · exact le
      · obtain ⟨_, q, _⟩ := p.there; exact Heap.lt_size q
    rw [upd_ne (Nat.ne_of_lt lc)]
    exact (hf c hcm).1
  done := by
    rintro X rfl rfl rfl hc i pins s σ H E I hf ⟨he, p⟩ ⟨xs, sx, hend⟩
    obtain ⟨us, ru, qu⟩ := sq_in I sx
    have lu := ru.length
    refine en_pyStop (I.ok.hd hc) he p qu (by simp; omega) fun h₁ e₁ => ⟨rfl, I.turnedL (t' := s.toks) (ch := [e, it]) (fun c o hn q => ?_) hf⟩
    simp only [List.mem_cons, List.not_mem_nil, or_false, not_or] at hn
    exact eb e₁ hn.2 q
  self := fun A i s Q E ⟨he, _⟩ h => en_pyIter he h
def iE (K : PySem.W.Frag) (ta : TA) : TI := fun σ H R => ta σ H fun vs H1 => ∃ (t : Bool) (a : Addr) (xs : List V), vs = [.ref a] ∧ SqB t K H1 a xs ∧ R (ItE t K a) H1
theorem pi_E {X : Cx} {e tg : Expr} {ta : TA} {p pos : Pos} (hg : Gl X "enumerate") (hm : X.mg "enumerate" = none) (ha : PA X [e] ta) (hs : starEach [e] X.env = [(false, eval e X.env)]) : PI X tg (.Call (.Name "enumerate" p) [e] [] pos) (iE X.K ta) := by
  refine ⟨fun pins s σ H R I h => ?_⟩
  refine Call_ (ld_blt I hg hm boot_enumerate (PyProof.Rows.callWith_type1 (thn (ha.run pos pins s σ H _ I h) fun us s1 ⟨vs, H1, I1, r1, t, a, xs, ex, sx, q⟩ => ?_) hs rfl))
  subst ex
  rcases r1 with _ | ⟨ra, _ | _⟩
  cases ra
  obtain ⟨us, ru, qu⟩ := sq_in I1 sx
  refine en_call qu fun h₁ he p up => en_pyIter he ?_
  refine ⟨s1.heap.objs.size + 1, [s1.heap.objs.size + 1, s1.heap.objs.size], _, _, H1, rfl, I1.kept (t' := s1.toks) up, turn_E (Nat.succ_ne_self _), ⟨he, p⟩, fun c hc => ?_, q⟩
  have le : s1.heap.objs.size ≤ c := by
    rcases (show c = s1.heap.objs.size + 1 ∨ c = s1.heap.objs.size by simpa using hc) with rfl | rfl <;> omega
  exact I1.fpOk le (I1.hok.fresh le)
end

/-! ### over data -/
def enumD : Nat → List D → List D
  | _, [] => []
  | k, x :: xs => .tup [.int (k : Nat), x] :: enumD (k + 1) xs
theorem enumD_len : ∀ (xs : List D) (k : Nat), (enumD k xs).length = xs.length
  | [], _ => rfl
  | _ :: xs, k => congrArg (· + 1) (enumD_len xs (k + 1))
theorem enumD_get : ∀ {xs : List D} {k i : Nat} {d : D}, (enumD k xs)[i]? = some d → ∃ x, xs[i]? = some x ∧ d = .tup [.int ((k + i : Nat) : Int), x]
  | [], _, _, _, h => by simp [enumD] at h
  | x :: xs, k, 0, d, h => by
    refine ⟨x, rfl, ?_⟩
    have h : some (D.tup [.int (k : Nat), x]) = some d := h
    exact (Option.some.inj h).symm
  | x :: xs, k, i + 1, d, h => by
    have h : (enumD (k + 1) xs)[i]? = some d := by simpa [enumD] using h
    obtain ⟨y, e1, e2⟩ := enumD_get h
    refine ⟨y, by simpa using e1, ?_⟩
    rw [e2, show k + 1 + i = k + (i + 1) by omega]
def iEnumD (a : DE) : DI := fun C ρ M P => a C ρ M fun d M1 => match seqOf M1 d with
  | some xs => P (enumD 0 xs) (grdOf d xs) M1
  | none => False
section
variable {K : PySem.W.Frag} {fa : Org} {α : List Addr} {H : Hp} {M : Mem}
theorem itok_E {t : Bool} {a : Addr} {xs : List D} {g : Mem → Prop} (l : xs.length ≤ sizeLine) (w : Wk K fa t a α H xs g) : ItOk K fa (ItE t K a) α H (enumD 0 xs) g := by
  have len := enumD_len xs 0
  refine ⟨by omega, fun H' α' M' e sr hg i => ?_⟩
  obtain ⟨us, su, ru⟩ := w H' α' M' e sr hg
  have lu := ru.length
  refine ⟨fun hi => ⟨us, su, by omega⟩, fun hi => ?_, fun x v H2 hx ⟨T, x', e1, hT, e2, h1⟩ => ?_⟩
  · rw [len] at hi
    exact ⟨us, us[i]'(by omega), su, List.getElem?_eq_getElem _⟩
  · obtain ⟨dx, gx, rfl⟩ := enumD_get hx
    subst e1 e2
    rw [Nat.zero_add]
    exact upd_pair sr hT (.int _) (rps_get ru (h1 us su) gx)
theorem i_enum {X : Cx} {C : Ctx} {e tg : Expr} {te : DE} {p pos : Pos} (hg : Gl X "enumerate") (hm : X.mg "enumerate" = none) (ha : PE X e (LE X.K fa C te)) (hs : starEach [e] X.env = [(false, eval e X.env)]) : PI X tg (.Call (.Name "enumerate" p) [e] [] pos) (LI X.K fa C (iEnumD te)) :=
  (pi_E hg hm (pa_cons ha pa_nil hs) hs).imp fun σ H R ⟨ρ, M, α, P, er, sr, h, k⟩ => ⟨ρ, M, α, _, er, sr, h, fun v d H1 α1 M1 e1 s1 r1 p1 => by
    split at p1
    · rename_i xs q
      obtain ⟨t, a, us, ea, su, l, w⟩ := wk_of s1 r1 q
      subst ea
      exact ⟨t, a, us, rfl, su, k _ H1 α1 M1 _ _ e1 s1 (itok_E l w) p1⟩
    · exact p1.elim⟩
end
end DL

/-! The data layer: ranges made lists, consumers of tuples, count, index, lists compared; the compiler's further steps. -/
namespace DL
open PySem PySem.Spec PyProof.Rows L2

/-! ### list(range(..)), tuple(range(..)) -/
abbrev DRg := Ctx → Env → Mem → (Int → Int → Mem → Prop) → Prop
def LRg (K : PySem.W.Frag) (fa : Org) (C : Ctx) (t : DRg) : L2.St → Hp → (Int → Int → Hp → Prop) → Prop := fun σ H Q => ∃ (ρ : Env) (M : Mem) (α : List Addr) (P : Int → Int → Mem → Prop), EnvR K fa α H σ ρ ∧ StR K fa α H M ∧ t C ρ M P ∧
  ∀ (i j : Int) (H' : Hp) (α' : List Addr) (M' : Mem), Ext K H H' α α' → StR K fa α' H' M' → P i j M' → Q i j H'
def rg1 (a : DE) : DRg := fun C ρ M P => a C ρ M fun d M1 => match d with
  | .int n => P 0 n M1
  | _ => False
def rg2 (a b : DE) : DRg := fun C ρ M P => a C ρ M fun d M1 => b C ρ M1 fun e M2 => match d, e with
  | .int i, .int j => P i j M2
  | _, _ => False
def RgB (i j : Int) : Prop := -(2 ^ 62) ≤ i ∧ i < 2 ^ 62 ∧ -(2 ^ 62) ≤ j ∧ j < 2 ^ 62 ∧ (j - i).toNat ≤ 2 ^ 24
def eLstRg (r : DRg) : DE := fun C ρ M P => r C ρ M fun i j M1 => RgB i j ∧ P (.ref M1.length) (M1 ++ [.lst (rngI i (j - i).toNat)])
def eTupRg (r : DRg) : DE := fun C ρ M P => r C ρ M fun i j M1 => RgB i j ∧ P (.tup (rngI i (j - i).toNat)) M1
section
variable {X : Cx} {fa : Org} {C : Ctx} {a b e : Expr} {pos p : Pos} {ta tb : DE} {r : DRg}
theorem PRg.imp {t t' : L2.St → Hp → (Int → Int → Hp → Prop) → Prop} (h : PRg X e t) (g : ∀ σ H Q, t' σ H Q → t σ H Q) : PRg X e t' := fun pins s σ H Q I q => h pins s σ H Q I (g σ H Q q)
theorem r_1 (hg : Gl X "range") (hm : X.mg "range" = none) (ha : PE X a (LE X.K fa C ta)) (na : starEach [a] X.env = (false, eval a X.env) :: starEach [] X.env) : PRg X (.Call (.Name "range" p) [a] [] pos) (LRg X.K fa C (rg1 ta)) :=
  PRg.imp (prg_1 hg hm ha na) fun σ H Q ⟨ρ, M, α, P, er, sr, h, k⟩ => ⟨ρ, M, α, _, er, sr, h, fun v d H1 α1 M1 e1 s1 r1 p1 => by
    cases r1 <;> first | exact (show False from p1).elim | skip
    exact ⟨_, rfl, k _ _ H1 α1 M1 e1 s1 p1⟩⟩
theorem r_2 (hg : Gl X "range") (hm : X.mg "range" = none) (ha : PE X a (LE X.K fa C ta)) (hb : PE X b (LE X.K fa C tb)) (na : starEach [a, b] X.env = (false, eval a X.env) :: starEach [b] X.env) (nb : starEach [b] X.env = (false, eval b X.env) :: starEach [] X.env)
    (hp : (backTo pos (starEach [b] X.env)).any (·.1) = false) : PRg X (.Call (.Name "range" p) [a, b] [] pos) (LRg X.K fa C (rg2 ta tb)) :=
  PRg.imp (prg_2 hg hm ha hb na nb hp) fun σ H Q ⟨ρ, M, α, P, er, sr, h, k⟩ => ⟨ρ, M, α, _, er, sr, h, fun v d H1 α1 M1 e1 s1 r1 p1 => ⟨ρ, M1, α1, _, er.mono e1, s1, p1, fun w f H2 α2 M2 e2 s2 r2 p2 => by
    cases r1 <;> cases r2 <;> first | exact (show False from p2).elim | skip
    exact ⟨_, _, rfl, rfl, k _ _ H2 α2 M2 (e1.trans e2) s2 p2⟩⟩⟩
theorem rgV_rep {K : PySem.W.Frag} {α : List Addr} {H : Hp} (i j : Int) : Rps K fa α H (rgV i j) (rngI i (j - i).toNat) := by
  have e1 : rgV i j = ((List.range (j - i).toNat).map fun (k : Nat) => i + (k : Int)).map V.int := by unfold rgV; rw [List.map_map]; rfl
  have e2 : rngI i (j - i).toNat = ((List.range (j - i).toNat).map fun (k : Nat) => i + (k : Int)).map D.int := by unfold rngI; rw [List.map_map]; rfl
  rw [e1, e2]
  exact Rps.ints _
theorem RgB.len {i j : Int} (h : RgB i j) : (rgV i j).length ≤ sizeLine := by
  rw [rgV_length, sizeLine_eq]
  exact h.2.2.2.2
theorem d_lstRg (hc : X.calm = true) (hg : Gl X "list") (hm : X.mg "list" = none) (he : PRg X e (LRg X.K fa C r)) (na : starEach [e] X.env = (false, eval e X.env) :: starEach [] X.env) : PE X (.Call (.Name "list" p) [e] [] pos) (LE X.K fa C (eLstRg r)) :=
  (pe_listRg hc hg hm he na).imp fun σ H Q ⟨ρ, M, α, P, er, sr, h, an⟩ => ⟨ρ, M, α, _, er, sr, h, fun i j H1 α1 M1 e1 s1 p1 => ⟨p1.1, fun q hq => (an.ext e1).lst s1 (rgV_rep i j) (RgB.len p1.1) hq p1.2⟩⟩
theorem d_tupRg (hc : X.calm = true) (hg : Gl X "tuple") (hm : X.mg "tuple" = none) (he : PRg X e (LRg X.K fa C r)) (na : starEach [e] X.env = (false, eval e X.env) :: starEach [] X.env) : PE X (.Call (.Name "tuple" p) [e] [] pos) (LE X.K fa C (eTupRg r)) :=
  (pe_tupRg hc hg hm he na).imp fun σ H Q ⟨ρ, M, α, P, er, sr, h, an⟩ => ⟨ρ, M, α, _, er, sr, h, fun i j H1 α1 M1 e1 s1 p1 => ⟨p1.1, fun q hq => (an.ext e1).tup s1 (rgV_rep i j) (RgB.len p1.1) hq p1.2⟩⟩

/-! ### consumers over tuples of ints -/
theorem reads_of {h : Heap} : ∀ {ns : List Int} {us : List Value}, Vals (ns.map V.int) us → ReadsAll h us (ns.map PyData.int) []
  | [], _, .nil => .nil
  | n :: ns, _, .cons ⟨t, e⟩ r => by
    subst e
    exact ReadsAll.cons (.int n t) (reads_of r)
theorem alike_ints (ns : List Int) : PySem.W.AlikeAll (ns.map PyData.int) := by
  refine ⟨fun x hx y hy => ?_, fun x hx => ?_⟩
  · obtain ⟨a, _, rfl⟩ := List.mem_map.mp hx
    obtain ⟨b, _, rfl⟩ := List.mem_map.mp hy
    rfl
  · obtain ⟨a, _, rfl⟩ := List.mem_map.mp hx
    exact fun z => nomatch z
theorem depth_ints : ∀ ns : List Int, PyData.depthAll (ns.map PyData.int) ≤ 1
  | [] => by simp [PyData.depthAll]
  | n :: ns => by
    rw [List.map_cons]
    have := depth_ints ns
    simp only [PyData.depthAll, PyData.depth]
    omega
theorem maxL_fold : ∀ (ns : List Int) (n : Int), ns.foldl max n = maxL (n :: ns) := by
  intro ns n
  have h := maxL_mem (l := n :: ns) (by simp)
  have top : ∀ (ns : List Int) (n : Int), (n ≤ ns.foldl max n ∧ ∀ y ∈ ns, y ≤ ns.foldl max n) ∧ (ns.foldl max n = n ∨ ns.foldl max n ∈ ns) := by
    intro ns
    induction ns with
    | nil => intro n; exact ⟨⟨Int.le_refl _, fun y hy => by cases hy⟩, .inl rfl⟩
    | cons m ms ih =>
      intro n
      obtain ⟨⟨h1, h2⟩, h3⟩ := ih (max n m)
      rw [List.foldl_cons]
      refine ⟨⟨by omega, fun y hy => ?_⟩, ?_⟩
      · rcases List.mem_cons.mp hy with e | hy
        · subst e; omega
        · exact h2 y hy
      · rcases h3 with e | e
        · rw [e]
          rcases Int.le_total n m with z | z
          · right; rw [Int.max_eq_right z]; exact List.mem_cons_self
          · left; exact Int.max_eq_left z
        · right; exact List.mem_cons_of_mem _ e
  obtain ⟨⟨h1, h2⟩, h3⟩ := top ns n
  refine Int.le_antisymm (h.2 _ ?_) ?_
  · rcases h3 with e | e
    · rw [e]; exact List.mem_cons_self
    · exact List.mem_cons_of_mem _ e
  · rcases List.mem_cons.mp h.1 with e | e
    · rw [e]; exact h1
    · exact h2 _ e
theorem minL_fold : ∀ (ns : List Int) (n : Int), ns.foldl min n = minL (n :: ns) := by
  intro ns n
  have h := minL_mem (l := n :: ns) (by simp)
  have top : ∀ (ns : List Int) (n : Int), (ns.foldl min n ≤ n ∧ ∀ y ∈ ns, ns.foldl min n ≤ y) ∧ (ns.foldl min n = n ∨ ns.foldl min n ∈ ns) := by
    intro ns
    induction ns with
    | nil => intro n; exact ⟨⟨Int.le_refl _, fun y hy => by cases hy⟩, .inl rfl⟩
    | cons m ms ih =>
      intro n
      obtain ⟨⟨h1, h2⟩, h3⟩ := ih (min n m)
      rw [List.foldl_cons]
      refine ⟨⟨by omega, fun y hy => ?_⟩, ?_⟩
      · rcases List.mem_cons.mp hy with e | hy
        · subst e; omega
        · exact h2 y hy
      · rcases h3 with e | e
        · rw [e]
          rcases Int.le_total n m with z | z
          · left; exact Int.min_eq_left z
          · right; rw [Int.min_eq_right z]; exact List.mem_cons_self
        · right; exact List.mem_cons_of_mem _ e
  obtain ⟨⟨h1, h2⟩, h3⟩ := top ns n
  refine Int.le_antisymm ?_ (h.2 _ ?_)
  · rcases List.mem_cons.mp h.1 with e | e
    · rw [e]; exact h1
    · exact h2 _ e
  · rcases h3 with e | e
    · rw [e]; exact List.mem_cons_self
    · exact List.mem_cons_of_mem _ e
theorem c_maxT (hc : X.calm = true) (hu : X.A.units + 65 < cLine) : CallR X (.builtin "max") (LCt X.K fa cMax) := fun pins s σ H vs us Q I rv ⟨a, ws, α, ds, k, e, hq, r, h, an⟩ => by
  subst e
  unfold cMax at h
  split at h
  · rename_i ns hn
    have := ints_v r hn
    subst this
    obtain ⟨its, ri, p, _⟩ := I.tuple hq
    rw [Vals.ref1 rv]
    cases ns with
    | nil => exact absurd h.1 (Nat.lt_irrefl 0)
    | cons n ns =>
      have hd := depth_ints (n :: ns)
      refine PySem.W.max_tuple_data (x := .int n) (xs := ns.map .int) (as := []) (I.ok.hd hc) (show s.heap.IsTuple a its.toArray from p) (by simpa using reads_of (h := s.heap) ri) (by simpa using alike_ints (n :: ns)) ?_ fun i v h' tk bs _ hr hk => ?_
      · have hd2 : PyData.depthAll (PyData.int n :: ns.map .int) ≤ 1 := by simpa using hd
        omega
      · rw [PySem.W.maxD_ints, maxL_fold] at hr
        cases hr
        exact ⟨.int _, H, I.kept hk, ⟨_, rfl⟩, an _ _ (.int _) h.2⟩
  · exact h.elim
theorem c_minT (hc : X.calm = true) (hu : X.A.units + 65 < cLine) : CallR X (.builtin "min") (LCt X.K fa cMin) := fun pins s σ H vs us Q I rv ⟨a, ws, α, ds, k, e, hq, r, h, an⟩ => by
  subst e
  unfold cMin at h
  split at h
  · rename_i ns hn
    have := ints_v r hn
    subst this
    obtain ⟨its, ri, p, _⟩ := I.tuple hq
    rw [Vals.ref1 rv]
    cases ns with
    | nil => exact absurd h.1 (Nat.lt_irrefl 0)
    | cons n ns =>
      have hd := depth_ints (n :: ns)
      refine PySem.W.min_tuple_data (x := .int n) (xs := ns.map .int) (as := []) (I.ok.hd hc) (show s.heap.IsTuple a its.toArray from p) (by simpa using reads_of (h := s.heap) ri) (by simpa using alike_ints (n :: ns)) ?_ fun i v h' tk bs _ hr hk => ?_
      · have hd2 : PyData.depthAll (PyData.int n :: ns.map .int) ≤ 1 := by simpa using hd
        omega
      · rw [PySem.W.minD_ints, minL_fold] at hr
        cases hr
        exact ⟨.int _, H, I.kept hk, ⟨_, rfl⟩, an _ _ (.int _) h.2⟩
  · exact h.elim
theorem c_sumT (hc : X.calm = true) : CallR X (.builtin "sum") (LCt X.K fa cSum) := fun pins s σ H vs us Q I rv ⟨a, ws, α, ds, k, e, hq, r, h, an⟩ => by
  subst e
  unfold cSum at h
  split at h
  · rename_i ns hn
    have := ints_v r hn
    subst this
    obtain ⟨its, ri, p, _⟩ := I.tuple hq
    rw [Vals.ref1 rv]
    obtain ⟨xs, ex⟩ := ri.ints.allInts.items
    have hs : numsOf (intItems xs).toList = ns := by rw [← ex]; exact ri.ints.numsOf
    rw [nums_intItems] at hs
    have p' : s.heap.IsTuple a (intItems xs) := by rw [← ex]; exact p
    refine PySem.W.ktm_sumG (I.ok.hd hc) p' fun h' tk t' hk => ⟨.int _, H, I.kept hk, ⟨_, rfl⟩, ?_⟩
    have e2 : PySem.preSum (numAt xs) xs.size = ns.sum := by rw [preSum_eq, List.take_of_length_le (by simp), hs]
    rw [e2]
    exact an _ _ (.int _) h
  · exact h.elim

/-! ### list.count of ints, list.index -/
def mCount : DM := fun d ds M P => match d, ds with
  | .ref n, [.int k] => (match M[n]? with
    | some (.lst xs) => (match intsOf xs with
      | some ns => P (.int (ns.count k : Nat)) M
      | none => False)
    | _ => False)
  | _, _ => False
theorem m_count : MtR X "list.count" (LM X.K fa mCount) := (show MtR X "list.count" (rCntI X.K) from mt_lcount).imp fun x xs H Q ⟨M, α, d, ds, P, sr, r, rs, h, an⟩ => by
  unfold mCount at h
  split at h
  · rcases rs with _ | ⟨ry, _ | _⟩
    cases ry
    split at h
    · rename_i zs hM
      split at h
      · rename_i ns hn
        cases r with
        | @ref n a ea =>
          obtain ⟨vs, hv, l, rz⟩ := cell_l sr ea hM
          have e := ints_v rz hn
          subst e
          exact ⟨a, ns, _, rfl, rfl, .inl (.inl hv), an.here sr (.int _) h⟩
      · exact h.elim
    · exact h.elim
  · exact h.elim
/-- the first place of y's like among data -/
def firstAt (y : PyData) : List PyData → Nat → Option Nat
  | [], _ => none
  | x :: xs, k => if PyData.eqv x y = true then some k else firstAt y xs (k + 1)
theorem firstAt_ok {y : PyData} : ∀ {xs : List PyData} {k j : Nat}, firstAt y xs k = some j → ∃ z i, j = k + i ∧ xs[i]? = some z ∧ PyData.eqv z y = true ∧ ∀ m z', m < i → xs[m]? = some z' → PyData.eqv z' y = false
  | [], _, _, h => by cases h
  | x :: xs, k, j, h => by
    unfold firstAt at h
    split at h
    · rename_i hx
      cases h
      exact ⟨x, 0, rfl, rfl, hx, fun m _ hm => by omega⟩
    · rename_i hx
      obtain ⟨z, i, e, h1, h2, h3⟩ := firstAt_ok h
      refine ⟨z, i + 1, by omega, by simpa using h1, h2, fun m z' hm hz => ?_⟩
      cases m with
      | zero =>
        have : x = z' := by simpa using hz
        subst this
        simpa using hx
      | succ m => exact h3 m z' (by omega) (by simpa using hz)
def mIndex : DM := fun d ds M P => match d, ds with
  | .ref n, [y] => (match M[n]?, pyM M y with
    | some (.lst xs), some p => (pures? xs = true ∧ SeqAt.shaped (.list (toPys xs)) = true ∧ SeqAt.shaped p = true) ∧ (match firstAt p (toPys xs) 0 with
      | some j => P (.int (j : Nat)) M
      | none => False)
    | _, _ => False)
  | _, _ => False
theorem m_index (hu : X.A.units + 65 < cLine) : MtR X "list.index" (LM X.K fa mIndex) := (show MtR X "list.index" (rIndexD X.K) from mt_indexD hu).imp fun x xs H Q ⟨M, α, d, ds, P, sr, r, rs, h, an⟩ => by
  unfold mIndex at h
  split at h
  · rcases rs with _ | ⟨ry, _ | _⟩
    split at h
    · rename_i zs p hM hp
      obtain ⟨⟨h1, h2, h3⟩, h⟩ := h
      split at h
      · rename_i j hj
        cases r with
        | @ref n a ea =>
          obtain ⟨vs, hv, l, rz⟩ := cell_l sr ea hM
          obtain ⟨z, i, e, g1, g2, g3⟩ := firstAt_ok hj
          rw [Nat.zero_add] at e
          subst e
          exact ⟨a, _, p, _, j, z, rfl, rfl, .lst (.inl (.inl hv)) (rz.dp h1), pyM_dp sr ry hp, h2, h3, g1, g2, g3, an.here sr (.int _) h⟩
      · exact h.elim
    · exact h.elim
  · exact h.elim
end
end DL

/-! The data layer: the compiler's steps, widened. -/
namespace DL
open PySem PySem.Spec PyProof.Rows L2
section
variable {G : Glb} (p : Comp G) (c : Cp)
/-- an expression that makes a range -/
def stepRg (e : Expr) : Option { t : DRg // ∀ X fa C, Hy G c X fa C → PRg X e (LRg X.K fa C t) } := match e with
  | .Call (.Name f pf) [a] [] pos => if hb : bi G c f "range" = true ∧ notStar a = true then (p.E c a).map fun ta => ⟨rg1 ta.1, fun X fa C h => by
        obtain ⟨e, k⟩ := bi_ok hb.1
        subst e
        exact r_1 (k h).1 (k h).2 (ta.2 X fa C h) (star_ok hb.2)⟩ else none
  | .Call (.Name f pf) [a, b] [] pos => if hb : bi G c f "range" = true ∧ notStar a = true ∧ notStar b = true then (match p.E c a, p.E c b with
      | some ta, some tb => some ⟨rg2 ta.1 tb.1, fun X fa C h => by
        obtain ⟨e, k⟩ := bi_ok hb.1
        subst e
        exact r_2 (k h).1 (k h).2 (ta.2 X fa C h) (tb.2 X fa C h) (star_ok hb.2.1) (star_ok hb.2.2) (stars_ok (by simp [hb.2.2]))⟩
      | _, _ => none) else none
  | _ => none
/-- f(a), the further forms -/
def stepF1 (f : Str) (pf : Pos) (a : Expr) (pos : Pos) : Option (CE G c (.Call (.Name f pf) [a] [] pos)) :=
  if hs : notStar a = true then
    if hb : bic G c f "list" = true then (stepRg p c a).map fun ta => ⟨eLstRg ta.1, fun X fa C h => by
        obtain ⟨e, k⟩ := bi_ok (bic_ok hb).1
        subst e
        exact d_lstRg (h.calm (bic_ok hb).2) (k h).1 (k h).2 (ta.2 X fa C h) (star_ok hs)⟩
    else if hb : bic G c f "tuple" = true then (stepRg p c a).map fun ta => ⟨eTupRg ta.1, fun X fa C h => by
        obtain ⟨e, k⟩ := bi_ok (bic_ok hb).1
        subst e
        exact d_tupRg (h.calm (bic_ok hb).2) (k h).1 (k h).2 (ta.2 X fa C h) (star_ok hs)⟩
    else if hb : bic G c f "sum" = true then (match p.L c a with
      | some _ => none
      | none => (p.A c [a]).map fun ta => ⟨eF (fC cSum true) ta.1, fun X fa C h => by
          obtain ⟨e, k⟩ := bi_ok (bic_ok hb).1
          subst e
          exact d_callB (fc_t (c_sum (h.calm (bic_ok hb).2)) (c_sumT (h.calm (bic_ok hb).2))) (k h).1 (k h).2 (by decide +kernel) (ta.2 X fa C h) (by decide) (by decide) (star_ok hs) rfl⟩)
    else if hb : bic G c f "max" = true then (match p.L c a with
      | some _ => none
      | none => (p.A c [a]).map fun ta => ⟨eF (fC cMax true) ta.1, fun X fa C h => by
          obtain ⟨e, k⟩ := bi_ok (bic_ok hb).1
          subst e
          exact d_callB (fc_t (c_max (h.calm (bic_ok hb).2)) (c_maxT (h.calm (bic_ok hb).2) h.mo.hu)) (k h).1 (k h).2 (by decide +kernel) (ta.2 X fa C h) (by decide) (by decide) (star_ok hs) rfl⟩)
    else if hb : bic G c f "min" = true then (match p.L c a with
      | some _ => none
      | none => (p.A c [a]).map fun ta => ⟨eF (fC cMin true) ta.1, fun X fa C h => by
          obtain ⟨e, k⟩ := bi_ok (bic_ok hb).1
          subst e
          exact d_callB (fc_t (c_min (h.calm (bic_ok hb).2)) (c_minT (h.calm (bic_ok hb).2) h.mo.hu)) (k h).1 (k h).2 (by decide +kernel) (ta.2 X fa C h) (by decide) (by decide) (star_ok hs) rfl⟩)
    else none
  else none
/-- o.m(a), the further methods -/
def stepM1 (o : Expr) (m : Str) (apos : Pos) (a : Expr) (pos : Pos) : Option (CE G c (.Call (.Attribute o m apos) [a] [] pos)) :=
  if hb : notCall o = true ∧ (apos.endLine == pos.line) = true ∧ notStar a = true then
    match p.E c o, p.A c [a] with
    | some to, some ta => if hm : m = "count" then some ⟨eM "list" mCount to.1 ta.1, fun X fa C h => by
            subst hm
            exact d_meth PySem.F.plainAttrs_list PySem.F.slot_list_count PySem.F.type_list_count m_count (to.2 X fa C h) (ta.2 X fa C h) (base_ok hb.1) (few_ok (by simp [hb.2.2]) (by show 1 < 20; omega)) hb.2.1 (star_ok hb.2.2) rfl⟩
          else if hm : m = "index" then some ⟨eM "list" mIndex to.1 ta.1, fun X fa C h => by
            subst hm
            exact d_meth PySem.F.plainAttrs_list PySem.F.slot_list_index PySem.F.type_list_index (m_index h.mo.hu) (to.2 X fa C h) (ta.2 X fa C h) (base_ok hb.1) (few_ok (by simp [hb.2.2]) (by show 1 < 20; omega)) hb.2.1 (star_ok hb.2.2) rfl⟩
          else none
    | _, _ => none
  else none
def stepE2 (e : Expr) : Option (CE G c e) := match e with
  | .Call (.Name f pf) [a] [] pos => (match stepF1 p c f pf a pos with
    | some t => some t
    | none => stepE p c (.Call (.Name f pf) [a] [] pos))
  | .Call (.Attribute o m apos) [a] [] pos => (match stepM1 p c o m apos a pos with
    | some t => some t
    | none => stepE p c (.Call (.Attribute o m apos) [a] [] pos))
  | e => stepE p c e
def stepI2 (tg e : Expr) : Option (CI G c tg e) := match e with
  | .Call (.Name f pf) [a] [] pos => if hb : bi G c f "enumerate" = true ∧ notStar a = true then (p.E c a).map fun ta => ⟨iEnumD ta.1, fun X fa C h => by
        obtain ⟨e, k⟩ := bi_ok hb.1
        subst e
        exact i_enum (k h).1 (k h).2 (ta.2 X fa C h) (star_ok hb.2)⟩
      else stepI p c tg (.Call (.Name f pf) [a] [] pos)
  | .Call (.Name f pf) [a, b] [] pos => if hb : bi G c f "zip" = true ∧ notStar a = true ∧ notStar b = true then (match p.E c a, p.E c b with
      | some ta, some tb => some ⟨iZip ta.1 tb.1, fun X fa C h => by
        obtain ⟨e, k⟩ := bi_ok hb.1
        subst e
        exact i_zip (k h).1 (k h).2 (ta.2 X fa C h) (tb.2 X fa C h) (star_ok hb.2.1) (star_ok hb.2.2) (stars_ok (by simp [hb.2.2]))⟩
      | _, _ => none)
      else stepI p c tg (.Call (.Name f pf) [a, b] [] pos)
  | e => stepI p c tg e
end
end DL

/-! The data layer: sorted of ints out of a list or a tuple; pairs out of a range. -/
namespace DL.Sx
open PySem PyProof.Rows Srt SrtO
section
variable {prog : Program} {w : World} {A : Around} {E : Value → Shared → Prop} {s : Shared}
/-- sorted of a list or a tuple; where the new list stands -/
theorem sorted_seq {l : Addr} {o : Obj} {vs : List Value} {ltv : Value → Value → Bool} {T : String} {n : Nat} {Q : Value → Shared → Prop} (O : Swo ltv) (hT : T = "list" ∨ T = "tuple") (ho : s.heap.get? l = some o) (hc : o.cls = .type T) (hd : o.data = .seq vs.toArray n) (hz : vs.length ≤ sizeLine)
    (hS : 2 ≤ vs.length → ∀ (h1 : Heap) (a : Addr), h1.get? a = some (seqObj "list" vs.toArray 0) → (∀ b u, s.heap.get? b = some u → b ≠ a ∧ h1.get? b = some u) → SortableO prog w A.in1.in1 { s with heap := h1 } a vs ltv)
    (h : ∀ (out : List Value) (ep : Nat) (h1 h' : Heap), Srtd ltv out → Stb ltv out vs → (∀ b u, s.heap.get? b = some u → h1.get? b = some u) → (∀ b u, h1.get? b = some u → h'.get? b = some u) → h'.get? h1.objs.size = some (seqObj "list" out.toArray ep) → Q (.ref h1.objs.size) { s with heap := h' }) :
    wpAny (model prog w) A (call (.builtin "sorted") [.ref l]) Q E s := by
  refine Calls.call_function_entry kind_sorted plain_sorted entry_sorted (args_sorted1 _) ?_
  unfold Builtin.«sorted»
  refine wpAny_bind (m := checkCount "sorted" 1 1 _) (wpAny_pure ?_)
  refine wpAny_bind (wpAny_collect_seq l hT ho hc hd (fun h1 k1 => ?_) (by rw [List.size_toArray]; exact hz))
  rw [show vs.toArray.toList = vs by simp]
  refine wpAny_bind (wpAny_newList ?_ hz)
  have hoL : (h1.push (seqObj "list" vs.toArray 0)).get? h1.objs.size = some (seqObj "list" vs.toArray 0) := Heap.get?_push_size _ rfl
  have keep : ∀ b u, s.heap.get? b = some u → b ≠ h1.objs.size ∧ (h1.push (seqObj "list" vs.toArray 0)).get? b = some u := fun b u q => ⟨Nat.ne_of_lt (Heap.lt_size (k1 b u q)), Heap.get?_push_of_some _ (k1 b u q)⟩
  show wpAny _ _ _ _ _ { s with heap := h1.push (seqObj "list" vs.toArray 0) }
  refine wpAny_bind (wpAny_holding (wpAny_call_entry slot_list_sort ⟨_, hoL, rfl⟩ entry_list_sort (list_sort_ord O hoL hz (fun h2 => hS h2 _ _ hoL keep) fun out hs hb => ⟨_, rfl, ?_⟩) (args_list_sort _)))
  obtain ⟨ep, he⟩ := sortedHeap_at (vs := vs) (out := out.toArray) hoL
  exact wpAny_pure ⟨_, rfl, h out ep h1 _ hs hb k1 (fun b u q => (sortedHeap_old (Nat.ne_of_lt (Heap.lt_size q)) (Heap.lt_size (Heap.get?_push_of_some _ q))).trans (Heap.get?_push_of_some _ q)) he⟩
end
end DL.Sx
namespace L2
open PySem PySem.Spec PyProof.Rows
/-- sorted of whole numbers, out of a list or a tuple -/
def rSortedLT (K : PySem.W.Frag) : List V → Hp → VK → Prop := fun vs H Q => ∃ (a : Addr) (ns : List Int), vs = [V.ref a] ∧ (SqL K H a (ns.map V.int) ∨ SqT K H a (ns.map V.int)) ∧
  ∀ (ms : List Int) (p : Addr), ms.Perm ns → ms.Pairwise (· ≤ ·) → H p = none → Q (.ref p) (upd H p (.lst (ms.map V.int)))
theorem cr_sortedLT {X : Cx} : CallR X (.builtin "sorted") (rSortedLT X.K) := by
  intro pins s σ H vs us Q I r h
  obtain ⟨a, ns, rfl, hs, q⟩ := h
  obtain ⟨its, rv, T, o, n, hT, ho, hc, hd, hz⟩ : ∃ (its : List Value), Vals (ns.map V.int) its ∧ ∃ (T : String) (o : Obj) (n : Nat), (T = "list" ∨ T = "tuple") ∧ s.heap.get? a = some o ∧ o.cls = .type T ∧ o.data = .seq its.toArray n ∧ (ns.map V.int).length ≤ sizeLine := by
    rcases hs with hs | hs
    · obtain ⟨its, rv, hl, hz⟩ := I.list hs
      obtain ⟨o, ho, hc, n, hd⟩ := hl.isList
      exact ⟨its, rv, "list", o, n, .inl rfl, ho, hc, hd, hz⟩
    · obtain ⟨its, rv, hl, hz⟩ := I.tuple hs
      obtain ⟨o, ho, hc, n, hd⟩ := hl
      exact ⟨its, rv, "tuple", o, n, .inr rfl, ho, hc, hd, hz⟩
  rw [Vals.ref1 r]
  have hi := rv.ints
  refine DL.Sx.sorted_seq SrtO.swo_int hT ho hc hd (by rw [← rv.length]; exact hz) (fun h2 h1 a' _ _ => SrtO.ints_sortable hi h2) fun out ep h1 h' e1 e2 k1 k2 he => ?_
  obtain ⟨w1, w2, w3⟩ := SrtO.ints_out hi e1 e2
  have hlen : ((out.map SrtO.iv).map V.int).length ≤ sizeLine := by
    rw [List.length_map, w2.length_eq]
    rw [List.length_map] at hz
    exact hz
  have I1 : Inv X pins σ H { s with heap := h1 } := I.kept (t' := s.toks) k1
  exact ⟨.ref _, upd H h1.objs.size (.lst ((out.map SrtO.iv).map V.int)), I1.laid (t' := s.toks) k2 (Nat.le_refl _) ⟨hlen, out, ep, vals_of_ints w1, he⟩, rfl, q _ _ w2 w3 (I1.hok.fresh (Nat.le_refl _))⟩
end L2
namespace DL
open PySem PySem.Spec PyProof.Rows L2
/-- sorted(x) of whole numbers -/
def fSorted : DF := fun ds M P => match ds with
  | [d] => (match seqOf M d with
    | some xs => (match intsOf xs with
      | some ns => ∀ ms : List Int, ms.Perm ns → ms.Pairwise (· ≤ ·) → P (.ref M.length) (M ++ [.lst (ms.map D.int)])
      | none => False)
    | none => False)
  | _ => False
theorem f_sorted {X : Cx} {fa : Org} : CallR X (.builtin "sorted") (LF X.K fa fSorted) := cr_sortedLT.imp fun vs H Q ⟨M, α, ds, P, sr, rs, h, an⟩ => by
  unfold fSorted at h
  split at h
  · rename_i d
    rcases rs with _ | ⟨r, _ | _⟩
    split at h
    · rename_i xs hs
      split at h
      · rename_i ns hn
        obtain ⟨a, ws, e, hq, rs⟩ := seq_v sr r hs
        have hl := seq_len sr r hs
        subst e
        have e2 := ints_v rs hn
        subst e2
        refine ⟨a, ns, rfl, hq, fun ms p hp hw hh => an.lst sr (Rps.ints ms) ?_ hh (h ms hp hw)⟩
        have := rs.length
        rw [List.length_map] at this ⊢
        rw [hp.length_eq, this]
        exact hl
      · exact h.elim
    · exact h.elim
  · exact h.elim
end DL

/-! The data layer: all pairs out of a range, tuple(combinations(range(n), 2)). -/
namespace DL.Co
open PySem PySem.Spec PyProof.Rows
open Sem (wp)
abbrev Ty : String := "itertools.combinations"
theorem mro : mroOf (.type Ty) = pure [.type Ty, .type "object"] := by rw [mroOf_type]; kernel_rfl
theorem look_new : typeLookup (.type Ty) "__new__" = pure (some (.builtin "itertools.combinations.__new__")) := by rw [typeLookup_type, builtinLookup_eq_fast]; kernel_rfl
theorem sub : isSubtype (.type Ty) (.type Ty) = pure true := by rw [isSubtype_type]; kernel_rfl
theorem sl_init : Slot Ty "__init__" "object.__init__" := by
  refine .of (owner := "object") (n := "__init__") ?_ ?_ ?_ ?_ ?_ ?_
  · rw [typeLookup_type, builtinLookup_eq_fast]; kernel_rfl
  all_goals first | decide +kernel | exact .inl (by decide +kernel) | exact .inr (by decide +kernel) | (rw [isSubtype_type]; kernel_rfl)
theorem called : TypeCalled Ty "itertools.combinations.__new__" "object.__init__" := by
  refine ⟨?_, ?_, ⟨_, _, mro⟩, madeBy_type mro look_new ?_, ?_, sub, sl_init⟩ <;> decide +kernel
theorem typeCall2 (a b : Value) : checkTypeCall Ty ⟨[a, b], []⟩ = pure () := by kernel_rfl
theorem newCall2 (a b : Value) : checkBuiltinCall "itertools.combinations.__new__" ⟨[.type Ty, a, b], []⟩ = pure () := by kernel_rfl
theorem e_new : entryFor table "itertools.combinations.__new__" = some Builtin.«itertools.combinations.__new__» := entryFor_of_tree (by kernel_rfl)
theorem sl_iter : Slot Ty "__iter__" "itertools.combinations.__iter__" := by
  refine .of (owner := Ty) (n := "__iter__") ?_ ?_ ?_ ?_ ?_ sub
  · rw [typeLookup_type, builtinLookup_eq_fast]; kernel_rfl
  all_goals first | decide +kernel | exact .inl (by decide +kernel) | exact .inr (by decide +kernel)
theorem sl_next : Slot Ty "__next__" "itertools.combinations.__next__" := by
  refine .of (owner := Ty) (n := "__next__") ?_ ?_ ?_ ?_ ?_ sub
  · rw [typeLookup_type, builtinLookup_eq_fast]; kernel_rfl
  all_goals first | decide +kernel | exact .inl (by decide +kernel) | exact .inr (by decide +kernel)
theorem e_iter : entryFor table "itertools.combinations.__iter__" = some Builtin.«dict_keyiterator.__iter__» := by
  refine entryFor_alias (id' := "dict_keyiterator.__iter__") (by kernel_rfl) ?_ (by decide +kernel) (by kernel_rfl)
  first | rfl | decide +kernel | (unfold String.splitOn; simp +decide [String.splitOnAux])
theorem e_next : entryFor table "itertools.combinations.__next__" = some Builtin.«itertools.combinations.__next__» := entryFor_of_tree (by kernel_rfl)
theorem owner : Manifest.owners.lookup (String.ofList "snoitanibmoc.slootreti".toList.reverse) = some Manifest.sig_itertools_combinations := by kernel_rfl
theorem a_iter (a : Value) : argsOk "itertools.combinations.__iter__" ⟨[a], []⟩ := by
  unfold argsOk
  rw [signature?_of (id := "itertools.combinations.__iter__") (n := "__reti__".toList) (o := "snoitanibmoc.slootreti".toList) (by kernel_rfl) owner]
  kernel_rfl
theorem a_next (a : Value) : argsOk "itertools.combinations.__next__" ⟨[a], []⟩ := by
  unfold argsOk
  rw [signature?_of (id := "itertools.combinations.__next__") (n := "__txen__".toList) (o := "snoitanibmoc.slootreti".toList) (by kernel_rfl) owner]
  kernel_rfl
theorem noDict : typeHasDict (.type Ty) = false := by decide +kernel
theorem noLen : typeLookup (.type Ty) "__len__" = pure none := by rw [typeLookup_type, builtinLookup_eq_fast]; kernel_rfl
theorem noHint : typeLookup (.type Ty) "__length_hint__" = pure none := by rw [typeLookup_type, builtinLookup_eq_fast]; kernel_rfl
theorem pl_new : plainId "itertools.combinations.__new__" = true := by decide +kernel
/-- at I: an object that hands out pairs of the pool at P; at which places it stands -/
abbrev IsC (h : Heap) (I : Addr) (P : Value) (st : Int) (res : Value) (a b : Nat) : Prop := h.get? I = some { cls := .type Ty, dict := none, data := .fields #[P, rawInt st, res, rawInt (a : Nat), rawInt (b : Nat)], slots := #[] }
end DL.Co

namespace DL.Co
open PySem PySem.Spec PyProof.Rows
open Sem (wp)
section
variable {prog : Program} {w : World} {A : Around} {E : Value → Shared → Prop} {s : Shared} {r : Addr} {n : Nat} {t u v : Tok} {m : Int}
theorem code_new {Q1 : Value → Shared → Prop} {tk2 : Tok} (hh : A.handled = none) (hr : IsRange s.heap r 0 m 1 t u v) (hsmall : Builtin.Range.small 0 m 1 = true) (hn : Builtin.Range.rangeSize 0 m 1 = n) (hlen : n ≤ 2 ^ 24)
    (h : ∀ (h' : Heap) (tk : Nat) (acc : Array Value) (P : Addr), (∀ b o, s.heap.get? b = some o → h'.get? b = some o) → ItemsOf (fun i v => ∃ t, v = .int (0 + i * 1) t) acc n → h'.IsTuple P acc →
      Q1 (.ref h'.objs.size) { s with heap := h'.push { cls := .type Ty, data := .fields #[.ref P, rawInt (if 2 > n then 2 else 0), .none, rawInt ((0 : Nat) : Int), rawInt ((1 : Nat) : Int)] }, toks := tk }) :
    codeAny (model prog w) A (.call (.builtin "itertools.combinations.__new__") ⟨[.type Ty, .ref r, .int 2 tk2], []⟩) (wants Q1 E) s := by
  refine codeAny_of_tree ?_
  show wpAny _ A.in1 (checkBuiltinCall "itertools.combinations.__new__" _ >>= fun _ => again (.builtin "itertools.combinations.__new__" ⟨[.type Ty, .ref r, .int 2 tk2], []⟩)) _ _ s
  refine wpAny_bind (wpAny_of_eq (newCall2 _ _) (wpAny_pure ⟨plainId_quiet pl_new _, codeAny_builtin e_new ?_⟩))
  rw [Around.under_plainId pl_new _]
  have hsub := sub
  have hd := noDict
  have hTI : s.TypeIs (.ref r) "range" := ⟨_, hr, rfl⟩
  have hh1 : A.in1.handled = none := hh
  wp_walk using wpAny_typeOf hTI, L2.collect_range (A := A.in1) hh1 hr hsmall hn hlen
  have e1 : isSubtype (.type Ty) (.type ("itertools." ++ "combinations")) = pure true := sub
  refine wpAny_of_eq e1 ?_
  wp_walk using L2.collect_range (A := A.in1) hh1 hr hsmall hn hlen
  intro h' tk acc hk hi
  refine wpAny_bind (wpAny_newTuple ?_ ?_)
  rotate_left
  · rw [Array.length_toList, hi.1, sizeLine_eq]; omega
  have hl : acc.toList.length = n := by rw [Array.length_toList]; exact hi.1
  have el : acc.toList.toArray = acc := by simp
  refine wpAny_pure ?_
  show wpAny _ _ (Builtin.Itertools.itNewRecord (.type Ty) ([Value.ref h'.objs.size, rawInt (if 2 > acc.toList.length then 2 else 0), Value.none] ++ List.map (fun (i : Nat) => rawInt i) (List.range 2)) >>= fun z => ret z) _ _ _
  rw [hl, el]
  unfold Builtin.Itertools.itNewRecord
  rw [hd]
  show wpAny _ _ (newObj (.type Ty) (.fields #[Value.ref h'.objs.size, rawInt (if 2 > n then 2 else 0), Value.none, rawInt ((0 : Nat) : Int), rawInt ((1 : Nat) : Int)]) >>= fun z => ret z) _ _ _
  refine wpAny_bind (wpAny_newObj_type ?_ ?_)
  · refine wpAny_pure ?_
    exact h _ tk acc h'.objs.size (fun b o q => Heap.get?_push_of_some _ (hk b o q)) hi ⟨_, Heap.get?_push_size _ rfl, rfl, 0, rfl⟩
  · show (5 : Nat) ≤ _
    rw [sizeLine_eq]; omega
end
end DL.Co

namespace DL.Co
open PySem PySem.Spec PyProof.Rows
open Sem (wp)
section
variable {prog : Program} {w : World} {A : Around} {E : Value → Shared → Prop} {s : Shared} {I P : Addr} {st : Int} {res : Value} {a b : Nat} {pv : Array Value}
theorem nums {Q : List Nat → Shared → Prop} (hI : IsC s.heap I (.ref P) st res a b) (h : Q [a, b] s) : wpAny (model prog w) A (Builtin.Itertools.itNumbersFrom (.ref I) 3) Q E s := by
  unfold Builtin.Itertools.itNumbersFrom
  refine wpAny_bind (wpAny_load hI ?_)
  exact wpAny_pure h
theorem intf {Q : Int → Shared → Prop} (hI : IsC s.heap I (.ref P) st res a b) (h : Q st s) : wpAny (model prog w) A (Builtin.Itertools.itIntField (.ref I) 1) Q E s := by
  unfold Builtin.Itertools.itIntField
  refine wpAny_bind (wpAny_field hI rfl (x := rawInt st) rfl ?_)
  exact wpAny_pure h
theorem pool {Q : Array Value → Shared → Prop} (hP : s.heap.IsTuple P pv) (h : Q pv s) : wpAny (model prog w) A (Builtin.Itertools.itPoolItems (.ref P)) Q E s := by
  obtain ⟨o, ho, hc, n, hd⟩ := hP
  unfold Builtin.Itertools.itPoolItems
  refine wpAny_bind (wpAny_seqItems ho hd ?_)
  exact wpAny_pure h
theorem free_at (h : Heap) : h.get? h.objs.size = none := by
  cases q : h.get? h.objs.size with
  | none => rfl
  | some o => exact absurd (Heap.lt_size q) (Nat.lt_irrefl _)
/-- what stays: all but the object itself -/
def But (I : Addr) (h h' : Heap) : Prop := ∀ c o, c ≠ I → h.get? c = some o → h'.get? c = some o
theorem But.none {I c : Addr} {h h' : Heap} (x : But I h h') (hc : c ≠ I) (e : h'.get? c = none) : h.get? c = none := by
  cases q : h.get? c with
  | none => rfl
  | some o =>
    rw [x c o hc q] at e
    cases e
theorem But.trans {I : Addr} {h h' h'' : Heap} (x : But I h h') (y : But I h' h'') : But I h h'' := fun c o hc e => y c o hc (x c o hc e)
/-- a pair is handed out -/
theorem hand {X : Value → Sem PySem.Fin} {Q : PySem.Fin → Shared → Prop} (hI : IsC s.heap I (.ref P) st res a b) (hP : s.heap.IsTuple P pv) (hne : P ≠ I)
    (hQ : ∀ h' T, IsC h' I (.ref P) st (.ref T) a b → h'.IsTuple T #[pv.getD a .none, pv.getD b .none] → T ≠ I → s.heap.get? T = none → But I s.heap h' → wpAny (model prog w) A (X (.ref T)) Q E { s with heap := h' }) :
    wpAny (model prog w) A ((Builtin.Itertools.itPoolItems (.ref P) >>= fun items => newTuple ([a, b].map fun i => items.getD i .none)) >>= fun r => field (.ref I) 2 >>= fun before => setField (.ref I) 2 r >>= fun _ => letGo [before] [r] >>= fun _ => X r) Q E s := by
  refine wpAny_bind (wpAny_bind (pool hP (wpAny_newTuple ?_ (by rw [sizeLine_eq]; show (2 : Nat) ≤ _; omega))))
  have hI2 : IsC (s.heap.push { cls := .type "tuple", data := .seq ([a, b].map fun i => pv.getD i Value.none).toArray }) I (.ref P) st res a b := Heap.get?_push_of_some _ hI
  have hT : (s.heap.push { cls := .type "tuple", data := .seq ([a, b].map fun i => pv.getD i Value.none).toArray }).get? s.heap.objs.size = some { cls := .type "tuple", data := .seq ([a, b].map fun i => pv.getD i Value.none).toArray } := Heap.get?_push_size _ rfl
  have hTI : s.heap.objs.size ≠ I := Nat.ne_of_gt (Heap.lt_size hI)
  refine wpAny_bind (wpAny_field hI2 rfl (x := res) rfl ?_)
  refine wpAny_bind (wpAny_setField hI2 rfl (by simp) ?_)
  refine wpAny_bind (wpAny_letGo ?_)
  refine hQ _ _ (Heap.get?_update_self _ hI2 rfl) ⟨_, (Heap.get?_update_other _ _ (Ne.symm hTI)).trans hT, rfl, 0, rfl⟩ hTI (free_at _) fun c o hc e => (Heap.get?_update_other _ _ (Ne.symm hc)).trans (Heap.get?_push_of_some _ e)
theorem first_item {Q : Option Value → Shared → Prop} (hI : IsC s.heap I (.ref P) 0 res a b) (hP : s.heap.IsTuple P pv) (hne : P ≠ I)
    (hQ : ∀ h' T, IsC h' I (.ref P) 1 (.ref T) a b → h'.IsTuple T #[pv.getD a .none, pv.getD b .none] → T ≠ I → s.heap.get? T = none → But I s.heap h' → Q (some (.ref T)) { s with heap := h' }) : wpAny (model prog w) A (pyNext (.ref I)) Q E s := by
  have hT : s.TypeIs (.ref I) Ty := ⟨_, hI, rfl⟩
  unfold pyNext
  refine wpAny_bind (wpAny_attempt (wpAny_callSpecial?_slot (name := Str.ofString "__next__") hT sl_next (wpAny_call_entry sl_next hT e_next ?_ (a_next _))))
  show wpAny _ _ (field (.ref I) 0 >>= _) _ _ s
  refine wpAny_bind (wpAny_field hI rfl (x := .ref P) rfl ?_)
  refine wpAny_bind (nums hI ?_)
  refine wpAny_bind (intf hI ?_)
  show wpAny _ _ (setField (.ref I) 1 (rawInt 1) >>= _) _ _ s
  refine wpAny_bind (wpAny_setField hI rfl (by simp) ?_)
  have hI2 : IsC (s.heap.update I (Obj.mapFields fun x => x.setIfInBounds 1 (rawInt 1))) I (.ref P) 1 res a b := Heap.get?_update_self _ hI rfl
  have k1 : But I s.heap (s.heap.update I (Obj.mapFields fun x => x.setIfInBounds 1 (rawInt 1))) := fun c o hc e => (Heap.get?_update_other _ _ (Ne.symm hc)).trans e
  refine hand (s := { s with heap := s.heap.update I (Obj.mapFields fun x => x.setIfInBounds 1 (rawInt 1)) }) hI2 (hP.at fun o e => k1 P o hne e) hne fun h' T i1 i2 i3 i4 i5 => ?_
  exact wpAny_pure ⟨_, rfl, wpAny_pure (hQ h' T i1 i2 i3 (k1.none i3 i4) (k1.trans i5))⟩
/-- the places that come next -/
def nx (n a b : Nat) : Option (List Nat) := match (match b != 1 + n - 2 with
  | true => some 1
  | false => (match a != 0 + n - 2 with
    | true => some 0
    | false => none)) with
  | none => none
  | some i => some (List.take i [a, b] ++ (List.range (2 - i)).map fun k => [a, b].getD i 0 + 1 + k)
theorem next_item {Q : Option Value → Shared → Prop} {c d : Nat} (hI : IsC s.heap I (.ref P) 1 res a b) (hP : s.heap.IsTuple P pv) (hne : P ≠ I) (hn : nx pv.size a b = some [c, d])
    (hQ : ∀ h' T, IsC h' I (.ref P) 1 (.ref T) c d → h'.IsTuple T #[pv.getD c .none, pv.getD d .none] → T ≠ I → s.heap.get? T = none → But I s.heap h' → Q (some (.ref T)) { s with heap := h' }) : wpAny (model prog w) A (pyNext (.ref I)) Q E s := by
  have hT : s.TypeIs (.ref I) Ty := ⟨_, hI, rfl⟩
  unfold pyNext
  refine wpAny_bind (wpAny_attempt (wpAny_callSpecial?_slot (name := Str.ofString "__next__") hT sl_next (wpAny_call_entry sl_next hT e_next ?_ (a_next _))))
  show wpAny _ _ (field (.ref I) 0 >>= _) _ _ s
  refine wpAny_bind (wpAny_field hI rfl (x := .ref P) rfl ?_)
  refine wpAny_bind (nums hI ?_)
  refine wpAny_bind (intf hI ?_)
  show wpAny _ _ (Builtin.Itertools.itPoolItems (.ref P) >>= _) _ _ s
  refine wpAny_bind (pool hP ?_)
  split
  · rename_i nxt e
    have e : nx pv.size a b = some nxt := e
    rw [hn] at e
    cases e
    have hI2 : IsC (s.heap.update I (Obj.mapFields fun fs => fs.extract 0 3 ++ ([c, d].map fun (n : Nat) => rawInt n).toArray)) I (.ref P) 1 res c d := Heap.get?_update_self _ hI rfl
    have k1 : But I s.heap (s.heap.update I (Obj.mapFields fun fs => fs.extract 0 3 ++ ([c, d].map fun (n : Nat) => rawInt n).toArray)) := fun c o hc e => (Heap.get?_update_other _ _ (Ne.symm hc)).trans e
    refine wpAny_bind ?_
    unfold Builtin.Itertools.itSetNumbersFrom
    refine wpAny_updateFields hI rfl ?_ ?_
    · refine hand (s := { s with heap := s.heap.update I (Obj.mapFields fun fs => fs.extract 0 3 ++ ([c, d].map fun (n : Nat) => rawInt n).toArray) }) hI2 (hP.at fun o e => k1 P o hne e) hne fun h' T i1 i2 i3 i4 i5 => ?_
      exact wpAny_pure ⟨_, rfl, wpAny_pure (hQ h' T i1 i2 i3 (k1.none i3 i4) (k1.trans i5))⟩
    · show (5 : Nat) ≤ _
      rw [sizeLine_eq]
      omega
  · rename_i e
    have e : nx pv.size a b = none := e
    rw [hn] at e
    cases e
theorem stop {α : Type} {E2 : Value → Shared → Prop} {Q : α → Shared → Prop} (hh : A.handled = none) (hI : ∃ o, s.heap.get? I = some o)
    (hQ : ∀ e h', CpRep.StopE e h' → But I s.heap h' → E2 e { s with heap := h' }) : wpAny (model prog w) A (Builtin.Itertools.itStop : Sem α) Q E2 s := by
  unfold Builtin.Itertools.itStop
  refine wpAny_bind ?_
  simp only [newExc, newTuple]
  refine wpAny_bind (wpAny_newObj_type ?_ (by size_fits))
  refine wpAny_bind (m := firstArgMember _ _) (wpAny_of_eq (a := Value.none) (by first | rfl | (simp only [firstArgMember]; rfl)) ?_)
  refine wpAny_newObj_type ?_ (by size_fits)
  simp only [raiseNew]
  refine wpAny_bind (wpAny_handled ?_)
  rw [hh]
  refine wpAny_bind (wpAny_pure (wpAny_throw ?_))
  exact hQ _ _ ⟨_, _, _, rfl, Heap.get?_push_size _ rfl, rfl, rfl, rfl⟩ fun c o _ e => Heap.get?_push_of_some _ (Heap.get?_push_of_some _ e)
theorem ended {Q : Option Value → Shared → Prop} {e : Value} (h : CpRep.StopE e s.heap) (q : Q none s) : wpAny (model prog w) A (isInstance e (.type "StopIteration") >>= fun b => if b = true then pure none else throw e) Q E s := by
  obtain ⟨a, o, vs, rfl, ho, hc, _⟩ := h
  refine wpAny_bind (wpAny_isInstance (T := "StopIteration") (b := true) ⟨o, ho, hc⟩ isSubtype_stop ?_)
  exact wpAny_pure q
theorem last_item {Q : Option Value → Shared → Prop} (hh : A.handled = none) (hI : IsC s.heap I (.ref P) 1 res a b) (hP : s.heap.IsTuple P pv) (hne : P ≠ I) (hn : nx pv.size a b = none)
    (hQ : ∀ h', But I s.heap h' → Q none { s with heap := h' }) : wpAny (model prog w) A (pyNext (.ref I)) Q E s := by
  have hT : s.TypeIs (.ref I) Ty := ⟨_, hI, rfl⟩
  unfold pyNext
  refine wpAny_bind (wpAny_attempt (wpAny_callSpecial?_slot (name := Str.ofString "__next__") hT sl_next (wpAny_call_entry sl_next hT e_next ?_ (a_next _))))
  show wpAny _ _ (field (.ref I) 0 >>= _) _ _ s
  refine wpAny_bind (wpAny_field hI rfl (x := .ref P) rfl ?_)
  refine wpAny_bind (nums hI ?_)
  refine wpAny_bind (intf hI ?_)
  show wpAny _ _ (Builtin.Itertools.itPoolItems (.ref P) >>= _) _ _ s
  refine wpAny_bind (pool hP ?_)
  split
  · rename_i nxt e
    have e : nx pv.size a b = some nxt := e
    rw [hn] at e
    cases e
  · have hI2 : IsC (s.heap.update I (Obj.mapFields fun x => x.setIfInBounds 1 (rawInt 2))) I (.ref P) 2 res a b := Heap.get?_update_self _ hI rfl
    have k1 : But I s.heap (s.heap.update I (Obj.mapFields fun x => x.setIfInBounds 1 (rawInt 2))) := fun c o hc e => (Heap.get?_update_other _ _ (Ne.symm hc)).trans e
    refine wpAny_bind (wpAny_setField hI rfl (by simp) ?_)
    exact stop (s := { s with heap := s.heap.update I (Obj.mapFields fun x => x.setIfInBounds 1 (rawInt 2)) }) hh ⟨_, hI2⟩ fun e h' he hb => ended (s := { s with heap := h' }) he (hQ _ (k1.trans hb))
theorem no_item {Q : Option Value → Shared → Prop} (hh : A.handled = none) (hI : IsC s.heap I (.ref P) 2 res a b) 
    (hQ : ∀ h', But I s.heap h' → Q none { s with heap := h' }) : wpAny (model prog w) A (pyNext (.ref I)) Q E s := by
  have hT : s.TypeIs (.ref I) Ty := ⟨_, hI, rfl⟩
  unfold pyNext
  refine wpAny_bind (wpAny_attempt (wpAny_callSpecial?_slot (name := Str.ofString "__next__") hT sl_next (wpAny_call_entry sl_next hT e_next ?_ (a_next _))))
  show wpAny _ _ (field (.ref I) 0 >>= _) _ _ s
  refine wpAny_bind (wpAny_field hI rfl (x := .ref P) rfl ?_)
  refine wpAny_bind (nums hI ?_)
  refine wpAny_bind (intf hI ?_)
  show wpAny _ _ (rule _ >>= _) _ _ s
  refine wpAny_bind (wpAny_rule ?_)
  exact stop hh ⟨_, hI⟩ fun e h' he hb => ended (s := { s with heap := h' }) he (hQ _ hb)
end
end DL.Co

namespace DL.Co
open PySem PySem.Spec PyProof.Rows
open Sem (wp)
/-- the pairs that come behind the one at a, b -/
def Chain (n : Nat) : Nat → Nat → List (Nat × Nat) → Prop
  | a, b, [] => nx n a b = none
  | a, b, q :: r => nx n a b = some [q.1, q.2] ∧ Chain n q.1 q.2 r
/-- what has been handed out -/
def Held (pv : Array Value) (S I : Addr) (h : Heap) (q : Addr × (Nat × Nat)) : Prop := h.IsTuple q.1 #[pv.getD q.2.1 .none, pv.getD q.2.2 .none] ∧ q.1 ≠ S ∧ q.1 ≠ I
def But2 (S I : Addr) (h h' : Heap) : Prop := ∀ c o, c ≠ I → c ≠ S → h.get? c = some o → h'.get? c = some o
theorem But2.trans {S I : Addr} {h h' h'' : Heap} (x : But2 S I h h') (y : But2 S I h' h'') : But2 S I h h'' := fun c o h1 h2 e => y c o h1 h2 (x c o h1 h2 e)
theorem But2.none {S I c : Addr} {h h' : Heap} (x : But2 S I h h') (hc : c ≠ I) (hs : c ≠ S) (e : h'.get? c = none) : h.get? c = none := by
  cases q : h.get? c with
  | none => rfl
  | some o =>
    rw [x c o hc hs q] at e
    cases e
theorem But.two {S I : Addr} {h h' : Heap} (x : But I h h') : But2 S I h h' := fun c o h1 _ e => x c o h1 e
theorem Held.keep {pv : Array Value} {S I : Addr} {h h' : Heap} {q : Addr × (Nat × Nat)} (x : Held pv S I h q) (k : But2 S I h h') : Held pv S I h' q := ⟨x.1.at fun o e => k _ o x.2.2 x.2.1 e, x.2⟩
abbrev lst (acc : Array Value) (c : Nat) : Obj := { cls := .type "list", dict := none, data := .seq acc c, slots := #[] }
section
variable {prog : Program} {w : World} {A : Around} {I P S : Addr} {pv : Array Value} {fin : Value} {R : Result → Shared → Prop}
theorem loop (h0 : Heap) (hh : A.handled = none) (hPI : P ≠ I) (hPS : P ≠ S) (hSI : S ≠ I) : ∀ (r : List (Nat × Nat)) (a b : Nat) (res : Value) (s : Shared) (dn : List (Addr × (Nat × Nat))) (acc : Array Value) (c : Nat),
    Chain pv.size a b r → IsC s.heap I (.ref P) 1 res a b → s.heap.IsTuple P pv → s.heap.get? S = some (lst acc c) → acc.toList = dn.map (fun q => Value.ref q.1) → (∀ q ∈ dn, Held pv S I s.heap q) → dn.length + r.length ≤ 1000 → But2 S I h0 s.heap → (∀ q ∈ dn, h0.get? q.1 = none) → (dn.map Prod.fst).Nodup →
    (∀ (h' : Heap) (dn' : List (Addr × (Nat × Nat))) (acc' : Array Value) (c' : Nat), h'.get? S = some (lst acc' c') → acc'.toList = dn'.map (fun q => Value.ref q.1) → (∀ q ∈ dn', Held pv S I h' q) → dn'.map Prod.snd = dn.map Prod.snd ++ r → But2 S I s.heap h' → (∀ q ∈ dn', h0.get? q.1 = none) → (dn'.map Prod.fst).Nodup → R (.ok (.ret fin)) { s with heap := h' }) →
    codeAny (model prog w) A (.builtin "list.extend.loop" ⟨[.ref S, .ref I, fin], []⟩) R s := by
  intro r
  induction r with
  | nil =>
    intro a b res s dn acc c ch hI hP hS ha hd hl hb hf hnd hR
    refine codeAny_builtin F.entry_extend_loop ?_
    rw [Around.under_plainId F.plain_extend_loop _]
    show wpAny _ A.in1 (pyNext (.ref I) >>= _) _ _ s
    refine wpAny_bind (last_item (A := A.in1) hh hI hP hPI ch fun h' k => ?_)
    refine wpAny_pure (hR h' dn acc c (k S _ hSI hS) ha (fun q hq => (hd q hq).keep k.two) (by simp) k.two hf hnd)
  | cons p r ih =>
    intro a b res s dn acc c ch hI hP hS ha hd hl hb hf hnd hR
    refine codeAny_builtin F.entry_extend_loop ?_
    rw [Around.under_plainId F.plain_extend_loop _]
    show wpAny _ A.in1 (pyNext (.ref I) >>= _) _ _ s
    refine wpAny_bind (next_item (A := A.in1) hI hP hPI ch.1 fun h' T i1 i2 i3 i4 i5 => ?_)
    have hS' : h'.get? S = some (lst acc c) := i5 S _ hSI hS
    have hTS : T ≠ S := fun z => by
      subst z
      rw [hS] at i4
      cases i4
    have hsz : acc.size = dn.length := by rw [← Array.length_toList, ha, List.length_map]
    show wpAny _ A.in1 (updateSeq S (·.push (.ref T)) >>= _) _ _ _
    refine wpAny_bind ?_
    have k2 : But2 S I h' (h'.update S (Obj.mapSeq (·.push (.ref T)))) := fun d o _ h2 e => (Heap.get?_update_other _ _ (Ne.symm h2)).trans e
    have hl : dn.length + (r.length + 1) ≤ 1000 := hl
    refine wpAny_updateSeq hS' rfl (wpAny_pure ⟨plainId_quiet F.plain_extend_loop _, ih p.1 p.2 (.ref T) { s with heap := h'.update S (Obj.mapSeq (·.push (.ref T))) } (dn ++ [(T, p)]) (acc.push (.ref T)) _ ch.2 ?_ ?_ (Heap.get?_update_self _ hS' rfl) ?_ ?_ ?_ ((hb.trans i5.two).trans k2) ?_ ?_ ?_⟩)
      (by rw [hsz, sizeLine_eq]; omega) (by show (acc.push (.ref T)).size ≤ sizeLine + 1; rw [Array.size_push, hsz, sizeLine_eq]; omega)
    · exact (Heap.get?_update_other _ _ hSI).trans i1
    · exact (hP.at fun o e => i5 P o hPI e).at fun o e => k2 P o hPI hPS e
    · rw [Array.toList_push, ha, List.map_append]
      rfl
    · intro q hq
      rcases List.mem_append.mp hq with z | z
      · exact ((hd q z).keep i5.two).keep k2
      · have : q = (T, p) := by simpa using z
        subst this
        exact ⟨i2.at fun o e => k2 T o i3 hTS e, hTS, i3⟩
    · rw [List.length_append, List.length_singleton]; omega
    · intro q hq
      rcases List.mem_append.mp hq with z | z
      · exact hf q z
      · have : q = (T, p) := by simpa using z
        subst this
        exact hb.none i3 hTS i4
    · rw [List.map_append, List.nodup_append]
      refine ⟨hnd, by simp, fun x hx y hy => ?_⟩
      have e : y = T := by simpa using hy
      subst e
      obtain ⟨q, hq, rfl⟩ := List.mem_map.mp hx
      intro z
      obtain ⟨o, ho, _⟩ := (hd q hq).1
      rw [z, i4] at ho
      cases ho
    · intro h'' dn' acc' c' q1 q2 q3 q4 q5
      refine hR h'' dn' acc' c' q1 q2 q3 (by rw [q4]; simp) ((i5.two.trans k2).trans q5)
/-- all pairs of n places -/
def Alls (n : Nat) (L : List (Nat × Nat)) : Prop := (n < 2 ∧ L = []) ∨ (2 ≤ n ∧ ∃ r, L = (0, 1) :: r ∧ Chain n 0 1 r)
theorem whole (h0 : Heap) {s : Shared} {c0 : Nat} {L : List (Nat × Nat)} (hh : A.handled = none) (hPI : P ≠ I) (hPS : P ≠ S) (hSI : S ≠ I) (hL : Alls pv.size L) (hl : L.length ≤ 1000) (hI : IsC s.heap I (.ref P) (if 2 > pv.size then 2 else 0) .none 0 1) (hP : s.heap.IsTuple P pv) (hS : s.heap.get? S = some (lst #[] c0)) (hb : But2 S I h0 s.heap)
    (hR : ∀ (h' : Heap) (dn' : List (Addr × (Nat × Nat))) (acc' : Array Value) (c' : Nat), h'.get? S = some (lst acc' c') → acc'.toList = dn'.map (fun q => Value.ref q.1) → (∀ q ∈ dn', Held pv S I h' q) → dn'.map Prod.snd = L → But2 S I s.heap h' → (∀ q ∈ dn', h0.get? q.1 = none) → (dn'.map Prod.fst).Nodup → R (.ok (.ret fin)) { s with heap := h' }) :
    codeAny (model prog w) A (.builtin "list.extend.loop" ⟨[.ref S, .ref I, fin], []⟩) R s := by
  rcases hL with ⟨h2, rfl⟩ | ⟨h2, r, rfl, ch⟩
  · rw [if_pos h2] at hI
    refine codeAny_builtin F.entry_extend_loop ?_
    rw [Around.under_plainId F.plain_extend_loop _]
    show wpAny _ A.in1 (pyNext (.ref I) >>= _) _ _ s
    refine wpAny_bind (no_item (A := A.in1) hh hI fun h' k => ?_)
    exact wpAny_pure (hR h' [] #[] c0 (k S _ hSI hS) rfl (fun q hq => by cases hq) rfl k.two (fun q hq => by cases hq) List.nodup_nil)
  · rw [if_neg (by omega)] at hI
    refine codeAny_builtin F.entry_extend_loop ?_
    rw [Around.under_plainId F.plain_extend_loop _]
    show wpAny _ A.in1 (pyNext (.ref I) >>= _) _ _ s
    refine wpAny_bind (first_item (A := A.in1) hI hP hPI fun h' T i1 i2 i3 i4 i5 => ?_)
    have hS' : h'.get? S = some (lst #[] c0) := i5 S _ hSI hS
    have hTS : T ≠ S := fun z => by
      subst z
      rw [hS] at i4
      cases i4
    show wpAny _ A.in1 (updateSeq S (·.push (.ref T)) >>= _) _ _ _
    refine wpAny_bind ?_
    have k2 : But2 S I h' (h'.update S (Obj.mapSeq (·.push (.ref T)))) := fun d o _ h2 e => (Heap.get?_update_other _ _ (Ne.symm h2)).trans e
    refine wpAny_updateSeq hS' rfl (wpAny_pure ⟨plainId_quiet F.plain_extend_loop _, loop h0 (A := A) hh hPI hPS hSI r 0 1 (.ref T) { s with heap := h'.update S (Obj.mapSeq (·.push (.ref T))) } [(T, (0, 1))] (#[].push (.ref T)) _ ch ?_ ?_ (Heap.get?_update_self _ hS' rfl) rfl ?_ ?_ ((hb.trans i5.two).trans k2) ?_ (by simp) ?_⟩)
      (by show (0 : Nat) ≤ _; omega) (by show (1 : Nat) ≤ _; rw [sizeLine_eq]; omega)
    · exact (Heap.get?_update_other _ _ hSI).trans i1
    · exact (hP.at fun o e => i5 P o hPI e).at fun o e => k2 P o hPI hPS e
    · intro q hq
      have : q = (T, (0, 1)) := by simpa using hq
      subst this
      exact ⟨i2.at fun o e => k2 T o i3 hTS e, hTS, i3⟩
    · have hl : r.length + 1 ≤ 1000 := hl
      show 1 + r.length ≤ 1000
      omega
    · intro q hq
      have : q = (T, (0, 1)) := by simpa using hq
      subst this
      exact hb.none i3 hTS i4
    · intro h'' dn' acc' c' q1 q2 q3 q4 q5
      exact hR h'' dn' acc' c' q1 q2 q3 q4 ((i5.two.trans k2).trans q5)
end
end DL.Co

namespace DL.Co
open PySem PySem.Spec PyProof.Rows
open Sem (wp)
section
variable {prog : Program} {w : World} {A : Around} {E : Value → Shared → Prop} {s : Shared} {I P : Addr} {pv : Array Value} {L : List (Nat × Nat)}
/-- the pairs stand in h -/
structure Out (pv : Array Value) (h0 h : Heap) (L : List (Nat × Nat)) (dn : List (Addr × (Nat × Nat))) : Prop where
  snd : dn.map Prod.snd = L
  nod : (dn.map Prod.fst).Nodup
  new : ∀ q ∈ dn, h0.get? q.1 = none
  tup : ∀ q ∈ dn, h.IsTuple q.1 #[pv.getD q.2.1 .none, pv.getD q.2.2 .none]
theorem collect_c {Q : List Value → Shared → Prop} (hh : A.handled = none) (hPI : P ≠ I) (hL : Alls pv.size L) (hl : L.length ≤ 1000) (hI : IsC s.heap I (.ref P) (if 2 > pv.size then 2 else 0) .none 0 1) (hP : s.heap.IsTuple P pv)
    (hQ : ∀ (h' : Heap) (dn : List (Addr × (Nat × Nat))), Out pv s.heap h' L dn → But I s.heap h' → (∀ q ∈ dn, q.1 ≠ I) → Q (dn.map fun q => Value.ref q.1) { s with heap := h' }) :
    wpAny (model prog w) A (collect (.ref I)) Q E s := by
  have hSI : s.heap.objs.size ≠ I := Nat.ne_of_gt (Heap.lt_size hI)
  have hPS : P ≠ s.heap.objs.size := by
    obtain ⟨o, ho, _⟩ := hP
    exact Nat.ne_of_lt (Heap.lt_size ho)
  unfold collect
  refine wpAny_bind (wpAny_runValue (codeAny_builtin F.entry_proto_collect ?_))
  rw [Around.under_plainId F.plain_proto_collect _]
  show wpAny _ A.in1 (newList [] >>= fun l => again (.builtin "list.__iadd__" ⟨[l, .ref I], []⟩)) _ _ s
  refine wpAny_bind (wpAny_newObj_type ?_)
  refine wpAny_pure ⟨plainId_quiet F.plain_list_iadd _, codeAny_builtin F.entry_list_iadd ?_⟩
  rw [Around.under_plainId F.plain_list_iadd _]
  have k0 : ∀ b o, s.heap.get? b = some o → (s.heap.push { cls := .type "list", data := .seq ([] : List Value).toArray }).get? b = some o := fun b o e => Heap.get?_push_of_some _ e
  have hI1 := k0 _ _ hI
  have hT1 : Shared.TypeIs { s with heap := s.heap.push { cls := .type "list", data := .seq ([] : List Value).toArray } } (.ref I) Ty := ⟨_, hI1, rfl⟩
  show wpAny _ A.in1 (Builtin.List.listExtendWith (.ref s.heap.objs.size) (.ref I) (.ref s.heap.objs.size)) _ _ _
  unfold Builtin.List.listExtendWith
  refine wpAny_bind (wpAny_typeOf hT1 ?_)
  have n1 : Builtin.List.listSameRef (.ref s.heap.objs.size) (.ref I) = false := by simp [Builtin.List.listSameRef, hSI]
  have n2 : (Value.type Ty == Value.type "list") = false := by decide
  have n3 : (Value.type Ty == Value.type "tuple") = false := by decide
  simp only [n1, n2, n3, Bool.or_false, Bool.false_eq_true, if_false]
  refine wpAny_bind (wpAny_pyIter_slot hT1 sl_iter (wpAny_call_entry sl_iter hT1 e_iter ?_ (a_iter _)))
  show wpAny _ _ (ret (.ref I)) _ _ _
  refine wpAny_pure ⟨_, rfl, Ty, _, hT1, sl_next.lookup, ?_⟩
  refine wpAny_bind (wpAny_holding ?_)
  unfold Builtin.List.listLengthHint
  refine wpAny_bind (wpAny_specialOf hT1 noLen ?_)
  show wpAny _ A.in1 (specialOf (Value.ref I) (Str.ofString "__length_hint__") >>= _) _ _ _
  refine wpAny_bind (wpAny_specialOf hT1 noHint ?_)
  refine wpAny_pure ?_
  show wpAny _ A.in1 (rule "list.extend.makes-room" >>= fun _ => Builtin.List.listTouch (.ref s.heap.objs.size) >>= fun _ =>
    again (.builtin "list.extend.loop" ⟨[.ref s.heap.objs.size, .ref I, .ref s.heap.objs.size], []⟩)) _ _ _
  refine wpAny_bind (wpAny_rule ?_)
  have hS1 : (s.heap.push { cls := .type "list", data := .seq ([] : List Value).toArray }).get? s.heap.objs.size = some { cls := .type "list", data := .seq ([] : List Value).toArray } := Heap.get?_push_size _ rfl
  refine wpAny_bind ?_
  show wpAny _ A.in1 (updateSeq s.heap.objs.size (·.push .none) >>= fun _ => updateSeq s.heap.objs.size (·.pop)) _ _ _
  refine wpAny_bind (wpAny_updateSeq hS1 rfl ?_)
  have hS2 := Heap.get?_update_self (Obj.mapSeq (·.push Value.none)) hS1 rfl
  refine wpAny_updateSeq hS2 rfl ?_
  have hS3 := Heap.get?_update_self (Obj.mapSeq (·.pop)) hS2 rfl
  have oth : ∀ b o, b ≠ s.heap.objs.size → (s.heap.push { cls := .type "list", data := .seq ([] : List Value).toArray }).get? b = some o →
      (((s.heap.push { cls := .type "list", data := .seq ([] : List Value).toArray }).update s.heap.objs.size (Obj.mapSeq (·.push Value.none))).update s.heap.objs.size (Obj.mapSeq (·.pop))).get? b = some o :=
    fun b o hb e => (Heap.get?_update_other _ _ (Ne.symm hb)).trans ((Heap.get?_update_other _ _ (Ne.symm hb)).trans e)
  have kk : ∀ b o, s.heap.get? b = some o → (((s.heap.push { cls := .type "list", data := .seq ([] : List Value).toArray }).update s.heap.objs.size (Obj.mapSeq (·.push Value.none))).update s.heap.objs.size (Obj.mapSeq (·.pop))).get? b = some o :=
    fun b o e => oth b o (Nat.ne_of_lt (Heap.lt_size e)) (k0 b o e)
  refine wpAny_pure ⟨plainId_quiet F.plain_extend_loop _, whole s.heap (A := A) hh hPI hPS hSI hL hl (kk _ _ hI) (hP.at fun o e => kk _ _ e) hS3 (fun b o _ _ e => kk b o e) fun h' dn acc c' q1 q2 q3 q4 q5 q6 q7 => ?_⟩
  · show wpAny _ A (load s.heap.objs.size >>= _) _ _ _
    refine wpAny_bind (wpAny_load q1 ?_)
    refine wpAny_pure ?_
    show Q acc.toList _
    rw [q2]
    exact hQ h' dn ⟨q4, q7, q6, fun q hq => (q3 q hq).1⟩ (fun b o hb e => q5 b o hb (Nat.ne_of_lt (Heap.lt_size e)) (kk b o e)) fun q hq => (q3 q hq).2.2
theorem code_tup {Q1 : Value → Shared → Prop} (hh : A.handled = none) (hPI : P ≠ I) (hL : Alls pv.size L) (hl : L.length ≤ 1000) (hI : IsC s.heap I (.ref P) (if 2 > pv.size then 2 else 0) .none 0 1) (hP : s.heap.IsTuple P pv)
    (h : ∀ (h' : Heap) (dn : List (Addr × (Nat × Nat))), Out pv s.heap h' L dn → But I s.heap h' → (∀ q ∈ dn, q.1 ≠ I) → Q1 (.ref h'.objs.size) { s with heap := h'.push { cls := .type "tuple", data := .seq (dn.map fun q => Value.ref q.1).toArray } }) :
    codeAny (model prog w) A (.call (.builtin "tuple.__new__") ⟨[.type "tuple", .ref I], []⟩) (wants Q1 E) s := by
  refine codeAny_of_tree ?_
  show wpAny _ A.in1 (checkBuiltinCall "tuple.__new__" _ >>= fun _ => again (.builtin "tuple.__new__" ⟨[.type "tuple", .ref I], []⟩)) _ _ s
  refine wpAny_bind (wpAny_of_eq (F.newCall_tuple_1 _) (wpAny_pure ⟨plainId_quiet F.plain_tuple_new _, codeAny_builtin F.entry_tuple_new ?_⟩))
  rw [Around.under_plainId F.plain_tuple_new _]
  have hsub := sub_tuple_self
  have hinit := init_tuple_lookup
  have hmh := madeHere_tuple
  have hTI : s.TypeIs (.ref I) Ty := ⟨_, hI, rfl⟩
  have hh1 : A.in1.handled = none := hh
  wp_walk using wpAny_typeOf hTI, collect_c (A := A.in1) hh1 hPI hL hl hI hP
  intro h' dn o1 o2 o3
  show wpAny _ _ (Builtin.Tuple.tupleExact (dn.map fun q => Value.ref q.1).toArray >>= fun v => ret v) _ _ _
  unfold Builtin.Tuple.tupleExact
  refine wpAny_bind (wpAny_newObj_type ?_ ?_)
  · exact wpAny_pure (h h' dn o1 o2 o3)
  · show (dn.map fun q => Value.ref q.1).toArray.size ≤ sizeLine
    have e : dn.length = L.length := by rw [← o1.snd, List.length_map]
    rw [List.size_toArray, List.length_map, e, sizeLine_eq]
    omega
theorem call_tup {Q : Value → Shared → Prop} (hh : A.handled = none) (hPI : P ≠ I) (hL : Alls pv.size L) (hl : L.length ≤ 1000) (hI : IsC s.heap I (.ref P) (if 2 > pv.size then 2 else 0) .none 0 1) (hP : s.heap.IsTuple P pv)
    (hQ : ∀ (h' : Heap) (dn : List (Addr × (Nat × Nat))), Out pv s.heap h' L dn → But I s.heap h' → (∀ q ∈ dn, q.1 ≠ I) → Q (.ref h'.objs.size) { s with heap := h'.push { cls := .type "tuple", data := .seq (dn.map fun q => Value.ref q.1).toArray } }) :
    wpAny (model prog w) A (call (.type "tuple") [.ref I]) Q E s := by
  refine callType_codes (Q₁ := fun obj s₁ => s₁.TypeIs obj "tuple" ∧ Q obj s₁) F.called_tuple (F.typeCall_tuple_1 _) F.entry_object_init
    (code_tup (A := A.in1) hh hPI hL hl hI hP fun h' dn o1 o2 o3 => ⟨⟨_, Heap.get?_push_size _ rfl, rfl⟩, hQ h' dn o1 o2 o3⟩) fun obj s1 h1 => ?_
  exact ⟨h1.1, F.args_object_init_2 obj _, object_init_meets F.called_tuple.init.lookup F.called_tuple.made (by decide) prog w A.in1 _ s1 ⟨h1.1, rfl, h1.2⟩⟩
theorem call_comb {Q : Value → Shared → Prop} {r : Addr} {n : Nat} {t u v tk2 : Tok} {m : Int} (hh : A.handled = none) (hr : IsRange s.heap r 0 m 1 t u v) (hsmall : Builtin.Range.small 0 m 1 = true) (hn : Builtin.Range.rangeSize 0 m 1 = n) (hlen : n ≤ 2 ^ 24)
    (hQ : ∀ (h' : Heap) (tk : Nat) (acc : Array Value) (P : Addr), (∀ b o, s.heap.get? b = some o → h'.get? b = some o) → ItemsOf (fun i v => ∃ t, v = .int (0 + i * 1) t) acc n → h'.IsTuple P acc →
      Q (.ref h'.objs.size) { s with heap := h'.push { cls := .type Ty, data := .fields #[.ref P, rawInt (if 2 > n then 2 else 0), .none, rawInt ((0 : Nat) : Int), rawInt ((1 : Nat) : Int)] }, toks := tk }) :
    wpAny (model prog w) A (call (.type Ty) [.ref r, .int 2 tk2]) Q E s := by
  refine callType_codes (Q₁ := fun obj s₁ => s₁.TypeIs obj Ty ∧ Q obj s₁) called (typeCall2 _ _) F.entry_object_init
    (code_new (A := A.in1) hh hr hsmall hn hlen fun h' tk acc P k i p => ⟨⟨_, Heap.get?_push_size _ rfl, rfl⟩, hQ h' tk acc P k i p⟩) fun obj s1 h1 => ?_
  exact ⟨h1.1, F.args_object_init_3 obj _ _, object_init_meets called.init.lookup called.made (by decide) prog w A.in1 _ s1 ⟨h1.1, rfl, h1.2⟩⟩
end
end DL.Co

namespace L2
open PySem PySem.Spec PyProof.Rows
section
variable {P : Program} {w : World} {fs : List Addr} {H H1 : Hp} {h hF : Heap} {a : Addr} {o : HO}
theorem ObjOk.at_ (x : ObjOk P w H h a o) : ∃ u, h.get? a = some u := by
  cases o with
  | lst xs => obtain ⟨_, _, _, _, e⟩ := x; exact ⟨_, e⟩
  | tup xs => obtain ⟨_, _, _, o, e, _⟩ := x; exact ⟨_, e⟩
  | dK kvs => obtain ⟨_, _, _, _, o, _, _, e, _⟩ := x; exact ⟨_, e⟩
  | dT kvs => obtain ⟨_, _, _, _, o, _, _, e, _⟩ := x; exact ⟨_, e⟩
  | set S n => obtain ⟨o, _, _, _, e, _⟩ := x; exact ⟨_, e⟩
  | ins C dx fs => obtain ⟨_, _, _, e, _⟩ := x; exact ⟨_, e⟩
  | own y => exact x
  | xd fs => obtain ⟨_, ⟨_, _, _, e, _⟩, _⟩ := x; exact ⟨_, e⟩
  | rng lo hi => obtain ⟨_, _, _, e⟩ := x; exact ⟨_, e⟩
  | frz ob u => exact ⟨_, x.1⟩
  | tbl ps => exact ⟨_, x⟩
  | met f y => exact ⟨_, x⟩
  | ext φ => exact x.2.1
/-- one object more is tracked: it was not there at the start -/
theorem track1 (u : Un fs [] H H1 h hF) (ok : HOk P w H1 hF) (ha : h.get? a = none) (hn : H1 a = none) (new : ObjOk P w (upd H1 a o) hF a o) : Un fs [] H (upd H1 a o) h hF ∧ HOk P w (upd H1 a o) hF := by
  refine ⟨⟨u.keep, u.slot, fun b v q n hx => ?_, u.there, fun b xs q => ?_, fun b v xs q => ?_, fun b ps q => ?_⟩, fun b v e => ?_⟩
  · have hb : b ≠ a := fun z => by
      subst z
      rw [ha] at q
      cases q
    rw [upd_ne hb]
    exact u.free b v q n hx
  · have q' := u.tups b xs q
    rw [upd_ne (ne_of_none q' hn)]
    exact q'
  · have q' := u.frzs b v xs q
    rw [upd_ne (ne_of_none q' hn)]
    exact q'
  · obtain ⟨m, q'⟩ := u.tbls b ps q
    exact ⟨m, by rw [upd_ne (ne_of_none q' hn)]; exact q'⟩
  · by_cases hb : b = a
    · subst hb
      rw [upd_same] at e
      cases e
      exact new
    · rw [upd_ne hb] at e
      exact (ok b v e).stay (fun c v _ q => q) (fun c q => by rw [upd_ne (ne_of_none q hn)]; exact q) fun c xs q => by rw [upd_ne (ne_of_none q hn)]; exact q
end
theorem nx_lt {n a b c d : Nat} (h : DL.Co.nx n a b = some [c, d]) (h1 : a < b) (h2 : b < n) : c < d ∧ d < n := by
  unfold DL.Co.nx at h
  cases e1 : (b != 1 + n - 2) with
  | true =>
    rw [e1] at h
    have e : (b : Nat) ≠ 1 + n - 2 := by simpa using e1
    simp at h
    omega
  | false =>
    rw [e1] at h
    have e : b = 1 + n - 2 := by simpa using e1
    cases e2 : (a != 0 + n - 2) with
    | true =>
      rw [e2] at h
      have e' : a ≠ 0 + n - 2 := by simpa using e2
      have h : some (List.take 0 [a, b] ++ (List.range (2 - 0)).map fun k => [a, b].getD 0 0 + 1 + k) = some [c, d] := h
      simp [List.range_succ] at h
      omega
    | false =>
      rw [e2] at h
      cases h
theorem chain_lt {n : Nat} : ∀ {r : List (Nat × Nat)} {a b : Nat}, DL.Co.Chain n a b r → a < b → b < n → ∀ q ∈ r, q.1 < n ∧ q.2 < n
  | [], _, _, _, _, _ => fun q hq => by cases hq
  | p :: r, a, b, h, h1, h2 => fun q hq => by
    obtain ⟨g1, g2⟩ := nx_lt h.1 h1 h2
    rcases List.mem_cons.mp hq with z | z
    · subst z
      exact ⟨by omega, g2⟩
    · exact chain_lt h.2 g1 g2 q z
theorem alls_lt {n : Nat} {L : List (Nat × Nat)} (h : DL.Co.Alls n L) : ∀ q ∈ L, q.1 < n ∧ q.2 < n := by
  rcases h with ⟨_, rfl⟩ | ⟨h2, r, rfl, ch⟩
  · intro q hq
    cases hq
  · intro q hq
    rcases List.mem_cons.mp hq with z | z
    · subst z
      exact ⟨by show 0 < n; omega, by show 1 < n; omega⟩
    · exact chain_lt ch (by omega) (by omega) q z
/-- pairs of whole numbers, laid -/
def updT (H : Hp) : List (Addr × (Nat × Nat)) → Hp
  | [] => H
  | q :: r => updT (upd H q.1 (.tup [.int (q.2.1 : Nat), .int (q.2.2 : Nat)])) r
theorem updT_ne : ∀ {dn : List (Addr × (Nat × Nat))} {H : Hp} {b : Addr}, b ∉ dn.map Prod.fst → updT H dn b = H b
  | [], _, _, _ => rfl
  | q :: r, H, b, h => by
    rw [List.map_cons, List.mem_cons] at h
    show updT _ r b = _
    rw [updT_ne (fun z => h (.inr z)), upd_ne fun z => h (.inl z)]
section
variable {P : Program} {w : World} {fs : List Addr} {H : Hp} {h hF : Heap}
theorem trackT : ∀ {dn : List (Addr × (Nat × Nat))} {H1 : Hp}, (dn.map Prod.fst).Nodup → Un fs [] H H1 h hF → HOk P w H1 hF → (∀ q ∈ dn, h.get? q.1 = none) → (∀ q ∈ dn, H1 q.1 = none) → (∀ q ∈ dn, ∃ t u, hF.IsTuple q.1 #[.int (q.2.1 : Nat) t, .int (q.2.2 : Nat) u]) →
    Un fs [] H (updT H1 dn) h hF ∧ HOk P w (updT H1 dn) hF
  | [], _, _, u, ok, _, _, _ => ⟨u, ok⟩
  | q :: r, H1, nd, u, ok, h1, h2, h3 => by
    rw [List.map_cons, List.nodup_cons] at nd
    obtain ⟨t, v, hq⟩ := h3 q List.mem_cons_self
    obtain ⟨u', ok'⟩ := track1 (o := .tup [.int (q.2.1 : Nat), .int (q.2.2 : Nat)]) u ok (h1 q List.mem_cons_self) (h2 q List.mem_cons_self) (show ObjOk P w _ _ _ (.tup _) from ⟨by rw [sizeLine_eq]; show (2 : Nat) ≤ _; omega, [.int (q.2.1 : Nat) t, .int (q.2.2 : Nat) v], .cons ⟨_, rfl⟩ (.cons ⟨_, rfl⟩ .nil), hq⟩)
    exact trackT (dn := r) nd.2 u' ok' (fun p hp => h1 p (List.mem_cons_of_mem _ hp)) (fun p hp => by
      have : p.1 ≠ q.1 := fun z => nd.1 (by rw [← z]; exact List.mem_map_of_mem hp)
      rw [upd_ne this]
      exact h2 p (List.mem_cons_of_mem _ hp)) (fun p hp => h3 p (List.mem_cons_of_mem _ hp))
end
/-- tuple(combinations(range(0, n), 2)) -/
def tCombs (te : St → Hp → (Int → Int → Hp → Prop) → Prop) : TE := fun σ H Q => te σ H fun a b H1 => a = 0 ∧ RgOk 0 b ∧ ∃ L : List (Nat × Nat), DL.Co.Alls b.toNat L ∧ L.length ≤ 1000 ∧
  ∀ (dn : List (Addr × (Nat × Nat))) (q : Addr), dn.map Prod.snd = L → (dn.map Prod.fst).Nodup → (∀ d ∈ dn, H1 d.1 = none) → updT H1 dn q = none → Q (.ref q) (upd (updT H1 dn) q (.tup (dn.map fun d => V.ref d.1)))
theorem vals_refs' : ∀ dn : List (Addr × (Nat × Nat)), Vals (dn.map fun d => V.ref d.1) (dn.map fun q => Value.ref q.1)
  | [] => .nil
  | d :: r => .cons (show RelV (.ref d.1) (.ref d.1) from rfl) (vals_refs' r)
theorem con_int {A : Around} {M : Model} {E : Value → Shared → Prop} {s : Shared} {i : Int} {j} {pos : Pos} {env : PySem.Env} {Q : Value → Shared → Prop} (h : ∀ t, Q (.int i t) { s with toks := s.toks + 1 }) : wpAny M A (eval (.Constant (.int i) j pos) env) Q E s := wpAny_Constant_int (h _)
theorem pe_combs {X : Cx} {x : Str} {e : Expr} {te : St → Hp → (Int → Int → Hp → Prop) → Prop} {p pc pk pos pos2 : Pos} {j} (hc : X.calm = true) (hg : Gl X "tuple") (hm : X.mg "tuple" = none) (hgx : Gl X x) (hmx : X.mg x = some (.type DL.Co.Ty)) (hdb : (x == ("__debug__" : Str)) = false) (he : PRg X e te)
    (na : starEach [e, .Constant (.int 2) j pk] X.env = (false, eval e X.env) :: starEach [.Constant (.int 2) j pk] X.env) : PE X (.Call (.Name "tuple" p) [.Call (.Name x pc) [e, .Constant (.int 2) j pk] [] pos2] [] pos) (tCombs te) := by
  refine ⟨fun pins s σ H Q I h => ?_⟩
  refine Call_ (ld_blt I hg hm boot_tuple (PyProof.Rows.callWith_type1 (args_cons ?_ rfl) rfl))
  refine Call_ (ld_glob I hgx hmx (PyProof.Rows.callWith_type1 (args_cons (thn (he pins s σ H _ I h) fun y s1 ⟨r, a, b, t, u, v, H1, ex, hr, I1, ha, ok, L, hL, hl, q⟩ => args_cons (con_int fun tk => args_nil ?_) rfl) na) na rfl) hdb)
  subst ex ha
  obtain ⟨b1, b2, b3, b4, b5⟩ := ok
  have hn : Builtin.Range.rangeSize 0 b 1 = ((b - 0).toNat : Nat) := rangeSize_nat 0 b
  rw [Int.sub_zero] at hn b5
  refine DL.Co.call_comb (n := b.toNat) (I1.ok.hd hc) hr (small_one b1 b2 b3 b4) hn b5 fun h' tk acc P k hi hP => ?_
  have hacc : acc.size = b.toNat := hi.1
  have hPI : P ≠ h'.objs.size := by
    obtain ⟨o, ho, _⟩ := hP
    exact Nat.ne_of_lt (Heap.lt_size ho)
  refine args_nil ?_
  refine DL.Co.call_tup (pv := acc) (I1.ok.hd hc) hPI (by rw [hacc]; exact hL) hl (by rw [hacc]; exact Heap.get?_push_size _ rfl) (hP.at fun o e => Heap.get?_push_of_some _ e) fun h2 dn out bt ni => ?_
  have kA : ∀ c o, s1.heap.get? c = some o → (h'.push { cls := .type DL.Co.Ty, data := .fields #[.ref P, rawInt (if 2 > b.toNat then 2 else 0), .none, rawInt ((0 : Nat) : Int), rawInt ((1 : Nat) : Int)] }).get? c = some o := fun c o e => Heap.get?_push_of_some _ (k c o e)
  have kB : ∀ c o, s1.heap.get? c = some o → h2.get? c = some o := fun c o e => bt c o (Nat.ne_of_lt (Heap.lt_size (k c o e))) (kA c o e)
  have kF : ∀ c o, s1.heap.get? c = some o → (h2.push { cls := .type "tuple", data := .seq (dn.map fun q => Value.ref q.1).toArray }).get? c = some o := fun c o e => Heap.get?_push_of_some _ (kB c o e)
  have nw : ∀ d ∈ dn, s1.heap.get? d.1 = none := fun d hd => by
    cases z : s1.heap.get? d.1 with
    | none => rfl
    | some o =>
      have := kA _ _ z
      rw [out.new d hd] at this
      cases this
  have nH : ∀ d ∈ dn, H1 d.1 = none := fun d hd => by
    cases z : H1 d.1 with
    | none => rfl
    | some o =>
      obtain ⟨o', ho'⟩ := (I1.hok d.1 o z).at_
      rw [nw d hd] at ho'
      cases ho'
  have iT : ∀ d ∈ dn, ∃ t u, (h2.push { cls := .type "tuple", data := .seq (dn.map fun q => Value.ref q.1).toArray }).IsTuple d.1 #[.int (d.2.1 : Nat) t, .int (d.2.2 : Nat) u] := fun d hd => by
    obtain ⟨l1, l2⟩ := alls_lt hL d.2 (by rw [← out.snd]; exact List.mem_map_of_mem hd)
    have at_ : ∀ i : Nat, i < b.toNat → ∃ t, acc.getD i .none = .int (i : Nat) t := fun i hlt => by
      have hlt' : i < acc.size := by rw [hacc]; exact hlt
      obtain ⟨t, e⟩ := hi.2 i acc[i] (by simp [hlt'])
      refine ⟨t, ?_⟩
      have : acc.getD i .none = acc[i] := by simp [hlt']
      rw [this, e]
      congr 1
      omega
    obtain ⟨t1, e1⟩ := at_ _ l1
    obtain ⟨t2, e2⟩ := at_ _ l2
    have := out.tup d hd
    rw [e1, e2] at this
    exact ⟨t1, t2, this.at fun o e => Heap.get?_push_of_some _ e⟩
  obtain ⟨u1, ok1⟩ := trackT (fs := X.fs) (H := H1) (h := s1.heap) (hF := h2.push { cls := .type "tuple", data := .seq (dn.map fun q => Value.ref q.1).toArray }) (dn := dn) (H1 := H1) out.nod (Un.kept kF) (I1.hok.kept kF) nw nH iT
  have fr : h2.get? h2.objs.size = none := DL.Co.free_at _
  have frs : s1.heap.get? h2.objs.size = none := by
    cases z : s1.heap.get? h2.objs.size with
    | none => rfl
    | some o =>
      have := kB _ _ z
      rw [fr] at this
      cases this
  have fnd : h2.objs.size ∉ dn.map Prod.fst := fun z => by
    obtain ⟨d, hd, e⟩ := List.mem_map.mp z
    obtain ⟨o, ho, _⟩ := out.tup d hd
    rw [e, fr] at ho
    cases ho
  have fnH : updT H1 dn h2.objs.size = none := by
    rw [updT_ne fnd]
    cases z : H1 h2.objs.size with
    | none => rfl
    | some o =>
      obtain ⟨o', ho'⟩ := (I1.hok _ o z).at_
      rw [frs] at ho'
      cases ho'
  have hlen : dn.length = L.length := by rw [← out.snd, List.length_map]
  obtain ⟨u2, ok2⟩ := track1 (o := .tup (dn.map fun d => V.ref d.1)) u1 ok1 frs fnH (show ObjOk X.prog X.w _ _ _ (.tup _) from ⟨by rw [List.length_map, hlen, sizeLine_eq]; omega, dn.map fun q => Value.ref q.1, vals_refs' dn, ⟨_, Heap.get?_push_size _ rfl, rfl, 0, rfl⟩⟩)
  exact ⟨.ref h2.objs.size, upd (updT H1 dn) h2.objs.size (.tup (dn.map fun d => V.ref d.1)), I1.un (t' := tk) u2 ok2, rfl, q dn h2.objs.size out.snd out.nod nH fnH⟩
end L2

/-! The data layer: the compiler's steps, widened again: sorted, all pairs. -/
namespace DL
open PySem PySem.Spec PyProof.Rows L2
def prD (q : Nat × Nat) : D := .tup [.int (q.1 : Nat), .int (q.2 : Nat)]
def eCombs (r : DRg) : DE := fun C ρ M P => r C ρ M fun i j M1 => i = 0 ∧ RgB 0 j ∧ ∃ L : List (Nat × Nat), Co.Alls j.toNat L ∧ L.length ≤ 1000 ∧ P (.tup (L.map prD)) M1
theorem laidT {K : PySem.W.Frag} {fa : Org} {α : List Addr} {M : Mem} : ∀ {dn : List (Addr × (Nat × Nat))} {H : Hp}, StR K fa α H M → (dn.map Prod.fst).Nodup → (∀ d ∈ dn, H d.1 = none) →
    Ext K H (updT H dn) α α ∧ StR K fa α (updT H dn) M ∧ Rps K fa α (updT H dn) (dn.map fun d => V.ref d.1) ((dn.map Prod.snd).map prD)
  | [], H, s, _, _ => ⟨Ext.refl, s, .nil⟩
  | d :: r, H, s, nd, hn => by
    rw [List.map_cons, List.nodup_cons] at nd
    have h0 := hn d List.mem_cons_self
    obtain ⟨e, s', rs⟩ := laidT (dn := r) (s.new (o := .tup [.int (d.2.1 : Nat), .int (d.2.2 : Nat)]) h0) nd.2 fun p hp => by
      have : p.1 ≠ d.1 := fun z => nd.1 (by rw [← z]; exact List.mem_map_of_mem hp)
      rw [upd_ne this]
      exact hn p (List.mem_cons_of_mem _ hp)
    have e0 : Ext K H (upd H d.1 (.tup [.int (d.2.1 : Nat), .int (d.2.2 : Nat)])) α α := Ext.new h0
    refine ⟨e0.trans e, s', .cons ?_ rs⟩
    exact (Rp.tup (vs := [.int (d.2.1 : Nat), .int (d.2.2 : Nat)]) upd_same (by rw [sizeLine_eq]; show (2 : Nat) ≤ _; omega) (.cons (.int _) (.cons (.int _) .nil))).mono e
theorem d_combs {X : Cx} {fa : Org} {C : Ctx} {x : Str} {e : Expr} {r : DRg} {p pc pk pos pos2 : Pos} {j} (hc : X.calm = true) (hg : Gl X "tuple") (hm : X.mg "tuple" = none) (hgx : Gl X x) (hmx : X.mg x = some (.type Co.Ty)) (hdb : (x == ("__debug__" : Str)) = false) (he : PRg X e (LRg X.K fa C r))
    (na : starEach [e, .Constant (.int 2) j pk] X.env = (false, eval e X.env) :: starEach [.Constant (.int 2) j pk] X.env) : PE X (.Call (.Name "tuple" p) [.Call (.Name x pc) [e, .Constant (.int 2) j pk] [] pos2] [] pos) (LE X.K fa C (eCombs r)) :=
  (pe_combs hc hg hm hgx hmx hdb he na).imp fun σ H Q ⟨ρ, M, α, P, er, sr, h, an⟩ => ⟨ρ, M, α, _, er, sr, h, fun i j H1 α1 M1 e1 s1 ⟨p0, p1, L, p2, p3, p4⟩ => ⟨p0, p1, L, p2, p3, fun dn q hs hnd hn hq => by
    obtain ⟨e2, s2, rs⟩ := laidT s1 hnd hn
    rw [hs] at rs
    exact ((an.ext e1).ext e2).tup s2 rs (by rw [rs.length, List.length_map, sizeLine_eq]; omega) hq p4⟩⟩
section
variable {G : Glb} (p : Comp G) (c : Cp)
def stepCombs (f : Str) (pf : Pos) (x : Str) (pc : Pos) (e : Expr) (j) (pk pos2 pos : Pos) : Option (CE G c (.Call (.Name f pf) [.Call (.Name x pc) [e, .Constant (.int 2) j pk] [] pos2] [] pos)) :=
  if hb : bi G c f "tuple" = true ∧ notStar e = true ∧ decide ((x, Co.Ty) ∈ G.btys) = true ∧ glB c.sc x = true ∧ plainName x = true ∧ c.hot = false then
    (stepRg p c e).map fun ta => ⟨eCombs ta.1, fun X fa C h => by
      obtain ⟨e, k⟩ := bi_ok hb.1
      subst e
      exact d_combs (h.calm hb.2.2.2.2.2) (k h).1 (k h).2 (gl_ok h hb.2.2.2.1) (h.mo.btys _ (of_decide_eq_true hb.2.2.1)) (pn_ok hb.2.2.2.2.1).1 (ta.2 X fa C h) (star_ok hb.2.1)⟩
  else none
def stepSorted (f : Str) (pf : Pos) (a : Expr) (pos : Pos) : Option (CE G c (.Call (.Name f pf) [a] [] pos)) :=
  if hb : bi G c f "sorted" = true ∧ notStar a = true then (p.A c [a]).map fun ta => ⟨eF fSorted ta.1, fun X fa C h => by
      obtain ⟨e, k⟩ := bi_ok hb.1
      subst e
      exact d_callB f_sorted (k h).1 (k h).2 (by decide +kernel) (ta.2 X fa C h) (by decide) (by decide) (star_ok hb.2) rfl⟩
  else none
def stepE3 (e : Expr) : Option (CE G c e) := match e with
  | .Call (.Name f pf) [.Call (.Name x pc) [e, .Constant (.int 2) j pk] [] pos2] [] pos => (match stepCombs p c f pf x pc e j pk pos2 pos with
    | some t => some t
    | none => (match stepSorted p c f pf (.Call (.Name x pc) [e, .Constant (.int 2) j pk] [] pos2) pos with
      | some t => some t
      | none => stepE2 p c (.Call (.Name f pf) [.Call (.Name x pc) [e, .Constant (.int 2) j pk] [] pos2] [] pos)))
  | .Call (.Name f pf) [a] [] pos => (match stepSorted p c f pf a pos with
    | some t => some t
    | none => stepE2 p c (.Call (.Name f pf) [a] [] pos))
  | e => stepE2 p c e
end
end DL

/-! The data layer: sorted(list, key=lambda x: (e1, e2)), the keys whole numbers. -/
namespace DL
open PySem PySem.Spec PyProof.Rows L2

/-! ### what a key's parts may be -/
inductive KE where
  | par | var (i : Nat) | cst (i : Int) | neg (a : KE) | ix (a b : KE)
def KE.ev (ρ : Env) (M : Mem) (x : D) : KE → Option D
  | .par => some x
  | .var i => (match ρ[i]? with
    | some (some d) => some d
    | _ => none)
  | .cst i => some (.int i)
  | .neg a => (match a.ev ρ M x with
    | some (.int i) => some (.int (-i))
    | _ => none)
  | .ix a b => (match a.ev ρ M x, b.ev ρ M x with
    | some d, some (.int i) => (match seqOf M d with
      | some xs => if 0 ≤ i then xs[i.toNat]? else none
      | none => none)
    | _, _ => none)
/-- the pair of keys -/
def KE.two (k1 k2 : KE) (ρ : Env) (M : Mem) (x : D) : Option (Int × Int) := match k1.ev ρ M x, k2.ev ρ M x with
  | some (.int i), some (.int j) => some (i, j)
  | _, _ => none
abbrev It2 : Type := D × Int × Int
def le2 (p q : It2) : Bool := decide (p.2.1 < q.2.1 ∨ (p.2.1 = q.2.1 ∧ p.2.2 ≤ q.2.2))
def keyed (k1 k2 : KE) (ρ : Env) (M : Mem) : List D → Option (List It2)
  | [] => some []
  | x :: xs => (match KE.two k1 k2 ρ M x, keyed k1 k2 ρ M xs with
    | some q, some r => some ((x, q) :: r)
    | _, _ => none)
/-- sorted by keys -/
def eSortK (te : DA) (k1 k2 : KE) : DE := fun C ρ M P => te C ρ M fun ds M1 => match ds with
  | [d] => isList M1 d = true ∧ (match seqOf M1 d with
    | some xs => (match keyed k1 k2 ρ M1 xs with
      | some l => P (.ref M1.length) (M1 ++ [.lst ((l.mergeSort le2).map Prod.fst)])
      | none => False)
    | none => False)
  | _ => False

/-! ### a plain value, the heap left as it is -/
def PV (prog : Program) (w : World) (A : Around) (env : PySem.Env) (h : Heap) (e : Expr) (R : Value → Prop) : Prop :=
  ∀ (s : Shared) (E : Value → Shared → Prop) (Q : Value → Shared → Prop), s.heap = h → (∀ u tk, R u → Q u { s with toks := tk }) → wpAny (model prog w) A (eval e env) Q E s
/-- e reads as k; x: the lambda's parameter -/
inductive KOk (N : List Str) (sc ls : Scope) (x : Str) : Expr → KE → Prop
  | par {pos} (h : ls.names.lookup x = some .local) (hd : (x == ("__debug__" : Str)) = false) : KOk N sc ls x (.Name x pos) .par
  | var {y pos i} (hN : N[i]? = some y) (h : ls.names.lookup y = some .free) (hc : sc.names.lookup y = some .cell) (hd : (y == ("__debug__" : Str)) = false) (hcd : (y == ("__classdict__" : Str)) = false) : KOk N sc ls x (.Name y pos) (.var i)
  | cst {i j pos} : KOk N sc ls x (.Constant (.int i) j pos) (.cst i)
  | neg {a k pos} (h : KOk N sc ls x a k) : KOk N sc ls x (.UnaryOp .USub a pos) (.neg k)
  | ix {a b k l pos} (h : KOk N sc ls x a k) (h' : KOk N sc ls x b l) (hs : PlainIx b) : KOk N sc ls x (.Subscript a b pos) (.ix k l)
section
variable {X : Cx} {fa : Org} {pins : List (Addr × Obj)} {σ : L2.St} {H : Hp} {s : Shared} {ρ : Env} {M : Mem} {α : List Addr} {h1 : Heap} {ls : Scope} {x : Str} {L f c' : Addr} {A : Around}
theorem seq_heap (I : Inv X pins σ H s) (sr : StR X.K fa α H M) {d : D} {xs : List D} {v : V} (r : Rp X.K fa α H v d) (h : seqOf M d = some xs) :
    ∃ (a : Addr) (vs : List V) (its : List Value), v = .ref a ∧ Vals vs its ∧ Rps X.K fa α H vs xs ∧ vs.length ≤ sizeLine ∧ (PlainL s.heap a its.toArray ∨ IsTup s.heap a its.toArray) ∧ (isList M d = true → PlainL s.heap a its.toArray) := by
  cases r with
  | non => cases h
  | bl b => cases h
  | int i => cases h
  | str z => cases h
  | fn i => cases h
  | @tup a vs ds s' l r =>
    cases h
    obtain ⟨its, r1, r2, _⟩ := I.tuple (.inl (.inl s'))
    exact ⟨a, vs, its, rfl, r1, r, l, .inr r2, nofun⟩
  | @kup a vs ds s' l r =>
    cases h
    obtain ⟨its, r1, r2, _⟩ := I.tuple (s' H)
    exact ⟨a, vs, its, rfl, r1, r, l, .inr r2, nofun⟩
  | @rol a vs ds s' l r =>
    cases h
    have z : SqL X.K H a vs := s'.elim (fun ⟨o, q⟩ => .inl (.inr ⟨o, q⟩)) fun q => q H
    obtain ⟨its, r1, r2, _⟩ := I.list z
    exact ⟨a, vs, its, rfl, r1, r, l, .inl r2, fun _ => r2⟩
  | @ref n a e =>
    have h' : (match M[n]? with
      | some (.lst ys) => some ys
      | _ => none) = some xs := h
    split at h'
    · rename_i ys hm
      cases h'
      obtain ⟨vs, q, l, r⟩ := sr.cell n _ a hm e
      obtain ⟨its, r1, r2, _⟩ := I.list (.inl (.inl q))
      exact ⟨a, vs, its, rfl, r1, r, l, .inl r2, fun _ => r2⟩
    · cases h'
/-- a key's part reads as its meaning -/
theorem kev {prog : Program} {w : World} {u : Value} {v : V} {dx : D} (I : Inv X pins σ H s) (er : EnvR X.K fa α H σ ρ) (sr : StR X.K fa α H M) (kp : ∀ b o, s.heap.get? b = some o → h1.get? b = some o) (hns : h1.Ns L fun y => [(x, u)].reverse.lookup y)
    (rv : RelV v u) (rx : Rp X.K fa α H v dx) (hk : ls.kind = .function) :
    ∀ {e : Expr} {k : KE}, KOk X.N X.env.scope ls x e k → ∀ {d : D}, k.ev ρ M dx = some d → PV prog w A (LamX.lamEnv X ls L f c') h1 e (fun z => ∃ v', RelV v' z ∧ Rp X.K fa α H v' d) := by
  intro e k ok
  induction ok with
  | par h hd =>
    intro d hv s2 E Q e2 go
    cases hv
    subst e2
    exact wpAny_Name (wpAny_loadName_local hk h hns (by simp) (go u s2.toks ⟨v, rv, rx⟩)) hd
  | @var y pos i hN h hc hd hcd =>
    intro d hv s2 E Q e2 go
    subst e2
    have hv' : ρ[i]? = some (some d) := by
      unfold KE.ev at hv
      split at hv
      · rename_i d' q
        cases hv
        exact q
      · cases hv
    obtain ⟨v1, q1, r1⟩ := er.2.1 i d hv'
    obtain ⟨m, hn, hl⟩ := I.loc
    obtain ⟨u1, ru, lk⟩ := hl i y v1 hN q1 (.inr (.inl hc))
    have hmem : (y, NameKind.free) ∈ ls.names := PySem.mem_of_lookup h
    obtain ⟨c1, h1c⟩ := mem_lookup (cloFrom_has (cells := X.env.cells) (acc := []) hmem)
    rcases lk with ⟨k1, _⟩ | ⟨_, c2, e2, z⟩
    · have k1' : X.env.scope.names.lookup y = some .local := k1
      rw [hc] at k1'
      cases k1'
    · have e3 : c1 = c2 := by
        rcases cloFrom_mem (PySem.mem_of_lookup h1c) with hm | ⟨_, h2⟩
        · cases hm
        · rw [h2, e2]
          rfl
      subst e3
      obtain ⟨o, ho, hd2⟩ := z
      exact wpAny_Name (wpAny_loadName_free hk h h1c ⟨o, kp _ _ ho, hd2⟩ (go u1 s2.toks ⟨v1, ru, r1⟩) hcd) hd
  | @cst i j pos =>
    intro d hv s2 E Q e2 go
    cases hv
    exact wpAny_Constant_int (go _ _ ⟨.int i, ⟨_, rfl⟩, .int i⟩)
  | @neg a k pos ok' ih =>
    intro d hv s2 E Q e2 go
    unfold KE.ev at hv
    split at hv
    · rename_i i q
      cases hv
      refine wpAny_UnaryOp (ih q s2 E _ e2 fun u' tk ⟨v', r1, r2⟩ => ?_)
      cases r2
      obtain ⟨t, rfl⟩ := r1
      exact neg_int (go _ _ ⟨.int (-i), ⟨_, rfl⟩, .int _⟩)
    · cases hv
  | @ix a b k l pos ok1 ok2 hs ih1 ih2 =>
    intro d hv s2 E Q e2 go
    unfold KE.ev at hv
    split at hv
    · rename_i d1 i q1 q2
      split at hv
      · rename_i xs q3
        split at hv
        · rename_i h0
          refine Subscript_ (ih1 q1 s2 E _ e2 fun u1 t1 ⟨v1, r1, p1⟩ => ih2 q2 _ E _ e2 fun u2 t2 ⟨v2, r2, p2⟩ => ?_)
          cases p2
          obtain ⟨t, rfl⟩ := r2
          obtain ⟨p, vs, its, rfl, vv, rs, hz, pl, _⟩ := seq_heap I sr p1 q3
          cases r1
          obtain ⟨z, ez, rz⟩ := rs.get hv
          obtain ⟨w1, ew, rw1⟩ := vv.get ez
          have hl := vv.length
          have hi := (List.getElem?_eq_some_iff.mp ez).1
          have hn := line63
          have fin := go w1 t2 ⟨z, rw1, rz⟩
          rcases pl with pl | pl
          · have pl2 : h1.IsList p its.toArray := by
              obtain ⟨o, e1, e3, n, e4⟩ := pl.isList
              exact ⟨o, kp _ _ e1, e3, n, e4⟩
            rw [← e2] at pl2
            exact item_listR pl2 h0 (by omega) (by simpa using ew) fin (hs _ _)
          · have pl2 : IsTup h1 p its.toArray := by
              obtain ⟨o, e1, e3, n, e4⟩ := pl
              exact ⟨o, kp _ _ e1, e3, n, e4⟩
            rw [← e2] at pl2
            exact subscriptTail_builtinR (x := w1) pl2.typeIs slot_tuple_getitem.lookup
              (getItem_tuple (j := i.toNat) (Q := fun r s' => r = w1 ∧ Q r s') pl2 (by omega) (by omega) (by rw [List.size_toArray, ← hl]; exact seqIndex_of h0 (by omega)) (by simpa using ew) ⟨rfl, fin⟩) (hs _ _)
        · cases hv
      · cases hv
    · cases hv
/-- the lambda's parameters -/
def lamA (x : Str) (ap : Pos) : Arguments := { posonlyargs := [], args := [{ arg := x, annotation := none, pos := ap : PySem.Arg }], vararg := none, kwonlyargs := [], kw_defaults := [], kwarg := none, defaults := [] }
structure LamSc (sc ls : Scope) (x : Str) : Prop where
  kind : ls.kind = .function
  co : ls.isCoroutine = false
  gen : ls.isGenerator = false
  own : ∀ y ∈ ls.names, y.2 ≠ .cell
  par : ls.names.lookup x = some .local
  free : ∀ y ∈ ls.names, y.2 = .free → sc.names.lookup y.1 = some .cell ∨ sc.names.lookup y.1 = some .free
def lamScB (sc ls : Scope) (x : Str) : Bool := decide (ls.kind = .function) && (!ls.isCoroutine && (!ls.isGenerator && ((ls.names.all fun y => !decide (y.2 = .cell)) && (decide (ls.names.lookup x = some .local) &&
  ls.names.all fun y => !decide (y.2 = .free) || (decide (sc.names.lookup y.1 = some .cell) || decide (sc.names.lookup y.1 = some .free))))))
theorem lamSc_ok {sc ls : Scope} {x : Str} (h : lamScB sc ls x = true) : LamSc sc ls x := by
  unfold lamScB at h
  simp only [Bool.and_eq_true, Bool.or_eq_true, Bool.not_eq_true', decide_eq_true_eq, decide_eq_false_iff_not, List.all_eq_true] at h
  obtain ⟨h1, h2, h3, h4, h5, h6⟩ := h
  refine ⟨h1, h2, h3, h4, h5, fun y hy e => ?_⟩
  rcases h6 y hy with z | z | z
  · exact absurd e z
  · exact .inl z
  · exact .inr z
def ItR (K : PySem.W.Frag) (fa : Org) (α : List Addr) (H : Hp) (k1 k2 : KE) (ρ : Env) (M : Mem) (u : Value) (q : It2) : Prop := ∃ v, RelV v u ∧ Rp K fa α H v q.1 ∧ KE.two k1 k2 ρ M q.1 = some q.2
theorem two_ev {k1 k2 : KE} {d : D} {q : Int × Int} (h : KE.two k1 k2 ρ M d = some q) : k1.ev ρ M d = some (.int q.1) ∧ k2.ev ρ M d = some (.int q.2) := by
  unfold KE.two at h
  split at h
  · rename_i i j e1 e2
    cases h
    exact ⟨e1, e2⟩
  · cases h
/-- one call of the lambda -/
theorem lam_call {prog : Program} {w : World} {u : Value} {q : It2} {k1 k2 : KE} {e1 e2 : Expr} {j : Nat} {ap tp : Pos} {pm ctv : Value} {h : Heap} {tk : Nat} (I : Inv X pins σ H s) (er : EnvR X.K fa α H σ ρ) (sr : StR X.K fa α H M) (L : LamSc X.env.scope ls x) (o1 : KOk X.N X.env.scope ls x e1 k1) (o2 : KOk X.N X.env.scope ls x e2 k2)
    (n1 : notStar e1 = true) (n2 : notStar e2 = true) (hr : A.depth < recursionLimit) (hf : s.heap.get? f = some (PySem.W.kla_obj "<lambda>" (X.env.qual ++ "<lambda>") (lamA x ap) (.Tuple [e1, e2] j tp) ls (cloFrom X.env.cells ls.names []) pm c' ctv))
    (hc : H c' = some (LamX.CodeO c' (X.env.qual ++ "<lambda>"))) (hb : bindArgs (PySem.W.kla_fn "<lambda>" (X.env.qual ++ "<lambda>") (lamA x ap) (.Tuple [e1, e2] j tp) ls (cloFrom X.env.cells ls.names []) pm (.ref c') ctv) ⟨[u], []⟩ = pure [(x, u)])
    (r : ItR X.K fa α H k1 k2 ρ M u q) (kp : ∀ b o, s.heap.get? b = some o → h.get? b = some o) :
    wpAny (model prog w) A (PySem.call (.ref f) [u]) (PySem.W.KeyPure (.tuple [.int q.2.1, .int q.2.2]) { s with heap := h, toks := tk }) (fun _ _ => False) { s with heap := h, toks := tk } := by
  obtain ⟨v, rv, rx, two⟩ := r
  obtain ⟨t1, t2⟩ := two_ev two
  obtain ⟨⟨oc, vs, t, hoc, hdc, hvc⟩, _, _⟩ := I.hok c' _ hc
  refine wpAny_call (PySem.W.kla_callFunE hr (kp _ _ hf) rfl L.co L.gen rfl ⟨c', oc, vs, t, rfl, kp _ _ hoc, hdc, hvc⟩ ?_)
  rw [hb]
  refine wpAny_pure (wpAny_newFunctionEnv L.own (fun y hy => ?_) (fun h₁ hns hsb => ⟨((I.nolimit).keeps kp).fresh _ hsb, ?_⟩) L.kind)
  · have : y = (x, u) := by simpa using hy
    subst this
    exact L.par
  · show codeAny _ _ (.expr (.Tuple [e1, e2] j tp) (LamX.lamEnv X ls h.objs.size f c')) _ _
    have kp1 : ∀ b o, h.get? b = some o → h₁.get? b = some o := fun b o e => hsb.extBut b o (Nat.ne_of_lt (Heap.lt_size e)) (Heap.get?_push_of_some _ e)
    have kp2 : ∀ b o, s.heap.get? b = some o → h₁.get? b = some o := fun b o e => kp1 b o (kp b o e)
    have p1 := kev (prog := prog) (w := w) (A := A.deeper (LamX.lamEnv X ls h.objs.size f c')) I er sr kp2 hns rv rx L.kind (f := f) (c' := c') o1 t1
    have p2 := kev (prog := prog) (w := w) (A := A.deeper (LamX.lamEnv X ls h.objs.size f c')) I er sr kp2 hns rv rx L.kind (f := f) (c' := c') o2 t2
    refine PySem.W.kla_codeExpr (wpAny_Tuple_spliced ?_)
    rw [star_ok n1, star_ok n2]
    show wpAny _ _ (spliced ((false, eval e1 _) :: (false, eval e2 _) :: [])) _ _ _
    refine Calls.spliced_cons (p1 _ _ _ rfl fun u1 tk1 ⟨v1, r1, q1⟩ => Calls.spliced_cons (p2 _ _ _ rfl fun u2 tk2 ⟨v2, r2, q2⟩ => Calls.spliced_nil ?_))
    cases q1
    cases q2
    obtain ⟨a1, rfl⟩ := r1
    obtain ⟨a2, rfl⟩ := r2
    refine ⟨by rw [sizeLine_eq]; show (2 : Nat) ≤ _; omega, ?_⟩
    show PySem.W.KeyPure _ _ _ _
    refine ⟨_, _, rfl, fun b o e => Heap.get?_push_of_some _ (kp1 b o e), ?_⟩
    exact .tuple (Heap.get?_push_size _ rfl) rfl rfl (.cons (.int _ _) (.cons (.int _ _) .nil))
end
section
variable {K : PySem.W.Frag} {fa : Org} {α : List Addr} {H H' : Hp} {M : Mem} {ρ : Env}
theorem Ext.ofN (e : LamX.ExtN H H') : Ext K H H' α α :=
  ⟨⟨fun a vs h => e a _ h nofun, fun a o vs h => e a _ h nofun, fun a fs h => e a _ h nofun, ⟨[], by simp⟩⟩, fun a o _ n h => e a o h n, fun a o n h => ⟨o, n, e a o h n⟩, fun _ h => .inl h⟩
theorem StR.ofN (s : StR K fa α H M) (e : LamX.ExtN H H') (t : LamX.Tabs fa.tabs H') : StR K fa α H' M where
  len := s.len
  nod := s.nod
  cell := fun n c a e1 e2 => by
    have g : Gr K H H' α α := (Ext.ofN e).toGr
    have h := s.cell n c a e1 e2
    cases c with
    | lst xs => obtain ⟨vs, q, l, r⟩ := h; exact ⟨vs, e _ _ q nofun, l, r.grow g⟩
    | dK kvs => obtain ⟨ws, q, r⟩ := h; exact ⟨ws, e _ _ q nofun, Paired.kg g r⟩
    | dT kvs => obtain ⟨ws, q, r⟩ := h; exact ⟨ws, e _ _ q nofun, Paired.kg g r⟩
  org := s.org.trans (Ext.ofN e)
  tabs := t
theorem keyed_each {k1 k2 : KE} : ∀ {xs : List D} {l : List It2} {vs : List V} {its : List Value}, keyed k1 k2 ρ M xs = some l → Vals vs its → Rps K fa α H vs xs → PySem.W.EachIs (ItR K fa α H k1 k2 ρ M) its l
  | [], l, vs, its, h, hv, hr => by
    cases hr
    cases hv
    unfold keyed at h
    cases h
    exact .nil
  | x :: xs, l, vs, its, h, hv, hr => by
    cases hr with
    | cons r rs =>
      cases hv with
      | cons v1 vr =>
        unfold keyed at h
        split at h
        · rename_i q l' e1 e2
          cases h
          exact .cons ⟨_, v1, r, e1⟩ (keyed_each e2 vr rs)
        · cases h
theorem each_rep {k1 k2 : KE} {us : List Value} {l : List It2} (h : PySem.W.EachIs (ItR K fa α H k1 k2 ρ M) us l) : ∃ vs, Vals vs us ∧ Rps K fa α H vs (l.map Prod.fst) := by
  induction h with
  | nil => exact ⟨[], .nil, .nil⟩
  | cons r _ ih =>
    obtain ⟨vs, h1, h2⟩ := ih
    obtain ⟨v, a, b, _⟩ := r
    exact ⟨v :: vs, .cons a h1, .cons b h2⟩
end
section
variable {X : Cx} {fa : Org} {C : Ctx} {e e1 e2 : Expr} {ta : DA} {k1 k2 : KE} {x : Str} {ls : Scope} {p kp lp tp ap pos : Pos} {j : Nat}
theorem d_sortK (hg : Gl X "sorted") (hm : X.mg "sorted" = none) (hN : X.A.units + 65 < cLine) (lh : LamH X fa) (ha : PA X [e] (LA X.K fa C ta)) (L : LamSc X.env.scope ls x) (o1 : KOk X.N X.env.scope ls x e1 k1) (o2 : KOk X.N X.env.scope ls x e2 k2) (n1 : notStar e1 = true) (n2 : notStar e2 = true)
    (ne : notStar e = true) (hb : ∀ (q : Str) (cl : List (Str × Addr)) (pm cv ctv u : Value), bindArgs (PySem.W.kla_fn "<lambda>" q (lamA x ap) (.Tuple [e1, e2] j tp) ls cl pm cv ctv) ⟨[u], []⟩ = pure [(x, u)]) :
    PE X (.Call (.Name "sorted" p) [e] [⟨some "key", .Lambda (lamA x ap) (.Tuple [e1, e2] j tp) ls lp, kp⟩] pos) (LE X.K fa C (eSortK ta k1 k2)) := by
  obtain ⟨⟨cc, P, hcode, TB, hmT, hu⟩, hr⟩ := lh
  refine ⟨fun pins s σ H Q I hq => ?_⟩
  obtain ⟨ρ, M, α, Pd, er, sr, h, an⟩ := hq
  refine wpAny_Call_Name_kw (ld_blt I hg hm (u := .builtin "sorted") (by decide +kernel) ?_ (by decide) (by decide))
  refine PyProof.Rows.callWith_kw ?_ (by rw [star_ok ne]; rfl) (by rw [star_ok ne]; rfl)
  refine thn (ha.run pos pins s σ H (fun vs H1 => ∃ ds M1 α1, Ext X.K H H1 α α1 ∧ StR X.K fa α1 H1 M1 ∧ Rps X.K fa α1 H1 vs ds ∧ _) I ⟨ρ, M, α, _, er, sr, h, fun vs ds H' α' M' e s r p => ⟨ds, M', α', e, s, r, p⟩⟩) fun us s1 ⟨vs, H1, I1, r1, ds, M1, α1, x1, s1r, rs, q1⟩ => ?_
  have q2 := q1
  split at q2
  · rename_i d
    obtain ⟨q3, q4⟩ := q2
    split at q4
    · rename_i xs hxs
      split at q4
      · rename_i l hl
        rcases rs with _ | ⟨rd, _ | _⟩
        show wpAny _ _ (evalAll (_ :: [])) _ _ s1
        refine wpAny_evalAll_cons (wpAny_bind (LamX.lam_make2 I1 TB hcode hmT hu s1r.tabs rfl (fun y hy e => ?_) fun f c' pm ctv H2 s2 I2 eN T2 hf hfn hfr hco => ?_))
        · rcases L.free y hy e with k | k
          · exact I1.ok.has _ (.inl k)
          · exact I1.ok.has _ (.inr k)
        · refine wpAny_bind (wpAny_standAt (wpAny_pure (wpAny_evalAll_nil ?_)))
          have e2 : Ext X.K H1 H2 α1 α1 := Ext.ofN eN
          have s2r := s1r.ofN eN T2
          have er2 := (er.mono x1).mono e2
          obtain ⟨a, ws, its, rfl, vv, rs2, hz, _, pl⟩ := seq_heap I2 s2r (rd.mono e2) hxs
          have plL : s2.heap.IsList a its.toArray := (pl q3).isList
          rcases r1 with _ | ⟨ru, _ | _⟩
          cases ru
          show wpAny _ _ (PySem.call (.builtin "sorted") [.ref a] [(Str.ofString "key", .ref f)]) _ _ s2
          have each := keyed_each hl vv rs2
          have hlen := each.length
          have hlw := vv.length
          refine PySem.W.sorted_key_data (b := false) (fun q : It2 => .tuple [.int q.2.1, .int q.2.2]) plL each (PySem.W.AllAlike.of fun _ _ => by simp [PySem.W.alike, PySem.W.alikeAll]) (PySem.W.Sortable.tuples fun _ => ⟨_, _, rfl⟩) (by omega) (fun q _ => ?_) (ksk_s1 _ _) (fun _ => ksk_l1 _ _) (fun _ => ksk_t1 _ _)
            (fun u q hR _ hh tk kp' => lam_call I2 er2 s2r L o1 o2 n1 n2 ?_ hf hco (hb _ _ _ _ _ _) hR kp') fun out c h' tk kp' hnone hD hol eo => ?_
          · have hd : (PyData.tuple [.int q.2.1, .int q.2.2]).depth = 1 := by simp [PyData.depth, PyData.depthAll]
            omega
          · have := hr.dp
            show X.A.depth < recursionLimit
            omega
          · rw [PySem.W.dataLe_ii (β := It2) (fun q => q.2.1) (fun q => q.2.2)] at eo
            obtain ⟨ws', vw, rw'⟩ := each_rep eo
            have hlw' : ws'.length ≤ sizeLine := by rw [vw.length, hol]; omega
            have hn : H2 (s2.heap.objs.size + 1) = none := I2.hok.fresh (Nat.le_succ _)
            refine ⟨.ref _, upd H2 (s2.heap.objs.size + 1) (.lst ws'), I2.laid (t' := tk) kp' (Nat.le_succ _) ⟨hlw', out, c, vw, hD⟩, rfl, ?_⟩
            exact (an.ext (x1.trans e2)).lst s2r rw' hlw' hn q4
      · exact q4.elim
    · exact q4.elim
  · exact q2.elim
end
theorem seqItems_none : seqItems? Value.none = pure none := by first | rfl | kernel_rfl
theorem lam_bind {x : Str} {ap : Pos} {body : Expr} {ls : Scope} (q : Str) (cl : List (Str × Addr)) (pm cv ctv u : Value) : bindArgs (PySem.W.kla_fn "<lambda>" q (lamA x ap) body ls cl pm cv ctv) ⟨[u], []⟩ = pure [(x, u)] := by
  unfold bindArgs
  simp [lamA, seqItems_none, List.lookup]

/-! ### sorted of tuples of whole numbers -/
abbrev TI : Type := Int × List Int
def itP (p : TI) : D := .tup (.int p.1 :: p.2.map .int)
def tupI : D → Option TI
  | .tup (.int x :: r) => (intsOf r).map fun l => (x, l)
  | _ => none
def tupsI : List D → Option (List TI)
  | [] => some []
  | d :: r => (match tupI d, tupsI r with
    | some p, some l => some (p :: l)
    | _, _ => none)
def ltI : List Int → List Int → Bool
  | [], [] => false
  | [], _ :: _ => true
  | _ :: _, [] => false
  | x :: r, y :: t => decide (x < y) || (!decide (y < x) && ltI r t)
def leP (p q : TI) : Bool := !ltI (q.1 :: q.2) (p.1 :: p.2)
def encP (p : TI) : PyData := .tuple (.int p.1 :: p.2.map .int)
theorem lex_ints : ∀ a b : List Int, PyProof.Rows.lexLt itemOrd (PySem.W.keyToksAll (a.map PyData.int)) (PySem.W.keyToksAll (b.map PyData.int)) = ltI a b
  | [], [] => by decide
  | [], y :: t => by
    show PyProof.Rows.lexLt itemOrd [.inl 0] (.inl 1 :: _) = true
    rw [lex_cons]
    rfl
  | x :: r, [] => by
    show PyProof.Rows.lexLt itemOrd (.inl 1 :: _) [.inl 0] = false
    rw [lex_cons]
    rfl
  | x :: r, y :: t => by
    show PyProof.Rows.lexLt itemOrd (.inl 1 :: .inl x :: PySem.W.keyToksAll (r.map PyData.int)) (.inl 1 :: .inl y :: PySem.W.keyToksAll (t.map PyData.int)) = _
    rw [lex_cons, lex_cons, lex_ints r t]
    rfl
theorem leP_enc : PySem.W.dataLe false encP = leP := by
  funext p q
  show (!PySem.W.dataLt (encP q) (encP p)) = !ltI (q.1 :: q.2) (p.1 :: p.2)
  rw [← lex_ints]
  rfl
theorem alike_intsT : ∀ a b : List Int, PySem.W.alikeAll (a.map PyData.int) (b.map PyData.int) = true
  | [], [] => by rfl
  | [], _ :: _ => by rfl
  | _ :: _, [] => by rfl
  | x :: r, y :: t => by
    show (PySem.W.alike (.int x) (.int y) && PySem.W.alikeAll (r.map PyData.int) (t.map PyData.int)) = true
    rw [alike_intsT r t]
    rfl
theorem alike_enc (p q : TI) : PySem.W.alike (encP p) (encP q) = true := alike_intsT (p.1 :: p.2) (q.1 :: q.2)
theorem depth_intsT : ∀ l : List Int, PyData.depthAll (l.map PyData.int) ≤ 1
  | [] => by simp [PyData.depthAll]
  | x :: r => by
    have := depth_intsT r
    simp only [List.map_cons, PyData.depthAll, PyData.depth]
    omega
theorem depth_enc (p : TI) : (encP p).depth ≤ 2 := by
  have := depth_intsT (p.1 :: p.2)
  show PyData.depth (.tuple ((p.1 :: p.2).map PyData.int)) ≤ 2
  simp only [PyData.depth]
  omega
theorem intsOf_eq : ∀ {xs : List D} {l : List Int}, intsOf xs = some l → xs = l.map D.int
  | [], l, h => by cases h; rfl
  | d :: r, l, h => by
    cases d with
    | int i =>
      have h' : (intsOf r).map (i :: ·) = some l := h
      obtain ⟨l', e1, e2⟩ := Option.map_eq_some_iff.mp h'
      subst e2
      rw [intsOf_eq e1]
      rfl
    | _ => cases h
theorem tupI_eq {d : D} {p : TI} (h : tupI d = some p) : d = itP p := by
  unfold tupI at h
  split at h
  · rename_i x r
    obtain ⟨l, e1, e2⟩ := Option.map_eq_some_iff.mp h
    subst e2
    rw [intsOf_eq e1]
    rfl
  · cases h
def fSortT : DF := fun ds M P => match ds with
  | [d] => isList M d = true ∧ (match seqOf M d with
    | some xs => (match tupsI xs with
      | some l => P (.ref M.length) (M ++ [.lst ((l.mergeSort leP).map itP)])
      | none => False)
    | none => False)
  | _ => False
def fSortA : DF := fun ds M P => fSorted ds M P ∨ fSortT ds M P
section
variable {X : Cx} {fa : Org} {pins : List (Addr × Obj)} {σ : L2.St} {H : Hp} {s : Shared} {α : List Addr}
theorem reads_ints {h : Heap} : ∀ {l : List Int} {vs : List V} {us : List Value}, Vals vs us → Rps X.K fa α H vs (l.map D.int) → ReadsAll h us (l.map PyData.int) []
  | [], _, _, hv, hr => by
    cases hr
    cases hv
    exact .nil
  | i :: l, _, _, hv, hr => by
    cases hr with
    | cons r rs =>
      cases hv with
      | cons v vr =>
        cases r
        obtain ⟨t, rfl⟩ := v
        exact .cons (.int _ _) (reads_ints vr rs)
theorem tups_each (I : Inv X pins σ H s) : ∀ {xs : List D} {l : List TI} {vs : List V} {its : List Value}, tupsI xs = some l → Vals vs its → Rps X.K fa α H vs xs →
    PySem.W.EachIs (fun u p => ∃ v, RelV v u ∧ Rp X.K fa α H v (itP p)) its l ∧ PySem.W.EachIs (fun u p => ∃ as, Reads s.heap u (encP p) as) its l
  | [], l, vs, its, h, hv, hr => by
    cases hr
    cases hv
    cases h
    exact ⟨.nil, .nil⟩
  | x :: xs, l, vs, its, h, hv, hr => by
    cases hr with
    | cons r rs =>
      cases hv with
      | cons v1 vr =>
        unfold tupsI at h
        split at h
        · rename_i p l' e1 e2
          cases h
          obtain ⟨h1, h2⟩ := tups_each I e2 vr rs
          have ex := tupI_eq e1
          subst ex
          refine ⟨.cons ⟨_, v1, r⟩ h1, .cons ?_ h2⟩
          have r' : Rp X.K fa α H _ (.tup ((p.1 :: p.2).map D.int)) := r
          cases r' with
          | @tup a ws _ s' lw rw' =>
            cases v1
            obtain ⟨us, q1, ⟨o, q2, q3, n, q4⟩, _⟩ := I.tuple (.inl (.inl s'))
            exact ⟨[], .tuple q2 q3 q4 (by simpa using reads_ints (l := p.1 :: p.2) q1 rw')⟩
        · cases h
theorem each_repP {us : List Value} {l : List TI} (h : PySem.W.EachIs (fun u p => ∃ v, RelV v u ∧ Rp X.K fa α H v (itP p)) us l) : ∃ vs, Vals vs us ∧ Rps X.K fa α H vs (l.map itP) := by
  induction h with
  | nil => exact ⟨[], .nil, .nil⟩
  | cons r _ ih =>
    obtain ⟨vs, h1, h2⟩ := ih
    obtain ⟨v, a, b⟩ := r
    exact ⟨v :: vs, .cons a h1, .cons b h2⟩
theorem f_sortT (hu : X.A.units + 65 < cLine) : CallR X (.builtin "sorted") (LF X.K fa fSortT) := by
  intro pins s σ H vs us Q I rv ⟨M, α, ds, P, sr, rs, h, an⟩
  unfold fSortT at h
  split at h
  · rename_i d
    obtain ⟨hL, h⟩ := h
    split at h
    · rename_i xs hxs
      split at h
      · rename_i l hl
        rcases rs with _ | ⟨rd, _ | _⟩
        obtain ⟨a, ws, its, rfl, vv, rs2, hz, _, pl⟩ := seq_heap I sr rd hxs
        rcases rv with _ | ⟨ru, _ | _⟩
        cases ru
        obtain ⟨each, er⟩ := tups_each I hl vv rs2
        have hlen := each.length
        have hlw := vv.length
        refine PySem.W.sorted_data (enc := encP) (pl hL).isList each er (PySem.W.AllAlike.of alike_enc) (PySem.W.Sortable.tuples fun p => ⟨_, _, rfl⟩) (by omega) (fun p _ => by have := depth_enc p; omega) fun out hol eo => ?_
        rw [leP_enc] at eo
        obtain ⟨ws', vw, rw'⟩ := each_repP eo
        have hlw' : ws'.length ≤ sizeLine := by rw [vw.length, hol]; omega
        have kp : ∀ b u, s.heap.get? b = some u → (sortedAll s.heap its (List.toArray out)).get? b = some u := fun b u q => sortedAll_old q
        have hn : H (s.heap.objs.size + 1) = none := I.hok.fresh (Nat.le_succ _)
        obtain ⟨ep, he⟩ := sortedAll_at s.heap its (List.toArray out)
        exact ⟨.ref _, upd H (s.heap.objs.size + 1) (.lst ws'), I.laid (t' := s.toks) kp (Nat.le_succ _) ⟨hlw', out, ep, vw, he⟩, rfl, an.lst sr rw' hlw' hn h⟩
      · exact h.elim
    · exact h.elim
  · exact h.elim
theorem f_sortA (hu : X.A.units + 65 < cLine) : CallR X (.builtin "sorted") (LF X.K fa fSortA) := by
  intro pins s σ H vs us Q I rv ⟨M, α, ds, P, sr, rs, h, an⟩
  rcases h with h | h
  · exact f_sorted pins s σ H vs us Q I rv ⟨M, α, ds, P, sr, rs, h, an⟩
  · exact f_sortT hu pins s σ H vs us Q I rv ⟨M, α, ds, P, sr, rs, h, an⟩
end

/-! ### the compiler's step -/
def keOf (N : List Str) (sc ls : Scope) (x : Str) : Nat → (e : Expr) → Option { k : KE // KOk N sc ls x e k }
  | 0, _ => none
  | n + 1, e => match e with
    | .Name y pos => if h : y = x ∧ ls.names.lookup x = some .local ∧ (x == ("__debug__" : Str)) = false then some ⟨.par, by
        obtain ⟨e, h1, h2⟩ := h
        subst e
        exact .par h1 h2⟩
      else (match hn : N.findIdx? (fun z => decide (z = y)) with
        | some i => if h : N[i]? = some y ∧ ls.names.lookup y = some .free ∧ sc.names.lookup y = some .cell ∧ (y == ("__debug__" : Str)) = false ∧ (y == ("__classdict__" : Str)) = false then some ⟨.var i, .var h.1 h.2.1 h.2.2.1 h.2.2.2.1 h.2.2.2.2⟩ else none
        | none => none)
    | .Constant (.int i) j pos => some ⟨.cst i, .cst⟩
    | .UnaryOp .USub a pos => (keOf N sc ls x n a).map fun k => ⟨.neg k.1, .neg k.2⟩
    | .Subscript a b pos => if hs : notSlice b = true then (match keOf N sc ls x n a, keOf N sc ls x n b with
        | some k, some l => some ⟨.ix k.1 l.1, .ix k.2 l.2 (ix_ok hs)⟩
        | _, _ => none) else none
    | _ => none
section
variable {G : Glb} (p : Comp G) (c : Cp)
def stepSortK (f : Str) (pf : Pos) (a : Expr) (x : Str) (ap : Pos) (e1 e2 : Expr) (j : Nat) (tp : Pos) (ls : Scope) (lp kp pos : Pos) : Option (CE G c (.Call (.Name f pf) [a] [⟨some "key", .Lambda (lamA x ap) (.Tuple [e1, e2] j tp) ls lp, kp⟩] pos)) :=
  if hb : bi G c f "sorted" = true ∧ notStar a = true ∧ c.lam = true ∧ lamScB c.sc ls x = true ∧ notStar e1 = true ∧ notStar e2 = true then
    (match p.A c [a], keOf c.N c.sc ls x 12 e1, keOf c.N c.sc ls x 12 e2 with
    | some ta, some k1, some k2 => some ⟨eSortK ta.1 k1.1 k2.1, fun X fa C h => by
        obtain ⟨e, k⟩ := bi_ok hb.1
        subst e
        refine d_sortK (k h).1 (k h).2 h.mo.hu (h.lam hb.2.2.1) (ta.2 X fa C h) ?_ ?_ ?_ hb.2.2.2.2.1 hb.2.2.2.2.2 hb.2.1 fun q cl pm cv ctv u => lam_bind q cl pm cv ctv u
        · rw [h.sc]; exact lamSc_ok hb.2.2.2.1
        · rw [h.N, h.sc]; exact k1.2
        · rw [h.N, h.sc]; exact k2.2⟩
    | _, _, _ => none)
  else none
def stepSortA (f : Str) (pf : Pos) (a : Expr) (pos : Pos) : Option (CE G c (.Call (.Name f pf) [a] [] pos)) :=
  if hb : bi G c f "sorted" = true ∧ notStar a = true then (p.A c [a]).map fun ta => ⟨eF fSortA ta.1, fun X fa C h => by
      obtain ⟨e, k⟩ := bi_ok hb.1
      subst e
      exact d_callB (f_sortA h.mo.hu) (k h).1 (k h).2 (by decide +kernel) (ta.2 X fa C h) (by decide) (by decide) (star_ok hb.2) rfl⟩
  else none
def stepE4 (e : Expr) : Option (CE G c e) := match e with
  | .Call (.Name f pf) [a] [⟨some kn, .Lambda ⟨[], [⟨x, none, ap⟩], none, [], [], none, []⟩ (.Tuple [e1, e2] j tp) ls lp, kp⟩] pos => if hk : kn = "key" then
      (match stepSortK p c f pf a x ap e1 e2 j tp ls lp kp pos with
      | some t => some ⟨t.1, fun X fa C h => by rw [hk]; exact t.2 X fa C h⟩
      | none => none) else none
  | .Call (.Name f pf) [a] [] pos => (match stepSortA p c f pf a pos with
    | some t => some t
    | none => stepE3 p c (.Call (.Name f pf) [a] [] pos))
  | e => stepE3 p c e
end
end DL

/-! The data layer: raise, try, what an except suite asks of what it caught. -/
namespace DL
open PySem PySem.Spec PyProof.Rows L2

/-! ### raise -/
def sRaise (j n : Nat) (da : DA) : DS := fun C E ρ M => da C ρ M fun ds M1 => ds.length = n ∧ C.ex ρ j ds.reverse M1
section
variable {X : Cx} {fa : Org} {C : Ctx} {G : Glb} {e : Expr} {es : List Expr} {da : DA} {j : Nat} {cl : Cl} {p pos rp : Pos}
theorem Rps.revs {K : PySem.W.Frag} {α : List Addr} {H : Hp} {vs : List V} {ds : List D} (h : Rps K fa α H vs ds) : Rps K fa α H vs.reverse ds.reverse := h.rev
theorem s_raise (hc : X.calm = true) (xs : XS X fa C) (mo : Mo G false X fa C.call) (hj : G.cls[j]? = some cl) (hf : cl.fs ≠ []) (hn : cl.fs.length < 100) (hg : Gl X cl.x) (ha : PA X (e :: es) (LA X.K fa C da)) (hdb : (cl.x == ("__debug__" : Str)) = false)
    (he : starEach (e :: es) X.env = (false, eval e X.env) :: starEach es X.env) (hpl : (backTo pos (starEach es X.env)).any (·.1) = false) : PS X (.Raise (some (.Call (.Name cl.x p) (e :: es) [] pos)) none rp) (LS X.K fa C (sRaise j cl.fs.length da)) := by
  obtain ⟨W, tk, hw⟩ := xs.ex
  obtain ⟨k, fd, fI, ps, T, iC, tI, F, hr, hb⟩ := mo.ini rfl j cl hj hf
  have cf := mo.clf j cl hj hf
  have pm := pmk_oex (p := p) (dvs := []) (ds := []) T iC tI F hr hb .nil (fun _ _ _ _ _ _ _ z => by
    obtain ⟨_, _, _, _, _, _, _, _, _, _, _, _, z⟩ := z
    exact z.elim) hg (mo.cls j cl hj) ha hdb he hpl
  refine (ps_raise hc tk pm).imp fun D σ H ⟨ρ, M, α, E, er, sr, h, en⟩ => ⟨ρ, M, α, _, er, sr, h, fun vs ds H1 α1 M1 e1 s1 r1 q => ?_⟩
  obtain ⟨q1, q2⟩ := q
  have hl : vs.length = cl.fs.length := r1.length.trans q1
  refine ⟨by rw [hl]; omega, fun a hn => ⟨a, vs, by rw [List.append_nil], hl, upd_same, fun dx hdx hne => ⟨rfl, dx, cl.fs.reverse.zip vs.reverse, upd_same, by rw [upd_ne hne, upd_same], ?_, ?_⟩⟩⟩
  · rw [upd_ne hne] at hdx
    exact hdx
  · rw [upd_ne hne] at hdx
    have e2 : upd (del (upd (upd (upd H1 a (exo a (fa.cls j) none)) dx (exd dx (cl.fs.reverse.zip vs.reverse))) a (exo a (fa.cls j) (some dx))) a) dx (.xd (cl.fs.reverse.zip vs.reverse)) = upd H1 dx (.xd (cl.fs.reverse.zip vs.reverse)) := by
      funext b
      by_cases h1 : b = dx
      · subst h1
        rw [upd_same, upd_same]
      · rw [upd_ne h1, upd_ne h1]
        by_cases h2 : b = a
        · subst h2
          rw [del_same, hn]
        · rw [del_ne h2, upd_ne h2, upd_ne h1, upd_ne h2]
    rw [e2]
    have x1 : Ext X.K H1 (upd H1 dx (.xd (cl.fs.reverse.zip vs.reverse))) α1 α1 := Ext.new hdx
    exact hw σ ρ α1 _ M1 j ds.reverse vs.reverse dx (er.mono (e1.trans x1)) (s1.new hdx) (r1.mono x1).rev (by rw [upd_same, cf.flds]) (by rw [cf.flds, List.length_reverse, List.length_reverse, hl]) q2
end

/-! ### what a suite asks -/
def eFl (G : Glb) (j : Nat) (f : Str) (fs : List D) : DE := fun _ _ M P => match ((match G.cls[j]? with
  | some cl => cl.fs.reverse
  | none => []).zip fs).lookup f with
  | some d => P d M
  | none => False
theorem lookup_rps {K : PySem.W.Frag} {fa : Org} {α : List Addr} {H : Hp} {f : Str} {d : D} : ∀ {ns : List Str} {vs : List V} {ds : List D}, Rps K fa α H vs ds → (ns.zip ds).lookup f = some d → f ∈ ns ∧ ∃ v, (ns.zip vs).lookup f = some v ∧ Rp K fa α H v d
  | [], _, _, _, h => by simp at h
  | n :: ns, [], [], .nil, h => by simp at h
  | n :: ns, v :: vs, d' :: ds, .cons r rs, h => by
    rw [List.zip_cons_cons, List.lookup_cons] at h
    rw [List.zip_cons_cons, List.lookup_cons]
    cases hb : f == n with
    | true =>
      rw [hb] at h
      cases h
      exact ⟨by rw [eq_of_beq hb]; exact List.mem_cons_self, v, rfl, r⟩
    | false =>
      rw [hb] at h
      obtain ⟨h1, h2⟩ := lookup_rps rs h
      exact ⟨List.mem_cons_of_mem _ h1, h2⟩
section
variable {X : Cx} {fa : Org} {C : Ctx} {G : Glb} {nm x : Str} {i j k : Nat} {fs : List D} {cl : Cl} {p p1 p2 pos : Pos}
theorem d_isx (sx : SxH G X fa nm i j fs) (hm0 : X.mg "isinstance" = none) (hg0 : Gl X "isinstance") (hk : G.cls[k]? = some cl) (hmc : X.mg cl.x = some (.ref (fa.cls k))) (hg : Gl X cl.x) (d1 : (nm == ("__debug__" : Str)) = false) (d2 : (nm == ("__classdict__" : Str)) = false) (d3 : (cl.x == ("__debug__" : Str)) = false) :
    PE X (.Call (.Name "isinstance" p) [.Name nm p1, .Name cl.x p2] [] pos) (LE X.K fa C (eK (.bl (supB G j k)))) := by
  obtain ⟨X0, oe, pn, us, q, clj, rfl, hd, hz, hq, hi, hfs, hns, hvl, cf, hcf, hN, hv⟩ := sx
  refine (pe_callB (call_isX cf.is hz hd) hg0 hm0 (by decide +kernel) (pa_cons (pe_var hN hv d1 d2) (pa_cons (pe_glob hg hmc (v := .ref (fa.cls k)) rfl d3) pa_nil)) (by decide) (by decide)).imp fun σ H Q ⟨ρ, M, α, P, er, sr, h, an⟩ => ?_
  obtain ⟨x1, x2, x3⟩ := er.2.2 q hq
  rw [hi] at x1
  exact ⟨.ref q.a, x1, .ref (fa.cls k), .ref (fa.cls k), supB G j k, _, rfl, fun u hu => hu, cf.kit k cl hk, x2, an.here sr (.bl _) h⟩
/-- names of classes -/
def tKs (fa : Org) (ks : List Nat) : TA := fun _ H Q => Q (ks.map fun k => V.ref (fa.cls k)) H
theorem kit_any {fl : List Str} (cf : ClF G X.K fa j fl) : ∀ {ks : List Nat}, (∀ k ∈ ks, ∃ cl, G.cls[k]? = some cl) → PySem.W.kitAny X.K (.ref (fa.cls j)) (ks.map fun k => Value.ref (fa.cls k)) = some (ks.any fun k => supB G j k)
  | [], _ => rfl
  | k :: ks, h => by
    obtain ⟨cl, hc⟩ := h k List.mem_cons_self
    have e := cf.kit k cl hc
    rw [List.map_cons]
    unfold PySem.W.kitAny
    rw [e, List.any_cons]
    cases supB G j k with
    | true => rfl
    | false => exact kit_any cf fun k hk => h k (List.mem_cons_of_mem _ hk)
theorem vals_refs {us : List Value} : ∀ {ks : List Nat}, Vals (ks.map fun k => V.ref (fa.cls k)) us → us = ks.map fun k => Value.ref (fa.cls k)
  | [], h => by cases h; rfl
  | k :: ks, h => by
    rw [List.map_cons] at h
    rcases h with _ | ⟨r, rr⟩
    cases r
    rw [vals_refs rr]
    rfl
theorem d_isxs {ks : List Nat} {es : List Expr} {kt : Nat} {pt : Pos} (sx : SxH G X fa nm i j fs) (hm0 : X.mg "isinstance" = none) (hg0 : Gl X "isinstance") (hks : PA X es (tKs fa ks)) (hk : ∀ k ∈ ks, ∃ cl, G.cls[k]? = some cl) (hl : ks.length ≤ 1000) (d1 : (nm == ("__debug__" : Str)) = false) (d2 : (nm == ("__classdict__" : Str)) = false) :
    PE X (.Call (.Name "isinstance" p) [.Name nm p1, .Tuple es kt pt] [] pos) (LE X.K fa C (eK (.bl (ks.any fun k => supB G j k)))) := by
  obtain ⟨X0, oe, pn, us, q, clj, rfl, hd, hz, hq, hi, hfs, hns, hvl, cf, hcf, hN, hv⟩ := sx
  refine (pe_callB (call_isXs cf.is hz hd) hg0 hm0 (by decide +kernel) (pa_cons (pe_var hN hv d1 d2) (pa_cons (pe_tup hks) pa_nil)) (by decide) (by decide)).imp fun σ H Q ⟨ρ, M, α, P, er, sr, h, an⟩ => ?_
  obtain ⟨x1, x2, x3⟩ := er.2.2 q hq
  rw [hi] at x1
  refine ⟨.ref q.a, x1, by rw [List.length_map, sizeLine_eq]; omega, fun t ht => ?_⟩
  refine ⟨t, ks.map fun k => V.ref (fa.cls k), ks.map fun k => Value.ref (fa.cls k), ks.any fun k => supB G j k, _, rfl, upd_same, fun us hu => vals_refs hu, kit_any cf hk, by rw [upd_ne (ne_of_none x2 ht)]; exact x2, ?_⟩
  exact an _ _ _ _ _ (Ext.new ht) (sr.new ht) (.bl _) h
theorem d_fl (sx : SxH G X fa nm i j fs) (d1 : (nm == ("__debug__" : Str)) = false) (d2 : (nm == ("__classdict__" : Str)) = false) (hb : attributeBase (.Name nm p1) x X.env (eval (.Name nm p1) X.env) = eval (.Name nm p1) X.env) :
    PE X (.Attribute (.Name nm p1) x pos) (LE X.K fa C (eFl G j x fs)) := by
  obtain ⟨X0, oe, pn, us, q, clj, rfl, hd, hz, hq, hi, hfs, hns, hvl, cf, hcf, hN, hv⟩ := sx
  by_cases hx : x ∈ clj.fs
  · refine (pe_xf cf.xf (cf.no x hx) hz ⟨us, hd⟩ (pe_var hN hv d1 d2) hb).imp fun σ H Q ⟨ρ, M, α, P, er, sr, h, an⟩ => ?_
    obtain ⟨x1, x2, x3⟩ := er.2.2 q hq
    rw [hi] at x1
    unfold eFl at h
    rw [hcf] at h
    dsimp only at h
    rw [← hfs, ← hns] at h
    split at h
    · rename_i d hfd
      obtain ⟨_, v, hv1, hv2⟩ := lookup_rps x3 hfd
      exact ⟨_, x1, rfl, rfl, q.dd, _, v, rfl, x2, hv1, an.here sr hv2 h⟩
    · exact h.elim
  · refine PE.imp (t := LE _ fa C fun _ _ _ _ => False) d_never fun σ H Q ⟨ρ, M, α, P, er, sr, h, an⟩ => ?_
    obtain ⟨x1, x2, x3⟩ := er.2.2 q hq
    unfold eFl at h
    rw [hcf] at h
    dsimp only at h
    rw [← hfs, ← hns] at h
    split at h
    · rename_i d hfd
      obtain ⟨z, _⟩ := lookup_rps x3 hfd
      rw [hns, List.mem_reverse] at z
      exact (hx z).elim
    · exact h.elim
end
end DL

/-! The data layer: try with except clauses whose suites end by return. -/
namespace DL
open PySem PySem.Spec PyProof.Rows L2
structure MCl where
  k : Nat
  o : Option Nat
  t : Nat → List D → DS
def quiet (C : Ctx) : Ctx := ⟨C.call, fun _ _ _ _ => False⟩
def only (E : DEnds) : DEnds := ⟨fun _ _ => False, E.rt, fun _ _ => False, fun _ _ => False⟩
def clD (G : Glb) (C : Ctx) (E : DEnds) (c : Nat) (fs : List D) (ρ : Env) (M : Mem) : List MCl → Prop
  | [] => C.ex ρ c fs M
  | q :: r => if supB G c q.k = true then (match q.o with
      | none => q.t c fs (quiet C) (only E) ρ M
      | some i => i < ρ.length ∧ q.t c fs (quiet C) (only E) (ρ.set i none) M) else clD G C E c fs ρ M r
def hasI (G : Glb) (c : Nat) : Bool := match G.cls[c]? with
  | some cl => !cl.fs.isEmpty
  | none => false
theorem hasI_ok {G : Glb} {c : Nat} (h : hasI G c = true) : ∃ cl, G.cls[c]? = some cl ∧ cl.fs ≠ [] := by
  unfold hasI at h
  split at h
  · rename_i cl e
    refine ⟨cl, e, fun z => ?_⟩
    rw [z] at h
    cases h
  · cases h
def sTry (G : Glb) (t : DS) (l : List MCl) : DS := fun C E ρ M => t ⟨C.call, fun ρ' c fs M' => hasI G c = true ∧ clD G C E c fs ρ' M' l⟩ E ρ M

/-! ### another entry, other exceptions -/
def at_ (fa : Org) (H : Hp) (α : List Addr) (xs : List Ex) : Org := { fa with H0 := H, α0 := α, exs := xs }
section
variable {K : PySem.W.Frag} {fa : Org} {α α' : List Addr} {H H' : Hp} {M M' : Mem} {xs : List Ex}
theorem StR.toAt (s : StR K fa α H M) : StR K (at_ fa H α xs) α H M := ⟨s.len, s.nod, fun n c a e1 e2 => CellR.org (fa := fa) (fb := at_ fa H α xs) ⟨rfl, rfl, rfl⟩ (s.cell n c a e1 e2), Ext.refl, s.tabs⟩
theorem StR.ofAt (s : StR K fa α H M) (t : StR K (at_ fa H α xs) α' H' M') : StR K fa α' H' M' := ⟨t.len, t.nod, fun n c a e1 e2 => CellR.org (fa := at_ fa H α xs) (fb := fa) ⟨rfl, rfl, rfl⟩ (t.cell n c a e1 e2), s.org.trans t.org, t.tabs⟩
theorem lsp_at {sp : DSp} {vs : List V} {Q : VK} {E : XK} (h : LSp K (at_ fa H α xs) sp vs H' Q E) : LSp K fa sp vs H' Q E := by
  obtain ⟨ds, N, β, P, ex, r, s, h, an, xa⟩ := h
  have sN : StR K fa β H' N → True := fun _ => True.intro
  have cv : ∀ {γ : List Addr} {J : Hp} {O : Mem}, StR K { fa with H0 := H', α0 := β } γ J O → StR K { at_ fa H α xs with H0 := H', α0 := β } γ J O := fun t =>
    ⟨t.len, t.nod, fun n c a e1 e2 => CellR.org (fa := { fa with H0 := H', α0 := β }) (fb := { at_ fa H α xs with H0 := H', α0 := β }) ⟨rfl, rfl, rfl⟩ (t.cell n c a e1 e2), t.org, t.tabs⟩
  have vc : ∀ {γ : List Addr} {J : Hp} {O : Mem}, StR K { at_ fa H α xs with H0 := H', α0 := β } γ J O → StR K { fa with H0 := H', α0 := β } γ J O := fun t =>
    ⟨t.len, t.nod, fun n c a e1 e2 => CellR.org (fa := { at_ fa H α xs with H0 := H', α0 := β }) (fb := { fa with H0 := H', α0 := β }) ⟨rfl, rfl, rfl⟩ (t.cell n c a e1 e2), t.org, t.tabs⟩
  refine ⟨ds, N, β, P, ex, Rps.org (fa := at_ fa H α xs) (fb := fa) ⟨rfl, rfl, rfl⟩ r, vc s, h, fun v d J γ O e t rv p => ?_, fun c fs ws dx J γ O e t rs hd hl p => ?_⟩
  · exact an v d J γ O e (cv t) (Rp.org (fa := { fa with H0 := H', α0 := β }) (fb := { at_ fa H α xs with H0 := H', α0 := β }) ⟨rfl, rfl, rfl⟩ rv) p
  · exact xa c fs ws dx J γ O e (cv t) (Rps.org (fa := { fa with H0 := H', α0 := β }) (fb := { at_ fa H α xs with H0 := H', α0 := β }) ⟨rfl, rfl, rfl⟩ rs) hd hl p
theorem EnvR.toAt {σ : L2.St} {ρ : Env} (h : EnvR K fa α H σ ρ) {J : Hp} {β : List Addr} : EnvR K (at_ fa J β fa.exs) α H σ ρ := ⟨h.1, fun i d q => let ⟨v, a, b⟩ := h.2.1 i d q; ⟨v, a, Rp.org (fa := fa) (fb := at_ fa J β fa.exs) ⟨rfl, rfl, rfl⟩ b⟩, fun q hq =>
  let ⟨a, b, c⟩ := h.2.2 q hq; ⟨a, b, Rps.org (fa := fa) (fb := at_ fa J β fa.exs) ⟨rfl, rfl, rfl⟩ c⟩⟩
theorem EnvR.ofAt {σ : L2.St} {ρ : Env} {J : Hp} {β : List Addr} (h : EnvR K (at_ fa J β fa.exs) α H σ ρ) : EnvR K fa α H σ ρ := ⟨h.1, fun i d q => let ⟨v, a, b⟩ := h.2.1 i d q; ⟨v, a, Rp.org (fa := at_ fa J β fa.exs) (fb := fa) ⟨rfl, rfl, rfl⟩ b⟩, fun q hq =>
  let ⟨a, b, c⟩ := h.2.2 q hq; ⟨a, b, Rps.org (fa := at_ fa J β fa.exs) (fb := fa) ⟨rfl, rfl, rfl⟩ c⟩⟩
end
/-- the compile of a suite -/
def hotCp (c : Cp) (xc : Option (Str × Nat × Nat × List D)) : Cp := { c with hot := true, lam := false, xc := xc }
inductive CCl (G : Glb) (c : Cp) : List ExceptHandler → List MCl → Prop
  | nil : CCl G c [] []
  | bare {cl : Cl} {k : Nat} {b0 : Stmt} {su : List Stmt} {q1 q2 : Pos} {hs : List ExceptHandler} {l : List MCl} {t : Nat → List D → DS} (hk : G.cls[k]? = some cl) (hg : glB c.sc cl.x = true) (hp : plainName cl.x = true)
      (ht : ∀ (j : Nat) (fs : List D) (X : Cx) (fa : Org) (C : Ctx), HyS G (hotCp c none) X fa C → PSs X (b0 :: su) (LS X.K fa C (t j fs))) (r : CCl G c hs l) : CCl G c (.ExceptHandler (some (.Name cl.x q1)) none (b0 :: su) q2 :: hs) (⟨k, none, t⟩ :: l)
  | as {cl : Cl} {k i : Nat} {n : Str} {b0 : Stmt} {su : List Stmt} {q1 q2 : Pos} {hs : List ExceptHandler} {l : List MCl} {t : Nat → List D → DS} (hk : G.cls[k]? = some cl) (hg : glB c.sc cl.x = true) (hp : plainName cl.x = true) (hi : c.N[i]? = some n) (hl : c.sc.names.lookup n = some .local)
      (ht : ∀ (j : Nat) (fs : List D) (X : Cx) (fa : Org) (C : Ctx), HyS G (hotCp c (some (n, i, j, fs))) X fa C → PSs X (b0 :: su) (LS X.K fa C (t j fs))) (r : CCl G c hs l) : CCl G c (.ExceptHandler (some (.Name cl.x q1)) (some n) (b0 :: su) q2 :: hs) (⟨k, some i, t⟩ :: l)
section
variable {G : Glb} {c : Cp} {X : Cx} {fa : Org} {C : Ctx}
/-- a suite, over data -/
def suT (G : Glb) (X : Cx) (fa : Org) (C : Ctx) (q : MCl) : Suite := fun a cls d D σ H => ∃ (j : Nat) (fs : List DL.D) (Hb : Hp) (αb : List Addr) (dd : Addr) (vs : List V) (cl : Cl), G.cls[j]? = some cl ∧ cl.fs ≠ [] ∧ cls = .ref (fa.cls j) ∧ d = some dd ∧ vs.length = cl.fs.length ∧
  LS X.K (at_ fa Hb αb (match q.o with
    | none => []
    | some i => [⟨i, a, dd, cl.fs.reverse, vs, fs⟩])) (quiet C) (q.t j fs) D σ H
def vcl (G : Glb) (X : Cx) (fa : Org) (C : Ctx) (q : MCl) : Value × Option Nat × Suite := (.ref (fa.cls q.k), q.o, suT G X fa C q)
theorem mo_suite (m : Mo G false X fa C.call) (a : Addr) (pn : List (Addr × Obj)) (Hb : Hp) (αb : List Addr) (xs : List Ex) : Mo G true (X.suite a pn) (at_ fa Hb αb xs) (quiet C).call where
  hu := m.hu
  free := m.free
  bfn := m.bfn
  nums := m.nums
  btys := m.btys
  tups := fun p hp => let ⟨b, e, r⟩ := m.tups p hp; ⟨b, e, fun α H => Rp.org (fa := fa) (fb := at_ fa Hb αb xs) ⟨rfl, rfl, rfl⟩ (r α H)⟩
  nam := m.nam
  fn := nofun
  hfn := fun j i x ps h1 h2 => let ⟨k, fd, F, r, b⟩ := m.hfn j i x ps h1 h2; ⟨k, fd, ⟨fun vs H Q E h => F.len vs H Q E (lsp_at h), fun A outer s H args us vs Q E hr e0 hb rv h => F.run A outer s H args us vs Q E hr e0 hb rv (lsp_at h)⟩, ⟨r.dp, r.un⟩, b⟩
  cls := m.cls
  clf := fun j cl h1 h2 => let z := m.clf j cl h1 h2; ⟨z.is, z.xf, z.no, z.flds, z.exm, z.kit⟩
  ini := nofun
theorem hy_suite (hy : HyS G c X fa C) (hh : c.hot = false) (a : Addr) (oe : Obj) (pn : List (Addr × Obj)) (Hb : Hp) (αb : List Addr) (xs : List Ex) (xc : Option (Str × Nat × Nat × List D)) (hz : xc = none → xs = [])
    (sx : ∀ nm i j fs, xc = some (nm, i, j, fs) → SxH G (X.suite a ((a, oe) :: pn)) (at_ fa Hb αb xs) nm i j fs) : HyS G (hotCp c xc) (X.suite a ((a, oe) :: pn)) (at_ fa Hb αb xs) (quiet C) where
  N := hy.N
  nd := hy.nd
  sc := hy.sc
  fn := hy.fn
  calm := nofun
  mo := mo_suite (hh ▸ hy.mo) a _ Hb αb xs
  xs := ⟨⟨fun _ _ _ _ => False, takes0, fun _ _ _ _ _ _ _ _ _ _ _ _ _ _ h => h⟩⟩
  lam := nofun
  hz := hz
  sx := sx
  pa := PassesOwn.never
  stk := hy.stk
  frm := hy.frm
theorem cl_ok (hy : HyS G c X fa C) (hh : c.hot = false) {hs : List ExceptHandler} {l : List MCl} (h : CCl G c hs l) : ClOk X hs (l.map (vcl G X fa C)) := by
  induction h with
  | nil => exact .nil
  | @bare cl k b0 su q1 q2 hs l t hk hg hp ht r ih =>
    refine .bare ⟨gl_ok hy.toHy hg, (pn_ok hp).1, .inl (hy.mo.cls k cl hk)⟩ (fun a oe cls d pn hz hd => ⟨fun pins s σ H D I ⟨j, fs, Hb, αb, dd, vs, cl', h1, h2, h3, h4, h5, h6⟩ => ?_⟩) ih
    exact (ht j fs _ _ _ (hy_suite hy hh a oe pn Hb αb [] none (fun _ => rfl) nofun)).run pins s σ H D I h6
  | @as cl k i n b0 su q1 q2 hs l t hk hg hp hi hl ht r ih =>
    have hl' : X.env.kindOf n = some .local := by
      show X.env.scope.names.lookup n = _
      rw [hy.sc]
      exact hl
    have hi' : X.N[i]? = some n := by rw [hy.N]; exact hi
    refine .as hy.nd hi' hl' ⟨gl_ok hy.toHy hg, (pn_ok hp).1, .inl (hy.mo.cls k cl hk)⟩ (fun a oe cls d pn hz ⟨us, hd⟩ => ⟨fun pins s σ H D I ⟨j, fs, Hb, αb, dd, vs, cl', h1, h2, h3, h4, h5, h6⟩ => ?_⟩) ih
    subst h3 h4
    have z := hy.mo.clf j cl' h1 h2
    exact (ht j fs _ _ _ (hy_suite hy hh a oe pn Hb αb [⟨i, a, dd, cl'.fs.reverse, vs, fs⟩] (some (n, i, j, fs)) nofun fun nm i' j' fs' e => by
      cases e
      exact ⟨X, oe, pn, us, ⟨i, a, dd, cl'.fs.reverse, vs, fs⟩, cl', rfl, hd, hz, List.mem_cons_self, rfl, rfl, rfl, h5, ⟨z.is, z.xf, z.no, z.flds, z.exm, z.kit⟩, h1, hi', .inl hl'⟩)).run pins s σ H D I h6
theorem w_cl (hy : HyS G c X fa C) {W0 : WX} (hw0 : ∀ (σ : L2.St) (ρ : Env) (α : List Addr) (H : Hp) (M : Mem) (c : Nat) (fs : List DL.D) (vs : List V) (dx : Addr), EnvR X.K fa α H σ ρ → StR X.K fa α H M → Rps X.K fa α H vs fs → H dx = some (.xd ((fa.flds c).zip vs)) → vs.length = (fa.flds c).length → C.ex ρ c fs M → W0 (.ref (fa.cls c)) (some dx) σ H)
    {D : Ends} {E : DEnds} {σ : L2.St} {ρ : Env} {α : List Addr} {H : Hp} {M : Mem} {j : Nat} {fs : List DL.D} {vs : List V} {dx : Addr} {cj : Cl} (hx : fa.exs = []) (hj : G.cls[j]? = some cj) (hf : cj.fs ≠ []) (er : EnvR X.K fa α H σ ρ) (sr : StR X.K fa α H M) (rs : Rps X.K fa α H vs fs) (hd : H dx = some (.xd ((fa.flds j).zip vs))) (hl : vs.length = (fa.flds j).length)
    (an : Ans X.K fa α H E.rt D.rt) : ∀ {hs : List ExceptHandler} {l : List MCl}, CCl G c hs l → clD G C E j fs ρ M l → wCl X.K W0 D (l.map (vcl G X fa C)) (.ref (fa.cls j)) (some dx) σ H := by
  have z := hy.mo.clf j cj hj hf
  have hl1 : vs.length = cj.fs.length := by rw [hl, z.flds, List.length_reverse]
  have ends : ∀ xs, Ans X.K (at_ fa H α xs) α H E.rt D.rt := fun xs v d H' α' M' e s r p => an v d H' α' M' e (sr.ofAt s) (Rp.org (fa := at_ fa H α xs) (fb := fa) ⟨rfl, rfl, rfl⟩ r) p
  have step : ∀ {k : Nat} {cl : Cl} {o : Option Nat} {t : Nat → List DL.D → DS} {r : List MCl}, G.cls[k]? = some cl → (∀ i, o = some i → True) → clD G C E j fs ρ M (⟨k, o, t⟩ :: r) → (clD G C E j fs ρ M r → wCl X.K W0 D (r.map (vcl G X fa C)) (.ref (fa.cls j)) (some dx) σ H) →
      wCl X.K W0 D ((⟨k, o, t⟩ :: r : List MCl).map (vcl G X fa C)) (.ref (fa.cls j)) (some dx) σ H := fun {k cl o t r} hk _ h ih => by
    refine ⟨supB G j k, z.exm k cl hk, fun hb a na => ?_, fun hb => ih ?_⟩
    · unfold clD at h
      rw [if_pos hb] at h
      cases o with
      | none => exact ⟨j, fs, H, α, dx, vs, cj, hj, hf, rfl, rfl, hl1, ρ, M, α, only E, ⟨er.1, fun i d q => let ⟨v, a, b⟩ := er.2.1 i d q; ⟨v, a, Rp.org (fa := fa) (fb := at_ fa H α []) ⟨rfl, rfl, rfl⟩ b⟩, nofun⟩, sr.toAt, h,
          ⟨fun _ _ _ _ _ _ _ _ z => z.elim, ends _, fun _ _ _ _ _ _ _ _ z => z.elim, fun _ _ _ _ _ _ _ _ z => z.elim⟩⟩
      | some i =>
        obtain ⟨hi, h⟩ := h
        have hi2 : i < σ.length := by rw [er.1]; exact hi
        refine ⟨j, fs, H, α, dx, vs, cj, hj, hf, rfl, rfl, hl1, ρ.set i none, M, α, only E, ⟨by rw [List.length_set, List.length_set]; exact er.1, fun m d q => ?_, fun q hq => ?_⟩, sr.toAt, h,
          ⟨fun _ _ _ _ _ _ _ _ z => z.elim, ends _, fun _ _ _ _ _ _ _ _ z => z.elim, fun _ _ _ _ _ _ _ _ z => z.elim⟩⟩
        · by_cases e : i = m
          · subst e
            rw [List.getElem?_set_self hi] at q
            cases q
          · rw [List.getElem?_set_ne e] at q
            obtain ⟨v, a', b⟩ := er.2.1 m d q
            exact ⟨v, by rw [List.getElem?_set_ne e]; exact a', Rp.org (fa := fa) (fb := at_ fa H α _) ⟨rfl, rfl, rfl⟩ b⟩
        · have e : q = ⟨i, a, dx, cj.fs.reverse, vs, fs⟩ := by simpa using (show q ∈ [(⟨i, a, dx, cj.fs.reverse, vs, fs⟩ : Ex)] from hq)
          subst e
          refine ⟨List.getElem?_set_self hi2, ?_, Rps.org (fa := fa) (fb := at_ fa H α _) ⟨rfl, rfl, rfl⟩ rs⟩
          rw [z.flds] at hd
          exact hd
    · unfold clD at h
      rw [if_neg (by rw [hb]; exact Bool.false_ne_true)] at h
      exact h
  intro hs l hc
  induction hc with
  | nil => exact fun h => hw0 σ ρ α H M j fs vs dx er sr rs hd hl h
  | bare hk hg hp ht r ih => exact fun h => step hk (fun _ _ => True.intro) h ih
  | as hk hg hp hi hl ht r ih => exact fun h => step hk (fun _ _ => True.intro) h ih
theorem s_try {body : List Stmt} {h0 : ExceptHandler} {hs : List ExceptHandler} {l : List MCl} {t : DS} {pos : Pos} (hy : HyS G c X fa C) (hh : c.hot = false) (hx : c.xc = none) (hb : ∀ X fa C, HyS G c X fa C → PSs X body (LS X.K fa C t)) (hc : CCl G c (h0 :: hs) l) :
    PS X (.Try body (h0 :: hs) [] [] pos) (LS X.K fa C (sTry G t l)) := by
  obtain ⟨W0, tk0, hw0⟩ := hy.xs.ex
  have fx := hy.hz hx
  refine (ps_tryC (tb := fun W D σ H => ∃ (Hb : Hp) (αb : List Addr) (C' : Ctx), C'.call = C.call ∧
      (∀ (σ : L2.St) (ρ : Env) (α : List Addr) (H : Hp) (M : Mem) (c : Nat) (fs : List DL.D) (vs : List V) (dx : Addr), EnvR X.K (at_ fa Hb αb fa.exs) α H σ ρ → StR X.K (at_ fa Hb αb fa.exs) α H M → Rps X.K (at_ fa Hb αb fa.exs) α H vs fs → H dx = some (.xd ((fa.flds c).zip vs)) → vs.length = (fa.flds c).length → C'.ex ρ c fs M → W (.ref (fa.cls c)) (some dx) σ H) ∧
      LS X.K (at_ fa Hb αb fa.exs) C' t D σ H) hy.stk hy.frm tk0 (fun W pn xe tk pa => ⟨fun pins s σ H D I ⟨Hb, αb, C', e, hw, h⟩ => ?_⟩) (cl_ok hy hh hc)).imp fun D σ H ⟨ρ, M, α, E, er, sr, h, en⟩ => ?_
  · refine (hb (X.tr pn xe) (at_ fa Hb αb fa.exs) C' ?_).run pins s σ H D I h
    have m : Mo G c.hot X fa C'.call := by rw [e]; exact hy.mo
    exact ⟨⟨hy.N, hy.nd, hy.sc, hy.fn, hy.calm, ⟨m.hu, m.free, m.bfn, m.nums, m.btys, fun p hp => let ⟨b, e, r⟩ := m.tups p hp; ⟨b, e, fun α H => Rp.org (fa := fa) (fb := at_ fa Hb αb fa.exs) ⟨rfl, rfl, rfl⟩ (r α H)⟩, m.nam, fun hh i x ps h => let ⟨k, fd, F, r, b⟩ := m.fn hh i x ps h; ⟨k, fd, F.imp fun vs H Q E h => lsp_at h, r, b⟩,
        fun j i x ps h1 h2 => let ⟨k, fd, F, r, b⟩ := m.hfn j i x ps h1 h2; ⟨k, fd, ⟨fun vs H Q E h => F.len vs H Q E (lsp_at h), fun A outer s H args us vs Q E hr e0 hb rv h => F.run A outer s H args us vs Q E hr e0 hb rv (lsp_at h)⟩, r, b⟩, m.cls, fun j cl h1 h2 => let z := m.clf j cl h1 h2; ⟨z.is, z.xf, z.no, z.flds, z.exm, z.kit⟩, m.ini⟩,
      ⟨⟨W, tk, hw⟩⟩, fun hl => let z := hy.lam hl; ⟨z.ex, z.room⟩, hy.hz, fun nm i j fs e => by rw [hx] at e; cases e⟩, pa, hy.stk, hy.frm⟩
  · refine ⟨H, α, ⟨C.call, fun ρ' c fs M' => hasI G c = true ∧ clD G C E c fs ρ' M' l⟩, rfl, fun σ2 ρ2 α2 H2 M2 j fs vs dx er2 sr2 rs2 hd2 hl2 hq => ?_, ρ, M, α, E, er.toAt, sr.toAt, h, ?_⟩
    · obtain ⟨q1, q2⟩ := hq
      obtain ⟨cj, hcj, hf⟩ := hasI_ok q1
      have s2 := sr.ofAt sr2
      exact w_cl hy hw0 fx hcj hf er2.ofAt s2 (Rps.org (fa := at_ fa H α fa.exs) (fb := fa) ⟨rfl, rfl, rfl⟩ rs2) hd2 hl2 (en.rt.ext sr2.org) hc q2
    · exact ⟨fun σ' ρ' H' α' M' e er' sr' p => en.nx σ' ρ' H' α' M' e er'.ofAt (sr.ofAt sr') p, fun v d H' α' M' e s r p => en.rt v d H' α' M' e (sr.ofAt s) (Rp.org (fa := at_ fa H α fa.exs) (fb := fa) ⟨rfl, rfl, rfl⟩ r) p,
        fun σ' ρ' H' α' M' e er' sr' p => en.bk σ' ρ' H' α' M' e er'.ofAt (sr.ofAt sr') p, fun σ' ρ' H' α' M' e er' sr' p => en.ct σ' ρ' H' α' M' e er'.ofAt (sr.ofAt sr') p⟩
end
end DL

/-! The data layer: the compiler's steps for raise, try and what a suite asks. -/
namespace DL
open PySem PySem.Spec PyProof.Rows L2
def clsIx (G : Glb) (x : Str) : Option { k : Nat // ∃ cl, G.cls[k]? = some cl ∧ cl.x = x } := match G.cls.findIdx? (fun cl => decide (cl.x = x)) with
  | some k => (match h : G.cls[k]? with
    | some cl => if hx : cl.x = x then some ⟨k, cl, h, hx⟩ else none
    | none => none)
  | none => none
section
variable {G : Glb} (p : Comp G) (c : Cp)
/-- names of classes, one behind the other -/
def clsAll : (es : List Expr) → Option { ks : List Nat // (∀ k ∈ ks, ∃ cl, G.cls[k]? = some cl) ∧ ∀ X fa C, Hy G c X fa C → PA X es (tKs fa ks) }
  | [] => some ⟨[], nofun, fun X fa C h => pa_nil⟩
  | .Name x pos :: es => if hb : glB c.sc x = true ∧ plainName x = true then (match clsIx G x, clsAll es with
    | some k, some ks => some ⟨k.1 :: ks.1, fun j hj => by
        rcases List.mem_cons.mp hj with e | e
        · subst e
          obtain ⟨cl, h, _⟩ := k.2
          exact ⟨cl, h⟩
        · exact ks.2.1 j e, fun X fa C h => by
        obtain ⟨cl, h1, h2⟩ := k.2
        subst h2
        exact pa_cons (pe_glob (gl_ok h hb.1) (h.mo.cls k.1 cl h1) (v := .ref (fa.cls k.1)) rfl (pn_ok hb.2).1) (ks.2.2 X fa C h)⟩
    | _, _ => none) else none
  | _ => none
def stepIsx (f : Str) (pf : Pos) (nm : Str) (p1 : Pos) (b : Expr) (pos : Pos) : Option (CE G c (.Call (.Name f pf) [.Name nm p1, b] [] pos)) := match hx : c.xc with
  | some q => if hb : bi G c f "isinstance" = true ∧ nm = q.1 ∧ plainName nm = true then (match b with
    | .Name x p2 => if hg : glB c.sc x = true ∧ plainName x = true then (match clsIx G x with
      | some k => some ⟨eK (.bl (supB G q.2.2.1 k.1)), fun X fa C h => by
          obtain ⟨cl, h1, h2⟩ := k.2
          subst h2
          obtain ⟨nm', i, j, fs⟩ := q
          obtain ⟨b1, b2, b3⟩ := hb
          have b2 : nm = nm' := b2
          subst b2
          obtain ⟨e, kk⟩ := bi_ok b1
          subst e
          exact d_isx (h.sx nm i j fs hx) (kk h).2 (kk h).1 h1 (h.mo.cls k.1 cl h1) (gl_ok h hg.1) (pn_ok b3).1 (pn_ok b3).2.1 (pn_ok hg.2).1⟩
      | none => none) else none
    | .Tuple es kt pt => (match clsAll (G := G) c es with
      | some ks => if hl : ks.1.length ≤ 1000 then some ⟨eK (.bl (ks.1.any fun k => supB G q.2.2.1 k)), fun X fa C h => by
          obtain ⟨nm', i, j, fs⟩ := q
          obtain ⟨b1, b2, b3⟩ := hb
          have b2 : nm = nm' := b2
          subst b2
          obtain ⟨e, kk⟩ := bi_ok b1
          subst e
          exact d_isxs (h.sx nm i j fs hx) (kk h).2 (kk h).1 (ks.2.2 X fa C h) ks.2.1 hl (pn_ok b3).1 (pn_ok b3).2.1⟩ else none
      | none => none)
    | _ => none) else none
  | none => none
def stepFl (nm : Str) (p1 : Pos) (x : Str) (pos : Pos) : Option (CE G c (.Attribute (.Name nm p1) x pos)) := match hx : c.xc with
  | some q => if hb : nm = q.1 ∧ plainName nm = true then some ⟨eFl G q.2.2.1 x q.2.2.2, fun X fa C h => by
      obtain ⟨nm', i, j, fs⟩ := q
      obtain ⟨b2, b3⟩ := hb
      have b2 : nm = nm' := b2
      subst b2
      exact d_fl (h.sx nm i j fs hx) (pn_ok b3).1 (pn_ok b3).2.1 (base_ok rfl)⟩ else none
  | none => none
def stepE5 (e : Expr) : Option (CE G c e) := match e with
  | .Call (.Name f pf) [.Name nm p1, b] [] pos => (match stepIsx c f pf nm p1 b pos with
    | some t => some t
    | none => stepE4 p c (.Call (.Name f pf) [.Name nm p1, b] [] pos))
  | .Attribute (.Name nm p1) x pos => (match stepFl c nm p1 x pos with
    | some t => some t
    | none => stepE4 p c (.Attribute (.Name nm p1) x pos))
  | e => stepE4 p c e
def stepRaise (x : Str) (px : Pos) (a : Expr) (as : List Expr) (pos rp : Pos) : Option (CS G c (.Raise (some (.Call (.Name x px) (a :: as) [] pos)) none rp)) :=
  if hb : c.hot = false ∧ glB c.sc x = true ∧ plainName x = true ∧ notStar a = true ∧ as.all notStar = true then (match clsIx G x with
    | some k => (match hf : G.cls[k.1]? with
      | some cl => if hz : cl.fs ≠ [] ∧ cl.fs.length < 100 then (p.A c (a :: as)).map fun ta => ⟨sRaise k.1 cl.fs.length ta.1, fun X fa C h => by
          obtain ⟨cl', h1, h2⟩ := k.2
          rw [h1] at hf
          cases hf
          subst h2
          exact s_raise (h.calm hb.1) h.xs (hb.1 ▸ h.mo) h1 hz.1 hz.2 (gl_ok h.toHy hb.2.1) (ta.2 X fa C h.toHy) (pn_ok hb.2.2.1).1 (star_ok hb.2.2.2.1) (stars_ok hb.2.2.2.2)⟩ else none
      | none => none)
    | none => none) else none
theorem ss_never {X : Cx} {fa : Org} {C : Ctx} {ss : List Stmt} : PSs X ss (LS X.K fa C sNever) := ⟨fun _ _ _ _ _ _ ⟨_, _, _, _, _, _, h, _⟩ => h.elim⟩
/-- a suite's meaning -/
def suiteD (xc : Option (Str × Nat × Nat × List D)) (ss : List Stmt) : DS := match p.Ss (hotCp c xc) ss with
  | some z => z.1
  | none => sNever
theorem suiteD_ok (xc : Option (Str × Nat × Nat × List D)) (ss : List Stmt) (X : Cx) (fa : Org) (C : Ctx) (h : HyS G (hotCp c xc) X fa C) : PSs X ss (LS X.K fa C (suiteD p c xc ss)) := by
  unfold suiteD
  cases p.Ss (hotCp c xc) ss with
  | some z => exact z.2 X fa C h
  | none => exact ss_never
def clsC : (hs : List ExceptHandler) → Option { l : List MCl // CCl G c hs l }
  | [] => some ⟨[], .nil⟩
  | .ExceptHandler (some (.Name x np)) none (b0 :: su) pos :: hs => if hb : glB c.sc x = true ∧ plainName x = true then (match clsIx G x, clsC hs with
    | some k, some l => some ⟨⟨k.1, none, fun _ _ => suiteD p c none (b0 :: su)⟩ :: l.1, by
        obtain ⟨cl, h1, h2⟩ := k.2
        subst h2
        exact .bare h1 hb.1 hb.2 (fun j fs X fa C h => suiteD_ok p c none _ X fa C h) l.2⟩
    | _, _ => none) else none
  | .ExceptHandler (some (.Name x np)) (some n) (b0 :: su) pos :: hs => if hb : glB c.sc x = true ∧ plainName x = true ∧ c.sc.names.lookup n = some .local then (match c.N.findIdx? (fun z => decide (z = n)), clsIx G x, clsC hs with
    | some i, some k, some l => if hi : c.N[i]? = some n then some ⟨⟨k.1, some i, fun j fs => suiteD p c (some (n, i, j, fs)) (b0 :: su)⟩ :: l.1, by
        obtain ⟨cl, h1, h2⟩ := k.2
        subst h2
        exact .as h1 hb.1 hb.2.1 hi hb.2.2 (fun j fs X fa C h => suiteD_ok p c (some (n, i, j, fs)) _ X fa C h) l.2⟩ else none
    | _, _, _ => none) else none
  | _ => none
def stepTry (body : List Stmt) (h0 : ExceptHandler) (hs : List ExceptHandler) (pos : Pos) : Option (CS G c (.Try body (h0 :: hs) [] [] pos)) :=
  if hb : c.hot = false ∧ c.xc = none then (match p.Ss c body, clsC p c (h0 :: hs) with
    | some tb, some l => some ⟨sTry G tb.1 l.1, fun X fa C h => s_try h hb.1 hb.2 tb.2 l.2⟩
    | _, _ => none) else none
def stepS2 (s : Stmt) : Option (CS G c s) := match s with
  | .Raise (some (.Call (.Name x px) (a :: as) [] pos)) none rp => stepRaise p c x px a as pos rp
  | .Try body (h0 :: hs) [] [] pos => stepTry p c body h0 hs pos
  | s => stepS p c s
end
end DL

/-! The data layer: sorted(range(..), key=lambda ..). -/
namespace DL.Srt
open PySem PySem.W PySem.Spec PySem.Calls PyProof.Rows
section
variable {prog : Program} {w : World} {A : Around} {E : Value → Shared → Prop} {s : Shared} {β : Type} {bs : List β} {R : Value → β → Prop} {r : Addr} {a b c : Int} {t u v : Tok} {n : Nat}
/-- sorted(range(..), key=f) -/
theorem sorted_key_range {f : Value} {kw : List (Str × Value)} {d : Bool} {Q : Value → Shared → Prop} (k : β → PyData) (hh : A.handled = none) (hr : IsRange s.heap r a b c t u v) (hsmall : Builtin.Range.small a b c = true) (hn : Builtin.Range.rangeSize a b c = n) (hlen : n ≤ 2 ^ 24)
    (each : ∀ acc : Array Value, ItemsOf (fun i v => ∃ t, v = .int (a + i * c) t) acc n → EachIs R acc.toList bs) (hal : AllAlike (bs.map k)) (hk : Sortable (bs.map k))
    (hu : ∀ x, x ∈ bs → A.units + 2 + (k x).depth < cLine) (ha1 : argsOk "sorted" ⟨[.ref r], kw⟩) (ha2 : ∀ x, argsOk "list.sort" ⟨[.ref x], kw⟩) (ht : ∀ x, Builtin.«list.sort» ⟨[.ref x], kw⟩ = ksk_tree x f d)
    (turn : ∀ (v : Value) (x : β), R v x → x ∈ bs → ∀ (h : Heap) (tk : Nat), (∀ b o, s.heap.get? b = some o → h.get? b = some o) →
      wpAny (model prog w) A.in1.in1 (call f [v]) (KeyPure (k x) { s with heap := h, toks := tk }) (fun _ _ => False) { s with heap := h, toks := tk })
    (h : ∀ l out c h' tk, (∀ b o, s.heap.get? b = some o → h'.get? b = some o) → s.heap.get? l = none → h'.get? l = some (seqObj "list" (List.toArray out) c) → out.length = bs.length → EachIs R out (bs.mergeSort (dataLe d k)) →
      Q (.ref l) { s with heap := h', toks := tk }) :
    wpAny (model prog w) A (call (.builtin "sorted") [.ref r] kw) Q E s := by
  refine call_function_entry_kw kind_sorted plain_sorted entry_sorted ha1 ?_
  unfold Builtin.«sorted»
  refine wpAny_bind (m := checkCount "sorted" 1 1 _) (wpAny_pure ?_)
  refine wpAny_bind (L2.collect_range (A := A.in1) hh hr hsmall hn hlen fun h1 tk1 acc kp1 hacc => ?_)
  have e := each acc hacc
  have hL : acc.toList.length ≤ sizeLine := by
    have := hacc.1
    rw [Array.length_toList, sizeLine_eq]
    omega
  refine wpAny_bind (wpAny_newList ?_ hL)
  have hle : s.heap.get? h1.objs.size = none := by
    cases q : s.heap.get? h1.objs.size with
    | none => rfl
    | some o => exact absurd (Heap.lt_size (kp1 _ _ q)) (Nat.lt_irrefl _)
  have at1 : (h1.push (seqObj "list" acc.toList.toArray 0)).get? h1.objs.size = some (seqObj "list" acc.toList.toArray 0) := Heap.get?_push_size _ rfl
  have kp2 : ∀ b o, s.heap.get? b = some o → (h1.push (seqObj "list" acc.toList.toArray 0)).get? b = some o := fun b o q => Heap.get?_push_of_some _ (kp1 b o q)
  have up : ∀ {g : Heap}, KeepsBut h1.objs.size (h1.push (seqObj "list" acc.toList.toArray 0)) g → ∀ b o, s.heap.get? b = some o → g.get? b = some o := fun {g} kp b o q =>
    kp b o (fun z => by rw [z, hle] at q; cases q) (kp2 b o q)
  refine wpAny_bind (wpAny_holding (wpAny_call_entry_kw slot_list_sort ⟨_, at1, rfl⟩ entry_list_sort ?body (ha2 _)))
  show wpAny (model prog w) A.in1.in1 (Builtin.«list.sort» ⟨[.ref h1.objs.size], kw⟩) _ _ _
  rw [ht]
  refine keyH_tree (vs := acc.toList) (kz := bs.map k) (s := { s with heap := h1.push (seqObj "list" acc.toList.toArray 0), toks := tk1 }) at1 (by rw [List.length_map]; exact e.length.symm) hL hal hk (bound_map (A := A.in1.in1) hu)
    (keyH_turns (s := { s with heap := h1.push (seqObj "list" acc.toList.toArray 0), toks := tk1 }) e fun v x hR hx h tk kp => turn v x hR hx h tk (up kp)) fun h' tk out c' kp hD ko => ?_
  exact ⟨_, rfl, wpAny_pure ⟨_, rfl, h _ out c' h' tk (up kp) hle hD ((ko.length (by rw [List.length_map]; exact e.length.symm)).trans e.length) (keyedOut_each k ko e)⟩⟩
end
end DL.Srt
namespace DL
open PySem PySem.Spec PyProof.Rows L2
/-- sorted(range(a), key=lambda ..) -/
def eSortKR (ta : DE) (k1 k2 : KE) : DE := fun C ρ M P => ta C ρ M fun d M1 => match d with
  | .int n => (-(2 ^ 62) ≤ n ∧ n ≤ 16777216) ∧ (match keyed k1 k2 ρ M1 (rngI 0 n.toNat) with
    | some l => P (.ref M1.length) (M1 ++ [.lst ((l.mergeSort le2).map Prod.fst)])
    | none => False)
  | _ => False
theorem cr_range1 {X : Cx} : CallR X (.type "range") (fun vs H Q => ∃ i, vs = [V.int i] ∧ ∀ p, H p = none → Q (.ref p) (upd H p (.rng 0 i))) := by
  intro pins s σ H vs us Q I r h
  obtain ⟨i, rfl, q⟩ := h
  rcases r with _ | ⟨ri, _ | _⟩
  obtain ⟨t, rfl⟩ := ri
  refine call_range_1 ⟨.ref s.heap.objs.size, upd H s.heap.objs.size (.rng 0 i), I.laid (t' := s.toks + 1 + 1) (fun b o e => Heap.get?_push_of_some _ e) (Nat.le_refl _) ?_, rfl, q _ (I.hok.fresh (Nat.le_refl _))⟩
  exact ⟨s.toks, t, s.toks + 1, Heap.get?_push_size _ rfl⟩
theorem items_rng {acc : Array Value} {n : Nat} (h : ItemsOf (fun i v => ∃ t, v = .int (0 + i * 1) t) acc n) : Vals (rgV 0 (n : Int)) acc.toList := vals_rg (a := 0) (b := (n : Int)) (by rw [Int.sub_zero, Int.toNat_natCast]; exact h)
section
variable {X : Cx} {fa : Org} {C : Ctx} {a e1 e2 : Expr} {ta : DE} {k1 k2 : KE} {x : Str} {ap p p2 tp lp kp pos pos2 : Pos} {j : Nat} {ls : Scope}
theorem d_sortKR (hc : X.calm = true) (hg : Gl X "sorted") (hm : X.mg "sorted" = none) (hg2 : Gl X "range") (hm2 : X.mg "range" = none) (hN : X.A.units + 65 < cLine) (lh : LamH X fa) (ha : PE X a (LE X.K fa C ta)) (L : LamSc X.env.scope ls x) (o1 : KOk X.N X.env.scope ls x e1 k1) (o2 : KOk X.N X.env.scope ls x e2 k2) (n1 : notStar e1 = true) (n2 : notStar e2 = true)
    (ne : notStar a = true) (hb : ∀ (q : Str) (cl : List (Str × Addr)) (pm cv ctv u : Value), bindArgs (PySem.W.kla_fn "<lambda>" q (lamA x ap) (.Tuple [e1, e2] j tp) ls cl pm cv ctv) ⟨[u], []⟩ = pure [(x, u)]) :
    PE X (.Call (.Name "sorted" p) [.Call (.Name "range" p2) [a] [] pos2] [⟨some "key", .Lambda (lamA x ap) (.Tuple [e1, e2] j tp) ls lp, kp⟩] pos) (LE X.K fa C (eSortKR ta k1 k2)) := by
  obtain ⟨⟨cc, P, hcode, TB, hmT, hu⟩, hr⟩ := lh
  refine ⟨fun pins s σ H Q I hq => ?_⟩
  obtain ⟨ρ, M, α, Pd, er, sr, h, an⟩ := hq
  have hrg : PE X (.Call (.Name "range" p2) [a] [] pos2) _ := pe_callTy (cr_range1 (X := X)) hg2 hm2 boot_range (pa_cons ha pa_nil (star_ok ne)) (by decide) (by decide) (star_ok ne) rfl
  refine wpAny_Call_Name_kw (ld_blt I hg hm (u := .builtin "sorted") (by decide +kernel) ?_ (by decide) (by decide))
  refine PyProof.Rows.callWith_kw ?_ rfl rfl
  refine args_cons (thn (hrg.run pins s σ H (fun v H' => ∃ (n : Int) (q : Addr) (H1 : Hp) (M1 : Mem) (α1 : List Addr), v = .ref q ∧ H1 q = none ∧ H' = upd H1 q (.rng 0 n) ∧ Ext X.K H H1 α α1 ∧ StR X.K fa α1 H1 M1 ∧ (-(2 ^ 62) ≤ n ∧ n ≤ 16777216) ∧ (match keyed k1 k2 ρ M1 (rngI 0 n.toNat) with
    | some l => Pd (.ref M1.length) (M1 ++ [.lst ((l.mergeSort le2).map Prod.fst)])
    | none => False)) I ?_) fun y s1 ⟨y', H', I1, ry, n, q, H1, M1, α1, ey, hq1, eH, x1, s1r, ok, q4⟩ => args_nil ?_) rfl
  · refine ⟨ρ, M, α, _, er, sr, h, fun v d H' α' M' e s' r p => ?_⟩
    cases d <;> first | exact (show False from p).elim | skip
    rename_i n
    cases r
    exact ⟨n, rfl, fun q hq => ⟨n, q, H', M', α', rfl, hq, rfl, e, s', p⟩⟩
  subst ey eH
  cases ry
  split at q4
  · rename_i l hl
    have xr : Ext X.K H1 (upd H1 q (.rng 0 n)) α1 α1 := Ext.new hq1
    have s1r' := s1r.new (o := .rng 0 n) hq1
    show wpAny _ _ (evalAll (_ :: [])) _ _ s1
    refine wpAny_evalAll_cons (wpAny_bind (LamX.lam_make2 I1 TB hcode hmT hu s1r'.tabs rfl (fun y hy e => ?_) fun f c' pm ctv H2 s2 I2 eN T2 hf hfn hfr hco => ?_))
    · rcases L.free y hy e with k | k
      · exact I1.ok.has _ (.inl k)
      · exact I1.ok.has _ (.inr k)
    · refine wpAny_bind (wpAny_standAt (wpAny_pure (wpAny_evalAll_nil ?_)))
      have e2 : Ext X.K (upd H1 q (.rng 0 n)) H2 α1 α1 := Ext.ofN eN
      have s2r := s1r'.ofN eN T2
      have er2 := ((er.mono x1).mono xr).mono e2
      have hH2 : H2 q = some (.rng 0 n) := eN q _ upd_same nofun
      obtain ⟨t, u, v, hrng⟩ := I2.hok q _ hH2
      have hir : IsRange s2.heap q 0 n 1 t u v := hrng
      show wpAny _ _ (PySem.call (.builtin "sorted") [.ref q] [(Str.ofString "key", .ref f)]) _ _ s2
      have hn : Builtin.Range.rangeSize 0 n 1 = ((n - 0).toNat : Nat) := rangeSize_nat 0 n
      rw [Int.sub_zero] at hn
      have ht24 : n.toNat ≤ 2 ^ 24 := by omega
      have each0 : ∀ acc : Array Value, ItemsOf (fun i v => ∃ t, v = .int (0 + i * 1) t) acc n.toNat → PySem.W.EachIs (ItR X.K fa α1 H2 k1 k2 ρ M1) acc.toList l := fun acc hacc =>
        keyed_each hl (by
          have z := items_rng hacc
          exact z) (by
          have z := rgV_rep (K := X.K) (fa := fa) (α := α1) (H := H2) 0 (n.toNat : Int)
          rw [Int.sub_zero, Int.toNat_natCast] at z
          exact z)
      have hll : l.length = n.toNat := by
        have := keyed_len hl
        rw [this]
        unfold rngI
        rw [List.length_map, List.length_range]
      refine Srt.sorted_key_range (d := false) (fun q : It2 => .tuple [.int q.2.1, .int q.2.2]) (I2.ok.hd hc) hir (small_one (by omega) (by omega) (by omega) (by omega)) hn ht24 each0 (PySem.W.AllAlike.of fun _ _ => by simp [PySem.W.alike, PySem.W.alikeAll]) (PySem.W.Sortable.tuples fun _ => ⟨_, _, rfl⟩) (fun q _ => ?_) (ksk_s1 _ _) (fun _ => ksk_l1 _ _) (fun _ => ksk_t1 _ _)
        (fun u q hR _ hh tk kp' => lam_call I2 er2 s2r L o1 o2 n1 n2 ?_ hf hco (hb _ _ _ _ _ _) hR kp') fun la out c h' tk kp' hnone hD hol eo => ?_
      · have hd : (PyData.tuple [.int q.2.1, .int q.2.2]).depth = 1 := by simp [PyData.depth, PyData.depthAll]
        omega
      · have := hr.dp
        show X.A.depth < recursionLimit
        omega
      · rw [PySem.W.dataLe_ii (β := It2) (fun q => q.2.1) (fun q => q.2.2)] at eo
        obtain ⟨ws', vw, rw'⟩ := each_rep eo
        have hlw' : ws'.length ≤ sizeLine := by rw [vw.length, hol, hll, sizeLine_eq]; omega
        have hn' : H2 la = none := by
          cases z : H2 la with
          | none => rfl
          | some o =>
            obtain ⟨o', ho'⟩ := (I2.hok _ o z).at_
            rw [hnone] at ho'
            cases ho'
        refine ⟨.ref _, upd H2 la (.lst ws'), L2.Inv.laidN (t' := tk) I2 kp' hnone hn' ⟨hlw', out, c, vw, hD⟩, rfl, ?_⟩
        exact (an.ext ((x1.trans xr).trans e2)).lst s2r rw' hlw' hn' q4
  · exact q4.elim
where
  keyed_len {ρ : Env} {M : Mem} {k1 k2 : KE} : ∀ {xs : List D} {l : List It2}, keyed k1 k2 ρ M xs = some l → l.length = xs.length
    | [], l, h => by cases h; rfl
    | x :: xs, l, h => by
      unfold keyed at h
      split at h
      · rename_i q l' e1 e2
        cases h
        rw [List.length_cons, List.length_cons, keyed_len e2]
      · cases h
end
end DL

/-! The data layer: dicts made, asked with get; str of an int. -/
namespace DL
open PySem PySem.Spec PyProof.Rows L2
def eDict0 : DE := fun _ _ M P => P (.ref M.length) (M ++ [.dK []]) ∨ P (.ref M.length) (M ++ [.dT []])
def dPairs : List (DE × DE) → Ctx → Env → Mem → (List (D × D) → Mem → Prop) → Prop
  | [], _, _, M, Q => Q [] M
  | (a, b) :: r, C, ρ, M, Q => a C ρ M fun x M1 => b C ρ M1 fun y M2 => dPairs r C ρ M2 fun ps M3 => Q ((x, y) :: ps) M3
def keysP : List (D × D) → Option (List (Key × D))
  | [] => some []
  | (k, d) :: r => match keyK k, keysP r with
    | some k, some l => some ((k, d) :: l)
    | _, _ => none
def mergeD (kvs more : List (Key × D)) : List (Key × D) := more.foldl (fun acc kv => putD acc kv.1 kv.2) kvs
/-- {k: v, ..}: the new dict stands empty while the pairs are made -/
def eDisp (ps : List (DE × DE)) : DE := fun C ρ M P => dPairs ps C ρ (M ++ [.dK []]) fun kvs M1 => match keysP kvs with
  | some l => M1[M.length]? = some (.dK []) ∧ l.length ≤ 15 ∧ P (.ref M.length) (M1.set M.length (.dK (mergeD [] l)))
  | none => False
def isDct (M : Mem) : D → Prop
  | .ref n => (match M[n]? with
    | some (.dK _) => True
    | some (.dT _) => True
    | _ => False)
  | _ => False
def toget (M : Mem) (d y z : D) (P : Po) : Prop := match d with
  | .ref n => (match dgetD M n y with
    | some r => P (r.getD z) M
    | none => False)
  | _ => False
def eGet1 (o k : DE) : DE := fun C ρ M P => o C ρ M fun d M1 => isDct M1 d ∧ k C ρ M1 fun y M2 => toget M2 d y .non P
def eGet2 (o k z : DE) : DE := fun C ρ M P => o C ρ M fun d M1 => isDct M1 d ∧ k C ρ M1 fun y M2 => z C ρ M2 fun w M3 => toget M3 d y w P
def fStr : DF := fun ds M P => match ds with
  | [.int i] => i.natAbs.log2 < 1920 ∧ P (.str (toString i)) M
  | [.non] => P (.str "None") M
  | _ => False
section
variable {X : Cx} {fa : Org} {C : Ctx} {pos : Pos}
theorem d_dict0 : PE X (.Dict [] [] pos) (LE X.K fa C eDict0) := by
  refine ⟨fun pins s σ H Q I ⟨ρ, M, α, P, er, sr, h, an⟩ => ?_⟩
  have at_ : ∀ p : Addr, (α ++ [p])[M.length]? = some p := fun p => by rw [← sr.len, List.getElem?_concat_length]
  rcases h with h | h
  · exact (pe_dnewK (X := X) (pos := pos)).run pins s σ H Q I fun p hp => an _ _ _ _ _ (Ext.cell hp) (sr.alloc (c := .dK []) hp ⟨[], upd_same, .nil⟩) (.ref (at_ p)) h
  · exact (pe_dnewT (X := X) (pos := pos)).run pins s σ H Q I fun p hp => an _ _ _ _ _ (Ext.cell hp) (sr.alloc (c := .dT []) hp ⟨[], upd_same, .nil⟩) (.ref (at_ p)) h
abbrev PR (K : PySem.W.Frag) (fa : Org) (α : List Addr) (H : Hp) : List (V × V) → List (D × D) → Prop := Paired fun p q => Rp K fa α H p.1 q.1 ∧ Rp K fa α H p.2 q.2
theorem pairs_ok {K : PySem.W.Frag} : ∀ (l : List (DE × DE)) {σ : L2.St} {ρ : Env} {M : Mem} {α : List Addr} {H : Hp} {Pd : List (D × D) → Mem → Prop} {Q : List (V × V) → Hp → Prop}, EnvR K fa α H σ ρ → StR K fa α H M → dPairs l C ρ M Pd →
    (∀ (ps : List (V × V)) (kvs : List (D × D)) (H' : Hp) (α' : List Addr) (M' : Mem), Ext K H H' α α' → StR K fa α' H' M' → PR K fa α' H' ps kvs → Pd kvs M' → Q ps H') → tPairs (l.map fun q => (LE K fa C q.1, LE K fa C q.2)) σ H Q
  | [], σ, ρ, M, α, H, Pd, Q, er, sr, h, k => k [] [] H α M Ext.refl sr .nil h
  | (a, b) :: r, σ, ρ, M, α, H, Pd, Q, er, sr, h, k => ⟨ρ, M, α, _, er, sr, h, fun v d H1 α1 M1 e1 s1 r1 p1 => ⟨ρ, M1, α1, _, er.mono e1, s1, p1, fun u e H2 α2 M2 e2 s2 r2 p2 =>
      pairs_ok r ((er.mono e1).mono e2) s2 p2 fun ps kvs H3 α3 M3 e3 s3 r3 p3 => k ((v, u) :: ps) ((d, e) :: kvs) H3 α3 M3 ((e1.trans e2).trans e3) s3 (.cons ⟨r1.mono (e2.trans e3), r2.mono e3⟩ r3) p3⟩⟩
theorem keysP_len : ∀ {kvs : List (D × D)} {l : List (Key × D)}, keysP kvs = some l → l.length = kvs.length
  | [], l, h => by cases h; rfl
  | (k, d) :: r, l, h => by
    unfold keysP at h
    split at h
    · rename_i k' l' e1 e2
      cases h
      rw [List.length_cons, List.length_cons, keysP_len e2]
    · cases h
theorem keysP_v {K : PySem.W.Frag} {α : List Addr} {H : Hp} : ∀ {kvs : List (D × D)} {l : List (Key × D)} {ps : List (V × V)}, keysP kvs = some l → PR K fa α H ps kvs → ∃ ws : List (Key × V), ps = ws.map (fun kv => (kV kv.1, kv.2)) ∧ Paired (KR K fa α H) ws l
  | [], l, ps, h, r => by
    cases h
    cases r
    exact ⟨[], rfl, .nil⟩
  | (k, d) :: r, l, ps, h, rr => by
    unfold keysP at h
    split at h
    · rename_i k' l' e1 e2
      cases h
      rcases rr with _ | ⟨⟨r1, r2⟩, rs⟩
      rename_i p ps
      obtain ⟨ws, e3, r3⟩ := keysP_v e2 rs
      obtain ⟨p1, p2⟩ := p
      have e4 : p1 = kV k' := r1.keyK e1
      subst e4
      exact ⟨(k', p2) :: ws, by rw [e3]; rfl, .cons ⟨rfl, r2⟩ r3⟩
    · cases h
theorem merge_v {K : PySem.W.Frag} {α : List Addr} {H : Hp} : ∀ {ws : List (Key × V)} {l : List (Key × D)} {us : List (Key × V)} {m : List (Key × D)}, Paired (KR K fa α H) ws l → Paired (KR K fa α H) us m → Paired (KR K fa α H) (mergeK us ws) (mergeD m l)
  | [], [], us, m, .nil, q => q
  | w :: ws, p :: l, us, m, .cons h t, q => by
    have e : Paired (KR K fa α H) (putK us w.1 w.2) (putD m p.1 p.2) := by
      have := put_v (k := w.1) h.2 q
      rw [h.1] at this ⊢
      exact this
    exact (show Paired (KR K fa α H) (mergeK (putK us w.1 w.2) ws) (mergeD (putD m p.1 p.2) l) from merge_v t e)
theorem d_disp {keys : List (Option Expr)} {values : List Expr} {l : List (DE × DE)} (h : PPs X pos keys values (l.map fun q => (LE X.K fa C q.1, LE X.K fa C q.2))) (hall : keys.all (·.isSome) = true) (hl : keys.length = values.length) (h0 : keys ≠ []) (h15 : keys.length ≤ 15) :
    PE X (.Dict keys values pos) (LE X.K fa C (eDisp l)) := (pe_disp h hall hl h0 h15).imp fun σ H Q ⟨ρ, M, α, P, er, sr, h, an⟩ => fun p hp => by
  have s1 := sr.alloc (c := .dK []) hp ⟨[], upd_same, .nil⟩
  refine pairs_ok l (er.mono (Ext.cell hp)) s1 h fun ps kvs H' α' M' e s r pd => ?_
  split at pd
  · rename_i l' hk
    obtain ⟨p1, p2, p3⟩ := pd
    have ea : α'[M.length]? = some p := e.at (by rw [← sr.len, List.getElem?_concat_length])
    obtain ⟨us, hu, ru⟩ := s.cell _ _ _ p1 ea
    cases ru
    obtain ⟨ws, e1, r1⟩ := keysP_v hk r
    have ex : Ext X.K H' (upd H' p (.dK (mergeK [] ws))) α' α' := Ext.write hu (List.mem_of_getElem? ea) True.intro
    refine ⟨hu, ws, e1, by rw [r1.length]; exact p2, ?_⟩
    exact an _ _ _ _ _ (((Ext.cell hp).trans e).trans ex) (s.write (c := .dK (mergeD [] l')) ea hu True.intro ⟨_, upd_same, Paired.kr ex (merge_v r1 .nil)⟩) (.ref ea) p3
  · exact pd.elim
theorem isDct_v {M : Mem} {d : D} {v : V} {α : List Addr} {H : Hp} {K : PySem.W.Frag} (s : StR K fa α H M) (r : Rp K fa α H v d) (h : isDct M d) : ∃ n a, d = .ref n ∧ α[n]? = some a ∧ v = .ref a ∧ IsD H a := by
  unfold isDct at h
  split at h
  · rename_i n
    cases r with
    | @ref _ a ea =>
      refine ⟨n, a, rfl, ea, rfl, ?_⟩
      split at h
      · rename_i kvs hM
        obtain ⟨ws, hw, _⟩ := s.cell _ _ _ hM ea
        exact .inl ⟨ws, .inl hw⟩
      · rename_i kvs hM
        obtain ⟨ws, hw, _⟩ := s.cell _ _ _ hM ea
        exact .inr ⟨ws, .inl hw⟩
      · exact h.elim
  · exact h.elim
variable {o e f : Expr} {to te tf : DE} {apos cpos : Pos}
theorem d_get1 (hu : X.A.units + 1 < cLine) (ho : PE X o (LE X.K fa C to)) (he : PE X e (LE X.K fa C te)) (m : M1 X o "get" apos e cpos) : PE X (.Call (.Attribute o "get" apos) [e] [] cpos) (LE X.K fa C (eGet1 to te)) :=
  (pe_dget1 hu ho he m).imp fun σ H Q ⟨ρ, M, α, P, er, sr, h, an⟩ => ⟨ρ, M, α, _, er, sr, h, fun v d H1 α1 M1 e1 s1 r1 p1 => by
    obtain ⟨n, a, rfl, ea, rfl, isd⟩ := isDct_v s1 r1 p1.1
    refine ⟨a, rfl, isd, ρ, M1, α1, _, er.mono e1, s1, p1.2, fun u y H2 α2 M2 e2 s2 r2 p2 => ?_⟩
    unfold toget at p2
    dsimp only at p2
    split at p2
    · rename_i r hr
      obtain ⟨ov, g, f1, f2⟩ := dget_v s2 (e2.at ea) r2 hr
      refine ⟨ov, g, ?_⟩
      cases r with
      | none =>
        have : ov = none := by cases ov with
          | none => rfl
          | some _ => cases f1
        subst this
        exact an _ _ _ _ _ (e1.trans e2) s2 .non p2
      | some d =>
        obtain ⟨w, e3, r3⟩ := f2 d rfl
        subst e3
        exact an _ _ _ _ _ (e1.trans e2) s2 r3 p2
    · exact p2.elim⟩
theorem d_get2 (hu : X.A.units + 1 < cLine) (ho : PE X o (LE X.K fa C to)) (he : PE X e (LE X.K fa C te)) (hf : PE X f (LE X.K fa C tf)) (m : M2 X o "get" apos e f cpos) : PE X (.Call (.Attribute o "get" apos) [e, f] [] cpos) (LE X.K fa C (eGet2 to te tf)) :=
  (pe_dget2 hu ho he hf m).imp fun σ H Q ⟨ρ, M, α, P, er, sr, h, an⟩ => ⟨ρ, M, α, _, er, sr, h, fun v d H1 α1 M1 e1 s1 r1 p1 => by
    obtain ⟨n, a, rfl, ea, rfl, isd⟩ := isDct_v s1 r1 p1.1
    refine ⟨a, rfl, isd, ρ, M1, α1, _, er.mono e1, s1, p1.2, fun u y H2 α2 M2 e2 s2 r2 p2 => ⟨ρ, M2, α2, _, (er.mono e1).mono e2, s2, p2, fun w z H3 α3 M3 e3 s3 r3 p3 => ?_⟩⟩
    unfold toget at p3
    dsimp only at p3
    split at p3
    · rename_i r hr
      obtain ⟨ov, g, f1, f2⟩ := dget_v s3 ((e2.trans e3).at ea) (r2.mono e3) hr
      refine ⟨ov, g, ?_⟩
      cases r with
      | none =>
        have : ov = none := by cases ov with
          | none => rfl
          | some _ => cases f1
        subst this
        exact an _ _ _ _ _ ((e1.trans e2).trans e3) s3 r3 p3
      | some d =>
        obtain ⟨x, e4, r4⟩ := f2 d rfl
        subst e4
        exact an _ _ _ _ _ ((e1.trans e2).trans e3) s3 r4 p3
    · exact p3.elim⟩
theorem call_str_some : CallR X (.type "str") (fun xs H Q => (∃ i, xs = [.int i] ∧ i.natAbs.log2 < 1920 ∧ Q (.str (toString i)) H) ∨ (xs = [.non] ∧ Q (.str "None") H)) := by
  intro pins s σ H xs us Q I r h
  rcases h with ⟨i, rfl, hz, q⟩ | ⟨rfl, q⟩
  · obtain ⟨u, rfl, t, rfl⟩ := vals1 r
    exact PySem.P.str_of_int hz ⟨.str _, H, I.tok _, ⟨_, rfl⟩, q⟩
  · obtain ⟨u, rfl, r1⟩ := vals1 r
    cases r1
    exact PySem.P.str_of_none ⟨.str _, H, I.tok _, ⟨_, rfl⟩, q⟩
theorem f_str : CallR X (.type "str") (LF X.K fa fStr) := call_str_some.imp fun xs H Q ⟨M, α, ds, P, sr, rs, h, an⟩ => by
  unfold fStr at h
  split at h
  · rename_i i
    rcases rs with _ | ⟨r, _ | _⟩
    cases r
    exact .inl ⟨i, rfl, h.1, an.here sr (.str _) h.2⟩
  · rcases rs with _ | ⟨r, _ | _⟩
    cases r
    exact .inr ⟨rfl, an.here sr (.str _) h⟩
  · exact h.elim
end
/-! ### the compiler's steps -/
section
variable {G : Glb} (p : Comp G) (c : Cp)
def cPairs : (keys : List (Option Expr)) → (values : List Expr) → Option { l : List (DE × DE) // ∀ X fa C pos, Hy G c X fa C → PPs X pos keys values (l.map fun q => (LE X.K fa C q.1, LE X.K fa C q.2)) }
  | [], [] => some ⟨[], fun X fa C pos h => pps_nil⟩
  | some k :: ks, v :: vs => (match p.E c k, p.E c v, cPairs ks vs with
    | some tk, some tv, some l => some ⟨(tk.1, tv.1) :: l.1, fun X fa C pos h => pps_cons (tk.2 X fa C h) (tv.2 X fa C h) (l.2 X fa C pos h)⟩
    | _, _, _ => none)
  | _, _ => none
def stepDict (keys : List (Option Expr)) (values : List Expr) (pos : Pos) : Option (CE G c (.Dict keys values pos)) := match keys, values with
  | [], [] => some ⟨eDict0, fun X fa C h => d_dict0⟩
  | k :: ks, vs => if hb : (k :: ks).all (·.isSome) = true ∧ (k :: ks).length = vs.length ∧ (k :: ks).length ≤ 15 then (cPairs p c (k :: ks) vs).map fun l => ⟨eDisp l.1, fun X fa C h => d_disp (l.2 X fa C pos h) hb.1 hb.2.1 (List.cons_ne_nil _ _) hb.2.2⟩ else none
  | _, _ => none
theorem m1_ok {X : Cx} {o e : Expr} {m : Str} {apos cpos : Pos} (hb : notCall o = true ∧ notStar e = true ∧ (apos.endLine == cpos.line) = true) : L2.M1 X o m apos e cpos where
  base := base_ok hb.1
  few := few_ok (by simp [hb.2.1]) (by show 1 < 20; omega)
  line := hb.2.2
  trees := by rw [star_ok hb.2.1]; rfl
theorem m2_ok {X : Cx} {o e f : Expr} {m : Str} {apos cpos : Pos} (hb : notCall o = true ∧ notStar e = true ∧ notStar f = true ∧ (apos.endLine == cpos.line) = true) : L2.M2 X o m apos e f cpos where
  base := base_ok hb.1
  few := few_ok (by simp [hb.2.1, hb.2.2.1]) (by show 2 < 20; omega)
  line := hb.2.2.2
  trees := by rw [star_ok hb.2.1, star_ok hb.2.2.1]; rfl
def stepGet1 (o : Expr) (m : Str) (apos : Pos) (e : Expr) (pos : Pos) : Option (CE G c (.Call (.Attribute o m apos) [e] [] pos)) := if hm : m = "get" then
    (if hb : notCall o = true ∧ notStar e = true ∧ (apos.endLine == pos.line) = true then (match p.E c o, p.E c e with
    | some to, some te => some ⟨eGet1 to.1 te.1, fun X fa C h => by
        subst hm
        exact d_get1 (by have := h.mo.hu; omega) (to.2 X fa C h) (te.2 X fa C h) (m1_ok hb)⟩
    | _, _ => none) else none) else none
def stepGet2 (o : Expr) (m : Str) (apos : Pos) (e f : Expr) (pos : Pos) : Option (CE G c (.Call (.Attribute o m apos) [e, f] [] pos)) := if hm : m = "get" then
    (if hb : notCall o = true ∧ notStar e = true ∧ notStar f = true ∧ (apos.endLine == pos.line) = true then (match p.E c o, p.E c e, p.E c f with
    | some to, some te, some tf => some ⟨eGet2 to.1 te.1 tf.1, fun X fa C h => by
        subst hm
        exact d_get2 (by have := h.mo.hu; omega) (to.2 X fa C h) (te.2 X fa C h) (tf.2 X fa C h) (m2_ok hb)⟩
    | _, _, _ => none) else none) else none
def stepStr (f : Str) (pf : Pos) (a : Expr) (pos : Pos) : Option (CE G c (.Call (.Name f pf) [a] [] pos)) :=
  if hb : bi G c f "str" = true ∧ notStar a = true then (p.A c [a]).map fun ta => ⟨eF fStr ta.1, fun X fa C h => by
      obtain ⟨e, k⟩ := bi_ok hb.1
      subst e
      exact d_callTy f_str (k h).1 (k h).2 (by decide +kernel) (ta.2 X fa C h) (by decide) (by decide) (star_ok hb.2) rfl⟩
  else none
def stepSortKR (f : Str) (pf : Pos) (g : Str) (pg : Pos) (a : Expr) (pos2 : Pos) (x : Str) (ap : Pos) (e1 e2 : Expr) (j : Nat) (tp : Pos) (ls : Scope) (lp kp pos : Pos) : Option (CE G c (.Call (.Name f pf) [.Call (.Name g pg) [a] [] pos2] [⟨some "key", .Lambda (lamA x ap) (.Tuple [e1, e2] j tp) ls lp, kp⟩] pos)) :=
  if hb : (bi G c f "sorted" = true ∧ bi G c g "range" = true ∧ c.hot = false) ∧ notStar a = true ∧ c.lam = true ∧ lamScB c.sc ls x = true ∧ notStar e1 = true ∧ notStar e2 = true then
    (match p.E c a, keOf c.N c.sc ls x 12 e1, keOf c.N c.sc ls x 12 e2 with
    | some ta, some k1, some k2 => some ⟨eSortKR ta.1 k1.1 k2.1, fun X fa C h => by
        obtain ⟨e, k⟩ := bi_ok hb.1.1
        subst e
        obtain ⟨e, k'⟩ := bi_ok hb.1.2.1
        subst e
        refine d_sortKR (h.calm hb.1.2.2) (k h).1 (k h).2 (k' h).1 (k' h).2 h.mo.hu (h.lam hb.2.2.1) (ta.2 X fa C h) ?_ ?_ ?_ hb.2.2.2.2.1 hb.2.2.2.2.2 hb.2.1 fun q cl pm cv ctv u => lam_bind q cl pm cv ctv u
        · rw [h.sc]; exact lamSc_ok hb.2.2.2.1
        · rw [h.N, h.sc]; exact k1.2
        · rw [h.N, h.sc]; exact k2.2⟩
    | _, _, _ => none)
  else none
def stepE6 (e : Expr) : Option (CE G c e) := match e with
  | .Dict keys values pos => stepDict p c keys values pos
  | .Call (.Name f pf) [.Call (.Name g pg) [a] [] pos2] [⟨some kn, .Lambda ⟨[], [⟨x, none, ap⟩], none, [], [], none, []⟩ (.Tuple [e1, e2] j tp) ls lp, kp⟩] pos => if hk : kn = "key" then
      (match stepSortKR p c f pf g pg a pos2 x ap e1 e2 j tp ls lp kp pos with
      | some t => some ⟨t.1, fun X fa C h => by rw [hk]; exact t.2 X fa C h⟩
      | none => stepE5 p c (.Call (.Name f pf) [.Call (.Name g pg) [a] [] pos2] [⟨some kn, .Lambda ⟨[], [⟨x, none, ap⟩], none, [], [], none, []⟩ (.Tuple [e1, e2] j tp) ls lp, kp⟩] pos)) else none
  | .Call (.Attribute o m apos) [e] [] pos => (match stepGet1 p c o m apos e pos with
    | some t => some t
    | none => stepE5 p c (.Call (.Attribute o m apos) [e] [] pos))
  | .Call (.Attribute o m apos) [e, f] [] pos => (match stepGet2 p c o m apos e f pos with
    | some t => some t
    | none => stepE5 p c (.Call (.Attribute o m apos) [e, f] [] pos))
  | .Call (.Name f pf) [a] [] pos => (match stepStr p c f pf a pos with
    | some t => some t
    | none => stepE5 p c (.Call (.Name f pf) [a] [] pos))
  | e => stepE5 p c e
end
end DL

/-! The data layer: x[::-1], len(set(x)). -/
namespace HT
open PySem PySem.Spec PySem.Calls PyProof.Rows L2
section
variable {prog : Program} {w : World} {A : Around} {E : Value → Shared → Prop} {s : Shared}
theorem applied_rev {sl : Addr} {vl vu vs : Value} {n : Nat} {Q : Int × Int × Nat → Shared → Prop} (hs : s.heap.IsSliceOf sl vl vu vs) (pl : IsPart vl none) (pu : IsPart vu none) (ps : IsPart vs (some (-1)))
    (h : Q ((n : Int) - 1, -1, n) s) : wpAny (model prog w) A (Builtin.Slice.sliceApplied (.ref sl) (pure (n : Int))) Q E s := by
  obtain ⟨os, hos, hcs, hds⟩ := id hs
  unfold Builtin.Slice.sliceApplied Builtin.Slice.sliceFields
  refine wpAny_bind (wpAny_bind (wpAny_field hos hds (x := vl) rfl (wpAny_bind (wpAny_field hos hds (x := vu) rfl (wpAny_bind (wpAny_field hos hds (x := vs) rfl (wpAny_pure ?_)))))))
  refine wpAny_bind (slicePart_ ps ?_)
  show wpAny _ _ (if ((-1 : Int) == 0) = true then _ else _) _ _ s
  rw [if_neg (by decide)]
  refine wpAny_bind (slicePart_ pl (wpAny_bind (slicePart_ pu (wpAny_bind (wpAny_pure ?_)))))
  show wpAny _ _ (match Builtin.Slice.sliceAdjust none none (-1) (n : Int) with | (lo, hi) => pure (lo, (-1 : Int), Builtin.Slice.slicePlaces lo hi (-1))) _ _ s
  have e1 : Builtin.Slice.sliceAdjust none none (-1) (n : Int) = ((n : Int) - 1, -1) := by
    unfold Builtin.Slice.sliceAdjust
    simp
  rw [e1]
  show wpAny _ _ (pure ((n : Int) - 1, (-1 : Int), Builtin.Slice.slicePlaces ((n : Int) - 1) (-1) (-1))) _ _ s
  have e2 : Builtin.Slice.slicePlaces ((n : Int) - 1) (-1) (-1) = n := by
    unfold Builtin.Slice.slicePlaces
    rw [if_neg (by decide)]
    split
    · rw [show -(-1 : Int) = 1 from rfl, Int.ediv_one]; omega
    · omega
  rw [e2]
  exact wpAny_pure h
theorem pick_rev (xs : Array Value) : ((List.range xs.size).filterMap fun (m : Nat) => xs[(((xs.size : Nat) : Int) - 1 + (m : Int) * -1).toNat]?).toArray = xs.toList.reverse.toArray := by
  have ef : (fun (m : Nat) => xs[(((xs.size : Nat) : Int) - 1 + (m : Int) * -1).toNat]?) = (xs[·]?) ∘ fun k => xs.size - 1 - k := by
    funext m
    show xs[_]? = xs[xs.size - 1 - m]?
    congr 1
    omega
  have e : (List.range xs.size).filterMap (fun (m : Nat) => xs[(((xs.size : Nat) : Int) - 1 + (m : Int) * -1).toNat]?) = ((List.range xs.size).map fun k => xs.size - 1 - k).filterMap (xs[·]?) := by
    rw [List.filterMap_map, ef]
  rw [e, PySem.W.krv_range, List.filterMap_reverse, PySem.W.krv_all]
theorem getItem_tuple_rev {t sl : Addr} {items : Array Value} {vl vu vs : Value} {Q : Value → Shared → Prop} (ht : IsTup s.heap t items) (hs : s.heap.IsSliceOf sl vl vu vs) (pl : IsPart vl none) (pu : IsPart vu none) (ps : IsPart vs (some (-1)))
    (h : Q (.ref s.heap.objs.size) { s with heap := s.heap.push { cls := .type "tuple", data := .seq items.toList.reverse.toArray } })
    (hsz : items.size ≤ sizeLine) : wpAny (model prog w) A (getItem (.ref t) (.ref sl)) Q E s := by
  have htake : sizeOk (.seq items.toList.reverse.toArray) := by
    show items.toList.reverse.toArray.size ≤ sizeLine
    rw [List.size_toArray, List.length_reverse, Array.length_toList]
    exact hsz
  obtain ⟨os, hos, hcs, hds⟩ := id hs
  have hTs : s.TypeIs (.ref sl) "slice" := ⟨os, hos, hcs⟩
  unfold getItem
  try with_reducible refine wpAny_holding ?_
  first | refine wpAny_bind (wpAny_pure ?_) | skip
  refine wpAny_bind (wpAny_sequenceKey ht.typeIs (by decide) ?_)
  refine wpAny_bind (wpAny_callSpecial?_slot (name := Str.ofString "__getitem__") ht.typeIs PyProof.Rows.slot_tuple_getitem
    (wpAny_call_entry PyProof.Rows.slot_tuple_getitem ht.typeIs entry_tuple_getitem ?_ (args_tuple_getitem _ _)))
  show wpAny _ _ (Builtin.Tuple.tupleItemsOf (.ref t) >>= _) _ _ s
  refine wpAny_bind (tupleItemsOf_ ht ?_)
  refine wpAny_bind (wpAny_typeOf hTs ?_)
  rw [if_pos (by decide)]
  refine wpAny_bind (applied_rev hs pl pu ps ?_)
  have hno : ¬ (((((items.size : Nat) : Int) - 1) == 0 && (-1 : Int) == 1 && items.size == items.size) = true) := by
    intro q
    rw [Bool.and_eq_true, Bool.and_eq_true] at q
    exact absurd q.1.2 (by decide)
  show wpAny _ _ (if ((((items.size : Nat) : Int) - 1) == 0 && (-1 : Int) == 1 && items.size == items.size) = true then _ else _) _ _ s
  rw [if_neg hno, pick_rev]
  first
    | exact wpAny_bind (m := Builtin.Tuple.tupleExact _) (wpAny_newObj_type (wpAny_pure ⟨_, rfl, wpAny_pure h⟩) htake)
    | exact wpAny_bind (m := Builtin.Tuple.tupleExact _) (wpAny_newObj_type (wpAny_bind (wpAny_pure (wpAny_pure ⟨_, rfl, wpAny_pure h⟩))) htake)
    | exact wpAny_bind (wpAny_bind (m := Builtin.Tuple.tupleExact _) (wpAny_newObj_type (wpAny_pure (wpAny_pure ⟨_, rfl, wpAny_pure h⟩)) htake))
    | exact wpAny_bind (wpAny_bind (m := Builtin.Tuple.tupleExact _) (wpAny_newObj_type (wpAny_pure ⟨_, rfl, wpAny_pure h⟩) htake))
end
end HT
namespace DL
open PySem PySem.Spec PyProof.Rows L2
/-- x[::-1] -/
def eRev (t : DE) : DE := fun C ρ M P => t C ρ M fun d M1 => match d with
  | .tup xs => P (.tup xs.reverse) M1
  | .ref n => (match M1[n]? with
    | some (.lst xs) => P (.ref M1.length) (M1 ++ [.lst xs.reverse])
    | _ => False)
  | _ => False
/-- how many unlike ones -/
def ddl : List Int → List Int
  | [] => []
  | x :: xs => if x ∈ xs then ddl xs else x :: ddl xs
theorem mem_ddl {y : Int} : ∀ {l : List Int}, y ∈ ddl l ↔ y ∈ l
  | [] => Iff.rfl
  | x :: xs => by
    unfold ddl
    split
    · rename_i h
      rw [mem_ddl, List.mem_cons]
      exact ⟨.inr, fun z => z.elim (fun e => by rw [e]; exact h) id⟩
    · rw [List.mem_cons, List.mem_cons, mem_ddl]
theorem nodup_ddl : ∀ {l : List Int}, (ddl l).Nodup
  | [] => List.nodup_nil
  | x :: xs => by
    unfold ddl
    split
    · exact nodup_ddl
    · rename_i h
      exact List.nodup_cons.mpr ⟨fun z => h (mem_ddl.mp z), nodup_ddl⟩
theorem ddl_len {l m : List Int} (hn : m.Nodup) (h : ∀ y, y ∈ m ↔ y ∈ l) : m.length = (ddl l).length :=
  ((List.perm_ext_iff_of_nodup hn nodup_ddl).mpr fun y => (h y).trans mem_ddl.symm).length_eq
def fLenSet : DF := fun ds M P => match ds with
  | [d] => (match seqOf M d with
    | some xs => (match intsOf xs with
      | some ns => ns.length ≤ 1000 ∧ P (.int ((ddl ns).length : Nat)) M
      | none => False)
    | none => False)
  | _ => False
section
variable {X : Cx} {fa : Org} {C : Ctx} {te : DE} {e : Expr}
theorem d_rev {k : Nat} {p1 p2 p3 pos : Pos} (he : PE X e (LE X.K fa C te)) : PE X (.Subscript e (.Slice none none (some (.UnaryOp .USub (.Constant (.int 1) k p1) p2)) p3) pos) (LE X.K fa C (eRev te)) := by
  refine ⟨fun pins s σ H Q I ⟨ρ, M, α, P, er, sr, h, an⟩ => ?_⟩
  refine Subscript_ (thn (he.run pins s σ H (fun v H' => ∃ (d : D) (α' : List Addr) (M' : Mem), Ext X.K H H' α α' ∧ StR X.K fa α' H' M' ∧ Rp X.K fa α' H' v d ∧ _) I ⟨ρ, M, α, _, er, sr, h, fun v d H' α' M' e s r p => ⟨d, α', M', e, s, r, p⟩⟩) fun v s1 ⟨x, H1, I1, r1, d, α1, M1, e1, sr1, rd, q1⟩ => ?_)
  have hst : PO X (some (.UnaryOp .USub (.Constant (.int 1) k p1) p2)) (tPart (tUn (rU fun i => .int (-i)) (tC (.int 1)))) := po_some (pe_un un_neg pe_int)
  refine wpAny_Slice (thn (po_none.run pins s1 σ H1 (fun o H2 => o = none ∧ H2 = H1) I1 ⟨rfl, rfl⟩) fun vl s2 ⟨l, H2, I2, pl, el, e2⟩ => ?_)
  subst el e2
  refine thn (po_none.run pins s2 σ H2 (fun o H3 => o = none ∧ H3 = H2) I2 ⟨rfl, rfl⟩) fun vu s3 ⟨u, H3, I3, pu, eu, e3⟩ => ?_
  subst eu e3
  refine thn (hst.run pins s3 σ H3 (fun o H4 => o = some (-1) ∧ H4 = H3) I3 ⟨1, rfl, -1, rfl, rfl, rfl⟩) fun vs s4 ⟨o, H4, I4, ps, eo, e4⟩ => ?_
  subst eo e4
  have I5 : Inv X pins σ H4 { s4 with heap := s4.heap.push { cls := .type "slice", data := .fields #[vl, vu, vs] } } := I4.kept (t' := s4.toks) fun b ob q => Heap.get?_push_of_some _ q
  have hn : H4 (s4.heap.push { cls := .type "slice", data := .fields #[vl, vu, vs] }).objs.size = none := I5.hok.fresh (Nat.le_refl _)
  split at q1
  · rename_i xs
    cases rd with
    | @tup a ws _ st lw rw' =>
      cases r1
      obtain ⟨its, r, ht, hz⟩ := I5.tuple (.inl (.inl st))
      show wpAny (model X.prog X.w) X.A (subscriptTail e (.Slice none none (some (.UnaryOp .USub (.Constant (.int 1) k p1) p2)) p3) (.ref a) (.ref s4.heap.objs.size)) (EP X pins σ Q) X.xe { s4 with heap := s4.heap.push { cls := .type "slice", data := .fields #[vl, vu, vs] } }
      have hlen := r.length
      refine tail_any (ops := [.ref a, .ref s4.heap.objs.size]) ht.typeIs (PyProof.Rows.slot_tuple_getitem.lookup) ?_ (by with_unfolding_all rfl)
      refine HT.getItem_tuple_rev ht (Heap.IsSliceOf.new _ vl vu vs) pl pu ps ?_ (by rw [List.size_toArray]; omega)
      refine ⟨.ref _, _, I5.laid (t' := s4.toks) (o := .tup ws.reverse) (fun b ob q => Heap.get?_push_of_some _ q) (Nat.le_refl _) ?_, rfl, (an.ext e1).tup sr1 rw'.rev (by rw [List.length_reverse]; exact lw) hn q1⟩
      exact ⟨by rw [List.length_reverse]; exact lw, _, r.reverse, IsTup.new _ _⟩
  · rename_i n
    split at q1
    · rename_i xs hM
      cases rd with
      | @ref _ a ea =>
        cases r1
        obtain ⟨ws, hw, lw, rw'⟩ := sr1.cell _ _ _ hM ea
        obtain ⟨its, r, ht, hz⟩ := I5.list (.inl (.inl hw))
        show wpAny (model X.prog X.w) X.A (subscriptTail e (.Slice none none (some (.UnaryOp .USub (.Constant (.int 1) k p1) p2)) p3) (.ref a) (.ref s4.heap.objs.size)) (EP X pins σ Q) X.xe { s4 with heap := s4.heap.push { cls := .type "slice", data := .fields #[vl, vu, vs] } }
        have hlen := r.length
        refine tail_any (ops := [.ref a, .ref s4.heap.objs.size]) ht.isList.typeIs (PySem.slot_list_getitem.lookup) ?_ (by with_unfolding_all rfl)
        refine wpAny_getItem_list_slice ht.isList (Heap.IsSliceOf.new _ vl vu vs) pl pu ps (by decide) ?_ (by rw [List.size_toArray]; omega)
        rw [PySem.W.krv_pick]
        refine ⟨.ref _, _, I5.laid (t' := s4.toks) (o := .lst ws.reverse) (fun b ob q => Heap.get?_push_of_some _ q) (Nat.le_refl _) ?_, rfl, (an.ext e1).lst sr1 rw'.rev (by rw [List.length_reverse]; exact lw) hn q1⟩
        exact ⟨by rw [List.length_reverse]; exact lw, _, 0, r.reverse, Heap.get?_push_size _ rfl⟩
    · exact q1.elim
  · exact q1.elim
theorem ints_vs {K : PySem.W.Frag} {α : List Addr} {H : Hp} : ∀ {ns : List Int} {vs : List V}, Rps K fa α H vs (ns.map D.int) → vs = ns.map V.int
  | [], _, .nil => rfl
  | n :: ns, v :: vs, .cons r rs => by
    cases r
    rw [List.map_cons, ints_vs rs]
theorem first_ddl (ns : List Int) : (PyProof.Rows.firstMet (fun i => ns.getD i 0) ns.length).length = (ddl ns).length := by
  have er : ∀ k : Nat, k ≤ ns.length → (List.range k).map (fun i => ns.getD i 0) = ns.take k := fun k hk => by
    refine List.ext_getElem (by rw [List.length_map, List.length_range, List.length_take, Nat.min_eq_left hk]) fun i h1 h2 => ?_
    rw [List.getElem_map, List.getElem_range, List.getElem_take]
    rw [List.length_map, List.length_range] at h1
    simp [List.getD_eq_getElem?_getD, Nat.lt_of_lt_of_le h1 hk]
  refine ddl_len ?_ fun y => ?_
  · have nd : ∀ k, (PyProof.Rows.firstMet (fun i => ns.getD i 0) k).Nodup := fun k => by
      induction k with
      | zero => exact List.nodup_nil
      | succ k ih =>
        rw [PyProof.Rows.firstMet_succ]
        unfold PyProof.Rows.step_dedup
        split
        · exact ih
        · rename_i h
          rw [List.nodup_append]
          refine ⟨ih, by simp, fun a ha b hb => ?_⟩
          have : b = ns.getD k 0 := by simpa using hb
          subst this
          intro e
          subst e
          exact h (List.any_eq_true.mpr ⟨_, ha, by simp⟩)
    exact nd _
  · have z := PyProof.Rows.firstMet_any (fun i => ns.getD i 0) ns.length y
    rw [er _ (Nat.le_refl _), List.take_length] at z
    have a1 : ∀ l : List Int, l.any (· == y) = decide (y ∈ l) := fun l => by
      rw [Bool.eq_iff_iff]
      simp
    rw [a1, a1] at z
    exact decide_eq_decide.mp z
theorem d_lenSet {te : DE} {p p2 q pos : Pos} (hc : X.calm = true) (hg : Gl X "len") (hm : X.mg "len" = none) (hg2 : Gl X "set") (hm2 : X.mg "set" = none) (ha : PE X e (LE X.K fa C te))
    (na : starEach [e] X.env = (false, eval e X.env) :: starEach [] X.env) : PE X (.Call (.Name "len" p) [.Call (.Name "set" p2) [e] [] q] [] pos) (LE X.K fa C (eF fLenSet (aCons te aNil))) := by
  refine ⟨fun pins s σ H Q I ⟨ρ, M, α, P, er, sr, h, an⟩ => ?_⟩
  refine Call_ (ld_blt I hg hm PySem.boot_len ?_)
  refine PyProof.Rows.callWith_builtin1 (PyProof.Rows.args_cons ?_ rfl) rfl rfl
  refine Call_ (ld_blt I hg2 hm2 PyProof.Rows.boot_set ?_)
  refine PyProof.Rows.callWith_type1 (PyProof.Rows.args_cons (thn (ha.run pins s σ H (fun v H' => ∃ (d : D) (α' : List Addr) (M' : Mem), Ext X.K H H' α α' ∧ StR X.K fa α' H' M' ∧ Rp X.K fa α' H' v d ∧ _) I ⟨ρ, M, α, _, er, sr, h, fun v d H' α' M' e s r p => ⟨d, α', M', e, s, r, p⟩⟩) fun v s1 ⟨x, H1, I1, r1, d, α1, M1, e1, sr1, rd, q1⟩ => PyProof.Rows.args_nil ?_) na) na rfl
  have q1 : fLenSet [d] M1 P := q1
  unfold fLenSet at q1
  dsimp only at q1
  split at q1
  · rename_i xs hxs
    split at q1
    · rename_i ns hns
      obtain ⟨hl, q1⟩ := q1
      obtain ⟨a, vs, its, rfl, hv, rs, hz, ho, _⟩ := seq_heap I1 sr1 rd hxs
      cases r1
      have exs := intsOf_eq hns
      subst exs
      have evs : vs = ns.map V.int := ints_vs rs
      subst evs
      have hi : IntsAre its ns := ints_of_vals hv
      have hle : its.length = ns.length := by rw [← hv.length, List.length_map]
      have fin : ∀ (h' : Heap) (tk : Nat) (o : Obj) (es : Array (Int × Value)) (ep : Nat) (t : SetTable), h'.get? s1.heap.objs.size = some o → o.ExactSet → o.data = .set es ep t → t.fits es.size = true → es.size = (ddl ns).length → (∀ b o, s1.heap.get? b = some o → h'.get? b = some o) →
          wpAny (model X.prog X.w) X.A (call (.builtin "len") [.ref s1.heap.objs.size]) (EP X pins σ Q) X.xe { s1 with heap := h', toks := tk } := fun h' tk o es ep t ho hex hd hf hn hk => by
        have I2 : Inv X pins σ H1 { s1 with heap := h', toks := tk } := I1.kept hk
        have hln : (ddl ns).length ≤ 1000 := by
          have : (ddl ns).length ≤ ns.length := by
            clear q1 rs hz hv hns hxs hl hi hle hn
            induction ns with
            | nil => exact Nat.le_refl _
            | cons n ns ih =>
              unfold ddl
              split
              · rw [List.length_cons]; omega
              · rw [List.length_cons, List.length_cons]; omega
          omega
        refine call_len_set ho hex hd hf (by rw [hn]; omega) ⟨.int (ddl ns).length, H1, I2.tok _, ⟨_, by rw [hn]⟩, (an.ext e1).here sr1 (.int _) q1⟩
      rcases ho with pl | pt
      · refine call_set_list (I1.ok.hd hc) pl.isList (ns := ns) (by simpa using hi) (by rw [List.size_toArray]; unfold scanBound; omega) fun h' tk hS hk => ?_
        have hsz : its.toArray.size = ns.length := by rw [List.size_toArray]; exact hle
        rw [hsz, first_ddl] at hS
        refine PyProof.Rows.args_nil ?_
        obtain ⟨o, es, ep, t, ho, hex, hd, _, _, _, hf, hn⟩ := hS
        exact fin h' tk o es ep t ho hex hd hf hn fun b o e => hk b o (Heap.lt_size e) e
      · refine call_set_tupI ns (I1.ok.hd hc) (show s1.heap.IsTuple a its.toArray from pt) (by simpa using hi) (by unfold scanBound; omega) fun h' tk c hS hc' hk => ?_
        refine PyProof.Rows.args_nil ?_
        obtain ⟨o, es, ep, t, ho, hex, hd, _, hnd, hmem, hlt, hf, hn, _⟩ := hS
        refine fin h' tk o es ep t ho hex hd hf ?_ hk
        have z := ddl_len (l := ns) hnd fun y => by
          have := hmem y
          rw [decide_eq_true_eq] at this
          exact this.symm
        rw [List.length_map, Array.length_toList] at z
        exact z
    · exact q1.elim
  · exact q1.elim
end
section
variable {G : Glb} (p : Comp G) (c : Cp)
def stepRev (e st : Expr) (p3 pos : Pos) : Option (CE G c (.Subscript e (.Slice none none (some st) p3) pos)) := match st with
  | .UnaryOp .USub (.Constant (.int i) k p1) p2 => if hi : i = 1 then (p.E c e).map fun te => ⟨eRev te.1, fun X fa C h => by
      subst hi
      exact d_rev (te.2 X fa C h)⟩ else none
  | _ => none
def stepLenSet (f : Str) (pf : Pos) (g : Str) (pg : Pos) (a : Expr) (q pos : Pos) : Option (CE G c (.Call (.Name f pf) [.Call (.Name g pg) [a] [] q] [] pos)) :=
  if hb : (bi G c f "len" = true ∧ bi G c g "set" = true ∧ c.hot = false) ∧ notStar a = true then (p.E c a).map fun ta => ⟨eF fLenSet (aCons ta.1 aNil), fun X fa C h => by
      obtain ⟨e, k⟩ := bi_ok hb.1.1
      subst e
      obtain ⟨e, k'⟩ := bi_ok hb.1.2.1
      subst e
      exact d_lenSet (h.calm hb.1.2.2) (k h).1 (k h).2 (k' h).1 (k' h).2 (ta.2 X fa C h) (star_ok hb.2)⟩
  else none
def stepE7 (e : Expr) : Option (CE G c e) := match e with
  | .Subscript e (.Slice none none (some st) p3) pos => (match stepRev p c e st p3 pos with
    | some t => some t
    | none => stepE6 p c (.Subscript e (.Slice none none (some st) p3) pos))
  | .Call (.Name f pf) [.Call (.Name g pg) [a] [] q] [] pos => (match stepLenSet p c f pf g pg a q pos with
    | some t => some t
    | none => stepE6 p c (.Call (.Name f pf) [.Call (.Name g pg) [a] [] q] [] pos))
  | e => stepE6 p c e
end
end DL

/-! The data layer, the knot: the compiler's recursion, a whole program's meaning, the head. -/
namespace DL
open PySem PySem.Spec PyProof.Rows L2

def comp (G : Glb) : Nat → Comp G
  | 0 => ⟨fun _ _ => none, fun _ _ => none, fun _ _ _ => none, fun _ _ _ => none, fun _ _ => none, fun _ _ => none, fun _ _ _ => none, fun _ _ => none, fun _ _ => none, fun _ _ => none, fun _ _ => none, fun _ _ => none⟩
  | n + 1 => ⟨stepE7 (comp G n), stepT (comp G n), stepW (comp G n), stepV (comp G n), stepA (comp G n), stepL (comp G n), stepI2 (comp G n), stepO (comp G n), stepG (comp G n), stepGs (comp G n), stepS2 (comp G n), stepSs (comp G n)⟩

structure Fn where
  np : Nat
  nl : Nat
  code : DS
/-- what the i-th def means, calls going at most n deep; behind the defs stand those that are called while an exception is handled -/
def sem (T : List Fn) : Nat → Nat → DSp
  | 0, _ => fun _ _ _ _ => False
  | n + 1, i => fun ex ds M P => match T[i]? with
    | some f => ds.length = f.np ∧ f.code ⟨sem T n, fun _ => ex⟩ ⟨fun _ M' => P .non M', P, fun _ _ => False, fun _ _ => False⟩ (ds.map some ++ List.replicate (f.nl - ds.length) none) M
    | none => False
/-- one def: its names, its text -/
structure Df where
  x : Str
  ps : List Str
  N : List Str
  params : Arguments
  body : List Stmt
  scope : Scope
  lam : Bool
def cOf (d : Df) : Cp := ⟨d.N, d.scope, fun _ => true, d.lam, false, none⟩
def cOfH (d : Df) : Cp := ⟨d.N, d.scope, fun _ => true, false, true, none⟩
theorem code_of {G : Glb} {c : Cp} {ss : List Stmt} {t : DS} {n : Nat} (h : ((comp G n).Ss c ss).map (fun z => z.1) = some t) (X : Cx) (fa : Org) (C : Ctx) (hy : HyS G c X fa C) : PSs X ss (LS X.K fa C t) := by
  obtain ⟨z, _, e⟩ := Option.map_eq_some_iff.mp h
  subst e
  exact z.2 X fa C hy
theorem code_ok {G : Glb} {d : Df} {t : DS} {n : Nat} (h : ((comp G n).Ss (cOf d) d.body).map (fun z => z.1) = some t) (X : Cx) (fa : Org) (C : Ctx) (hy : HyS G (cOf d) X fa C) : PSs X d.body (LS X.K fa C t) := code_of h X fa C hy
/-- the i-th def of the text and its meaning -/
structure DfOk (G : Glb) (d : Df) (f : Fn) : Prop where
  np : f.np = d.ps.length
  nl : f.nl = d.N.length
  sc : FnScope d.N d.ps d.scope
  code : ∀ (X : Cx) (fa : Org) (C : Ctx), HyS G (cOf d) X fa C → PSs X d.body (LS X.K fa C f.code)
  bind : ∀ (kV doc pm : Value) (an : Option Addr) (cdv ct : Value) (us : List Value), us.length = d.ps.length → bindArgs (PySem.W.fnOf d.x d.x d.params d.body d.scope .none kV doc pm an cdv ct) ⟨us, []⟩ = pure (d.ps.zip us)
/-- its meaning while an exception is handled -/
structure DfHot (G : Glb) (d : Df) (f : Fn) : Prop where
  np : f.np = d.ps.length
  nl : f.nl = d.N.length
  code : ∀ (X : Cx) (fa : Org) (C : Ctx), HyS G (cOfH d) X fa C → PSs X d.body (LS X.K fa C f.code)

/-! ### __init__ of an own class of exceptions -/
/-- its text: x the class, fs what it stores -/
structure Ci where
  x : Str
  fs : List Str
  params : Arguments
  body : List Stmt
  scope : Scope
def iniS (s : Stmt) : Stmt := match s with
  | .ClassDef _ _ _ body _ _ _ _ _ _ _ => (body.find? fun
    | .FunctionDef .. => true
    | _ => false).getD (.Pass ⟨0, 0, 0, 0⟩)
  | _ => .Pass ⟨0, 0, 0, 0⟩
def iniB : List Str → List Stmt → Bool
  | [], [] => true
  | f :: fs, .Assign [.Attribute (.Name s _) g _] (.Name y _) _ :: ss => decide (s = ("self" : Str)) && (decide (g = f) && (decide (y = f) && (decide (plainName f = true) && iniB fs ss)))
  | _, _ => false
abbrev sf : Str := "self"
structure CiOk (d : Ci) : Prop where
  sc : FnScope (sf :: d.fs) (sf :: d.fs) d.scope
  vis : ((sf :: d.fs).all fun y => visB d.scope y) = true
  body : iniB d.fs d.body = true
  few : d.fs.length < 100
  bind : ∀ (kV doc pm : Value) (an : Option Addr) (cdv ct : Value) (us : List Value), us.length = d.fs.length + 1 → bindArgs (PySem.W.fnOf "__init__" (d.x ++ ".__init__") d.params d.body d.scope .none kV doc pm an cdv ct) ⟨us, []⟩ = pure ((sf :: d.fs).zip us)
/-- the reading of such a body -/
def tIni (K : PySem.W.Frag) : Nat → List Str → TS
  | _, [] => tNext
  | i, f :: fs => tSeq (tOst K f (tVar 0) (tVar i)) (tIni K (i + 1) fs)
theorem visX {X : Cx} {y : Str} (h : visB X.env.scope y = true) : Vis X.env.scope y := by
  unfold visB at h
  split at h
  · exact .inl (by assumption)
  · exact .inr (.inl (by assumption))
  · exact .inr (.inr (by assumption))
  · cases h
theorem ini_ps {X : Cx} (h0 : X.N[0]? = some ("self" : Str)) (v0 : Vis X.env.scope "self") : ∀ (fs : List Str) (ss : List Stmt) (i : Nat), iniB fs ss = true → (∀ (k : Nat) (f : Str), fs[k]? = some f → X.N[i + k]? = some f ∧ Vis X.env.scope f) → PSs X ss (tIni X.K i fs)
  | [], [], i, _, _ => pss_nil
  | [], s :: ss, i, h, _ => by cases h
  | f :: fs, ss, i, h, hv => by
    unfold iniB at h
    split at h
    · cases ‹f :: fs = []›
    · rename_i f' fs' s p1 g p2 y p3 p4 ss' e
      cases e
      simp only [Bool.and_eq_true, decide_eq_true_eq] at h
      obtain ⟨rfl, rfl, rfl, hp, h⟩ := h
      obtain ⟨n1, n2⟩ := hv 0 _ rfl
      exact pss_cons (ps_ost (pe_var h0 v0 (by decide) (by decide)) (pe_var n1 n2 (pn_ok hp).1 (pn_ok hp).2.1)) (ini_ps h0 v0 fs ss' (i + 1) h fun k f hf => by
        have z := hv (k + 1) f (by rw [List.getElem?_cons_succ]; exact hf)
        rw [show i + 1 + k = i + (k + 1) by omega]
        exact z)
    · cases h
theorem ini_old {K : PySem.W.Frag} {a C dx : Addr} (T : OexC K C) {D : Ends} {σ : L2.St} (hs : σ[0]? = some (some (.ref a))) : ∀ (fs : List Str) (ys : List V) (i : Nat) (acc : List (Str × V)) (H : Hp), (∀ f ∈ fs, PySem.W.findIn K (.ref C) f = some none) → fs.length = ys.length →
    (∀ (k : Nat) (y : V), ys[k]? = some y → σ[i + k]? = some (some y)) → H a = some (exo a C (some dx)) → H dx = some (exd dx acc) → dx ≠ a → acc.length + fs.length ≤ 900 → D.nx σ (upd H dx (exd dx ((fs.zip ys).reverse ++ acc))) → tIni K i fs D σ H
  | [], [], i, acc, H, _, _, _, _, hd, _, _, h => by
    have e : upd H dx (exd dx acc) = H := by
      funext b
      by_cases hb : b = dx
      · rw [hb, upd_same, hd]
      · rw [upd_ne hb]
    have h : D.nx σ (upd H dx (exd dx acc)) := h
    rw [e] at h
    exact h
  | [], _ :: _, _, _, _, _, hl, _, _, _, _, _, _ => by cases hl
  | _ :: _, [], _, _, _, _, hl, _, _, _, _, _, _ => by cases hl
  | f :: fs, y :: ys, i, acc, H, hno, hl, hy, ha, hd, ne, hn, h => by
    refine ⟨y, hy 0 y rfl, .ref a, hs, a, C, rfl, T, hno f List.mem_cons_self, .inr ⟨dx, acc, ha, hd, by simp at hn; omega, ?_⟩⟩
    refine ini_old T hs fs ys (i + 1) ((f, y) :: acc) _ (fun g hg => hno g (List.mem_cons_of_mem _ hg)) (by simpa using hl) (fun k z hz => ?_) (by rw [upd_ne (Ne.symm ne)]; exact ha) upd_same ne (by simp at hn ⊢; omega) ?_
    · rw [show i + 1 + k = i + (k + 1) by omega]
      exact hy (k + 1) z (by rw [List.getElem?_cons_succ]; exact hz)
    · rw [upd_upd]
      rw [List.zip_cons_cons, List.reverse_cons, List.append_assoc] at h
      exact h
theorem zip_rev {α β : Type} : ∀ {l : List α} {m : List β}, l.length = m.length → (l.zip m).reverse = l.reverse.zip m.reverse
  | [], [], _ => rfl
  | [], _ :: _, h => by cases h
  | _ :: _, [], h => by cases h
  | a :: l, b :: m, h => by
    have h : l.length = m.length := by simpa using h
    rw [List.zip_cons_cons, List.reverse_cons, List.reverse_cons, List.reverse_cons, zip_rev h, List.zip_append (by simpa using h)]
    rfl
theorem ini_new {K : PySem.W.Frag} {a C : Addr} (T : OexC K C) {D : Ends} {σ : L2.St} (hs : σ[0]? = some (some (.ref a))) {fs : List Str} {ys : List V} {H : Hp} (hz : fs ≠ []) (hn : fs.length < 100) (hno : ∀ f ∈ fs, PySem.W.findIn K (.ref C) f = some none) (hl : fs.length = ys.length)
    (hy : ∀ (k : Nat) (y : V), ys[k]? = some y → σ[1 + k]? = some (some y)) (ha : H a = some (exo a C none)) (h : ∀ dx, H dx = none → dx ≠ a → D.nx σ (upd (upd H dx (exd dx (fs.reverse.zip ys.reverse))) a (exo a C (some dx)))) : tIni K 1 fs D σ H := by
  match fs, ys, hz, hl with
  | f :: fs, y :: ys, _, hl =>
    refine ⟨y, hy 0 y rfl, .ref a, hs, a, C, rfl, T, hno f List.mem_cons_self, .inl ⟨ha, fun dx hd ne => ?_⟩⟩
    refine ini_old T hs fs ys 2 [(f, y)] _ (fun g hg => hno g (List.mem_cons_of_mem _ hg)) (by simpa using hl) (fun k z hz => ?_) upd_same (by rw [upd_ne ne, upd_same]) ne (by simp at hn ⊢; omega) ?_
    · rw [show 2 + k = 1 + (k + 1) by omega]
      exact hy (k + 1) z (by rw [List.getElem?_cons_succ]; exact hz)
    · have z := h dx hd ne
      rw [← zip_rev hl, List.zip_cons_cons, List.reverse_cons] at z
      have e : upd (upd (upd H dx (exd dx [(f, y)])) a (exo a C (some dx))) dx (exd dx ((fs.zip ys).reverse ++ [(f, y)])) = upd (upd H dx (exd dx ((fs.zip ys).reverse ++ [(f, y)]))) a (exo a C (some dx)) := by
        funext b
        by_cases h1 : b = dx
        · subst h1
          rw [upd_same, upd_ne ne, upd_same]
        · rw [upd_ne h1]
          by_cases h2 : b = a
          · subst h2
            rw [upd_same, upd_same]
          · rw [upd_ne h2, upd_ne h1, upd_ne h2, upd_ne h1]
      rw [e]
      exact z
section
variable {P : Program} {w : World} {K : PySem.W.Frag} {mg : Str → Option Value} {base : Heap} {fa : Org} {G : Glb} {T : List Fn}
theorem env_start {α : List Addr} {H : Hp} {N : List Str} {vs : List V} {ds : List D} (hx : fa.exs = []) (r : Rps K fa α H vs ds) : EnvR K fa α H (L2.start N vs) (ds.map some ++ List.replicate (N.length - ds.length) none) := by
  have hl := r.length
  refine ⟨by simp [L2.start, hl], fun i d q => ?_, fun q hq => by rw [hx] at hq; cases hq⟩
  by_cases hi : i < ds.length
  · rw [List.getElem?_append_left (by simpa using hi), List.getElem?_map] at q
    obtain ⟨d', e1, e2⟩ := Option.map_eq_some_iff.mp q
    cases e2
    obtain ⟨v, e, r1⟩ := r.get e1
    refine ⟨v, ?_, r1⟩
    show (vs.map some ++ _)[i]? = _
    rw [List.getElem?_append_left (by simpa [hl] using hi), List.getElem?_map, e]
    rfl
  · rw [List.getElem?_append_right (by simpa using hi)] at q
    have := List.mem_of_getElem? q
    have := List.eq_of_mem_replicate this
    cases this
theorem fn_at {x qual : Str} {params : Arguments} {body : List Stmt} {scope : Scope} {f : Addr} {fd : FuncData} (F : FunD K x qual params body scope [] [] f fd) : ∃ oc od osl, K.lookup f = some ⟨oc, od, .func fd, osl⟩ := by
  obtain ⟨oc, od, dV, kV, doc, pm, an, cdv, ct, osl, _, lk, _⟩ := F.ex
  exact ⟨oc, od, osl, lk⟩
/-- what the fragment says of a class of exceptions -/
structure ClK (G : Glb) (K : PySem.W.Frag) (fa : Org) (j : Nat) (cl : Cl) : Prop where
  clf : ClF G K fa j cl.fs
  oex : OexC K (fa.cls j)
  ini : ∃ (fI : Addr) (fd : FuncData) (d : Ci), PySem.W.findIn K (.ref (fa.cls j)) "__init__" = some (some (.ref fI)) ∧ PySem.W.typeIn K (.ref fI) = some (.type "function") ∧ d.fs = cl.fs ∧ CiOk d ∧ FunD K "__init__" (d.x ++ ".__init__") d.params d.body d.scope [] [] fI fd
/-- the module's other facts -/
structure Mg (G : Glb) (K : PySem.W.Frag) (mg : Str → Option Value) (fa : Org) : Prop where
  free : ∀ x ∈ G.free, mg x = none
  bfn : ∀ p ∈ G.bfn, mg p.1 = some (.builtin p.2)
  nums : ∀ p ∈ G.nums, ∃ t, mg p.1 = some (.int p.2 t)
  btys : ∀ p ∈ G.btys, mg p.1 = some (.type p.2)
  tups : ∀ p ∈ G.tups, ∃ a, mg p.1 = some (.ref a) ∧ ∀ (fb : Org) α H, Rp K fb α H (.ref a) (.kup p.2)
  cls : ∀ (j : Nat) (cl : Cl), G.cls[j]? = some cl → mg cl.x = some (.ref (fa.cls j))
  clk : ∀ (j : Nat) (cl : Cl), G.cls[j]? = some cl → cl.fs ≠ [] → ClK G K fa j cl
/-- a def that makes lambdas: its code object, its table -/
def LamF (mg : Str → Option Value) (base : Heap) (fa : Org) (d : Df) (fd : FuncData) : Prop := ∃ cc P, fd.code = .ref cc ∧ LamX.TabB base mg cc P ∧ (P, (d.x ++ ".<locals>.") ++ "<lambda>") ∈ fa.tabs ∧ ∀ p ∈ fa.tabs, p.1 = P → p.2 = (d.x ++ ".<locals>.") ++ "<lambda>"
theorem okC {x qual : Str} {params : Arguments} {body : List Stmt} {scope : Scope} {f : Addr} {fd : FuncData} {CX : CXT} {N ps : List Str} {k : Nat} {sp : Sp} (F : FunD K x qual params body scope [] [] f fd) (S : FnScope N ps scope) (len : ∀ vs H Q E, sp vs H Q E → vs.length = ps.length)
    (go : ∀ (A : Around) (outer : List PySem.Env) (s : Shared) (H : Hp) (vs : List V) (Q : VK) (E : XK), Room k (A.deeper (envOfC qual scope s.heap.objs.size f fd.code)) → sp vs H Q E →
      ∃ t, PSs (cxOf CX P w K mg base N qual scope f fd.code A outer s H E) body t ∧ t { nx := fun _ H' => Q .non H', rt := Q } (start N vs) H) : FnOk P w K mg base CX (k + 1) f fd ps sp := by
  obtain ⟨o1, o2, v1, v2, v3, v4, an1, cv, ctv, sl1, e, lk1, hc1, _⟩ := F.ex
  subst e
  exact fn_of lk1 hc1 S len fun A outer s H vs Q E hr hs => go A outer s H vs Q E hr hs
/-- __init__ keeps its promise -/
theorem ini_ok {CX : CXT} {C fI : Addr} {fd : FuncData} {d : Ci} (k : CiOk d) (F : FunD K "__init__" (d.x ++ ".__init__") d.params d.body d.scope [] [] fI fd) (T : OexC K C) (hz : d.fs ≠ []) (hno : ∀ f ∈ d.fs, PySem.W.findIn K (.ref C) f = some none) :
    FnOk P w K mg base CX 1 fI fd (sf :: d.fs) (ISp C d.fs) := by
  refine okC (k := 0) F k.sc (fun vs H Q E ⟨a, ys, e, hl, _⟩ => by rw [e, List.length_cons, List.length_cons, hl]) fun A outer s H vs Q E hr ⟨a, ys, e, hl, ha, hq⟩ => ?_
  subst e
  have vis : ∀ y ∈ (sf :: d.fs), Vis d.scope y := fun y hy => by
    have z := List.all_eq_true.mp k.vis y hy
    unfold visB at z
    split at z
    · exact .inl (by assumption)
    · exact .inr (.inl (by assumption))
    · exact .inr (.inr (by assumption))
    · cases z
  refine ⟨_, ini_ps (X := cxOf CX P w K mg base (sf :: d.fs) (d.x ++ ".__init__") d.scope fI fd.code A outer s H E) rfl (vis _ List.mem_cons_self) d.fs d.body 1 k.body (fun j f hf => ⟨?_, vis _ (List.mem_cons_of_mem _ (List.mem_of_getElem? hf))⟩), ?_⟩
  · show (sf :: d.fs)[1 + j]? = some f
    rw [show 1 + j = j + 1 by omega, List.getElem?_cons_succ]
    exact hf
  · have hlen : (V.ref a :: ys).length = (sf :: d.fs).length := by rw [List.length_cons, List.length_cons, hl]
    have st : ∀ (i : Nat) (v : V), (V.ref a :: ys)[i]? = some v → (L2.start (sf :: d.fs) (.ref a :: ys))[i]? = some (some v) := fun i v hv => by
      show ((V.ref a :: ys).map some ++ _)[i]? = _
      have hi := (List.getElem?_eq_some_iff.mp hv).1
      rw [List.getElem?_append_left (by simpa using hi), List.getElem?_map, hv]
      rfl
    exact ini_new T (st 0 _ rfl) hz k.few hno hl.symm (fun j y hy => by rw [show 1 + j = j + 1 by omega]; exact st (j + 1) y (by rw [List.getElem?_cons_succ]; exact hy)) ha fun dx h1 h2 => hq dx h1 h2
theorem cl_re {fb : Org} {j : Nat} {fs : List Str} (e : fb.cls = fa.cls ∧ fb.flds = fa.flds) (z : ClF G K fa j fs) : ClF G K fb j fs := by
  obtain ⟨e1, e2⟩ := e
  exact ⟨e1 ▸ z.is, e1 ▸ z.xf, e1 ▸ z.no, e2 ▸ z.flds, e1 ▸ z.exm, e1 ▸ z.kit⟩
theorem mg_ini {CX : CXT} (hm : Mg G K mg fa) (j : Nat) (cl : Cl) (hj : G.cls[j]? = some cl) (hz : cl.fs ≠ []) : ∃ (fd : FuncData) (fI : Addr) (ps : List Str), OexC K (fa.cls j) ∧ PySem.W.findIn K (.ref (fa.cls j)) "__init__" = some (some (.ref fI)) ∧ PySem.W.typeIn K (.ref fI) = some (.type "function") ∧
    FnOk P w K mg base CX 1 fI fd ps (ISp (fa.cls j) cl.fs) ∧ Binds K fd ps [] := by
  obtain ⟨z1, z2, fI, fd, d, i1, i2, i3, i4, i5⟩ := hm.clk j cl hj hz
  rw [← i3]
  exact ⟨fd, fI, sf :: d.fs, z2, i1, i2, ini_ok i4 i5 z2 (by rw [i3]; exact hz) (by rw [i3]; exact z1.no), i5.bindsN i4.bind⟩
/-- what is known of the defs -/
def Defs (G : Glb) (K : PySem.W.Frag) (mg : Str → Option Value) (base : Heap) (fa : Org) (T : List Fn) : Prop := (∀ (i : Nat) (x : Str) (ps : List Str), G.fns[i]? = some (x, ps) → mg x = some (.ref (fa.fn i)) ∧ ∃ (d : Df) (f : Fn) (fd : FuncData), d.ps = ps ∧ T[i]? = some f ∧ DfOk G d f ∧ FunD K d.x d.x d.params d.body d.scope [] [] (fa.fn i) fd ∧ (d.lam = true → LamF mg base fa d fd) ∧
  ∀ j : Nat, G.hot[j]? = some i → ∃ g : Fn, T[G.fns.length + j]? = some g ∧ DfHot G d g)
theorem sem_go {n i : Nat} {f : Fn} {ex : XP} {ds : List D} {M : Mem} {P : Po} (hT : T[i]? = some f) (h : sem T (n + 1) i ex ds M P) : ds.length = f.np ∧ f.code ⟨sem T n, fun _ => ex⟩ ⟨fun _ M' => P .non M', P, fun _ _ => False, fun _ _ => False⟩ (ds.map some ++ List.replicate (f.nl - ds.length) none) M := by
  unfold sem at h
  rw [hT] at h
  exact h
theorem sem_ok (hm : Mg G K mg fa) (hx : fa.exs = []) (hd : Defs G K mg base fa T) :
    ∀ n : Nat, (∀ (i : Nat) (x : Str) (ps : List Str), G.fns[i]? = some (x, ps) → ∃ fd, (∃ oc od osl, K.lookup (fa.fn i) = some ⟨oc, od, .func fd, osl⟩) ∧ FnOk P w K mg base (L2.CX P w) (n + 3) (fa.fn i) fd ps (LSp K fa (sem T n i)) ∧ Binds K fd ps []) ∧
      (∀ (j i : Nat) (x : Str) (ps : List Str), G.hot[j]? = some i → G.fns[i]? = some (x, ps) → ∃ fd, FnG P w K mg base (L2.CX P w) n (fa.fn i) fd ps (LSp K fa (sem T n (G.fns.length + j))) ∧ Binds K fd ps [])
  | 0 => by
    refine ⟨fun i x ps hi => ?_, fun j i x ps hj hi => ?_⟩
    · obtain ⟨_, d, f, fd, e, hT, ok, F, lf, _⟩ := hd i x ps hi
      subst e
      exact ⟨fd, fn_at F, ⟨fun vs H Q E ⟨_, _, _, _, _, _, _, h, _⟩ => h.elim, fun A outer s H args us vs Q E _ _ _ _ ⟨_, _, _, _, _, _, _, h, _⟩ => h.elim⟩, F.bindsN ok.bind⟩
    · obtain ⟨_, d, f, fd, e, hT, ok, F, lf, _⟩ := hd i x ps hi
      subst e
      exact ⟨fd, ⟨fun vs H Q E ⟨_, _, _, _, _, _, _, h, _⟩ => h.elim, fun A outer s H args us vs Q E _ _ _ _ ⟨_, _, _, _, _, _, _, h, _⟩ => h.elim⟩, F.bindsN ok.bind⟩
  | n + 1 => by
    obtain ⟨ihn, ihh⟩ := sem_ok hm hx hd n
    have mo : ∀ (X : Cx) (hot : Bool) (H : Hp) (α : List Addr), X.K = K → X.mg = mg → X.prog = P → X.w = w → X.base = base → X.A.units + 65 < cLine → (hot = false → Room (n + 3) X.A) → L2H.RoomH n X.A → Mo G hot X { fa with H0 := H, α0 := α } (sem T n) := fun X hot H α eK em eP ew eb hu hr hrh => by
      subst eK em eP ew eb
      refine ⟨hu, hm.free, hm.bfn, hm.nums, hm.btys, fun p hp => ?_, fun j y qs hj => ?_, fun hh j y qs hj => ?_, fun k j y qs hk hj => ?_, fun j cl hj => hm.cls j cl hj, fun j cl hj hz => cl_re (fa := fa) ⟨rfl, rfl⟩ (hm.clk j cl hj hz).clf, fun hh j cl hj hz => ?_⟩
      · obtain ⟨a, e, q⟩ := hm.tups p hp
        exact ⟨a, e, fun α' H' => q _ α' H'⟩
      · obtain ⟨e, d2, f2, fd2, _, _, _, F2, _⟩ := hd j y qs hj
        exact ⟨e, F2.kp⟩
      · obtain ⟨fd', _, F', B'⟩ := ihn j y qs hj
        exact ⟨n + 3, fd', F'.imp fun vs H1 Q E ⟨ds, M, β, P, ex, r, z⟩ => ⟨ds, M, β, P, ex, Rps.org (fa := { fa with H0 := H, α0 := α }) (fb := fa) ⟨rfl, rfl, rfl⟩ r, z⟩, hr hh, B'⟩
      · obtain ⟨fd', F', B'⟩ := ihh k j y qs hk hj
        refine ⟨n, fd', ⟨fun vs H1 Q E ⟨ds, M, β, P, ex, r, z⟩ => F'.len vs H1 Q E ⟨ds, M, β, P, ex, Rps.org (fa := { fa with H0 := H, α0 := α }) (fb := fa) ⟨rfl, rfl, rfl⟩ r, z⟩, fun A outer s H1 args us vs Q E r0 e0 hb rv ⟨ds, M, β, P, ex, r, z⟩ => F'.run A outer s H1 args us vs Q E r0 e0 hb rv ⟨ds, M, β, P, ex, Rps.org (fa := { fa with H0 := H, α0 := α }) (fb := fa) ⟨rfl, rfl, rfl⟩ r, z⟩⟩, hrh, B'⟩
      · obtain ⟨fd', fI, ps', z1, z2, z3, z4, z5⟩ := mg_ini (P := X.prog) (w := X.w) (base := X.base) (CX := L2.CX X.prog X.w) hm j cl hj hz
        exact ⟨1, fd', fI, ps', z1, z2, z3, z4, (hr hh).mono (by omega), z5⟩
    refine ⟨fun i x ps hi => ?_, fun j i x ps hj hi => ?_⟩
    · obtain ⟨_, d, f, fd, e, hT, ok, F, lf, _⟩ := hd i x ps hi
      subst e
      refine ⟨fd, fn_at F, okC (k := n + 3) F ok.sc (fun vs H Q E ⟨ds, M, α, P, ex, r, s, h, _⟩ => ?_) (fun A outer s H vs Q E hr ⟨ds, M, α, Pd, ex, r, st, h, an, xa⟩ => ?_), F.bindsN ok.bind⟩
      · rw [r.length, (sem_go hT h).1, ok.np]
      · obtain ⟨_, h⟩ := sem_go hT h
        have hm1 := mo (cxOf (L2.CX P w) P w K mg base d.N d.x d.scope (fa.fn i) fd.code A outer s H E) false H α rfl rfl rfl rfl rfl (by
          have := hr.un
          show (A.deeper (envOfC d.x d.scope s.heap.objs.size (fa.fn i) fd.code)).units + 65 < cLine
          omega) (fun _ => hr) ((L2H.roomH_of hr).mono (by omega))
        refine ⟨LS K { fa with H0 := H, α0 := α } ⟨sem T n, fun _ => ex⟩ f.code, ok.code _ { fa with H0 := H, α0 := α } ⟨sem T n, fun _ => ex⟩ ?_, ?_⟩
        · refine ⟨⟨rfl, ok.sc.nd, rfl, rfl, fun _ => rfl, hm1, ⟨⟨_, takes_of rfl rfl rfl rfl, fun σ ρ β H' M' c fs us dx er sr rs hx nd hex => ?_⟩⟩, fun hl => ?_, fun _ => hx, nofun⟩, passes_of rfl, rfl, rfl⟩
          · exact xa c fs us dx H' β M' sr.org sr rs hx nd hex
          · obtain ⟨cc, Pt, l1, l2, l3, l4⟩ := lf hl
            exact ⟨⟨cc, Pt, l1, l2, l3, l4⟩, hr.mono (Nat.zero_le _)⟩
        · refine ⟨_, M, α, _, env_start (N := d.N) (fa := { fa with H0 := H, α0 := α }) hx (Rps.org (fa := fa) (fb := { fa with H0 := H, α0 := α }) ⟨rfl, rfl, rfl⟩ r), st, by rw [ok.nl] at h; exact h, ?_⟩
          exact ⟨fun σ' ρ' H' α' M' e er sr p => an .non .non H' α' M' e sr .non p, an, fun _ _ _ _ _ _ _ _ z => z.elim, fun _ _ _ _ _ _ _ _ z => z.elim⟩
    · obtain ⟨_, d, f, fd, e, _, ok, F, _, hh⟩ := hd i x ps hi
      obtain ⟨g, hT, hok⟩ := hh j hj
      subst e
      refine ⟨fd, okG (k := n) F ok.sc (fun vs H Q E ⟨ds, M, α, P, ex, r, s, h, _⟩ => ?_) (fun A outer s H vs Q E hr ⟨ds, M, α, Pd, ex, r, st, h, an, xa⟩ => ?_), F.bindsN ok.bind⟩
      · rw [r.length, (sem_go hT h).1, hok.np]
      · obtain ⟨_, h⟩ := sem_go hT h
        have hm1 := mo (cxG (L2.CX P w) P w K mg base d.N d.x d.scope (fa.fn i) fd.code A outer s H E) true H α rfl rfl rfl rfl rfl (by
          have := hr.un
          show (A.deeper (envOfC d.x d.scope s.heap.objs.size (fa.fn i) fd.code)).units + 65 < cLine
          omega) nofun hr
        refine ⟨LS K { fa with H0 := H, α0 := α } ⟨sem T n, fun _ => ex⟩ g.code, hok.code _ { fa with H0 := H, α0 := α } ⟨sem T n, fun _ => ex⟩ ?_, ?_⟩
        · refine ⟨⟨rfl, ok.sc.nd, rfl, rfl, nofun, hm1, ⟨⟨_, takes_of rfl rfl rfl rfl, fun σ ρ β H' M' c fs us dx er sr rs hx nd hex => ?_⟩⟩, nofun, fun _ => hx, nofun⟩, passes_of rfl, rfl, rfl⟩
          exact xa c fs us dx H' β M' sr.org sr rs hx nd hex
        · refine ⟨_, M, α, _, env_start (N := d.N) (fa := { fa with H0 := H, α0 := α }) hx (Rps.org (fa := fa) (fb := { fa with H0 := H, α0 := α }) ⟨rfl, rfl, rfl⟩ r), st, by rw [hok.nl] at h; exact h, ?_⟩
          exact ⟨fun σ' ρ' H' α' M' e er sr p => an .non .non H' α' M' e sr .non p, an, fun _ _ _ _ _ _ _ _ z => z.elim, fun _ _ _ _ _ _ _ _ z => z.elim⟩
end
end DL

/-! The data layer, the head: what the run of the top leaves, read off a fragment. -/
namespace DL
open PySem PySem.Spec PyProof.Rows L2

/-! ### a value as data -/
mutual
def repB (K : PySem.W.Frag) : Value → D → Bool
  | .none, .non => true
  | .bool b, .bl c => b == c
  | .int i _, .int j => decide (i = j)
  | .str s _, .str z => decide (s = z)
  | .ref a, .kup ds => (match K.lookup a with
    | some o => (match o.data with
      | .seq its _ => decide (o.cls = .type "tuple") && (decide (its.size ≤ sizeLine) && repsB K its.toList ds)
      | _ => false)
    | none => false)
  | _, _ => false
def repsB (K : PySem.W.Frag) : List Value → List D → Bool
  | [], [] => true
  | u :: us, d :: ds => repB K u d && repsB K us ds
  | _, _ => false
end
theorem both {a b : Bool} (h : (a && b) = true) : a = true ∧ b = true := by
  cases a <;> cases b <;> first | exact ⟨rfl, rfl⟩ | cases h
mutual
theorem repB_ok {K : PySem.W.Frag} : ∀ {u : Value} {d : D}, repB K u d = true → ∃ v, RelV v u ∧ ∀ fb α H, Rp K fb α H v d
  | u, .non, h => by
    cases u <;> first | exact ⟨.non, rfl, fun _ _ _ => .non⟩ | (simp [repB] at h)
  | u, .bl c, h => by
    cases u <;> first | (simp [repB] at h; done) | skip
    rename_i b
    exact ⟨.bl c, by rw [beq_iff_eq.mp (show (b == c) = true by simpa [repB] using h)]; rfl, fun _ _ _ => .bl c⟩
  | u, .int j, h => by
    cases u <;> first | (simp [repB] at h; done) | skip
    rename_i i t
    exact ⟨.int j, ⟨t, by rw [show i = j by simpa [repB] using h]⟩, fun _ _ _ => .int j⟩
  | u, .str z, h => by
    cases u <;> first | (simp [repB] at h; done) | skip
    rename_i s t
    exact ⟨.str z, ⟨t, by rw [show s = z by simpa [repB] using h]⟩, fun _ _ _ => .str z⟩
  | u, .tup ds, h => by cases u <;> simp [repB] at h
  | u, .rol ds, h => by cases u <;> simp [repB] at h
  | u, .ref n, h => by cases u <;> simp [repB] at h
  | u, .fn n, h => by cases u <;> simp [repB] at h
  | u, .kup ds, h => by
    cases u <;> first | (simp [repB] at h; done) | skip
    rename_i a
    unfold repB at h
    split at h
    · rename_i o ho
      split at h
      · rename_i its n hd
        obtain ⟨h1, h2⟩ := both h
        obtain ⟨h3, h4⟩ := both h2
        obtain ⟨vs, r, q⟩ := repsB_ok h4
        have hl : vs.length ≤ sizeLine := by
          have := r.length
          rw [this]
          simpa using of_decide_eq_true h3
        exact ⟨.ref a, rfl, fun fb α H => .kup (fun _ => .inr ⟨o, its, n, ho, of_decide_eq_true h1, hd, of_decide_eq_true h3, r⟩) hl (q fb α H)⟩
      · cases h
    · cases h
theorem repsB_ok {K : PySem.W.Frag} : ∀ {us : List Value} {ds : List D}, repsB K us ds = true → ∃ vs, Vals vs us ∧ ∀ fb α H, Rps K fb α H vs ds
  | [], [], _ => ⟨[], .nil, fun _ _ _ => .nil⟩
  | [], _ :: _, h => by simp [repsB] at h
  | _ :: _, [], h => by simp [repsB] at h
  | u :: us, d :: ds, h => by
    unfold repsB at h
    obtain ⟨h1, h2⟩ := both h
    obtain ⟨v, r, q⟩ := repB_ok h1
    obtain ⟨vs, rs, qs⟩ := repsB_ok h2
    exact ⟨v :: vs, .cons r rs, fun fb α H => .cons (q fb α H) (qs fb α H)⟩
end

/-! ### what the fragment must show -/
def ckM (G : Glb) (K : PySem.W.Frag) : Bool :=
  (G.fns.all fun p => decide (PySem.W.nsIn K mainGlobals p.1 = some (some (.ref (He.ga K p.1))))) && ((G.free.all fun x => decide (PySem.W.nsIn K mainGlobals x = some none)) && ((G.bfn.all fun p => decide (PySem.W.nsIn K mainGlobals p.1 = some (some (.builtin p.2)))) &&
  ((G.btys.all fun p => decide (PySem.W.nsIn K mainGlobals p.1 = some (some (.type p.2)))) && ((G.nums.all fun p => match PySem.W.nsIn K mainGlobals p.1 with
    | some (some (.int j _)) => decide (j = p.2)
    | _ => false) && (G.tups.all fun p => match PySem.W.nsIn K mainGlobals p.1 with
    | some (some (.ref a)) => repB K (.ref a) (.kup p.2)
    | _ => false)))))
/-- the defs that make lambdas: code object, table, the lambda's name -/
def lamT (K : PySem.W.Frag) (ds : List Df) : List (Addr × Addr × Str) := ds.filterMap fun d => if d.lam = true then (PySem.W.tabIn K d.x).map fun q => (q.1, q.2, (d.x ++ ".<locals>.") ++ "<lambda>") else none
def orgM (G : Glb) (ds : List Df) (K : PySem.W.Frag) : Org where
  fn := fun i => match G.fns[i]? with
    | some p => He.ga K p.1
    | none => 0
  cls := fun j => match G.cls[j]? with
    | some cl => He.ga K cl.x
    | none => 0
  flds := fun j => match G.cls[j]? with
    | some cl => cl.fs.reverse
    | none => []
  exs := []
  tabs := (lamT K ds).map fun t => (t.2.1, t.2.2)
  H0 := fun _ => none
  α0 := []
/-! ### classes of exceptions -/
def eqB (a b : Option Bool) : Bool := decide (a = b)
def oexB (K : PySem.W.Frag) (C : Addr) : Bool := (match K.lookup C with
  | some ⟨.type "type", _, .cls cd, sl⟩ => (match cd.mro, sl.toList with
    | .ref C' :: bm, [_, _, _, _, some (.builtin n), _] => C' == C && (n == "ValueError.__new__" && (!cd.hasDel && (cd.hasDict && PySem.HandSPX.refsVE bm)))
    | _, _ => false)
  | _ => false) && (decide (PySem.W.findIn K (.ref C) "__setattr__" = some (some (.builtin "object.__setattr__"))) && (eqB (PySem.W.subIn K (.ref C) (.type "BaseException")) (some true) && (decide (PySem.W.typeIn K (.ref C) = some (.type "type")) && PySem.W.keepIn K (.ref C))))
theorem oexB_ok {K : PySem.W.Frag} {C : Addr} (h : oexB K C = true) : OexC K C := by
  obtain ⟨h1, h⟩ := both h
  obtain ⟨h2, h⟩ := both h
  obtain ⟨h3, h⟩ := both h
  obtain ⟨h4, h5⟩ := both h
  refine ⟨?_, of_decide_eq_true h2, of_decide_eq_true h3, of_decide_eq_true h4, h5⟩
  split at h1
  · rename_i dd cd sl ho
    split at h1
    · rename_i C' bm k0 k1 k2 k3 n k5 hm hs
      simp only [Bool.and_eq_true, beq_iff_eq, Bool.not_eq_true'] at h1
      obtain ⟨e1, e2, hdel, hdict, hbm⟩ := h1
      subst e1 e2
      obtain ⟨nm, bs, mro, ns, qn, hd, sn, sub, ab, col, del⟩ := cd
      dsimp only at hm hdel hdict
      subst hm hdel hdict
      have hsl : sl = #[k0, k1, k2, k3, some (.builtin "ValueError.__new__"), k5] := by
        obtain ⟨l⟩ := sl
        simp only at hs
        rw [hs]
      subst hsl
      exact ⟨nm, qn, ns, bs, bm, sn, sub, ab, col, dd, k0, k1, k2, k3, k5, ho, hbm⟩
    · cases h1
  · cases h1
def excB (K : PySem.W.Frag) (D : Addr) : Bool := decide (PySem.W.findIn K (.ref D) "__getattribute__" = some (some (.builtin "BaseException.__getattribute__"))) && (decide (PySem.W.findIn K (.ref D) "__getattr__" = some none) && (eqB (PySem.W.subIn K (.ref D) (.type "BaseException")) (some true) && (PySem.W.hasDictIn K D &&
  (decide (PySem.W.findIn K (.ref D) "__class__" = some (some (.builtin "object.__class__"))) && (decide (PySem.W.specialIn K (.builtin "object.__class__") "__get__" = some (some (.builtin "getset_descriptor.__get__"))) && (eqB (PySem.W.takesIn K (.builtin "object.__class__")) (some true) && eqB (PySem.W.mroIn K D (.type "object")) (some true)))))))
theorem excB_ok {K : PySem.W.Frag} {D : Addr} (h : excB K D = true) : ExcC K D := by
  obtain ⟨h1, h⟩ := both h
  obtain ⟨h2, h⟩ := both h
  obtain ⟨h3, h⟩ := both h
  obtain ⟨h4, h⟩ := both h
  obtain ⟨h5, h⟩ := both h
  obtain ⟨h6, h⟩ := both h
  obtain ⟨h7, h8⟩ := both h
  exact ⟨of_decide_eq_true h1, of_decide_eq_true h2, of_decide_eq_true h3, h4, of_decide_eq_true h5, of_decide_eq_true h6, of_decide_eq_true h7, of_decide_eq_true h8⟩
/-- how two classes lie: by name -/
def relClB (G : Glb) (K : PySem.W.Frag) (j : Nat) (C : Addr) : Nat → List Cl → Bool
  | _, [] => true
  | k, c :: r => eqB (PySem.W.exmOne K (.ref C) (.ref (He.ga K c.x))) (some (supB G j k)) && (eqB (PySem.W.kitOne K (.ref C) (.ref (He.ga K c.x))) (some (supB G j k)) && relClB G K j C (k + 1) r)
theorem relClB_ok {G : Glb} {K : PySem.W.Frag} {j : Nat} {C : Addr} : ∀ {l : List Cl} {k0 : Nat}, relClB G K j C k0 l = true → ∀ (k : Nat) (c : Cl), l[k]? = some c → PySem.W.exmOne K (.ref C) (.ref (He.ga K c.x)) = some (supB G j (k0 + k)) ∧ PySem.W.kitOne K (.ref C) (.ref (He.ga K c.x)) = some (supB G j (k0 + k))
  | [], _, _, k, c, h => by simp at h
  | c0 :: r, k0, h, k, c, hk => by
    obtain ⟨h1, h⟩ := both h
    obtain ⟨h2, h3⟩ := both h
    cases k with
    | zero =>
      cases hk
      exact ⟨of_decide_eq_true h1, of_decide_eq_true h2⟩
    | succ k =>
      have z := relClB_ok h3 k c (by rw [List.getElem?_cons_succ] at hk; exact hk)
      rw [show k0 + (k + 1) = k0 + 1 + k by omega]
      exact z
def iniM (d : Ci) : He.DefD := ⟨(d.x, some "__init__"), "__init__", d.x ++ ".__init__", d.params, d.body, d.scope, [], []⟩
def clB (G : Glb) (cis : List Ci) (K : PySem.W.Frag) (j : Nat) (cl : Cl) : Bool := decide (PySem.W.nsIn K mainGlobals cl.x = some (some (.ref (He.ga K cl.x)))) && (cl.fs.isEmpty || (excB K (He.ga K cl.x) && (xfB K (He.ga K cl.x) && ((cl.fs.all fun f => decide (PySem.W.findIn K (.ref (He.ga K cl.x)) f = some none)) && (relClB G K j (He.ga K cl.x) 0 G.cls && (oexB K (He.ga K cl.x) &&
  (decide (PySem.W.findIn K (.ref (He.ga K cl.x)) "__init__" = some (some (.ref (He.fAd K (cl.x, some "__init__"))))) && (decide (PySem.W.typeIn K (.ref (He.fAd K (cl.x, some "__init__"))) = some (.type "function")) && cis.any fun d => decide (d.x = cl.x) && decide (d.fs = cl.fs)))))))))
def clsB (G : Glb) (cis : List Ci) (K : PySem.W.Frag) : Nat → List Cl → Bool
  | _, [] => true
  | j, c :: r => clB G cis K j c && clsB G cis K (j + 1) r
theorem clsB_ok {G : Glb} {cis : List Ci} {K : PySem.W.Frag} : ∀ {l : List Cl} {j0 : Nat}, clsB G cis K j0 l = true → ∀ (j : Nat) (c : Cl), l[j]? = some c → clB G cis K (j0 + j) c = true
  | [], _, _, j, c, h => by simp at h
  | c0 :: r, j0, h, j, c, hj => by
    obtain ⟨h1, h2⟩ := both h
    cases j with
    | zero => cases hj; exact h1
    | succ j =>
      have z := clsB_ok h2 j c (by rw [List.getElem?_cons_succ] at hj; exact hj)
      rw [show j0 + (j + 1) = j0 + 1 + j by omega]
      exact z
theorem clk_of {G : Glb} {ds : List Df} {cis : List Ci} {K : PySem.W.Frag} (cs : ∀ d ∈ cis, CiOk d) (hi : cis.map (fun d => He.fnW K (iniM d).at_) = cis.map fun d => (iniM d).val) (ho : (cis.all fun d => (iniM d).ok K) = true) (h : clsB G cis K 0 G.cls = true) :
    (∀ (j : Nat) (cl : Cl), G.cls[j]? = some cl → PySem.W.nsIn K mainGlobals cl.x = some (some (.ref ((orgM G ds K).cls j)))) ∧ ∀ (j : Nat) (cl : Cl), G.cls[j]? = some cl → cl.fs ≠ [] → ClK G K (orgM G ds K) j cl := by
  have ec : ∀ (j : Nat) (cl : Cl), G.cls[j]? = some cl → (orgM G ds K).cls j = He.ga K cl.x := fun j cl hj => by
    show (match G.cls[j]? with
      | some cl => He.ga K cl.x
      | none => 0) = _
    rw [hj]
  have ef : ∀ (j : Nat) (cl : Cl), G.cls[j]? = some cl → (orgM G ds K).flds j = cl.fs.reverse := fun j cl hj => by
    show (match G.cls[j]? with
      | some cl => cl.fs.reverse
      | none => []) = _
    rw [hj]
  refine ⟨fun j cl hj => ?_, fun j cl hj hz => ?_⟩
  · have z := clsB_ok h j cl hj
    rw [ec j cl hj]
    exact of_decide_eq_true (both z).1
  · have z := (both (clsB_ok h j cl hj)).2
    have hz' : cl.fs.isEmpty = false := by
      cases e : cl.fs with
      | nil => exact (hz e).elim
      | cons _ _ => rfl
    rw [hz', Bool.false_or, Nat.zero_add] at z
    obtain ⟨z1, z⟩ := both z
    obtain ⟨z2, z⟩ := both z
    obtain ⟨z3, z⟩ := both z
    obtain ⟨z4, z⟩ := both z
    obtain ⟨z5, z⟩ := both z
    obtain ⟨z6, z⟩ := both z
    obtain ⟨z7, z8⟩ := both z
    obtain ⟨d, hd, e⟩ := List.any_eq_true.mp z8
    obtain ⟨e1, e2⟩ := both e
    have e1 := of_decide_eq_true e1
    have e2 := of_decide_eq_true e2
    obtain ⟨k, hk⟩ := List.mem_iff_getElem?.mp hd
    have q : (cis.map fun d => He.fnW K (iniM d).at_)[k]? = (cis.map fun d => (iniM d).val)[k]? := by rw [hi]
    rw [List.getElem?_map, List.getElem?_map, hk] at q
    obtain ⟨fd, F⟩ := He.DefD.funD (d := iniM d) (Option.some.inj q) (List.all_eq_true.mp ho d hd)
    have F' : FunD K "__init__" (d.x ++ ".__init__") d.params d.body d.scope [] [] (He.fAd K (cl.x, some "__init__")) fd := by
      rw [← e1]
      exact F
    refine ⟨⟨?_, ?_, ?_, ef j cl hj, fun k c hk => ?_, fun k c hk => ?_⟩, ?_, He.fAd K (cl.x, some "__init__"), fd, d, ?_, of_decide_eq_true z7, e2, cs d hd, F'⟩
    · rw [ec j cl hj]; exact excB_ok z1
    · rw [ec j cl hj]; exact xfB_ok z2
    · rw [ec j cl hj]; exact fun f hf => of_decide_eq_true (List.all_eq_true.mp z3 f hf)
    · rw [ec j cl hj, ec k c hk]
      have y := (relClB_ok z4 k c hk).1
      rw [Nat.zero_add] at y
      exact y
    · rw [ec j cl hj, ec k c hk]
      have y := (relClB_ok z4 k c hk).2
      rw [Nat.zero_add] at y
      exact y
    · rw [ec j cl hj]; exact oexB_ok z5
    · rw [ec j cl hj]; exact of_decide_eq_true z6
structure Mg0 (G : Glb) (K : PySem.W.Frag) (mg : Str → Option Value) : Prop where
  free : ∀ x ∈ G.free, mg x = none
  bfn : ∀ p ∈ G.bfn, mg p.1 = some (.builtin p.2)
  nums : ∀ p ∈ G.nums, ∃ t, mg p.1 = some (.int p.2 t)
  btys : ∀ p ∈ G.btys, mg p.1 = some (.type p.2)
  tups : ∀ p ∈ G.tups, ∃ a, mg p.1 = some (.ref a) ∧ ∀ (fb : Org) α H, Rp K fb α H (.ref a) (.kup p.2)
theorem ckM_ok {G : Glb} {K : PySem.W.Frag} {h : Heap} {mg : Str → Option Value} (X : K.In h) (N : h.Ns mainGlobals mg) (c : ckM G K = true) :
    (∀ p ∈ G.fns, mg p.1 = some (.ref (He.ga K p.1))) ∧ Mg0 G K mg := by
  obtain ⟨c1, c⟩ := both c
  obtain ⟨c2, c⟩ := both c
  obtain ⟨c3, c⟩ := both c
  obtain ⟨c6, c⟩ := both c
  obtain ⟨c4, c5⟩ := both c
  refine ⟨fun p hp => PySem.W.mg_of X N (of_decide_eq_true (List.all_eq_true.mp c1 p hp)), fun x hx => PySem.W.mg_none_of X N (of_decide_eq_true (List.all_eq_true.mp c2 x hx)), fun p hp => PySem.W.mg_of X N (of_decide_eq_true (List.all_eq_true.mp c3 p hp)), fun p hp => ?_, fun p hp => PySem.W.mg_of X N (of_decide_eq_true (List.all_eq_true.mp c6 p hp)), fun p hp => ?_⟩
  · have z := List.all_eq_true.mp c4 p hp
    split at z
    · rename_i j t e
      rw [of_decide_eq_true z] at e
      exact ⟨t, PySem.W.mg_of X N e⟩
    · cases z
  · have z := List.all_eq_true.mp c5 p hp
    split at z
    · rename_i a e
      obtain ⟨v, r, q⟩ := repB_ok z
      refine ⟨a, PySem.W.mg_of X N e, fun fb α H => ?_⟩
      have r' := q fb α H
      have r2 : Rp K fb α H v (.kup p.2) := r'
      cases r2 with
      | @kup b vs _ s l rs =>
        have e2 : Value.ref a = Value.ref b := r
        cases e2
        exact r'
    · cases z

/-! ### tables -/
def tabZ (o : Option Obj) : Bool := match o with
  | some ⟨.none, none, .fields vs, sl⟩ => vs.size == 0 && sl.size == 0
  | _ => false
theorem tabZ_ok {o : Option Obj} (h : tabZ o = true) : o = some { cls := .none, data := .fields #[] } := by
  unfold tabZ at h
  split at h
  · rename_i vs sl
    obtain ⟨h1, h2⟩ := both h
    have e1 : vs = #[] := Array.size_eq_zero_iff.mp (beq_iff_eq.mp h1)
    have e2 : sl = #[] := Array.size_eq_zero_iff.mp (beq_iff_eq.mp h2)
    subst e1
    subst e2
    rfl
  · cases h
def lamOk (g : Addr → Option Obj) (ds : List Df) (K : PySem.W.Frag) : Bool := (ds.all fun d => !d.lam || match PySem.W.tabIn K d.x with
  | some q => PySem.W.codeHdIn K q.1 q.2 && (tabZ (g q.2) && (K.lookup q.2).isNone)
  | none => false) && (lamT K ds).all fun t => (lamT K ds).all fun r => !(t.2.1 == r.2.1) || decide (t.2.2 = r.2.2)
theorem tabIn_code {K : PySem.W.Frag} {x : Str} {c P : Addr} {fd : FuncData} {oc : Value} {od : Option Addr} {osl : Array (Option Value)} (h : PySem.W.tabIn K x = some (c, P)) (lk : K.lookup (He.ga K x) = some ⟨oc, od, .func fd, osl⟩) : fd.code = .ref c := by
  unfold PySem.W.tabIn at h
  split at h
  · rename_i f hf
    have e : He.ga K x = f := by
      unfold He.ga
      rw [hf]
    rw [e] at lk
    split at h
    · rename_i z1
      rw [lk] at z1
      cases z1
      split at h
      · rename_i c2 z2
        split at h
        · split at h
          · cases h
            exact z2
          · cases h
        · cases h
      · cases h
    · cases h
  · cases h
/-- what the fragment says of the defs that make lambdas -/
theorem lamT_mem {K : PySem.W.Frag} {ds : List Df} {t : Addr × Addr × Str} (h : t ∈ lamT K ds) : ∃ d ∈ ds, d.lam = true ∧ PySem.W.tabIn K d.x = some (t.1, t.2.1) ∧ t.2.2 = (d.x ++ ".<locals>.") ++ "<lambda>" := by
  unfold lamT at h
  obtain ⟨d, hd, e⟩ := List.mem_filterMap.mp h
  split at e
  · rename_i hl
    obtain ⟨q, e1, e2⟩ := Option.map_eq_some_iff.mp e
    subst e2
    exact ⟨d, hd, hl, e1, rfl⟩
  · cases e
theorem mem_lamT {K : PySem.W.Frag} {ds : List Df} {d : Df} {q : Addr × Addr} (hd : d ∈ ds) (hl : d.lam = true) (h : PySem.W.tabIn K d.x = some q) : (q.1, q.2, (d.x ++ ".<locals>.") ++ "<lambda>") ∈ lamT K ds := by
  unfold lamT
  refine List.mem_filterMap.mpr ⟨d, hd, ?_⟩
  rw [if_pos hl, h]
  rfl
section
variable {g : Addr → Option Obj} {ds : List Df} {K : PySem.W.Frag}
theorem lamOk_at (h : lamOk g ds K = true) {d : Df} (hd : d ∈ ds) (hl : d.lam = true) : ∃ q, PySem.W.tabIn K d.x = some q ∧ PySem.W.codeHdIn K q.1 q.2 = true ∧ g q.2 = some { cls := .none, data := .fields #[] } ∧ K.lookup q.2 = none := by
  have z := List.all_eq_true.mp (both h).1 d hd
  rw [hl] at z
  have z' : (match PySem.W.tabIn K d.x with
    | some q => PySem.W.codeHdIn K q.1 q.2 && (tabZ (g q.2) && (K.lookup q.2).isNone)
    | none => false) = true := z
  split at z'
  · rename_i q e
    obtain ⟨h1, h2⟩ := both z'
    obtain ⟨h3, h4⟩ := both h2
    exact ⟨q, e, h1, tabZ_ok h3, Option.isNone_iff_eq_none.mp h4⟩
  · cases z'
theorem lamOk_one (h : lamOk g ds K = true) {t r : Addr × Addr × Str} (ht : t ∈ lamT K ds) (hr : r ∈ lamT K ds) (e : t.2.1 = r.2.1) : t.2.2 = r.2.2 := by
  have z := List.all_eq_true.mp (List.all_eq_true.mp (both h).2 t ht) r hr
  rw [e] at z
  simpa using z
theorem lamOk_keeps {g' : Addr → Option Obj} (h : lamOk g ds K = true) (k : ∀ b o, g b = some o → g' b = some o) : lamOk g' ds K = true := by
  unfold lamOk
  rw [(both h).2, Bool.and_true]
  refine List.all_eq_true.mpr fun d hd => ?_
  cases hl : d.lam with
  | false => rfl
  | true =>
    obtain ⟨q, e1, e2, e3, e4⟩ := lamOk_at h hd hl
    show (match PySem.W.tabIn K d.x with
      | some q => PySem.W.codeHdIn K q.1 q.2 && (tabZ (g' q.2) && (K.lookup q.2).isNone)
      | none => false) = true
    rw [e1]
    show (PySem.W.codeHdIn K q.1 q.2 && (tabZ (g' q.2) && (K.lookup q.2).isNone)) = true
    rw [e2, e4, k _ _ e3]
    rfl
end
/-- the script known as a list of our own: read it as one that nobody writes -/
def spW (sp : Sp) : Sp := fun vs H Q E => sp vs H Q E ∨ ∃ (a : Addr) (xs : List V), vs = [.ref a] ∧ H a = some (.lst xs) ∧ ∀ o, sp vs (upd H a (.frz o (.lst xs))) Q fun _ _ _ => False
theorem FnOk.thaw {P : Program} {w : World} {K : PySem.W.Frag} {mg : Str → Option Value} {base : Heap} {k : Nat} {f : Addr} {fd : FuncData} {ps : List Str} {sp : Sp} (F : FnOk P w K mg base (L2.CX P w) k f fd ps sp) : FnOk P w K mg base (L2.CX P w) k f fd ps (spW sp) := by
  refine ⟨fun vs H Q E h => ?_, fun A outer s H args us vs Q E hr e0 hb hv h => ?_⟩
  · rcases h with h | ⟨a, xs, _, _, h⟩
    · exact F.len _ _ _ _ h
    · exact F.len _ _ _ _ (h { cls := .none, data := .plain })
  · rcases h with h | ⟨a, xs, _, ha, h⟩
    · exact F.run A outer s H args us vs Q E hr e0 hb hv h
    · have ok1 := e0.hok a _ ha
      obtain ⟨o, ho⟩ : ∃ o, s.heap.get? a = some o := by
        obtain ⟨_, _, _, _, q⟩ := ok1
        exact ⟨_, q⟩
      have ne : ∀ b, H b = none → b ≠ a := fun b n z => by rw [z, ha] at n; cases n
      have hok : HOk P w (upd H a (.frz o (.lst xs))) s.heap := e0.hok.write (x := a) (e := a) (by rw [ha]; exact True.intro) (.inl rfl) (fun _ _ _ q => q) ⟨o, ho⟩ ⟨ho, ok1⟩
      have e1 : Env0 P w K mg base A outer s (upd H a (.frz o (.lst xs))) := ⟨e0.frames, e0.mod, fun b u q => ⟨(e0.bs b u q).1, by rw [upd_ne (ne b (e0.bs b u q).2)]; exact (e0.bs b u q).2⟩, e0.bsz, e0.funs, fun b hb => by rw [upd_ne (ne b (e0.frf b hb))]; exact e0.frf b hb, hok, e0.bare⟩
      refine codeAny_mono (F.run A outer s _ args us vs Q _ hr e1 hb hv (h o)) fun r s' z => ?_
      cases r with
      | error e =>
        obtain ⟨_, _, _, _, _, _, _, _, _, _, _, _, z⟩ := z
        exact z.elim
      | ok fl =>
        cases fl with
        | next => exact False.elim z
        | brk => exact False.elim z
        | cont => exact False.elim z
        | ret u =>
          obtain ⟨v, H2, os, bare, un, hok2, rv, q⟩ := z
          have up : ∀ b, H b = none → upd H a (.frz o (.lst xs)) b = none := fun b n => by rw [upd_ne (ne b n)]; exact n
          refine ⟨v, H2, os, bare, ⟨fun b u e n h1 h2 => un.keep b u e (up b n) h1 h2, fun b u e n h1 h2 => un.slot b u e (up b n) h1 h2, fun b u e n h1 => un.free b u e (up b n) h1, un.there, fun b ys e => un.tups b ys ?_, fun b o' u e => un.frzs b o' u ?_, fun b qs e => un.tbls b qs ?_⟩, hok2, rv, q⟩
          all_goals
            rw [upd_ne]
            · exact e
            · intro z
              rw [z, ha] at e
              cases e

/-! ### the hook -/
abbrev AlM : Type := Bool × List He.FnW
def defM (d : Df) : He.DefD := ⟨(d.x, none), d.x, d.x, d.params, d.body, d.scope, [], []⟩
def obsM (G : Glb) (ds : List Df) (cis : List Ci) (g : Addr → Option Obj) (K : PySem.W.Frag) : AlM := ((ckM G K && (clsB G cis K 0 G.cls && (cis.all fun d => (iniM d).ok K))) && ((ds.all fun d => (defM d).ok K) && lamOk g ds K), (ds.map fun d => He.fnW K (d.x, none)) ++ cis.map fun d => He.fnW K (iniM d).at_)
/-- the fragment without the tables -/
def cutT (ds : List Df) (K : PySem.W.Frag) : PySem.W.Frag := K.filter fun p => (lamT K ds).all fun t => !(t.2.1 == p.1)
theorem lookup_mem {K : List (Addr × Obj)} {a : Addr} {o : Obj} (h : List.lookup a K = some o) : (a, o) ∈ K := by
  induction K with
  | nil =>
    rw [List.lookup_nil] at h
    exact (Option.some_ne_none o h.symm).elim
  | cons q r ih =>
    have e : q = (q.1, q.2) := rfl
    rw [e, List.lookup_cons] at h
    cases hb : a == q.1 with
    | true =>
      rw [hb] at h
      have h2 : q.2 = o := Option.some.inj h
      have h1 : a = q.1 := beq_iff_eq.mp hb
      rw [h1, ← h2]
      exact List.mem_cons_self
    | false =>
      rw [hb] at h
      exact List.mem_cons_of_mem _ (ih h)
theorem lookup_cut {f : Addr × Obj → Bool} {K : PySem.W.Frag} {a : Addr} {o : Obj} (h : List.lookup a (K.filter f) = some o) : (a, o) ∈ K := (List.mem_filter.mp (lookup_mem h)).1
theorem cutT_mem {ds : List Df} {K : PySem.W.Frag} {a : Addr} {o : Obj} (h : List.lookup a (cutT ds K) = some o) : (a, o) ∈ K := by
  unfold cutT at h
  exact lookup_cut h
theorem frG_mem {g : Addr → Option Obj} {a : Addr} {o : Obj} {as : List Addr} (h : (a, o) ∈ He.frG g as) : g a = some o := by
  unfold He.frG at h
  obtain ⟨b, _, e⟩ := List.mem_filterMap.mp h
  obtain ⟨o', e1, e2⟩ := Option.map_eq_some_iff.mp e
  cases e2
  exact e1
def valM (ds : List Df) (cis : List Ci) : AlM := (true, (ds.map fun d => (defM d).val) ++ cis.map fun d => (iniM d).val)
def obsG (n : Nat) (G : Glb) (ds : List Df) (cis : List Ci) (g : Addr → Option Obj) : AlM := obsM G ds cis g (cutT ds (He.frG g (He.asD g n)))
def hookM (n : Nat) (G : Glb) (ds : List Df) (cis : List Ci) : PySem.W.Hook where
  α := AlM
  obs := fun s => obsG n G ds cis s.heap.get?
  val := fun _ => valM ds cis
  says := fun _ h => ∃ K : PySem.W.Frag, K.In h ∧ obsM G ds cis h.get? K = valM ds cis
  of := fun _ s e => ⟨cutT ds (He.frG s.heap.get? (He.asD s.heap.get? n)), fun a o h => frG_mem (cutT_mem h), e⟩
  keeps := fun _ h h' ⟨K, hK, c⟩ k => ⟨K, hK.keeps k, by
    obtain ⟨c1, c2⟩ := Prod.mk.inj (show ((ckM G K && (clsB G cis K 0 G.cls && (cis.all fun d => (iniM d).ok K))) && ((ds.all fun d => (defM d).ok K) && lamOk h.get? ds K), (ds.map fun d => He.fnW K (d.x, none)) ++ cis.map fun d => He.fnW K (iniM d).at_) = (true, (ds.map fun d => (defM d).val) ++ cis.map fun d => (iniM d).val) from c)
    obtain ⟨c3, c4⟩ := both c1
    obtain ⟨c5, c6⟩ := both c4
    show ((ckM G K && (clsB G cis K 0 G.cls && (cis.all fun d => (iniM d).ok K))) && ((ds.all fun d => (defM d).ok K) && lamOk h'.get? ds K), (ds.map fun d => He.fnW K (d.x, none)) ++ cis.map fun d => He.fnW K (iniM d).at_) = (true, (ds.map fun d => (defM d).val) ++ cis.map fun d => (iniM d).val)
    rw [c2, c3, c5, lamOk_keeps c6 k]
    rfl⟩
def obM (n : Nat) (G : Glb) (ds : List Df) (cis : List Ci) (s : PySem.W.SharedT) : AlM := obsG n G ds cis (HandSHeadRun.getT s)
theorem obM_eq {n : Nat} {G : Glb} {ds : List Df} {cis : List Ci} (s : PySem.W.SharedT) : obM n G ds cis s = (hookM n G ds cis).obs s.abs := by
  have e : HandSHeadRun.getT s = s.abs.heap.get? := funext fun a => HandSHeadRun.getT_eq s a
  show obsG n G ds cis (HandSHeadRun.getT s) = obsG n G ds cis s.abs.heap.get?
  rw [e]

/-! ### the law -/
/-- all defs of the table are in order -/
structure TabOk (G : Glb) (ds : List Df) (cis : List Ci) (T : List Fn) : Prop where
  fns : G.fns = ds.map (fun d => (d.x, d.ps))
  tab : ∀ (i : Nat) (d : Df), ds[i]? = some d → ∃ f, T[i]? = some f ∧ DfOk G d f
  hot : ∀ (j i : Nat) (d : Df), G.hot[j]? = some i → ds[i]? = some d → ∃ g, T[G.fns.length + j]? = some g ∧ DfHot G d g
  ini : ∀ d ∈ cis, CiOk d
def Small (ns : List Int) : Prop := ns.length ≤ 63 ∧ ∀ z ∈ ns, Builtin.Int.intBits z ≤ 1048576
theorem law_M {P : Program} {w : World} {G : Glb} {ds : List Df} {cis : List Ci} {T : List Fn} {K : PySem.W.Frag} {h : Heap} {mg : Str → Option Value} {k i : Nat} {x : Str} {f : Addr} {d : Df} (tab : TabOk G ds cis T) (X : K.In h) (N : h.Ns mainGlobals mg) (c : obsM G ds cis h.get? K = valM ds cis)
    (hd : ds[i]? = some d) (hf : mg d.x = some (.ref f)) (hps : d.ps = [x])
    (law : ∀ ns : List Int, Small ns → sem T k i (fun _ _ _ => False) [.rol (ns.map D.int)] [] fun r _ => r = .bl true) :
    ∃ (fd : FuncData) (cs : List (Addr × Addr)) (sp : Sp), (∀ p ∈ cs, h.get? p.2 = some { cls := .none, data := .fields #[] }) ∧ (∀ p ∈ cs, K.lookup p.2 = none) ∧ (∀ p ∈ cs, PySem.W.CodeHd h p.1 p.2) ∧ (∀ (s : Shared) (u : Value), BindsTo s fd ⟨[u], []⟩ [(x, u)]) ∧
      (∀ (H : Hp) (a : Addr) (ns : List Int), Small ns → (∀ p ∈ cs, H p.2 = some (.tbl #[])) → SqL K H a (ns.map V.int) → sp [.ref a] H (fun v _ => v = .bl true) fun _ _ _ => False) ∧
      ∀ base : Heap, K.In base → base.Ns mainGlobals mg → (∀ p ∈ cs, LamX.TabB base mg p.1 p.2) → FnOk P w K mg base (L2.CX P w) (k + 3) f fd [x] sp := by
  obtain ⟨c1, c2⟩ := Prod.mk.inj (show ((ckM G K && (clsB G cis K 0 G.cls && (cis.all fun d => (iniM d).ok K))) && ((ds.all fun d => (defM d).ok K) && lamOk h.get? ds K), (ds.map fun d => He.fnW K (d.x, none)) ++ cis.map fun d => He.fnW K (iniM d).at_) = (true, (ds.map fun d => (defM d).val) ++ cis.map fun d => (iniM d).val) from c)
  obtain ⟨c2, ci2⟩ := List.append_inj c2 (by rw [List.length_map, List.length_map])
  obtain ⟨c1, c3⟩ := both c1
  obtain ⟨c1, ck1⟩ := both c1
  obtain ⟨ck1, ck2⟩ := both ck1
  obtain ⟨c3, c4⟩ := both c3
  obtain ⟨m1, m0⟩ := ckM_ok X N c1
  obtain ⟨cn, ck⟩ := clk_of (ds := ds) tab.ini ci2 ck2 ck1
  have m2 : Mg G K mg (orgM G ds K) := ⟨m0.free, m0.bfn, m0.nums, m0.btys, m0.tups, fun j cl hj => PySem.W.mg_of X N (cn j cl hj), ck⟩
  have fnd : ∀ (j : Nat) (e : Df), ds[j]? = some e → (orgM G ds K).fn j = He.ga K e.x ∧ ∃ fd, FunD K e.x e.x e.params e.body e.scope [] [] (He.ga K e.x) fd := fun j e he => by
    have q : (ds.map fun d => He.fnW K (d.x, none))[j]? = (ds.map fun d => (defM d).val)[j]? := by rw [c2]
    rw [List.getElem?_map, List.getElem?_map, he] at q
    refine ⟨?_, He.DefD.funD (d := defM e) (Option.some.inj q) (List.all_eq_true.mp c3 e (List.mem_of_getElem? he))⟩
    show (match G.fns[j]? with
      | some p => He.ga K p.1
      | none => 0) = _
    rw [tab.fns, List.getElem?_map, he]
    rfl
  have all : ∀ base : Heap, (∀ t ∈ lamT K ds, LamX.TabB base mg t.1 t.2.1) → ∀ (j : Nat) (y : Str) (ps : List Str), G.fns[j]? = some (y, ps) → mg y = some (.ref ((orgM G ds K).fn j)) ∧ ∃ (e : Df) (g : Fn) (fd : FuncData), e.ps = ps ∧ T[j]? = some g ∧ DfOk G e g ∧ FunD K e.x e.x e.params e.body e.scope [] [] ((orgM G ds K).fn j) fd ∧ (e.lam = true → LamF mg base (orgM G ds K) e fd) ∧ ∀ k : Nat, G.hot[k]? = some j → ∃ g : Fn, T[G.fns.length + k]? = some g ∧ DfHot G e g := fun base TB j y ps hj => by
    have hm := m1 _ (List.mem_of_getElem? hj)
    rw [tab.fns, List.getElem?_map] at hj
    obtain ⟨e, he, e2⟩ := Option.map_eq_some_iff.mp hj
    cases e2
    obtain ⟨g, hg, ok⟩ := tab.tab j e he
    obtain ⟨q1, fd, q2⟩ := fnd j e he
    rw [q1]
    refine ⟨hm, e, g, fd, rfl, hg, ok, q2, fun hl => ?_, fun k hk => tab.hot k j e hk he⟩
    obtain ⟨q, t1, t2, t3, t4⟩ := lamOk_at c4 (List.mem_of_getElem? he) hl
    have hmem := mem_lamT (List.mem_of_getElem? he) hl t1
    obtain ⟨oc, od, osl, lk⟩ := fn_at q2
    refine ⟨q.1, q.2, tabIn_code t1 lk, TB _ hmem, List.mem_map.mpr ⟨_, hmem, rfl⟩, fun p hp ep => ?_⟩
    obtain ⟨t, ht, e3⟩ := List.mem_map.mp hp
    subst e3
    exact lamOk_one c4 ht hmem ep
  have hi : G.fns[i]? = some (d.x, d.ps) := by rw [tab.fns, List.getElem?_map, hd]; rfl
  obtain ⟨g, hg, ok⟩ := tab.tab i d hd
  obtain ⟨q1, fd, q2⟩ := fnd i d hd
  have ef : f = He.ga K d.x := by
    have z := (m1 _ (List.mem_of_getElem? hi)).symm.trans hf
    cases z
    rfl
  subst ef
  have bd := fun s us hl => FunD.bindsA (ps := d.ps) q2 ok.bind s us hl
  have lam : ∀ t ∈ lamT K ds, PySem.W.CodeHd h t.1 t.2.1 ∧ h.get? t.2.1 = some { cls := .none, data := .fields #[] } ∧ K.lookup t.2.1 = none := fun t ht => by
    obtain ⟨e, he, hl, h1, _⟩ := lamT_mem ht
    obtain ⟨q, t1, t2, t3, t4⟩ := lamOk_at c4 he hl
    rw [h1] at t1
    cases t1
    exact ⟨PySem.W.codeHd_of_K X t2, t3, t4⟩
  have cs : ∀ p ∈ (lamT K ds).map (fun t => (t.1, t.2.1)), ∃ t ∈ lamT K ds, p = (t.1, t.2.1) := fun p hp => by
    obtain ⟨t, ht, e⟩ := List.mem_map.mp hp
    exact ⟨t, ht, e.symm⟩
  have core : ∀ (H : Hp) (a : Addr) (ns : List Int), Small ns → (∀ p ∈ (lamT K ds).map (fun t => (t.1, t.2.1)), H p.2 = some (.tbl #[])) → ((∃ o, H a = some (.frz o (.lst (ns.map V.int)))) ∨ ∀ G : Hp, SqL K G a (ns.map V.int)) → LSp K (orgM G ds K) (sem T k i) [.ref a] H (fun v _ => v = .bl true) fun _ _ _ => False := fun H a ns sm hT hS => by
    have hl : (ns.map V.int).length ≤ sizeLine := by
      have e : sizeLine = 16777216 := by decide
      rw [List.length_map, e]
      have := sm.1
      omega
    have rr : Rp K (orgM G ds K) [] H (.ref a) (.rol (ns.map D.int)) := .rol hS hl (Rps.ints ns)
    refine ⟨[.rol (ns.map D.int)], [], [], _, _, .cons rr .nil, ⟨rfl, List.nodup_nil, fun n c a e _ => by simp at e, Ext.refl, fun p hp => ?_⟩, law ns sm, fun v e H' α' M' _ _ r p => ?_, fun _ _ _ _ _ _ _ _ _ _ _ _ z => z.elim⟩
    · obtain ⟨t, ht, e3⟩ := List.mem_map.mp hp
      subst e3
      exact LamX.TabS.nil (hT (t.1, t.2.1) (List.mem_map.mpr ⟨t, ht, rfl⟩))
    · subst p
      cases r
      rfl
  refine ⟨fd, (lamT K ds).map (fun t => (t.1, t.2.1)), spW (LSp K (orgM G ds K) (sem T k i)), fun p hp => ?_, fun p hp => ?_, fun p hp => ?_, fun s u => ?_, fun H a ns sm hT sq => ?_, fun base KB NB TB => ?_⟩
  · obtain ⟨t, ht, e⟩ := cs p hp
    subst e
    exact (lam t ht).2.1
  · obtain ⟨t, ht, e⟩ := cs p hp
    subst e
    exact (lam t ht).2.2
  · obtain ⟨t, ht, e⟩ := cs p hp
    subst e
    exact (lam t ht).1
  · have z := bd s [u] (by rw [hps]; rfl)
    rw [hps] at z
    exact z
  · rcases sq with (q | q) | q
    · refine .inr ⟨a, _, rfl, q, fun o => core _ a ns sm (fun p hp => ?_) (.inl ⟨o, upd_same⟩)⟩
      have z := hT p hp
      rw [upd_ne]
      · exact z
      · intro e
        rw [e, q] at z
        cases z
    · exact .inl (core H a ns sm hT (.inl q))
    · exact .inl (core H a ns sm hT (.inr fun _ => .inr q))
  · obtain ⟨fd', at', F, _⟩ := (sem_ok (P := P) (w := w) (base := base) m2 rfl (all base fun t ht => TB (t.1, t.2.1) (List.mem_map.mpr ⟨t, ht, rfl⟩)) k).1 i d.x d.ps hi
    rw [hps, q1] at F
    obtain ⟨oc, od, osl, lk⟩ := fn_at q2
    obtain ⟨oc', od', osl', lk'⟩ := at'
    rw [q1, lk] at lk'
    cases lk'
    exact FnOk.thaw F

theorem walk_M {l : PySem.W.OpenLaw} {q : Program} {loose : List Str} {XP : (Str → Option Value) → Heap → Prop} {d : DefRec} {G : Glb} {ds : List Df} {cis : List Ci} {T : List Fn} {m k i : Nat} {x : Str} {e : Df}
    (hn : l.most = some 63) (hdf : d.params.defaults = []) (hr : Room (k + 3) callerA) (tab : TabOk G ds cis T) (he : ds[i]? = some e) (hx : e.x = d.name) (hps : e.ps = [x])
    (law : ∀ ns : List Int, Small ns → sem T k i (fun _ _ _ => False) [.rol (ns.map D.int)] [] fun r _ => r = .bl true) :
    PySem.W.WalkO q loose XP (hookM m G ds cis).says l.row.toRowW d [] fun f vs => PySem.call f vs := by
  refine Att.attach_callB hn hdf fun w s₀ s₁ mg mb fa o pm cd doc a vs ns Gr Y ho hd hcd hmg hobj hints hlen hbits hg => ?_
  obtain ⟨K, KX, c⟩ := Y
  obtain ⟨fd, cs, sp, z1, z2, z3, hb, hsp, hF⟩ := law_M (P := l.prog) (w := w) tab KX Gr.T.g c he (by rw [hx]; exact hmg) hps law
  have h63 : ns.length ≤ sizeLine := Nat.le_trans hlen (by decide)
  refine LamX.law_callTs (mb := mb) KX Gr.T.g Gr.T.b Gr.T.builtins Gr.T.nolimit hg z1 z2 z3 Gr.T.bmain hobj hints h63 hr hF hb (fun H hT sq => hsp H a ns ⟨hlen, hbits⟩ hT sq) fun H e s' z => ?_
  obtain ⟨_, _, _, _, _, _, _, _, _, _, _, _, z⟩ := z
  exact z
end DL

/-! The data layer: rules for proofs over data. -/
namespace DL
open PySem PySem.Spec PyProof.Rows L2

/-! ### loops by invariants; the continuation is any that the invariant gives -/
theorem floop_inv {g : D → Env → Mem → (Env → Mem → Prop) → Prop} {b : DEnds → Env → Mem → Prop} {E : DEnds} {grd : Mem → Prop} (I : List D → Env → Mem → Prop)
    (step : ∀ x xs ρ M, I (x :: xs) ρ M → grd M ∧ ∀ K : Env → Mem → Prop, (∀ ρ' M', I xs ρ' M' → K ρ' M') → g x ρ M fun ρ' M' => b { E with nx := K, ct := K, bk := E.nx } ρ' M')
    (fin : ∀ ρ M, I [] ρ M → grd M ∧ E.nx ρ M) : ∀ (xs : List D) (ρ : Env) (M : Mem), I xs ρ M → floop g b E grd xs ρ M
  | [], ρ, M, h => fin ρ M h
  | x :: xs, ρ, M, h => by
    obtain ⟨h1, h2⟩ := step x xs ρ M h
    exact ⟨h1, h2 _ fun ρ' M' h' => floop_inv I step fin xs ρ' M' h'⟩
theorem cloop_inv {g : D → Env → Mem → (Env → Mem → Prop) → Prop} {tt : Env → Mem → (Bool → Mem → Prop) → Prop} {e : Env → Mem → (D → Mem → Prop) → Prop} {grd : Mem → Prop} {ρ : Env} {P : List D → Mem → Prop} (I : List D → List D → Mem → Prop)
    (step : ∀ x xs acc M, I (x :: xs) acc M → grd M ∧ ∀ K : List D → Mem → Prop, (∀ acc' M', I xs acc' M' → K acc' M') → g x ρ M fun ρ2 M2 => tt ρ2 M2 fun b M3 => if b = true then e ρ2 M3 fun d M4 => K (acc ++ [d]) M4 else K acc M3)
    (fin : ∀ acc M, I [] acc M → grd M ∧ P acc M) : ∀ (xs acc : List D) (M : Mem), I xs acc M → cloop g tt e grd ρ P xs acc M
  | [], acc, M, h => fin acc M h
  | x :: xs, acc, M, h => by
    obtain ⟨h1, h2⟩ := step x xs acc M h
    exact ⟨h1, h2 (cloop g tt e grd ρ P xs) fun acc' M' h' => cloop_inv I step fin xs acc' M' h'⟩
/-- a comprehension that touches nothing: f the test, h the item -/
theorem cloop_pure {g : D → Env → Mem → (Env → Mem → Prop) → Prop} {tt : Env → Mem → (Bool → Mem → Prop) → Prop} {e : Env → Mem → (D → Mem → Prop) → Prop} {grd : Mem → Prop} {ρ : Env} {P : List D → Mem → Prop} {M : Mem} (f : D → Bool) (h : D → D) (hg : grd M) :
    ∀ (xs acc : List D), (∀ x ∈ xs, ∀ (acc : List D) (K : List D → Mem → Prop), K (if f x = true then acc ++ [h x] else acc) M → g x ρ M fun ρ2 M2 => tt ρ2 M2 fun b M3 => if b = true then e ρ2 M3 fun d M4 => K (acc ++ [d]) M4 else K acc M3) →
      P (acc ++ (xs.filter f).map h) M → cloop g tt e grd ρ P xs acc M
  | [], acc, _, p => ⟨hg, by simpa using p⟩
  | x :: xs, acc, st, p => by
    refine ⟨hg, st x List.mem_cons_self acc (cloop g tt e grd ρ P xs) (cloop_pure f h hg xs _ (fun y hy => st y (List.mem_cons_of_mem _ hy)) ?_)⟩
    by_cases hf : f x = true
    · rw [if_pos hf]
      rw [List.filter_cons_of_pos hf, List.map_cons] at p
      simpa using p
    · rw [if_neg hf]
      rw [List.filter_cons_of_neg hf] at p
      exact p
theorem wloop_inv {c : Env → Mem → (Bool → Mem → Prop) → Prop} {b : DEnds → Env → Mem → Prop} {E : DEnds} (I : Nat → Env → Mem → Prop)
    (step : ∀ n ρ M, I n ρ M → ∀ K : Env → Mem → Prop, (∀ m ρ' M', m < n → I m ρ' M' → K ρ' M') → c ρ M fun k M1 => if k = true then b { E with nx := K, ct := K, bk := E.nx } ρ M1 else E.nx ρ M1) :
    ∀ (N n : Nat) (ρ : Env) (M : Mem), n < N → I n ρ M → wloop c b E N ρ M
  | 0, _, _, _, h, _ => absurd h (Nat.not_lt_zero _)
  | N + 1, n, ρ, M, h, i => step n ρ M i (wloop c b E N) fun m ρ' M' hm i' => wloop_inv I step N m ρ' M' (by omega) i'
theorem while_inv {c : DT} {b : DS} {C : Ctx} {E : DEnds} {ρ : Env} {M : Mem} (I : Nat → Env → Mem → Prop) (n : Nat) (h : I n ρ M)
    (step : ∀ n ρ M, I n ρ M → ∀ K : Env → Mem → Prop, (∀ m ρ' M', m < n → I m ρ' M' → K ρ' M') → c C ρ M fun k M1 => if k = true then b C { E with nx := K, ct := K, bk := E.nx } ρ M1 else E.nx ρ M1) : sWhile c b C E ρ M :=
  ⟨n + 1, wloop_inv I step (n + 1) n ρ M (Nat.lt_succ_self n) h⟩

/-! ### the store -/
theorem get_set_self {M : Mem} {n : Nat} {c c' : Cell} (h : M[n]? = some c) : (M.set n c')[n]? = some c' := List.getElem?_set_self (List.getElem?_eq_some_iff.mp h).1
theorem get_set_ne {M : Mem} {n m : Nat} {c' : Cell} (h : n ≠ m) : (M.set n c')[m]? = M[m]? := List.getElem?_set_ne h
theorem get_app {M : Mem} {n : Nat} {c : Cell} {N : Mem} (h : M[n]? = some c) : (M ++ N)[n]? = some c := by
  rw [List.getElem?_append_left (List.getElem?_eq_some_iff.mp h).1]
  exact h
theorem get_new {M : Mem} {c : Cell} : (M ++ [c])[M.length]? = some c := by simp
theorem lt_of_get {M : Mem} {n : Nat} {c : Cell} (h : M[n]? = some c) : n < M.length := (List.getElem?_eq_some_iff.mp h).1
/-- all that was there stays, but the cell n -/
structure Kp (n : Nat) (M M' : Mem) : Prop where
  len : M.length ≤ M'.length
  same : ∀ m, m < M.length → m ≠ n → M'[m]? = M[m]?
theorem Kp.refl {n : Nat} {M : Mem} : Kp n M M := ⟨Nat.le_refl _, fun _ _ _ => rfl⟩
theorem Kp.trans {n : Nat} {M M' M'' : Mem} (a : Kp n M M') (b : Kp n M' M'') : Kp n M M'' := ⟨Nat.le_trans a.len b.len, fun m h1 h2 => (b.same m (Nat.lt_of_lt_of_le h1 a.len) h2).trans (a.same m h1 h2)⟩
theorem Kp.set {n : Nat} {M : Mem} {c : Cell} : Kp n M (M.set n c) := ⟨by simp, fun m _ h => List.getElem?_set_ne (Ne.symm h)⟩
theorem Kp.app {n : Nat} {M N : Mem} : Kp n M (M ++ N) := ⟨by simp, fun m h _ => by rw [List.getElem?_append_left h]⟩
theorem Kp.get {n m : Nat} {M M' : Mem} {c : Cell} (k : Kp n M M') (h : M[m]? = some c) (hn : m ≠ n) : M'[m]? = some c := (k.same m (lt_of_get h) hn).trans h
/-- a cell that is new to M is written -/
theorem Kp.wr {n m : Nat} {M M' : Mem} {c : Cell} (k : Kp n M M') (h : M.length ≤ m) : Kp n M (M'.set m c) := ⟨by simpa using k.len, fun j h1 h2 => by rw [List.getElem?_set_ne (by omega)]; exact k.same j h1 h2⟩
end DL

/-! The data layer: one rule for each step of a meaning, for proofs that go step by step. -/
namespace DL
open PySem PySem.Spec PyProof.Rows L2
namespace W
/-! what a value is taken for -/
def tobl (d : D) (k : Bool → Prop) : Prop := match d with
  | .bl b => k b
  | _ => False
def toin (d : D) (k : Int → Prop) : Prop := match d with
  | .int i => k i
  | _ => False
def topr (ds : List D) (k : D → D → Prop) : Prop := match ds with
  | [x, y] => k x y
  | _ => False
def tosq (M : Mem) (d : D) (k : List D → Prop) : Prop := match seqOf M d with
  | some xs => k xs
  | none => False
def toty (M : Mem) (T : String) (d : D) (k : Bool → Prop) : Prop := match tyOf M d with
  | some t => (match kitB t T with
    | some b => k b
    | none => False)
  | none => False
section
variable {C : Ctx} {E : DEnds} {ρ : Env} {M : Mem} {P : Po} {k : Bool → Mem → Prop} {t u : DS} {a b c e : DE} {x y : DT} {g : DG} {ga : DGs} {r : DA} {op op' : DOp} {o o' : DO}
theorem next (h : E.nx ρ M) : sNext C E ρ M := h
theorem seq (h : t C { E with nx := fun ρ' M' => u C E ρ' M' } ρ M) : sSeq t u C E ρ M := h
theorem brk (h : E.bk ρ M) : sBreak C E ρ M := h
theorem cont (h : E.ct ρ M) : sCont C E ρ M := h
theorem drop (h : e C ρ M fun _ M1 => E.nx ρ M1) : sDrop e C E ρ M := h
theorem ret (h : e C ρ M E.rt) : sRet e C E ρ M := h
theorem retN (h : E.rt .non M) : sRetN C E ρ M := h
theorem sif (h : x C ρ M fun b M1 => if b = true then t C E ρ M1 else u C E ρ M1) : sIf x t u C E ρ M := h
theorem asg (h : e C ρ M fun d M1 => g C d ρ M1 E.nx) : sAsg e g C E ρ M := h
theorem aug {i : Nat} {d : D} (q : ρ[i]? = some (some d)) (h : e C ρ M fun y M1 => op d y M1 fun z M2 => E.nx (ρ.set i (some z)) M2) : sAug i e op C E ρ M := by
  show got ρ[i]? _
  rw [q]
  exact h
theorem augS (h : a C ρ M fun x M1 => b C ρ M1 fun y M2 => opGetL x y M2 fun z M3 => e C ρ M3 fun w M4 => op z w M4 fun u M5 => opSet x y u M5 fun M6 => E.nx ρ M6) : sAugS a b e op C E ρ M := h
theorem par {i j : Nat} (h : r C ρ M fun ds M1 => topr ds fun x y => E.nx ((ρ.set i (some x)).set j (some y)) M1) : sPar i j r C E ρ M := h
theorem pr {x y : D} {K : D → D → Prop} (h : K x y) : topr [x, y] K := h
variable {w : DI}
theorem for_ (h : w C ρ M fun xs grd M1 => floop (g C) (t C) E grd xs ρ M1) : sFor w g t C E ρ M := h
theorem name {i : Nat} {d : D} {K : Env → Mem → Prop} (h : K (ρ.set i (some d)) M) : gName i C d ρ M K := h
theorem gnil {K : Env → Mem → Prop} (h : K ρ M) : gNil C [] ρ M K := ⟨rfl, h⟩
theorem gcons {d : D} {ds : List D} {K : Env → Mem → Prop} (h : g C d ρ M fun ρ' M' => ga C ds ρ' M' K) : gCons g ga C (d :: ds) ρ M K := h
theorem gtup {n : Nat} {xs : List D} {K : Env → Mem → Prop} (hn : xs.length = n) (h : ga C xs ρ M K) : gTup n ga C (.tup xs) ρ M K := ⟨hn, h⟩
theorem gsub {d : D} {K : Env → Mem → Prop} (h : a C ρ M fun x M1 => b C ρ M1 fun y M2 => opSet x y d M2 fun M3 => K ρ M3) : gSub a b C d ρ M K := h
/-! expressions -/
theorem var {i : Nat} {d : D} (q : ρ[i]? = some (some d)) (h : P d M) : eVar i C ρ M P := by
  show got ρ[i]? _
  rw [q]
  exact h
theorem con {d : D} (h : P d M) : eK d C ρ M P := h
theorem bin (h : a C ρ M fun x M1 => b C ρ M1 fun y M2 => op x y M2 P) : eBin op a b C ρ M P := h
theorem un {f : DUn} (h : a C ρ M fun x M1 => f x M1 P) : eUn f a C ρ M P := h
theorem enot (h : a C ρ M fun d M1 => tru d M1 fun b => P (.bl (!b)) M1) : eNot a C ρ M P := h
theorem eand (h : a C ρ M fun d M1 => tru d M1 fun c => if c = true then b C ρ M1 P else P d M1) : eAnd a b C ρ M P := h
theorem eor (h : a C ρ M fun d M1 => tru d M1 fun c => if c = true then P d M1 else b C ρ M1 P) : eOr a b C ρ M P := h
theorem eif (h : x C ρ M fun k M1 => if k = true then a C ρ M1 P else b C ρ M1 P) : eIf x a b C ρ M P := h
theorem anil {Q : List D → Mem → Prop} (h : Q [] M) : aNil C ρ M Q := h
theorem acons {Q : List D → Mem → Prop} (h : a C ρ M fun d M1 => r C ρ M1 fun ds M2 => Q (d :: ds) M2) : aCons a r C ρ M Q := h
theorem tup (h : r C ρ M fun ds M1 => ds.length ≤ sizeLine ∧ P (.tup ds) M1) : eTup r C ρ M P := h
theorem lst (h : r C ρ M fun ds M1 => ds.length ≤ sizeLine ∧ P (.ref M1.length) (M1 ++ [.lst ds])) : eLst r C ρ M P := h
theorem fn {f : DF} (h : r C ρ M fun ds M1 => f ds M1 P) : eF f r C ρ M P := h
theorem call {i : Nat} (h : r C ρ M fun ds M1 => C.call i (C.ex ρ) ds M1 P) : eCall i r C ρ M P := h
theorem meth {T : String} {m : DM} (h : a C ρ M fun d M1 => tyIs T M1 d ∧ r C ρ M1 fun ds M2 => m d ds M2 P) : eM T m a r C ρ M P := h
variable {l : DLs}
theorem enew (h : l C ρ M fun ds M1 => P (.ref M1.length) (M1 ++ [.lst ds])) : eNew l C ρ M P := h
theorem tupL (h : l C ρ M fun ds M1 => P (.tup ds) M1) : eTupL l C ρ M P := h
theorem fl {f : DC} (h : l C ρ M fun ds M1 => f ds fun r => P r M1) : eFL f l C ρ M P := h
theorem comp {tt : DT} {vs : List Nat} {Q : List D → Mem → Prop} (h : w C ρ M fun xs grd M1 => cloop (g C.calm) (tt C.calm) (e C.calm) grd (wiped ρ vs) Q xs [] M1) : lcomp w g tt e vs C ρ M Q := h
theorem cut (h : a C ρ M fun d M1 => o C ρ M1 fun x M2 => o' C ρ M2 fun y M3 => opCut d x y M3 P) : eCut a o o' C ρ M P := h
theorem onone {Q : Option Int → Mem → Prop} (h : Q none M) : oNone C ρ M Q := h
theorem osome {Q : Option Int → Mem → Prop} (h : a C ρ M fun d M1 => toin d fun i => Q (some i) M1) : oSome a C ρ M Q := h
theorem tof (h : a C ρ M fun d M1 => tobl d fun b => k b M1) : tOf a C ρ M k := h
theorem bl_ {b : Bool} {K : Bool → Prop} (h : K b) : tobl (.bl b) K := h
theorem in_ {i : Int} {K : Int → Prop} (h : K i) : toin (.int i) K := h
theorem ttru (h : a C ρ M fun d M1 => tru d M1 fun b => k b M1) : tTru a C ρ M k := h
theorem tand (h : x C ρ M fun c M1 => if c = true then y C ρ M1 k else k false M1) : tAnd x y C ρ M k := h
theorem tor (h : x C ρ M fun c M1 => if c = true then k true M1 else y C ρ M1 k) : tOr x y C ρ M k := h
theorem tnot (h : x C ρ M fun c M1 => k (!c) M1) : tNot x C ρ M k := h
theorem tyes (h : k true M) : tYesD C ρ M k := h
theorem chain (h : a C ρ M fun x M1 => b C ρ M1 fun y M2 => op x y M2 fun z M3 => tobl z fun k => if k = true then c C ρ M3 fun w M4 => op' y w M4 P else P (.bl false) M3) : eChain op op' a b c C ρ M P := h
theorem isi {T : String} (h : a C ρ M fun d M1 => toty M1 T d fun b => P (.bl b) M1) : eIsi T a C ρ M P := h
theorem ty {T t : String} {d : D} {b : Bool} {K : Bool → Prop} (h1 : tyOf M d = some t) (h2 : kitB t T = some b) (h : K b) : toty M T d K := by
  unfold toty
  rw [h1]
  dsimp only
  rw [h2]
  exact h
/-! what is walked -/
variable {Q : List D → (Mem → Prop) → Mem → Prop}
theorem iseq (h : e C ρ M fun d M1 => tosq M1 d fun xs => Q xs (grdOf d xs) M1) : iSeq e C ρ M Q := h
theorem irng1 (h : a C ρ M fun d M1 => toin d fun j => (-(2 ^ 62) ≤ j ∧ j.toNat ≤ sizeLine) ∧ Q (rngI 0 j.toNat) (fun _ => True) M1) : iRng1 a C ρ M Q := h
theorem ienum (h : a C ρ M fun d M1 => tosq M1 d fun xs => Q (enumD 0 xs) (grdOf d xs) M1) : iEnumD a C ρ M Q := h
theorem izip (h : a C ρ M fun d M1 => b C ρ M1 fun e M2 => tosq M2 d fun xs => tosq M2 e fun ys => Q (zipD xs ys) (fun M => grdOf d xs M ∧ grdOf e ys M) M2) : iZip a b C ρ M Q := h
theorem sqT {xs : List D} {K : List D → Prop} (h : K xs) : tosq M (.tup xs) K := h
theorem sqK {xs : List D} {K : List D → Prop} (h : K xs) : tosq M (.kup xs) K := h
theorem sqR {xs : List D} {K : List D → Prop} (h : K xs) : tosq M (.rol xs) K := h
theorem sqL {n : Nat} {xs : List D} {K : List D → Prop} (hM : M[n]? = some (.lst xs)) (h : K xs) : tosq M (.ref n) K := by
  show (match (match M[n]? with
    | some (.lst xs) => some xs
    | _ => none) with
    | some xs => K xs
    | none => False)
  rw [hM]
  exact h
/-! operators -/
variable {i j : Int}
theorem add (h : P (.int (i + j)) M) : opAdd (.int i) (.int j) M P := h
theorem addT {xs ys : List D} (hl : xs.length + ys.length ≤ sizeLine) (h : P (.tup (xs ++ ys)) M) : opAdd (.tup xs) (.tup ys) M P := ⟨hl, h⟩
theorem addL {m n : Nat} {xs ys : List D} (h1 : M[m]? = some (.lst xs)) (h2 : M[n]? = some (.lst ys)) (hl : xs.length + ys.length ≤ sizeLine) (h : P (.ref M.length) (M ++ [.lst (xs ++ ys)])) : opAdd (.ref m) (.ref n) M P := by
  show (match M[m]?, M[n]? with
    | some (.lst xs), some (.lst ys) => xs.length + ys.length ≤ sizeLine ∧ P (.ref M.length) (M ++ [.lst (xs ++ ys)])
    | _, _ => False)
  rw [h1, h2]
  exact ⟨hl, h⟩
theorem iadd (h : P (.int (i + j)) M) : iaAdd (.int i) (.int j) M P := h
theorem sub (h : P (.int (i - j)) M) : opSub (.int i) (.int j) M P := h
theorem mul (hc : IntMulOk i j) (h : P (.int (i * j)) M) : opMul (.int i) (.int j) M P := ⟨hc, h⟩
theorem imul (hc : IntMulOk i j) (h : P (.int (i * j)) M) : iaMul (.int i) (.int j) M P := ⟨hc, h⟩
theorem rep {m : Nat} {xs : List D} {z : Int} (h1 : M[m]? = some (.lst xs)) (hc : -(2 ^ 63) ≤ z ∧ z < 2 ^ 63 ∧ xs.length * z.toNat ≤ sizeLine) (h : P (.ref M.length) (M ++ [.lst (List.replicate z.toNat xs).flatten])) : opMul (.ref m) (.int z) M P := by
  show (match M[m]? with
    | some (.lst xs) => (-(2 ^ 63) ≤ z ∧ z < 2 ^ 63 ∧ xs.length * z.toNat ≤ sizeLine) ∧ P (.ref M.length) (M ++ [.lst (List.replicate z.toNat xs).flatten])
    | _ => False)
  rw [h1]
  exact ⟨hc, h⟩
theorem div (h0 : 0 < j) (hl : j.natAbs.log2 < 9000) (h : P (.int (i / j)) M) : opDiv (.int i) (.int j) M P := ⟨⟨h0, hl⟩, h⟩
theorem mod (h0 : 0 < j) (h : P (.int (i % j)) M) : opMod (.int i) (.int j) M P := ⟨h0, h⟩
theorem pow (hc : 0 ≤ j ∧ j ≤ 1000000 ∧ i.natAbs < 2 ^ 64) (h : P (.int (i ^ j.toNat)) M) : opPow (.int i) (.int j) M P := ⟨hc, h⟩
theorem shl (hc : 0 ≤ j ∧ j ≤ 1000000 ∧ i.natAbs < 2 ^ 64) (h : P (.int (i * 2 ^ j.toNat)) M) : opShl (.int i) (.int j) M P := ⟨hc, h⟩
theorem shr (hc : 0 ≤ j) (h : P (.int (i / 2 ^ j.toNat)) M) : opShr (.int i) (.int j) M P := ⟨hc, h⟩
theorem neg (h : P (.int (-i)) M) : opNeg (.int i) M P := h
theorem lt (h : P (.bl (decide (i < j))) M) : opLt (.int i) (.int j) M P := h
theorem le (h : P (.bl (decide (i ≤ j))) M) : opLe (.int i) (.int j) M P := h
theorem gt (h : P (.bl (decide (j < i))) M) : opGt (.int i) (.int j) M P := h
theorem ge (h : P (.bl (decide (j ≤ i))) M) : opGe (.int i) (.int j) M P := h
theorem eq_ (h : P (.bl (decide (i = j))) M) : opEq (.int i) (.int j) M P := by
  refine ⟨⟨rfl, rfl⟩, ?_⟩
  have e : PyData.eqv (toPy (.int i)) (toPy (.int j)) = decide (i = j) := by
    show PyData.eqv (.int i) (.int j) = _
    rw [Bool.eq_iff_iff]
    simp [PyData.eqv]
  rw [e]
  exact h
theorem ne_ (h : P (.bl (!decide (i = j))) M) : opNe (.int i) (.int j) M P := by
  refine ⟨⟨rfl, rfl⟩, ?_⟩
  have e : PyData.eqv (toPy (.int i)) (toPy (.int j)) = decide (i = j) := by
    show PyData.eqv (.int i) (.int j) = _
    rw [Bool.eq_iff_iff]
    simp [PyData.eqv]
  rw [e]
  exact h
theorem neB {x y : Bool} (h : P (.bl (x != y)) M) : opNe (.bl x) (.bl y) M P := by
  refine ⟨⟨rfl, rfl⟩, ?_⟩
  have e : (!PyData.eqv (toPy (.bl x)) (toPy (.bl y))) = (x != y) := by cases x <;> cases y <;> rfl
  rw [e]
  exact h
theorem eqB {x y : Bool} (h : P (.bl (x == y)) M) : opEq (.bl x) (.bl y) M P := by
  refine ⟨⟨rfl, rfl⟩, ?_⟩
  have e : PyData.eqv (toPy (.bl x)) (toPy (.bl y)) = (x == y) := by cases x <;> cases y <;> rfl
  rw [e]
  exact h
theorem neTT (h : P (.bl false) M) : opNe (.bl true) (.bl true) M P := neB h
theorem eqTT (h : P (.bl true) M) : opEq (.bl true) (.bl true) M P := eqB h
theorem neTF (h : P (.bl true) M) : opNe (.bl true) (.bl false) M P := neB h
theorem eqTF (h : P (.bl false) M) : opEq (.bl true) (.bl false) M P := eqB h
theorem neFT (h : P (.bl true) M) : opNe (.bl false) (.bl true) M P := neB h
theorem eqFT (h : P (.bl false) M) : opEq (.bl false) (.bl true) M P := eqB h
theorem neFF (h : P (.bl false) M) : opNe (.bl false) (.bl false) M P := neB h
theorem eqFF (h : P (.bl true) M) : opEq (.bl false) (.bl false) M P := eqB h
theorem is0I (h : P (.bl false) M) : opIs (.int i) .non M P := h
theorem isnt0I (h : P (.bl true) M) : opIsNot (.int i) .non M P := h
theorem is0T {ds : List D} (h : P (.bl false) M) : opIs (.tup ds) .non M P := h
theorem isnt0T {ds : List D} (h : P (.bl true) M) : opIsNot (.tup ds) .non M P := h
theorem is0S {z : Str} (h : P (.bl false) M) : opIs (.str z) .non M P := h
theorem isnt0S {z : Str} (h : P (.bl true) M) : opIsNot (.str z) .non M P := h
theorem is0B {w : Bool} (h : P (.bl false) M) : opIs (.bl w) .non M P := h
theorem isnt0B {w : Bool} (h : P (.bl true) M) : opIsNot (.bl w) .non M P := h
theorem is0R {m : Nat} (h : P (.bl false) M) : opIs (.ref m) .non M P := h
theorem isnt0R {m : Nat} (h : P (.bl true) M) : opIsNot (.ref m) .non M P := h
theorem is0N (h : P (.bl true) M) : opIs .non .non M P := h
theorem isnt0N (h : P (.bl false) M) : opIsNot .non .non M P := h
theorem is0 {d : D} (h : P (.bl (isNon d)) M) : opIs d .non M P := h
theorem isnt0 {d : D} (h : P (.bl (!isNon d)) M) : opIsNot d .non M P := h
theorem ixT {xs : List D} {d : D} (q : atI xs i = some d) (h : P d M) : opIx (.tup xs) (.int i) M P := by
  show (match atI xs i with
    | some d => P d M
    | none => False)
  rw [q]
  exact h
theorem ixK {xs : List D} {d : D} (q : atI xs i = some d) (h : P d M) : opIx (.kup xs) (.int i) M P := by
  show (match atI xs i with
    | some d => P d M
    | none => False)
  rw [q]
  exact h
theorem ixL {n : Nat} {xs : List D} {d : D} (hM : M[n]? = some (.lst xs)) (q : atI xs i = some d) (h : P d M) : opIx (.ref n) (.int i) M P := by
  show (match (match M[n]? with
    | some (.lst xs) => some xs
    | _ => none) with
    | some xs => (match atI xs i with
      | some d => P d M
      | none => False)
    | none => _)
  rw [hM]
  dsimp only
  rw [q]
  exact h
theorem getL {n : Nat} {xs : List D} {d : D} (hM : M[n]? = some (.lst xs)) (q : atI xs i = some d) (h : P d M) : opGetL (.ref n) (.int i) M P := by
  show (match M[n]? with
    | some (.lst xs) => (match atI xs i with
      | some d => P d M
      | none => False)
    | _ => False)
  rw [hM]
  dsimp only
  rw [q]
  exact h
theorem setL {n j : Nat} {xs : List D} {d : D} {K : Mem → Prop} (hM : M[n]? = some (.lst xs)) (q : ixN xs.length i = some j) (h : K (M.set n (.lst (xs.set j d)))) : opSet (.ref n) (.int i) d M K := by
  show (match M[n]? with
    | some (.lst xs) => (match ixN xs.length i with
        | some j => K (M.set n (.lst (xs.set j d)))
        | none => False)
    | some (.dK kvs) => _
    | some (.dT kvs) => _
    | _ => False)
  rw [hM]
  dsimp only
  rw [q]
  exact h
/-! built-ins, methods -/
theorem lenL {n : Nat} {xs : List D} (hM : M[n]? = some (.lst xs)) (h : P (.int xs.length) M) : fLen [.ref n] M P := by
  show (match (match M[n]? with
    | some (.lst xs) => some xs
    | _ => none) with
    | some xs => P (.int xs.length) M
    | none => _)
  rw [hM]
  exact h
theorem lenT {xs : List D} (h : P (.int xs.length) M) : fLen [.tup xs] M P := h
theorem abs_ (h : P (.int (if i < 0 then -i else i)) M) : fAbs [.int i] M P := h
theorem int_ (h : P (.int i) M) : fInt [.int i] M P := h
theorem intB {v : Bool} (h : P (.int (if v then 1 else 0)) M) : fInt [.bl v] M P := h
theorem max2 (h : P (.int (if j > i then j else i)) M) : fMax2 [.int i, .int j] M P := h
theorem min2 (h : P (.int (if j < i then j else i)) M) : fMin2 [.int i, .int j] M P := h
theorem gcd_ (h : P (.int ((Nat.gcd i.natAbs j.natAbs : Nat) : Int)) M) : fGcd [.int i, .int j] M P := h
theorem tupT {xs : List D} (h : P (.tup xs) M) : fTuple [.tup xs] M P := h
theorem tupL1 {n : Nat} {xs : List D} (hM : M[n]? = some (.lst xs)) (h : P (.tup xs) M) : fTuple [.ref n] M P := by
  show (match (match M[n]? with
    | some (.lst xs) => some xs
    | _ => none) with
    | some xs => P (.tup xs) M
    | none => False)
  rw [hM]
  exact h
theorem listL {n : Nat} {xs : List D} (hM : M[n]? = some (.lst xs)) (h : P (.ref M.length) (M ++ [.lst xs])) : fList [.ref n] M P := by
  show (match (match M[n]? with
    | some (.lst xs) => some xs
    | _ => none) with
    | some xs => P (.ref M.length) (M ++ [.lst xs])
    | none => False)
  rw [hM]
  exact h
theorem listT {xs : List D} (h : P (.ref M.length) (M ++ [.lst xs])) : fList [.tup xs] M P := h
theorem isL {n : Nat} {xs : List D} (hM : M[n]? = some (.lst xs)) : tyIs "list" M (.ref n) := by
  show (match M[n]? with
    | some (.lst _) => "list" = "list"
    | some (.dK _) => "list" = "dict"
    | some (.dT _) => "list" = "dict"
    | none => False)
  rw [hM]
theorem append {n : Nat} {xs : List D} {d : D} (hM : M[n]? = some (.lst xs)) (hl : xs.length < sizeLine) (h : P .non (M.set n (.lst (xs ++ [d])))) : mAppend (.ref n) [d] M P := by
  show (match M[n]? with
    | some (.lst xs) => xs.length < sizeLine ∧ P .non (M.set n (.lst (xs ++ [d])))
    | _ => False)
  rw [hM]
  exact ⟨hl, h⟩
theorem extend {n m : Nat} {xs ys : List D} (hM : M[n]? = some (.lst xs)) (hN : M[m]? = some (.lst ys)) (hl : xs.length + ys.length ≤ sizeLine) (h : P .non (M.set n (.lst (xs ++ ys)))) : mExtend (.ref n) [.ref m] M P := by
  show (match M[n]?, M[m]? with
    | some (.lst xs), some (.lst ys) => xs.length + ys.length ≤ sizeLine ∧ P .non (M.set n (.lst (xs ++ ys)))
    | _, _ => False)
  rw [hM, hN]
  exact ⟨hl, h⟩
theorem pop0 {n : Nat} {xs : List D} {d : D} (hM : M[n]? = some (.lst (xs ++ [d]))) (h : P d (M.set n (.lst xs))) : mPop (.ref n) [] M P := by
  show (match M[n]? with
    | some (.lst xs) => (match xs[xs.length - 1]? with
      | some y => P y (M.set n (.lst xs.dropLast))
      | none => False)
    | _ => False)
  rw [hM]
  simp
  exact h
theorem count {n : Nat} {xs : List D} {ns : List Int} {z : Int} (hM : M[n]? = some (.lst xs)) (hi : intsOf xs = some ns) (h : P (.int (ns.count z : Nat)) M) : mCount (.ref n) [.int z] M P := by
  show (match M[n]? with
    | some (.lst xs) => (match intsOf xs with
      | some ns => P (.int (ns.count z : Nat)) M
      | none => False)
    | _ => False)
  rw [hM]
  dsimp only
  rw [hi]
  exact h
theorem popAt {n k : Nat} {xs : List D} {d : D} (hM : M[n]? = some (.lst xs)) (hk : i = (k : Nat)) (hl : xs[k]? = some d) (hs : xs.length ≤ sizeLine) (h : P d (M.set n (.lst (xs.eraseIdx k)))) : mPop (.ref n) [.int i] M P := by
  subst hk
  have hlt := (List.getElem?_eq_some_iff.mp hl).1
  have hz : sizeLine = 16777216 := by decide
  show (match M[n]? with
    | some (.lst xs) => (-(2 ^ 63) ≤ ((k : Nat) : Int) ∧ ((k : Nat) : Int) < 2 ^ 63) ∧ (match seqIndex? (k : Nat) xs.length with
      | some k => (match xs[k]? with
        | some y => P y (M.set n (.lst (xs.eraseIdx k)))
        | none => False)
      | none => False)
    | _ => False)
  rw [hM]
  dsimp only
  rw [seqIndex_of (by omega) (by omega)]
  dsimp only
  rw [show ((k : Nat) : Int).toNat = k from rfl, hl]
  exact ⟨⟨by omega, by omega⟩, h⟩
end
/-! places -/
theorem ix_lt {n k : Nat} (h : k < n) : ixN n (k : Nat) = some k := by
  unfold ixN
  rw [if_pos (by omega), if_pos (by omega)]
  rfl
theorem at_nat {α : Type} {xs : List α} {k : Nat} {d : α} (h : xs[k]? = some d) : atI xs (k : Nat) = some d := by
  unfold atI
  rw [ix_lt (List.getElem?_eq_some_iff.mp h).1]
  exact h
section
variable {α : Type} {a b c d e f g : α} {l : List α}
theorem at0 : atI (a :: l) 0 = some a := at_nat (k := 0) rfl
theorem at1 : atI (a :: b :: l) 1 = some b := at_nat (k := 1) rfl
theorem at2 : atI (a :: b :: c :: l) 2 = some c := at_nat (k := 2) rfl
theorem at3 : atI (a :: b :: c :: d :: l) 3 = some d := at_nat (k := 3) rfl
theorem at4 : atI (a :: b :: c :: d :: e :: l) 4 = some e := at_nat (k := 4) rfl
theorem at5 : atI (a :: b :: c :: d :: e :: f :: l) 5 = some f := at_nat (k := 5) rfl
theorem ix0 : ixN (a :: l).length 0 = some 0 := ix_lt (k := 0) (by simp)
theorem ix1 : ixN (a :: b :: l).length 1 = some 1 := ix_lt (k := 1) (by simp)
theorem ix2 : ixN (a :: b :: c :: l).length 2 = some 2 := ix_lt (k := 2) (by simp)
end
theorem set0 {M : Mem} {n : Nat} {x d : D} {l : List D} {K : Mem → Prop} (hM : M[n]? = some (.lst (x :: l))) (h : K (M.set n (.lst (d :: l)))) : opSet (.ref n) (.int 0) d M K := setL hM ix0 h
theorem set1 {M : Mem} {n : Nat} {x y d : D} {l : List D} {K : Mem → Prop} (hM : M[n]? = some (.lst (x :: y :: l))) (h : K (M.set n (.lst (x :: d :: l)))) : opSet (.ref n) (.int 1) d M K := setL hM ix1 h
theorem k_NoneType_int : kitB "NoneType" "int" = some false := by kernel_rfl
theorem k_NoneType_bool : kitB "NoneType" "bool" = some false := by kernel_rfl
theorem k_NoneType_str : kitB "NoneType" "str" = some false := by kernel_rfl
theorem k_NoneType_tuple : kitB "NoneType" "tuple" = some false := by kernel_rfl
theorem k_NoneType_list : kitB "NoneType" "list" = some false := by kernel_rfl
theorem k_NoneType_dict : kitB "NoneType" "dict" = some false := by kernel_rfl
theorem k_bool_int : kitB "bool" "int" = some true := by kernel_rfl
theorem k_bool_bool : kitB "bool" "bool" = some true := by kernel_rfl
theorem k_bool_str : kitB "bool" "str" = some false := by kernel_rfl
theorem k_bool_tuple : kitB "bool" "tuple" = some false := by kernel_rfl
theorem k_bool_list : kitB "bool" "list" = some false := by kernel_rfl
theorem k_bool_dict : kitB "bool" "dict" = some false := by kernel_rfl
theorem k_int_int : kitB "int" "int" = some true := by kernel_rfl
theorem k_int_bool : kitB "int" "bool" = some false := by kernel_rfl
theorem k_int_str : kitB "int" "str" = some false := by kernel_rfl
theorem k_int_tuple : kitB "int" "tuple" = some false := by kernel_rfl
theorem k_int_list : kitB "int" "list" = some false := by kernel_rfl
theorem k_int_dict : kitB "int" "dict" = some false := by kernel_rfl
theorem k_str_int : kitB "str" "int" = some false := by kernel_rfl
theorem k_str_bool : kitB "str" "bool" = some false := by kernel_rfl
theorem k_str_str : kitB "str" "str" = some true := by kernel_rfl
theorem k_str_tuple : kitB "str" "tuple" = some false := by kernel_rfl
theorem k_str_list : kitB "str" "list" = some false := by kernel_rfl
theorem k_str_dict : kitB "str" "dict" = some false := by kernel_rfl
theorem k_tuple_int : kitB "tuple" "int" = some false := by kernel_rfl
theorem k_tuple_bool : kitB "tuple" "bool" = some false := by kernel_rfl
theorem k_tuple_str : kitB "tuple" "str" = some false := by kernel_rfl
theorem k_tuple_tuple : kitB "tuple" "tuple" = some true := by kernel_rfl
theorem k_tuple_list : kitB "tuple" "list" = some false := by kernel_rfl
theorem k_tuple_dict : kitB "tuple" "dict" = some false := by kernel_rfl
theorem k_list_int : kitB "list" "int" = some false := by kernel_rfl
theorem k_list_bool : kitB "list" "bool" = some false := by kernel_rfl
theorem k_list_str : kitB "list" "str" = some false := by kernel_rfl
theorem k_list_tuple : kitB "list" "tuple" = some false := by kernel_rfl
theorem k_list_list : kitB "list" "list" = some true := by kernel_rfl
theorem k_list_dict : kitB "list" "dict" = some false := by kernel_rfl
theorem k_dict_int : kitB "dict" "int" = some false := by kernel_rfl
theorem k_dict_bool : kitB "dict" "bool" = some false := by kernel_rfl
theorem k_dict_str : kitB "dict" "str" = some false := by kernel_rfl
theorem k_dict_tuple : kitB "dict" "tuple" = some false := by kernel_rfl
theorem k_dict_list : kitB "dict" "list" = some false := by kernel_rfl
theorem k_dict_dict : kitB "dict" "dict" = some true := by kernel_rfl
theorem size_is : sizeLine = 16777216 := by decide
section
variable {C : Ctx} {E : DEnds} {M : Mem} {P : Po} {e : DE} {op : DOp} {d : D} {l : List (Option D)} {y : Option D} {K : Env → Mem → Prop} {x0 x1 x2 x3 x4 x5 x6 x7 x8 x9 x10 x11 x12 x13 x14 x15 : Option D}
theorem var0 (h : P d M) : eVar 0 C (some d :: l) M P := h
theorem name0 (h : K (some d :: l) M) : gName 0 C d (y :: l) M K := h
theorem aug0 (h : e C (some d :: l) M fun y M1 => op d y M1 fun z M2 => E.nx (some z :: l) M2) : sAug 0 e op C E (some d :: l) M := h
theorem var1 (h : P d M) : eVar 1 C (x0 :: some d :: l) M P := h
theorem name1 (h : K (x0 :: some d :: l) M) : gName 1 C d (x0 :: y :: l) M K := h
theorem aug1 (h : e C (x0 :: some d :: l) M fun y M1 => op d y M1 fun z M2 => E.nx (x0 :: some z :: l) M2) : sAug 1 e op C E (x0 :: some d :: l) M := h
theorem var2 (h : P d M) : eVar 2 C (x0 :: x1 :: some d :: l) M P := h
theorem name2 (h : K (x0 :: x1 :: some d :: l) M) : gName 2 C d (x0 :: x1 :: y :: l) M K := h
theorem aug2 (h : e C (x0 :: x1 :: some d :: l) M fun y M1 => op d y M1 fun z M2 => E.nx (x0 :: x1 :: some z :: l) M2) : sAug 2 e op C E (x0 :: x1 :: some d :: l) M := h
theorem var3 (h : P d M) : eVar 3 C (x0 :: x1 :: x2 :: some d :: l) M P := h
theorem name3 (h : K (x0 :: x1 :: x2 :: some d :: l) M) : gName 3 C d (x0 :: x1 :: x2 :: y :: l) M K := h
theorem aug3 (h : e C (x0 :: x1 :: x2 :: some d :: l) M fun y M1 => op d y M1 fun z M2 => E.nx (x0 :: x1 :: x2 :: some z :: l) M2) : sAug 3 e op C E (x0 :: x1 :: x2 :: some d :: l) M := h
theorem var4 (h : P d M) : eVar 4 C (x0 :: x1 :: x2 :: x3 :: some d :: l) M P := h
theorem name4 (h : K (x0 :: x1 :: x2 :: x3 :: some d :: l) M) : gName 4 C d (x0 :: x1 :: x2 :: x3 :: y :: l) M K := h
theorem aug4 (h : e C (x0 :: x1 :: x2 :: x3 :: some d :: l) M fun y M1 => op d y M1 fun z M2 => E.nx (x0 :: x1 :: x2 :: x3 :: some z :: l) M2) : sAug 4 e op C E (x0 :: x1 :: x2 :: x3 :: some d :: l) M := h
theorem var5 (h : P d M) : eVar 5 C (x0 :: x1 :: x2 :: x3 :: x4 :: some d :: l) M P := h
theorem name5 (h : K (x0 :: x1 :: x2 :: x3 :: x4 :: some d :: l) M) : gName 5 C d (x0 :: x1 :: x2 :: x3 :: x4 :: y :: l) M K := h
theorem aug5 (h : e C (x0 :: x1 :: x2 :: x3 :: x4 :: some d :: l) M fun y M1 => op d y M1 fun z M2 => E.nx (x0 :: x1 :: x2 :: x3 :: x4 :: some z :: l) M2) : sAug 5 e op C E (x0 :: x1 :: x2 :: x3 :: x4 :: some d :: l) M := h
theorem var6 (h : P d M) : eVar 6 C (x0 :: x1 :: x2 :: x3 :: x4 :: x5 :: some d :: l) M P := h
theorem name6 (h : K (x0 :: x1 :: x2 :: x3 :: x4 :: x5 :: some d :: l) M) : gName 6 C d (x0 :: x1 :: x2 :: x3 :: x4 :: x5 :: y :: l) M K := h
theorem aug6 (h : e C (x0 :: x1 :: x2 :: x3 :: x4 :: x5 :: some d :: l) M fun y M1 => op d y M1 fun z M2 => E.nx (x0 :: x1 :: x2 :: x3 :: x4 :: x5 :: some z :: l) M2) : sAug 6 e op C E (x0 :: x1 :: x2 :: x3 :: x4 :: x5 :: some d :: l) M := h
theorem var7 (h : P d M) : eVar 7 C (x0 :: x1 :: x2 :: x3 :: x4 :: x5 :: x6 :: some d :: l) M P := h
theorem name7 (h : K (x0 :: x1 :: x2 :: x3 :: x4 :: x5 :: x6 :: some d :: l) M) : gName 7 C d (x0 :: x1 :: x2 :: x3 :: x4 :: x5 :: x6 :: y :: l) M K := h
theorem aug7 (h : e C (x0 :: x1 :: x2 :: x3 :: x4 :: x5 :: x6 :: some d :: l) M fun y M1 => op d y M1 fun z M2 => E.nx (x0 :: x1 :: x2 :: x3 :: x4 :: x5 :: x6 :: some z :: l) M2) : sAug 7 e op C E (x0 :: x1 :: x2 :: x3 :: x4 :: x5 :: x6 :: some d :: l) M := h
theorem var8 (h : P d M) : eVar 8 C (x0 :: x1 :: x2 :: x3 :: x4 :: x5 :: x6 :: x7 :: some d :: l) M P := h
theorem name8 (h : K (x0 :: x1 :: x2 :: x3 :: x4 :: x5 :: x6 :: x7 :: some d :: l) M) : gName 8 C d (x0 :: x1 :: x2 :: x3 :: x4 :: x5 :: x6 :: x7 :: y :: l) M K := h
theorem aug8 (h : e C (x0 :: x1 :: x2 :: x3 :: x4 :: x5 :: x6 :: x7 :: some d :: l) M fun y M1 => op d y M1 fun z M2 => E.nx (x0 :: x1 :: x2 :: x3 :: x4 :: x5 :: x6 :: x7 :: some z :: l) M2) : sAug 8 e op C E (x0 :: x1 :: x2 :: x3 :: x4 :: x5 :: x6 :: x7 :: some d :: l) M := h
theorem var9 (h : P d M) : eVar 9 C (x0 :: x1 :: x2 :: x3 :: x4 :: x5 :: x6 :: x7 :: x8 :: some d :: l) M P := h
theorem name9 (h : K (x0 :: x1 :: x2 :: x3 :: x4 :: x5 :: x6 :: x7 :: x8 :: some d :: l) M) : gName 9 C d (x0 :: x1 :: x2 :: x3 :: x4 :: x5 :: x6 :: x7 :: x8 :: y :: l) M K := h
theorem aug9 (h : e C (x0 :: x1 :: x2 :: x3 :: x4 :: x5 :: x6 :: x7 :: x8 :: some d :: l) M fun y M1 => op d y M1 fun z M2 => E.nx (x0 :: x1 :: x2 :: x3 :: x4 :: x5 :: x6 :: x7 :: x8 :: some z :: l) M2) : sAug 9 e op C E (x0 :: x1 :: x2 :: x3 :: x4 :: x5 :: x6 :: x7 :: x8 :: some d :: l) M := h
theorem var10 (h : P d M) : eVar 10 C (x0 :: x1 :: x2 :: x3 :: x4 :: x5 :: x6 :: x7 :: x8 :: x9 :: some d :: l) M P := h
theorem name10 (h : K (x0 :: x1 :: x2 :: x3 :: x4 :: x5 :: x6 :: x7 :: x8 :: x9 :: some d :: l) M) : gName 10 C d (x0 :: x1 :: x2 :: x3 :: x4 :: x5 :: x6 :: x7 :: x8 :: x9 :: y :: l) M K := h
theorem aug10 (h : e C (x0 :: x1 :: x2 :: x3 :: x4 :: x5 :: x6 :: x7 :: x8 :: x9 :: some d :: l) M fun y M1 => op d y M1 fun z M2 => E.nx (x0 :: x1 :: x2 :: x3 :: x4 :: x5 :: x6 :: x7 :: x8 :: x9 :: some z :: l) M2) : sAug 10 e op C E (x0 :: x1 :: x2 :: x3 :: x4 :: x5 :: x6 :: x7 :: x8 :: x9 :: some d :: l) M := h
theorem var11 (h : P d M) : eVar 11 C (x0 :: x1 :: x2 :: x3 :: x4 :: x5 :: x6 :: x7 :: x8 :: x9 :: x10 :: some d :: l) M P := h
theorem name11 (h : K (x0 :: x1 :: x2 :: x3 :: x4 :: x5 :: x6 :: x7 :: x8 :: x9 :: x10 :: some d :: l) M) : gName 11 C d (x0 :: x1 :: x2 :: x3 :: x4 :: x5 :: x6 :: x7 :: x8 :: x9 :: x10 :: y :: l) M K := h
theorem aug11 (h : e C (x0 :: x1 :: x2 :: x3 :: x4 :: x5 :: x6 :: x7 :: x8 :: x9 :: x10 :: some d :: l) M fun y M1 => op d y M1 fun z M2 => E.nx (x0 :: x1 :: x2 :: x3 :: x4 :: x5 :: x6 :: x7 :: x8 :: x9 :: x10 :: some z :: l) M2) : sAug 11 e op C E (x0 :: x1 :: x2 :: x3 :: x4 :: x5 :: x6 :: x7 :: x8 :: x9 :: x10 :: some d :: l) M := h
theorem var12 (h : P d M) : eVar 12 C (x0 :: x1 :: x2 :: x3 :: x4 :: x5 :: x6 :: x7 :: x8 :: x9 :: x10 :: x11 :: some d :: l) M P := h
theorem name12 (h : K (x0 :: x1 :: x2 :: x3 :: x4 :: x5 :: x6 :: x7 :: x8 :: x9 :: x10 :: x11 :: some d :: l) M) : gName 12 C d (x0 :: x1 :: x2 :: x3 :: x4 :: x5 :: x6 :: x7 :: x8 :: x9 :: x10 :: x11 :: y :: l) M K := h
theorem aug12 (h : e C (x0 :: x1 :: x2 :: x3 :: x4 :: x5 :: x6 :: x7 :: x8 :: x9 :: x10 :: x11 :: some d :: l) M fun y M1 => op d y M1 fun z M2 => E.nx (x0 :: x1 :: x2 :: x3 :: x4 :: x5 :: x6 :: x7 :: x8 :: x9 :: x10 :: x11 :: some z :: l) M2) : sAug 12 e op C E (x0 :: x1 :: x2 :: x3 :: x4 :: x5 :: x6 :: x7 :: x8 :: x9 :: x10 :: x11 :: some d :: l) M := h
theorem var13 (h : P d M) : eVar 13 C (x0 :: x1 :: x2 :: x3 :: x4 :: x5 :: x6 :: x7 :: x8 :: x9 :: x10 :: x11 :: x12 :: some d :: l) M P := h
theorem name13 (h : K (x0 :: x1 :: x2 :: x3 :: x4 :: x5 :: x6 :: x7 :: x8 :: x9 :: x10 :: x11 :: x12 :: some d :: l) M) : gName 13 C d (x0 :: x1 :: x2 :: x3 :: x4 :: x5 :: x6 :: x7 :: x8 :: x9 :: x10 :: x11 :: x12 :: y :: l) M K := h
theorem aug13 (h : e C (x0 :: x1 :: x2 :: x3 :: x4 :: x5 :: x6 :: x7 :: x8 :: x9 :: x10 :: x11 :: x12 :: some d :: l) M fun y M1 => op d y M1 fun z M2 => E.nx (x0 :: x1 :: x2 :: x3 :: x4 :: x5 :: x6 :: x7 :: x8 :: x9 :: x10 :: x11 :: x12 :: some z :: l) M2) : sAug 13 e op C E (x0 :: x1 :: x2 :: x3 :: x4 :: x5 :: x6 :: x7 :: x8 :: x9 :: x10 :: x11 :: x12 :: some d :: l) M := h
theorem var14 (h : P d M) : eVar 14 C (x0 :: x1 :: x2 :: x3 :: x4 :: x5 :: x6 :: x7 :: x8 :: x9 :: x10 :: x11 :: x12 :: x13 :: some d :: l) M P := h
theorem name14 (h : K (x0 :: x1 :: x2 :: x3 :: x4 :: x5 :: x6 :: x7 :: x8 :: x9 :: x10 :: x11 :: x12 :: x13 :: some d :: l) M) : gName 14 C d (x0 :: x1 :: x2 :: x3 :: x4 :: x5 :: x6 :: x7 :: x8 :: x9 :: x10 :: x11 :: x12 :: x13 :: y :: l) M K := h
theorem aug14 (h : e C (x0 :: x1 :: x2 :: x3 :: x4 :: x5 :: x6 :: x7 :: x8 :: x9 :: x10 :: x11 :: x12 :: x13 :: some d :: l) M fun y M1 => op d y M1 fun z M2 => E.nx (x0 :: x1 :: x2 :: x3 :: x4 :: x5 :: x6 :: x7 :: x8 :: x9 :: x10 :: x11 :: x12 :: x13 :: some z :: l) M2) : sAug 14 e op C E (x0 :: x1 :: x2 :: x3 :: x4 :: x5 :: x6 :: x7 :: x8 :: x9 :: x10 :: x11 :: x12 :: x13 :: some d :: l) M := h
theorem var15 (h : P d M) : eVar 15 C (x0 :: x1 :: x2 :: x3 :: x4 :: x5 :: x6 :: x7 :: x8 :: x9 :: x10 :: x11 :: x12 :: x13 :: x14 :: some d :: l) M P := h
theorem name15 (h : K (x0 :: x1 :: x2 :: x3 :: x4 :: x5 :: x6 :: x7 :: x8 :: x9 :: x10 :: x11 :: x12 :: x13 :: x14 :: some d :: l) M) : gName 15 C d (x0 :: x1 :: x2 :: x3 :: x4 :: x5 :: x6 :: x7 :: x8 :: x9 :: x10 :: x11 :: x12 :: x13 :: x14 :: y :: l) M K := h
theorem aug15 (h : e C (x0 :: x1 :: x2 :: x3 :: x4 :: x5 :: x6 :: x7 :: x8 :: x9 :: x10 :: x11 :: x12 :: x13 :: x14 :: some d :: l) M fun y M1 => op d y M1 fun z M2 => E.nx (x0 :: x1 :: x2 :: x3 :: x4 :: x5 :: x6 :: x7 :: x8 :: x9 :: x10 :: x11 :: x12 :: x13 :: x14 :: some z :: l) M2) : sAug 15 e op C E (x0 :: x1 :: x2 :: x3 :: x4 :: x5 :: x6 :: x7 :: x8 :: x9 :: x10 :: x11 :: x12 :: x13 :: x14 :: some d :: l) M := h
end
theorem cutR {xs : List D} {lo hi : Option Int} {M : Mem} {P : Po} (h : P (.ref M.length) (M ++ [.lst (cutD xs lo hi)])) : opCut (.rol xs) lo hi M P := h
theorem cutT {xs : List D} {lo hi : Option Int} {M : Mem} {P : Po} (h : P (.tup (cutD xs lo hi)) M) : opCut (.tup xs) lo hi M P := h
theorem cutL {n : Nat} {xs : List D} {lo hi : Option Int} {M : Mem} {P : Po} (hM : M[n]? = some (.lst xs)) (h : P (.ref M.length) (M ++ [.lst (cutD xs lo hi)])) : opCut (.ref n) lo hi M P := by
  show (match M[n]? with
    | some (.lst xs) => P (.ref M.length) (M ++ [.lst (cutD xs lo hi)])
    | _ => False)
  rw [hM]
  exact h
theorem cut_to {xs : List D} {m : Nat} : cutD xs none (some (m : Int)) = xs.take m := by
  unfold cutD HT.sIx
  simp
  rw [if_neg (by omega)]
  rcases Nat.le_total m xs.length with h | h
  · rw [Nat.min_eq_left h]; omega
  · rw [Nat.min_eq_right h]; omega
/-! two ways -/
theorem dec {p : Prop} [Decidable p] {A B : Prop} (h1 : p → A) (h2 : ¬ p → B) : if decide p = true then A else B := by
  by_cases h : p
  · rw [if_pos (decide_eq_true h)]; exact h1 h
  · rw [if_neg (by simpa using h)]; exact h2 h
theorem dec_not {p : Prop} [Decidable p] {A B : Prop} (h1 : ¬ p → A) (h2 : p → B) : if (!decide p) = true then A else B := by
  by_cases h : p
  · rw [if_neg (by simp [h])]; exact h2 h
  · rw [if_pos (by simp [h])]; exact h1 h
theorem yes {A B : Prop} (h : A) : if true = true then A else B := h
theorem no {A B : Prop} (h : B) : if false = true then A else B := h
theorem nyes {A B : Prop} (h : B) : if (!true) = true then A else B := h
theorem nno {A B : Prop} (h : A) : if (!false) = true then A else B := h
theorem truI {i : Int} {M : Mem} {k : Bool → Prop} (h : k (decide (i ≠ 0))) : tru (.int i) M k := by
  have e : decide (i ≠ 0) = (i != 0) := by by_cases h : i = 0 <;> simp [h]
  rw [e] at h
  exact h
theorem truB {b : Bool} {M : Mem} {k : Bool → Prop} (h : k b) : tru (.bl b) M k := h
theorem truL {n : Nat} {xs : List D} {M : Mem} {k : Bool → Prop} (hM : M[n]? = some (.lst xs)) (h : k (!xs.isEmpty)) : tru (.ref n) M k := by
  show (match M[n]? with
    | some (.lst xs) => k (!xs.isEmpty)
    | some (.dK kvs) => k (!kvs.isEmpty)
    | _ => False)
  rw [hM]
  exact h
theorem mulR {i j : Int} (h : -(2 ^ 64) < j ∧ j < 2 ^ 64) : IntMulOk i j := (L2.CMul.ok (.inr h))
theorem mulL {i j : Int} (h : -(2 ^ 64) < i ∧ i < 2 ^ 64) : IntMulOk i j := (L2.CMul.ok (.inl h))
end W
end DL

/-! The data layer: small facts for the laws' data proofs. -/
namespace DL
open PySem PySem.Spec PyProof.Rows L2
theorem log_ltN {x : Nat} (h : x < 2 ^ 9000) : x.log2 < 9000 := by
  by_cases h0 : x = 0
  · subst h0; decide
  · exact (Nat.log2_lt h0).mpr h
theorem log_smallI {x : Int} (h0 : 0 ≤ x) (h : x < 2 ^ 64) : x.natAbs.log2 < 9000 := by
  have h1 : x.natAbs < 2 ^ 64 := by omega
  by_cases h2 : x.natAbs = 0
  · rw [h2]; decide
  · have := (Nat.log2_lt h2).mpr h1
    omega
theorem seqL {M : Mem} {q : Nat} {xs : List D} (h : M[q]? = some (.lst xs)) : seqOf M (.ref q) = some xs := by
  show (match M[q]? with | some (.lst xs) => some xs | _ => none) = _
  rw [h]
def Apd (M M' : Mem) : Prop := ∃ N, M' = M ++ N
theorem Apd.refl {M : Mem} : Apd M M := ⟨[], by simp⟩
theorem Apd.one {M : Mem} {c : Cell} : Apd M (M ++ [c]) := ⟨[c], rfl⟩
theorem Apd.trans {M M' M'' : Mem} (a : Apd M M') (b : Apd M' M'') : Apd M M'' := by
  obtain ⟨N, rfl⟩ := a
  obtain ⟨N', rfl⟩ := b
  exact ⟨N ++ N', by simp⟩
theorem Apd.get {M M' : Mem} {n : Nat} {c : Cell} (a : Apd M M') (h : M[n]? = some c) : M'[n]? = some c := by
  obtain ⟨N, rfl⟩ := a
  exact get_app h
theorem Apd.len {M M' : Mem} (a : Apd M M') : M.length ≤ M'.length := by
  obtain ⟨N, rfl⟩ := a
  simp
/-- all that was there stays, but the cells n and d -/
structure K2 (n d : Nat) (M M' : Mem) : Prop where
  len : M.length ≤ M'.length
  same : ∀ m, m < M.length → m ≠ n → m ≠ d → M'[m]? = M[m]?
theorem K2.refl {n d : Nat} {M : Mem} : K2 n d M M := ⟨Nat.le_refl _, fun _ _ _ _ => rfl⟩
theorem K2.trans {n d : Nat} {M M' M'' : Mem} (a : K2 n d M M') (b : K2 n d M' M'') : K2 n d M M'' := ⟨Nat.le_trans a.len b.len, fun m h1 h2 h3 => (b.same m (Nat.lt_of_lt_of_le h1 a.len) h2 h3).trans (a.same m h1 h2 h3)⟩
theorem K2.set1 {n d : Nat} {M : Mem} {c : Cell} : K2 n d M (M.set n c) := ⟨by simp, fun m _ h _ => List.getElem?_set_ne (Ne.symm h)⟩
theorem K2.set2 {n d : Nat} {M : Mem} {c : Cell} : K2 n d M (M.set d c) := ⟨by simp, fun m _ _ h => List.getElem?_set_ne (Ne.symm h)⟩
theorem Apd.k2 {n d : Nat} {M M' : Mem} (a : Apd M M') : K2 n d M M' := by
  obtain ⟨N, rfl⟩ := a
  exact ⟨by simp, fun m h _ _ => by rw [List.getElem?_append_left h]⟩
theorem K2.get {n d m : Nat} {M M' : Mem} {c : Cell} (k : K2 n d M M') (h : M[m]? = some c) (hn : m ≠ n) (hd : m ≠ d) : M'[m]? = some c := (k.same m (lt_of_get h) hn hd).trans h
theorem K2.wr {n d m : Nat} {M M' : Mem} {c : Cell} (k : K2 n d M M') (h : M.length ≤ m) : K2 n d M (M'.set m c) := ⟨by simpa using k.len, fun j h1 h2 h3 => by rw [List.getElem?_set_ne (by omega)]; exact k.same j h1 h2 h3⟩
/-! ### numbers in a row -/
theorem rngL (lo : Int) (n : Nat) : (rngI lo n).length = n := by simp [rngI]
theorem rngC1 (lo : Int) (n : Nat) : rngI lo (n + 1) = .int lo :: rngI (lo + 1) n := by
  unfold rngI
  rw [List.range_succ_eq_map, List.map_cons, List.map_map]
  refine congr (congrArg _ ?_) ?_
  · simp
  · refine List.map_congr_left fun i _ => ?_
    show D.int (lo + ((i + 1 : Nat) : Int)) = D.int (lo + 1 + (i : Int))
    congr 1
    omega
theorem rngZ (lo : Int) : rngI lo 0 = [] := rfl
abbrev nD (x : Nat) : D := .int (x : Int)
abbrev tN (l : List Nat) : D := .tup (l.map nD)
theorem rngN (lo n : Nat) : rngI (lo : Nat) n = (List.range' lo n).map nD := by
  induction n generalizing lo with
  | zero => rfl
  | succ n ih =>
    rw [rngC1, List.range'_succ, List.map_cons, ← ih]
    rfl
theorem rng0 (n : Nat) : rngI 0 n = (List.range n).map nD := by
  have := rngN 0 n
  rw [List.range_eq_range']
  exact this
/-- a loop over a range: the turn's number -/
theorem rng_next {m i : Nat} {x : D} {xs : List D} (e : x :: xs = rngI i (m - i)) : i < m ∧ x = .int (i : Nat) ∧ xs = rngI ((i + 1 : Nat) : Int) (m - (i + 1)) := by
  cases hz : m - i with
  | zero => rw [hz, rngZ] at e; cases e
  | succ j =>
    rw [hz, rngC1] at e
    obtain ⟨e1, e2⟩ := List.cons.inj e
    refine ⟨by omega, e1, ?_⟩
    rw [show m - (i + 1) = j by omega]
    exact e2
theorem rng_end {m i : Nat} (h : i ≤ m) (e : [] = rngI (i : Nat) (m - i)) : i = m := by
  rcases Nat.lt_or_ge i m with z | z
  · obtain ⟨j, hj⟩ : ∃ j, m - i = j + 1 := ⟨m - i - 1, by omega⟩
    rw [hj, rngC1] at e
    cases e
  · omega
/-! ### lists of whole numbers as data -/
theorem pyN : ∀ l : List Nat, toPys (l.map nD) = l.map fun (x : Nat) => PyData.int (x : Int)
  | [] => rfl
  | a :: l => by
    show toPy (nD a) :: toPys (l.map nD) = _
    rw [pyN l]
    rfl
theorem puN : ∀ l : List Nat, pures? (l.map nD) = true
  | [] => rfl
  | a :: l => by
    show (pure? (nD a) && pures? (l.map nD)) = true
    rw [puN l]
    rfl
theorem flN : ∀ l : List Nat, (l.map nD).all flat? = true
  | [] => rfl
  | a :: l => by
    rw [List.map_cons, List.all_cons, flN l]
    rfl
theorem anyN (i : Nat) (l : List Nat) : ((toPys (l.map nD)).any fun z => PyData.eqv z (toPy (nD i))) = decide (i ∈ l) := by
  rw [pyN, List.any_map, Bool.eq_iff_iff]
  simp only [List.any_eq_true, Function.comp, decide_eq_true_eq]
  constructor
  · rintro ⟨x, h1, h2⟩
    have h2 : ((x : Int) == (i : Int)) = true := h2
    have : (x : Int) = i := by simpa using h2
    have : x = i := by omega
    rw [← this]; exact h1
  · intro h
    exact ⟨i, h, by show ((i : Int) == (i : Int)) = true; simp⟩
theorem inN {i : Nat} {l : List Nat} {d : D} {M : Mem} {P : Po} (hs : seqOf M d = some (l.map nD)) (h : P (.bl (decide (i ∈ l))) M) : inD false (nD i) d M P := by
  unfold inD
  rw [hs]
  refine ⟨.inl ⟨rfl, flN l⟩, ?_⟩
  rw [if_neg (by decide), anyN]
  exact h
theorem notinN {i : Nat} {l : List Nat} {d : D} {M : Mem} {P : Po} (hs : seqOf M d = some (l.map nD)) (h : P (.bl (!decide (i ∈ l))) M) : inD true (nD i) d M P := by
  unfold inD
  rw [hs]
  refine ⟨.inl ⟨rfl, flN l⟩, ?_⟩
  rw [if_pos rfl, anyN]
  exact h
theorem intsN : ∀ l : List Nat, intsOf (l.map nD) = some (l.map fun (x : Nat) => (x : Int))
  | [] => rfl
  | a :: l => by
    show (intsOf (l.map nD)).map ((a : Int) :: ·) = _
    rw [intsN l]
    rfl
theorem sumN : ∀ l : List Nat, (l.map fun (x : Nat) => (x : Int)).sum = ((l.sum : Nat) : Int)
  | [] => rfl
  | a :: l => by
    rw [List.map_cons, List.sum_cons, List.sum_cons, sumN l]
    omega
theorem eqS {a b : Str} {M : Mem} {P : Po} (ha : SeqAt.shaped (.str a) = true) (hb : SeqAt.shaped (.str b) = true) (h : P (.bl (decide (a = b))) M) : opEq (.str a) (.str b) M P := by
  refine ⟨⟨ha, hb⟩, ?_⟩
  have e : PyData.eqv (toPy (.str a)) (toPy (.str b)) = decide (a = b) := by
    show PyData.eqv (.str a) (.str b) = _
    rw [Bool.eq_iff_iff]
    simp [PyData.eqv]
  rw [e]
  exact h
theorem neS {a b : Str} {M : Mem} {P : Po} (ha : SeqAt.shaped (.str a) = true) (hb : SeqAt.shaped (.str b) = true) (h : P (.bl (!decide (a = b))) M) : opNe (.str a) (.str b) M P := by
  refine ⟨⟨ha, hb⟩, ?_⟩
  have e : PyData.eqv (toPy (.str a)) (toPy (.str b)) = decide (a = b) := by
    show PyData.eqv (.str a) (.str b) = _
    rw [Bool.eq_iff_iff]
    simp [PyData.eqv]
  rw [e]
  exact h
theorem eqN {a b : Nat} {M : Mem} {P : Po} (h : P (.bl (decide (a = b))) M) : opEq (nD a) (nD b) M P := W.eq_ (by
  have e : decide ((a : Int) = (b : Int)) = decide (a = b) := by
    rw [Bool.eq_iff_iff, decide_eq_true_eq, decide_eq_true_eq]
    omega
  rw [e]
  exact h)
theorem neN {a b : Nat} {M : Mem} {P : Po} (h : P (.bl (!decide (a = b))) M) : opNe (nD a) (nD b) M P := W.ne_ (by
  have e : decide ((a : Int) = (b : Int)) = decide (a = b) := by
    rw [Bool.eq_iff_iff, decide_eq_true_eq, decide_eq_true_eq]
    omega
  rw [e]
  exact h)
theorem band1 (n : Nat) : Builtin.bitAnd (n : Int) 1 = ((n % 2 : Nat) : Int) := by
  have e : Builtin.bitAnd (n : Int) 1 = ((n &&& 1 : Nat) : Int) := by
    unfold Builtin.bitAnd
    rw [decide_eq_true (by omega : (0 : Int) ≤ (n : Int))]
    rfl
  rw [e, Nat.and_one_is_mod]
theorem atN {l : List Nat} {i : Nat} {v : Nat} (h : l[i]? = some v) : atI (l.map nD) (i : Nat) = some (nD v) := W.at_nat (by rw [List.getElem?_map, h]; rfl)
theorem lenT1 {xs : List D} {M : Mem} {P : Po} {n : Nat} (hn : xs.length = n) (h : P (nD n) M) : fLen [.tup xs] M P := W.lenT (by rw [hn]; exact h)
end DL
namespace DL
open PySem PySem.Spec PyProof.Rows L2
theorem pyS : ∀ l : List Str, toPys (l.map D.str) = l.map PyData.str
  | [] => rfl
  | a :: l => by
    show toPy (.str a) :: toPys (l.map D.str) = _
    rw [pyS l]
    rfl
theorem flS : ∀ l : List Str, (l.map D.str).all flat? = true
  | [] => rfl
  | a :: l => by
    rw [List.map_cons, List.all_cons, flS l]
    rfl
theorem inS {x : Str} {ys : List Str} {d : D} {M : Mem} {P : Po} {b : Bool} (hs : seqOf M d = some (ys.map D.str)) (hb : ys.any (fun z => PyData.eqv (.str z) (.str x)) = b) (h : P (.bl b) M) : inD false (.str x) d M P := by
  unfold inD
  rw [hs]
  refine ⟨.inl ⟨rfl, flS ys⟩, ?_⟩
  rw [if_neg (by decide), pyS, List.any_map]
  have e : (ys.any ((fun z => PyData.eqv z (toPy (.str x))) ∘ PyData.str)) = b := hb
  rw [e]
  exact h
end DL
namespace DL
open PySem PySem.Spec PyProof.Rows L2
theorem andN1 {n : Nat} {M : Mem} {P : Po} (h : P (nD (n % 2)) M) : opAnd (nD n) (.int 1) M P := by
  show P (.int (Builtin.bitAnd (n : Int) 1)) M
  rw [band1]
  exact h
theorem shrN {n i : Nat} {M : Mem} {P : Po} (h : P (nD (n / 2 ^ i)) M) : opShr (nD n) (nD i) M P := by
  refine W.shr (by omega) ?_
  have e : (n : Int) / 2 ^ ((i : Nat) : Int).toNat = ((n / 2 ^ i : Nat) : Int) := by
    rw [Int.toNat_natCast]
    simp
  rw [e]
  exact h
theorem shlN1 {i : Nat} {M : Mem} {P : Po} (hi : i ≤ 1000) (h : P (nD (2 ^ i)) M) : opShl (.int 1) (nD i) M P := by
  refine W.shl ⟨by omega, by omega, by decide⟩ ?_
  have e : (1 : Int) * 2 ^ ((i : Nat) : Int).toNat = ((2 ^ i : Nat) : Int) := by
    rw [Int.toNat_natCast, Int.one_mul]
    simp
  rw [e]
  exact h
theorem tb (n i : Nat) : n.testBit i = decide (n / 2 ^ i % 2 = 1) := Nat.testBit_eq_decide_div_mod_eq
end DL
namespace DL
open PySem PySem.Spec PyProof.Rows L2
theorem sumT {l : List Nat} {M : Mem} {P : Po} (h : P (nD l.sum) M) : fC cSum true [tN l] M P := by
  unfold fC
  show (true = true ∨ _) ∧ _
  refine ⟨.inl rfl, ?_⟩
  unfold cSum
  rw [intsN]
  dsimp only
  rw [sumN]
  exact h
theorem sortN {d : D} {l : List Nat} {M : Mem} {P : Po} (hs : seqOf M d = some (l.map nD)) (nd : l.Nodup) (h : ∀ ms : List Nat, ms.Pairwise (· < ·) → (∀ y, y ∈ ms ↔ y ∈ l) → P (.ref M.length) (M ++ [.lst (ms.map nD)])) : fSorted [d] M P := by
  unfold fSorted
  dsimp only
  rw [hs]
  dsimp only
  rw [intsN]
  dsimp only
  intro ms hp hw
  have nn : ∀ z ∈ ms, 0 ≤ z := fun z hz => by
    obtain ⟨x, _, rfl⟩ := List.mem_map.mp (hp.mem_iff.mp hz)
    omega
  have e : ms = (ms.map Int.toNat).map fun (x : Nat) => (x : Int) := by
    rw [List.map_map]
    conv => lhs; rw [← List.map_id ms]
    refine List.map_congr_left fun z hz => ?_
    have := nn z hz
    show z = ((z.toNat : Nat) : Int)
    omega
  have hp2 : (ms.map Int.toNat).Perm l := by
    have := hp.map Int.toNat
    rw [List.map_map] at this
    have e2 : l.map (Int.toNat ∘ fun (x : Nat) => (x : Int)) = l := by
      conv => rhs; rw [← List.map_id l]
      exact List.map_congr_left fun z _ => by show ((z : Int)).toNat = z; omega
    rwa [e2] at this
  have hw2 : (ms.map Int.toNat).Pairwise (· ≤ ·) := by
    rw [List.pairwise_map]
    refine hw.imp_of_mem fun {a b} ha hb hab => ?_
    have := nn a ha
    omega
  have nd2 : (ms.map Int.toNat).Nodup := hp2.nodup_iff.mpr nd
  have hw3 : (ms.map Int.toNat).Pairwise (· < ·) := by
    have := hw2.and nd2
    exact this.imp fun {a b} q => by
      have h1 := q.1
      have h2 : a ≠ b := q.2
      omega
  have := h (ms.map Int.toNat) hw3 fun y => hp2.mem_iff
  rw [e, List.map_map]
  exact this
end DL

/-! The data layer: what the laws' proofs share. -/
namespace DL
open PySem PySem.Spec PyProof.Rows L2
def opRev (d : D) (M : Mem) (P : Po) : Prop := match d with
  | .tup xs => P (.tup xs.reverse) M
  | .ref n => (match M[n]? with
    | some (.lst xs) => P (.ref M.length) (M ++ [.lst xs.reverse])
    | _ => False)
  | _ => False
namespace W
def toin2 (d e : D) (k : Int → Int → Prop) : Prop := match d, e with
  | .int i, .int j => k i j
  | _, _ => False
section
variable {M : Mem} {P : Po} {C : Ctx} {ρ : Env}
theorem ixDK {n : Nat} {kvs : List (Key × D)} {y d : D} {k : Key} (hM : M[n]? = some (.dK kvs)) (hk : keyK y = some k) (hv : valD kvs k = some d) (h : P d M) : opIx (.ref n) y M P := by
  show (match (match M[n]? with
    | some (.lst xs) => some xs
    | _ => none) with
    | some xs => _
    | none => (match dgetD M n y with
        | some (some d) => P d M
        | _ => False))
  have e : dgetD M n y = some (some d) := by
    unfold dgetD
    rw [hM]
    show (keyK y).map (valD kvs) = _
    rw [hk, Option.map_some, hv]
  rw [hM]
  dsimp only
  rw [e]
  exact h
theorem ixDT {n : Nat} {kvs : List (List Key × D)} {y d : D} {k : List Key} (hM : M[n]? = some (.dT kvs)) (hk : keyT y = some k) (hv : valD kvs k = some d) (h : P d M) : opIx (.ref n) y M P := by
  show (match (match M[n]? with
    | some (.lst xs) => some xs
    | _ => none) with
    | some xs => _
    | none => (match dgetD M n y with
        | some (some d) => P d M
        | _ => False))
  have e : dgetD M n y = some (some d) := by
    unfold dgetD
    rw [hM]
    show (keyT y).map (valD kvs) = _
    rw [hk, Option.map_some, hv]
  rw [hM]
  dsimp only
  rw [e]
  exact h
theorem setDK {n : Nat} {kvs : List (Key × D)} {y d : D} {k : Key} {K : Mem → Prop} (hM : M[n]? = some (.dK kvs)) (hk : keyK y = some k) (hl : kvs.length < sizeLine) (h : K (M.set n (.dK (putD kvs k d)))) : opSet (.ref n) y d M K := by
  show (match M[n]? with
    | some (.lst xs) => _
    | some (.dK kvs) => (match keyK y with
      | some k => kvs.length < sizeLine ∧ K (M.set n (.dK (putD kvs k d)))
      | none => False)
    | some (.dT kvs) => _
    | _ => False)
  rw [hM]
  dsimp only
  rw [hk]
  exact ⟨hl, h⟩
theorem setDT {n : Nat} {kvs : List (List Key × D)} {y d : D} {k : List Key} {K : Mem → Prop} (hM : M[n]? = some (.dT kvs)) (hk : keyT y = some k) (hl : kvs.length < sizeLine) (h : K (M.set n (.dT (putD kvs k d)))) : opSet (.ref n) y d M K := by
  show (match M[n]? with
    | some (.lst xs) => _
    | some (.dK kvs) => _
    | some (.dT kvs) => (match keyT y with
      | some k => kvs.length < sizeLine ∧ K (M.set n (.dT (putD kvs k d)))
      | none => False)
    | _ => False)
  rw [hM]
  dsimp only
  rw [hk]
  exact ⟨hl, h⟩
theorem disp2 {s1 s2 : Str} {a b : DE} (h : a C ρ (M ++ [.dK []]) fun x M1 => b C ρ M1 fun y M2 => M2[M.length]? = some (.dK []) ∧ (2 : Nat) ≤ 15 ∧ P (.ref M.length) (M2.set M.length (.dK (mergeD [] [(.inr s1, x), (.inr s2, y)])))) : eDisp [(eK (.str s1), a), (eK (.str s2), b)] C ρ M P := h
theorem repT {xs : List D} {z : Int} (hc : -1000 ≤ z ∧ z ≤ 1000 ∧ xs.length ≤ 1000) (h : P (.tup (List.replicate z.toNat xs).flatten) M) : opMul (.tup xs) (.int z) M P := ⟨hc, h⟩
theorem ints_map : ∀ l : List Int, intsOf (l.map D.int) = some l
  | [] => rfl
  | a :: l => by
    show (intsOf (l.map D.int)).map (a :: ·) = _
    rw [ints_map l]
    rfl
theorem rev {a : DE} (h : a C ρ M fun d M1 => opRev d M1 P) : eRev a C ρ M P := h
theorem revT {xs : List D} (h : P (.tup xs.reverse) M) : opRev (.tup xs) M P := h
theorem revL {n : Nat} {xs : List D} (hM : M[n]? = some (.lst xs)) (h : P (.ref M.length) (M ++ [.lst xs.reverse])) : opRev (.ref n) M P := by
  show (match M[n]? with
    | some (.lst xs) => P (.ref M.length) (M ++ [.lst xs.reverse])
    | _ => False)
  rw [hM]
  exact h
theorem lenSetT {ns : List Int} (hl : ns.length ≤ 1000) (h : P (.int ((ddl ns).length : Nat)) M) : fLenSet [.tup (ns.map .int)] M P := by
  unfold fLenSet
  dsimp only [seqOf]
  rw [ints_map]
  exact ⟨hl, h⟩
theorem lenRol {xs : List D} (h : P (.int (xs.length : Nat)) M) : fLen [.rol xs] M P := h
theorem lenKup {xs : List D} (h : P (.int (xs.length : Nat)) M) : fLen [.kup xs] M P := h
theorem ixRol {xs : List D} {i : Int} {d : D} (q : atI xs i = some d) (h : P d M) : opIx (.rol xs) (.int i) M P := by
  show (match atI xs i with
    | some d => P d M
    | none => False)
  rw [q]
  exact h
theorem str_ {i : Int} (hc : i.natAbs.log2 < 1920) (h : P (.str (toString i)) M) : fStr [.int i] M P := ⟨hc, h⟩
theorem strN (h : P (.str "None") M) : fStr [.non] M P := h
theorem clen {ds : List D} {k : D → Prop} (h : k (.int (ds.length : Nat))) : cLen ds k := h
theorem bools_map : ∀ bs : List Bool, boolsOf (bs.map D.bl) = some bs
  | [] => rfl
  | b :: bs => by
    show (boolsOf (bs.map D.bl)).map (b :: ·) = _
    rw [bools_map bs]
    rfl
theorem call_ {bs : List Bool} {k : D → Prop} (h : k (.bl (bs.all id))) : cAll (bs.map D.bl) k := by
  unfold cAll
  rw [bools_map]
  exact h
theorem cany {bs : List Bool} {k : D → Prop} (h : k (.bl (bs.any id))) : cAny (bs.map D.bl) k := by
  unfold cAny
  rw [bools_map]
  exact h
theorem csum {l : List Int} {k : D → Prop} (h : k (.int l.sum)) : cSum (l.map D.int) k := by
  unfold cSum
  rw [ints_map]
  exact h
theorem fsum {q : Nat} {l : List Int} (hM : M[q]? = some (.lst (l.map .int))) (h : P (.int l.sum) M) : fC cSum true [.ref q] M P := by
  unfold fC
  dsimp only
  rw [seqL hM]
  exact ⟨.inl rfl, csum h⟩
theorem irng2 {a b : DE} {Q : List D → (Mem → Prop) → Mem → Prop} (h : a C ρ M fun d M1 => b C ρ M1 fun e M2 => toin2 d e fun i j => ((j - i).toNat ≤ sizeLine ∧ -(2 ^ 62) ≤ i ∧ i < 2 ^ 62 ∧ -(2 ^ 62) ≤ j ∧ j < 2 ^ 62) ∧ Q (rngI i (j - i).toNat) (fun _ => True) M2) : iRng2 a b C ρ M Q := h
theorem in2 {i j : Int} {K : Int → Int → Prop} (h : K i j) : toin2 (.int i) (.int j) K := h
theorem sortKR {ta : DE} {k1 k2 : KE} (h : ta C ρ M fun d M1 => ∃ (n : Nat) (l : List It2), d = .int (n : Nat) ∧ n ≤ 16777216 ∧ keyed k1 k2 ρ M1 (rngI 0 n) = some l ∧ P (.ref M1.length) (M1 ++ [.lst ((l.mergeSort le2).map Prod.fst)])) (mono : ∀ (Q Q' : Po), (∀ d M', Q d M' → Q' d M') → ta C ρ M Q → ta C ρ M Q') : eSortKR ta k1 k2 C ρ M P := by
  refine mono _ _ (fun d M1 ⟨n, l, e, hn, hk, hp⟩ => ?_) h
  subst e
  refine ⟨⟨by omega, by omega⟩, ?_⟩
  rw [Int.toNat_natCast, hk]
  exact hp
variable {E : DEnds} {j n : Nat} {r : DA}
theorem raise (h : r C ρ M fun ds M1 => ds.length = n ∧ C.ex ρ j ds.reverse M1) : sRaise j n r C E ρ M := h
end
end W
/-- a comprehension that touches nothing, over values of one shape -/
theorem cloop_map {α : Type} {g : D → Env → Mem → (Env → Mem → Prop) → Prop} {tt : Env → Mem → (Bool → Mem → Prop) → Prop} {e : Env → Mem → (D → Mem → Prop) → Prop} {grd : Mem → Prop} {ρ : Env} {P : List D → Mem → Prop} {M : Mem} (f h : α → D) (hg : grd M) :
    ∀ (l : List α) (acc : List D), (∀ a ∈ l, ∀ (acc : List D) (K : List D → Mem → Prop), K (acc ++ [h a]) M → g (f a) ρ M fun ρ2 M2 => tt ρ2 M2 fun b M3 => if b = true then e ρ2 M3 fun d M4 => K (acc ++ [d]) M4 else K acc M3) →
      P (acc ++ l.map h) M → cloop g tt e grd ρ P (l.map f) acc M
  | [], acc, _, p => ⟨hg, by simpa using p⟩
  | a :: l, acc, st, p => ⟨hg, st a List.mem_cons_self acc (cloop g tt e grd ρ P (l.map f)) (cloop_map f h hg l _ (fun b hb => st b (List.mem_cons_of_mem _ hb)) (by simpa using p))⟩
/-- .. over numbers in a row -/
theorem cloop_rng {g : D → Env → Mem → (Env → Mem → Prop) → Prop} {tt : Env → Mem → (Bool → Mem → Prop) → Prop} {e : Env → Mem → (D → Mem → Prop) → Prop} {grd : Mem → Prop} {ρ : Env} {P : List D → Mem → Prop} {M : Mem} {n : Nat} (h : Nat → D) (hg : grd M)
    (st : ∀ i, i < n → ∀ (acc : List D) (K : List D → Mem → Prop), K (acc ++ [h i]) M → g (nD i) ρ M fun ρ2 M2 => tt ρ2 M2 fun b M3 => if b = true then e ρ2 M3 fun d M4 => K (acc ++ [d]) M4 else K acc M3)
    (p : P ((List.range n).map h) M) : cloop g tt e grd ρ P (rngI 0 n) [] M := by
  rw [rng0]
  exact cloop_map nD h hg _ _ (fun i hi => st i (List.mem_range.mp hi)) p
/-! ### a chest: a number mixed of all cells, the great cells -/
abbrev kM : Key := .inr "mixed"
abbrev kG : Key := .inr "great"
def chD (a : Int) (g : Nat) : List (Key × D) := [(kM, .int a), (kG, .ref g)]
theorem kMG : kM ≠ kG := by decide +kernel
theorem kGM : kG ≠ kM := by decide +kernel
theorem sMG : ¬ (Str.ofString "mixed" = Str.ofString "great") := by decide +kernel
theorem val_m {a : Int} {g : Nat} : valD (chD a g) kM = some (.int a) := by
  unfold valD chD
  rw [List.find?_cons_of_pos (by simp)]
  rfl
theorem val_g {a : Int} {g : Nat} : valD (chD a g) kG = some (.ref g) := by
  unfold valD chD
  rw [List.find?_cons_of_neg (by simp [sMG]), List.find?_cons_of_pos (by simp)]
  rfl
theorem put_m {a b : Int} {g : Nat} : putD (chD a g) kM (.int b) = chD b g := by
  unfold putD chD
  rw [if_pos (by simp), List.map_cons, List.map_cons, List.map_nil, if_pos rfl, if_neg kGM]
theorem merge_ch {a : Int} {g : Nat} : mergeD [] [(kM, .int a), (kG, .ref g)] = chD a g := by
  show putD (putD [] kM (.int a)) kG (.ref g) = _
  have e : putD ([] : List (Key × D)) kM (.int a) = [(kM, .int a)] := rfl
  rw [e]
  unfold putD chD
  rw [if_neg (by simp [sMG])]
  rfl
structure Chest (M : Mem) (n g : Nat) : Prop where
  ex : ∃ (a : Int) (gs : List Int), M[n]? = some (.dK (chD a g)) ∧ M[g]? = some (.lst (gs.map .int)) ∧ 0 ≤ a ∧ gs.length ≤ 63 ∧ ∀ y ∈ gs, (0 : Int) ≤ y
  ne : n ≠ g
theorem Chest.lt {M : Mem} {n g : Nat} (h : Chest M n g) : n < M.length ∧ g < M.length := by
  obtain ⟨⟨a, gs, h1, h2, _⟩, _⟩ := h
  exact ⟨lt_of_get h1, lt_of_get h2⟩
theorem Chest.keep {M M' : Mem} {n g : Nat} (h : Chest M n g) (e1 : M'[n]? = M[n]?) (e2 : M'[g]? = M[g]?) : Chest M' n g := by
  obtain ⟨⟨a, gs, h1, h2, h3⟩, h4⟩ := h
  exact ⟨⟨a, gs, e1.trans h1, e2.trans h2, h3⟩, h4⟩
theorem Chest.apd {M M' : Mem} {n g : Nat} (h : Chest M n g) (a : Apd M M') : Chest M' n g := by
  obtain ⟨N, rfl⟩ := a
  exact h.keep (by rw [List.getElem?_append_left h.lt.1]) (by rw [List.getElem?_append_left h.lt.2])
/-- a cell that is new to M is written -/
theorem Chest.wr {M : Mem} {n g m : Nat} {c : Cell} (h : Chest M n g) (h1 : m ≠ n) (h2 : m ≠ g) : Chest (M.set m c) n g := h.keep (List.getElem?_set_ne h1) (List.getElem?_set_ne h2)
/-! ### quotients in lowest terms -/
theorem gcd_mod (x y : Int) : Nat.gcd y.natAbs (x % y).natAbs = Nat.gcd x.natAbs y.natAbs := by
  have e : x = y * (x / y) + x % y := (Int.mul_ediv_add_emod x y).symm
  apply Nat.dvd_antisymm
  · have h1 : ((Nat.gcd y.natAbs (x % y).natAbs : Nat) : Int) ∣ y := Int.ofNat_dvd_left.mpr (Nat.gcd_dvd_left _ _)
    have h2 : ((Nat.gcd y.natAbs (x % y).natAbs : Nat) : Int) ∣ x % y := Int.ofNat_dvd_left.mpr (Nat.gcd_dvd_right _ _)
    refine Nat.dvd_gcd (Int.ofNat_dvd_left.mp ?_) (Nat.gcd_dvd_left _ _)
    have h3 := Int.dvd_add (Int.dvd_trans h1 (Int.dvd_mul_right y (x / y))) h2
    rwa [← e] at h3
  · have h1 : ((Nat.gcd x.natAbs y.natAbs : Nat) : Int) ∣ x := Int.ofNat_dvd_left.mpr (Nat.gcd_dvd_left _ _)
    have h2 : ((Nat.gcd x.natAbs y.natAbs : Nat) : Int) ∣ y := Int.ofNat_dvd_left.mpr (Nat.gcd_dvd_right _ _)
    refine Nat.dvd_gcd (Nat.gcd_dvd_right _ _) (Int.ofNat_dvd_left.mp ?_)
    have h3 := Int.dvd_sub h1 (Int.dvd_trans h2 (Int.dvd_mul_right y (x / y)))
    have e2 : x - y * (x / y) = x % y := by omega
    rwa [e2] at h3
def gA (t b : Int) : Int := ((Nat.gcd t.natAbs b.natAbs : Nat) : Int)
def low (t b : Int) : Int × Int := (t / gA t b, b / gA t b)
theorem gA_pos {t b : Int} (hb : 0 < b) : 0 < gA t b := by
  unfold gA
  have : 0 < Nat.gcd t.natAbs b.natAbs := Nat.gcd_pos_of_pos_right _ (by omega)
  omega
theorem gA_le {t b : Int} (hb : 0 < b) : gA t b ≤ b := by
  unfold gA
  have := Nat.gcd_le_right (m := t.natAbs) (n := b.natAbs) (by omega)
  omega
theorem gA_mul {k t b : Int} (hk : 0 < k) : gA (k * t) (k * b) = k * gA t b := by
  unfold gA
  rw [Int.natAbs_mul, Int.natAbs_mul, Nat.gcd_mul_left, Int.natCast_mul]
  congr 1
  omega
theorem low_mul {k t b : Int} (hk : 0 < k) : low (k * t) (k * b) = low t b := by
  unfold low
  rw [gA_mul hk, Int.mul_ediv_mul_of_pos _ _ hk, Int.mul_ediv_mul_of_pos _ _ hk]
/-- alike quotients, alike lowest terms -/
theorem low_eq {t b u c : Int} (hb : 0 < b) (hc : 0 < c) (h : t * c = u * b) : low t b = low u c := by
  rw [← low_mul (k := c) (t := t) hc, ← low_mul (k := b) (t := u) hb]
  rw [Int.mul_comm c t, h, Int.mul_comm c b, Int.mul_comm u b]
theorem gA_dvd {t b : Int} : gA t b ∣ t ∧ gA t b ∣ b := ⟨Int.ofNat_dvd_left.mpr (Nat.gcd_dvd_left _ _), Int.ofNat_dvd_left.mpr (Nat.gcd_dvd_right _ _)⟩
theorem low_spec {t b : Int} (hb : 0 < b) : (low t b).1 * b = t * (low t b).2 ∧ 0 < (low t b).2 ∧ (low t b).2 ∣ b := by
  have hg := gA_pos (t := t) hb
  have e1 := Int.ediv_mul_cancel (gA_dvd (t := t) (b := b)).1
  have e2 := Int.ediv_mul_cancel (gA_dvd (t := t) (b := b)).2
  refine ⟨?_, ?_, ⟨gA t b, by show b = b / gA t b * gA t b; rw [e2]⟩⟩
  · show t / gA t b * b = t * (b / gA t b)
    conv => lhs; arg 2; rw [← e2]
    conv => rhs; arg 1; rw [← e1]
    rw [Int.mul_comm (b / gA t b), ← Int.mul_assoc]
  · show 0 < b / gA t b
    rcases Int.lt_or_le 0 (b / gA t b) with z | z
    · exact z
    · have := Int.mul_nonpos_of_nonpos_of_nonneg z (by omega : 0 ≤ gA t b)
      omega
/-- the quotient t : w, in lowest terms -/
abbrev fr (p : Int × Int) : D := .tup [.int p.1, .int p.2]
/-- the fraction p is the quotient t : w -/
def Qu (w t : Int) (p : Int × Int) : Prop := p = low t w
theorem low_le {t b : Int} (hb : 0 < b) : (low t b).2 ≤ b := Int.le_of_dvd hb (low_spec hb).2.2
/-- sums, products -/
theorem low_add {w a b : Int} (hw : 0 < w) : low ((low a w).1 * (low b w).2 + (low b w).1 * (low a w).2) ((low a w).2 * (low b w).2) = low (a + b) w := by
  obtain ⟨h1, h2, _⟩ := low_spec (t := a) hw
  obtain ⟨h3, h4, _⟩ := low_spec (t := b) hw
  refine low_eq (Int.mul_pos h2 h4) hw ?_
  generalize (low a w).1 = p at *
  generalize (low a w).2 = q at *
  generalize (low b w).1 = r at *
  generalize (low b w).2 = s at *
  rw [Int.add_mul, Int.add_mul, Int.mul_right_comm p s w, h1, Int.mul_right_comm r q w, h3]
  rw [Int.mul_assoc a q s, Int.mul_right_comm b s q, Int.mul_assoc b q s]
theorem low_scale {w a l : Int} (hw : 0 < w) : low ((low a w).1 * l) (low a w).2 = low (a * l) w := by
  obtain ⟨h1, h2, _⟩ := low_spec (t := a) hw
  refine low_eq h2 hw ?_
  rw [Int.mul_right_comm, h1, Int.mul_right_comm]
theorem log_int {x : Int} (h : x.natAbs < 2 ^ 64) : x.natAbs.log2 < 9000 := by
  by_cases h2 : x.natAbs = 0
  · rw [h2]; decide
  · have := (Nat.log2_lt h2).mpr h
    omega
/-! ### sorted rows -/
theorem sorted_one {α : Type} {lt : α → α → Prop} (irr : ∀ a, ¬ lt a a) (tr : ∀ a b c, lt a b → lt b c → lt a c) : ∀ {l m : List α}, l.Pairwise lt → m.Pairwise lt → (∀ x, x ∈ l ↔ x ∈ m) → l = m
  | [], [], _, _, _ => rfl
  | [], b :: m, _, _, h => absurd ((h b).mpr List.mem_cons_self) (by simp)
  | a :: l, [], _, _, h => absurd ((h a).mp List.mem_cons_self) (by simp)
  | a :: l, b :: m, hl, hm, h => by
    rw [List.pairwise_cons] at hl hm
    have e : a = b := by
      rcases List.mem_cons.mp ((h a).mp List.mem_cons_self) with z | z
      · exact z
      · rcases List.mem_cons.mp ((h b).mpr List.mem_cons_self) with y | y
        · exact y.symm
        · exact (irr _ (tr _ _ _ (hl.1 b y) (hm.1 a z))).elim
    subst e
    rw [sorted_one irr tr hl.2 hm.2 fun x => ?_]
    constructor
    · intro hx
      rcases List.mem_cons.mp ((h x).mp (List.mem_cons_of_mem _ hx)) with z | z
      · subst z
        exact (irr _ (hl.1 x hx)).elim
      · exact z
    · intro hx
      rcases List.mem_cons.mp ((h x).mpr (List.mem_cons_of_mem _ hx)) with z | z
      · subst z
        exact (irr _ (hm.1 x hx)).elim
      · exact z

/-! ### lists of ints: the place, the greatest -/
theorem pyI : ∀ l : List Int, toPys (l.map D.int) = l.map PyData.int
  | [] => rfl
  | a :: l => by
    show toPy (.int a) :: toPys (l.map D.int) = _
    rw [pyI l]
    rfl
theorem puI : ∀ l : List Int, pures? (l.map D.int) = true
  | [] => rfl
  | a :: l => by
    show (pure? (.int a) && pures? (l.map D.int)) = true
    rw [puI l]
    rfl
theorem layI : ∀ l : List Int, PyData.canLayAll0 (l.map PyData.int) = true
  | [] => rfl
  | a :: l => by
    show (PyData.canLay0 (.int a) && PyData.canLayAll0 (l.map PyData.int)) = true
    rw [layI l]
    rfl
theorem shI (l : List Int) : SeqAt.shaped (.list (toPys (l.map D.int))) = true := by
  rw [pyI]
  show (PyData.canLay0 (.list (l.map PyData.int)) && decide (PyData.depth (.list (l.map PyData.int)) ≤ 64)) = true
  have h2 := depth_ints l
  have h3 : PyData.depth (.list (l.map PyData.int)) ≤ 64 := by simp only [PyData.depth]; omega
  rw [decide_eq_true h3, Bool.and_true]
  exact layI l
theorem firstI {x : Int} : ∀ {l : List Int} {i j : Nat}, l[j]? = some x → (∀ (m : Nat), m < j → l[m]? ≠ some x) → firstAt (.int x) (l.map PyData.int) i = some (i + j)
  | [], _, _, h, _ => by simp at h
  | a :: l, i, j, h, hm => by
    rw [List.map_cons]
    unfold firstAt
    cases j with
    | zero =>
      have e : a = x := by simpa using h
      subst e
      rw [if_pos (by show ((a : Int) == a) = true; simp)]
      rfl
    | succ j =>
      have hne : a ≠ x := fun e => hm 0 (Nat.zero_lt_succ j) (by rw [← e]; rfl)
      rw [if_neg (by show ¬ ((a : Int) == x) = true; simpa using hne)]
      rw [firstI (j := j) (by simpa using h) (fun m h1 h2 => hm (m + 1) (by omega) (by simpa using h2))]
      congr 1
      omega
theorem idxL {q j : Nat} {x : Int} {l : List Int} {M : Mem} {P : Po} (hM : M[q]? = some (.lst (l.map D.int))) (h1 : l[j]? = some x) (h2 : ∀ (m : Nat), m < j → l[m]? ≠ some x) (h : P (nD j) M) : mIndex (.ref q) [.int x] M P := by
  show (match M[q]?, some (PyData.int x) with
    | some (.lst xs), some p => (pures? xs = true ∧ SeqAt.shaped (.list (toPys xs)) = true ∧ SeqAt.shaped p = true) ∧ (match firstAt p (toPys xs) 0 with
      | some j => P (.int (j : Nat)) M
      | none => False)
    | _, _ => False)
  rw [hM]
  show (pures? (l.map D.int) = true ∧ SeqAt.shaped (.list (toPys (l.map D.int))) = true ∧ SeqAt.shaped (.int x) = true) ∧ (match firstAt (.int x) (toPys (l.map D.int)) 0 with
      | some j => P (.int (j : Nat)) M
      | none => False)
  refine ⟨⟨puI l, shI l, rfl⟩, ?_⟩
  rw [pyI, firstI h1 h2, Nat.zero_add]
  exact h
theorem maxR {q : Nat} {l : List Int} {M : Mem} {P : Po} (hM : M[q]? = some (.lst (l.map D.int))) (hl : 0 < l.length) (h : P (.int (maxL l)) M) : fC cMax true [.ref q] M P := by
  unfold fC
  dsimp only
  rw [seqL hM]
  refine ⟨.inl rfl, ?_⟩
  unfold cMax
  rw [W.ints_map l]
  exact ⟨hl, h⟩
/-! ### cuts -/
theorem cut_from {xs : List D} {m : Nat} : cutD xs (some (m : Int)) none = xs.drop m := by
  unfold cutD
  rw [HT.sIx_nat, HT.sIx_none]
  rcases Nat.le_total m xs.length with h | h
  · rw [Nat.min_eq_left h, List.take_of_length_le (by rw [List.length_drop]; exact Nat.le_refl _)]
  · rw [Nat.min_eq_right h, List.drop_eq_nil_of_le h, List.drop_eq_nil_of_le (Nat.le_refl _), List.take_nil]
theorem cut_len {xs : List D} {lo hi : Option Int} : (cutD xs lo hi).length ≤ xs.length := by
  unfold cutD
  rw [List.length_take, List.length_drop]
  omega
theorem mem_cut {xs : List D} {lo hi : Option Int} {d : D} (h : d ∈ cutD xs lo hi) : d ∈ xs := by
  unfold cutD at h
  exact List.mem_of_mem_drop (List.mem_of_mem_take h)
/-! ### values of integers and tuples -/
/-- of integers and tuples, so deep -/
inductive Dp : Nat → D → Prop
  | int {n : Nat} (i : Int) : Dp n (.int i)
  | tup {n : Nat} (xs : List D) (l : xs.length ≤ 1000000) (h : ∀ x ∈ xs, Dp n x) : Dp (n + 1) (.tup xs)
theorem Dp.up {n : Nat} {d : D} (h : Dp n d) : Dp (n + 1) d := by
  induction h with
  | int i => exact .int i
  | tup xs l _ ih => exact .tup xs l ih
theorem Dp.nD {n x : Nat} : Dp n (nD x) := .int _
theorem Dp.fr {n : Nat} (p : Int × Int) : Dp (n + 1) (fr p) := .tup _ (by show (2 : Nat) ≤ 1000000; omega) fun x hx => by
  simp only [List.mem_cons, List.not_mem_nil, or_false] at hx
  rcases hx with h | h <;> subst h <;> exact .int _
theorem Dp.map {α : Type} {n : Nat} {f : α → D} (h : ∀ a, Dp n (f a)) (l : List α) (hl : l.length ≤ 1000000) : Dp (n + 1) (.tup (l.map f)) := .tup _ (by rw [List.length_map]; exact hl) fun x hx => by
  obtain ⟨a, _, e⟩ := List.mem_map.mp hx
  subst e
  exact h a
theorem set_new {M : Mem} {c c' : Cell} : (M ++ [c]).set M.length c' = M ++ [c'] := by
  rw [List.set_append_right _ _ (Nat.le_refl _)]
  simp
end DL

-- ix_lt ixN n (k : Nat) = some k
-- at_nat atI xs (k : Nat) = some d
-- mulR IntMulOk i j
-- mulL IntMulOk i j
/-! The data layer: the next step of a meaning, found by the goal's head. Printed by mkdy.py. -/
namespace DL
open PySem PySem.Spec PyProof.Rows L2
/-- q is what is left of p -/
class Step (p : Prop) (q : outParam Prop) : Prop where
  go : q → p
namespace W
section
variable {C : Ctx} {E : DEnds} {ρ : Env} {M : Mem} {P : Po} {k : Bool → Mem → Prop} {t u : DS} {a b c e : DE} {x y : DT} {g : DG} {ga : DGs} {r : DA} {op op' : DOp} {o o' : DO}
instance i_next  : Step (sNext C E ρ M) (E.nx ρ M) := ⟨fun h => W.next h⟩
instance i_seq  : Step (sSeq t u C E ρ M) (t C { E with nx := fun ρ' M' => u C E ρ' M' } ρ M) := ⟨fun h => W.seq h⟩
instance i_brk  : Step (sBreak C E ρ M) (E.bk ρ M) := ⟨fun h => W.brk h⟩
instance i_cont  : Step (sCont C E ρ M) (E.ct ρ M) := ⟨fun h => W.cont h⟩
instance i_drop  : Step (sDrop e C E ρ M) (e C ρ M fun _ M1 => E.nx ρ M1) := ⟨fun h => W.drop h⟩
instance i_ret  : Step (sRet e C E ρ M) (e C ρ M E.rt) := ⟨fun h => W.ret h⟩
instance i_retN  : Step (sRetN C E ρ M) (E.rt .non M) := ⟨fun h => W.retN h⟩
instance i_sif  : Step (sIf x t u C E ρ M) (x C ρ M fun b M1 => if b = true then t C E ρ M1 else u C E ρ M1) := ⟨fun h => W.sif h⟩
instance i_asg  : Step (sAsg e g C E ρ M) (e C ρ M fun d M1 => g C d ρ M1 E.nx) := ⟨fun h => W.asg h⟩
instance i_augS  : Step (sAugS a b e op C E ρ M) (a C ρ M fun x M1 => b C ρ M1 fun y M2 => opGetL x y M2 fun z M3 => e C ρ M3 fun w M4 => op z w M4 fun u M5 => opSet x y u M5 fun M6 => E.nx ρ M6) := ⟨fun h => W.augS h⟩
instance i_par {i j : Nat} : Step (sPar i j r C E ρ M) (r C ρ M fun ds M1 => topr ds fun x y => E.nx ((ρ.set i (some x)).set j (some y)) M1) := ⟨fun h => W.par h⟩
variable {w : DI}
instance i_for_  : Step (sFor w g t C E ρ M) (w C ρ M fun xs grd M1 => floop (g C) (t C) E grd xs ρ M1) := ⟨fun h => W.for_ h⟩
instance i_name {i : Nat} {d : D} {K : Env → Mem → Prop} : Step (gName i C d ρ M K) (K (ρ.set i (some d)) M) := ⟨fun h => W.name h⟩
instance i_gnil {K : Env → Mem → Prop} : Step (gNil C [] ρ M K) (K ρ M) := ⟨fun h => W.gnil h⟩
instance i_gcons {d : D} {ds : List D} {K : Env → Mem → Prop} : Step (gCons g ga C (d :: ds) ρ M K) (g C d ρ M fun ρ' M' => ga C ds ρ' M' K) := ⟨fun h => W.gcons h⟩
instance i_gsub {d : D} {K : Env → Mem → Prop} : Step (gSub a b C d ρ M K) (a C ρ M fun x M1 => b C ρ M1 fun y M2 => opSet x y d M2 fun M3 => K ρ M3) := ⟨fun h => W.gsub h⟩
instance i_con {d : D} : Step (eK d C ρ M P) (P d M) := ⟨fun h => W.con h⟩
instance i_bin  : Step (eBin op a b C ρ M P) (a C ρ M fun x M1 => b C ρ M1 fun y M2 => op x y M2 P) := ⟨fun h => W.bin h⟩
instance i_un {f : DUn} : Step (eUn f a C ρ M P) (a C ρ M fun x M1 => f x M1 P) := ⟨fun h => W.un h⟩
instance i_enot  : Step (eNot a C ρ M P) (a C ρ M fun d M1 => tru d M1 fun b => P (.bl (!b)) M1) := ⟨fun h => W.enot h⟩
instance i_eand  : Step (eAnd a b C ρ M P) (a C ρ M fun d M1 => tru d M1 fun c => if c = true then b C ρ M1 P else P d M1) := ⟨fun h => W.eand h⟩
instance i_eor  : Step (eOr a b C ρ M P) (a C ρ M fun d M1 => tru d M1 fun c => if c = true then P d M1 else b C ρ M1 P) := ⟨fun h => W.eor h⟩
instance i_eif  : Step (eIf x a b C ρ M P) (x C ρ M fun k M1 => if k = true then a C ρ M1 P else b C ρ M1 P) := ⟨fun h => W.eif h⟩
instance i_anil {Q : List D → Mem → Prop} : Step (aNil C ρ M Q) (Q [] M) := ⟨fun h => W.anil h⟩
instance i_acons {Q : List D → Mem → Prop} : Step (aCons a r C ρ M Q) (a C ρ M fun d M1 => r C ρ M1 fun ds M2 => Q (d :: ds) M2) := ⟨fun h => W.acons h⟩
instance i_tup  : Step (eTup r C ρ M P) (r C ρ M fun ds M1 => ds.length ≤ sizeLine ∧ P (.tup ds) M1) := ⟨fun h => W.tup h⟩
instance i_lst  : Step (eLst r C ρ M P) (r C ρ M fun ds M1 => ds.length ≤ sizeLine ∧ P (.ref M1.length) (M1 ++ [.lst ds])) := ⟨fun h => W.lst h⟩
instance i_fn {f : DF} : Step (eF f r C ρ M P) (r C ρ M fun ds M1 => f ds M1 P) := ⟨fun h => W.fn h⟩
instance i_call {i : Nat} : Step (eCall i r C ρ M P) (r C ρ M fun ds M1 => C.call i (C.ex ρ) ds M1 P) := ⟨fun h => W.call h⟩
instance i_meth {T : String} {m : DM} : Step (eM T m a r C ρ M P) (a C ρ M fun d M1 => tyIs T M1 d ∧ r C ρ M1 fun ds M2 => m d ds M2 P) := ⟨fun h => W.meth h⟩
variable {l : DLs}
instance i_enew  : Step (eNew l C ρ M P) (l C ρ M fun ds M1 => P (.ref M1.length) (M1 ++ [.lst ds])) := ⟨fun h => W.enew h⟩
instance i_tupL  : Step (eTupL l C ρ M P) (l C ρ M fun ds M1 => P (.tup ds) M1) := ⟨fun h => W.tupL h⟩
instance i_fl {f : DC} : Step (eFL f l C ρ M P) (l C ρ M fun ds M1 => f ds fun r => P r M1) := ⟨fun h => W.fl h⟩
instance i_comp {tt : DT} {vs : List Nat} {Q : List D → Mem → Prop} : Step (lcomp w g tt e vs C ρ M Q) (w C ρ M fun xs grd M1 => cloop (g C.calm) (tt C.calm) (e C.calm) grd (wiped ρ vs) Q xs [] M1) := ⟨fun h => W.comp h⟩
instance i_cut  : Step (eCut a o o' C ρ M P) (a C ρ M fun d M1 => o C ρ M1 fun x M2 => o' C ρ M2 fun y M3 => opCut d x y M3 P) := ⟨fun h => W.cut h⟩
instance i_onone {Q : Option Int → Mem → Prop} : Step (oNone C ρ M Q) (Q none M) := ⟨fun h => W.onone h⟩
instance i_osome {Q : Option Int → Mem → Prop} : Step (oSome a C ρ M Q) (a C ρ M fun d M1 => toin d fun i => Q (some i) M1) := ⟨fun h => W.osome h⟩
instance i_tof  : Step (tOf a C ρ M k) (a C ρ M fun d M1 => tobl d fun b => k b M1) := ⟨fun h => W.tof h⟩
instance i_bl_ {b : Bool} {K : Bool → Prop} : Step (tobl (.bl b) K) (K b) := ⟨fun h => W.bl_ h⟩
instance i_in_ {i : Int} {K : Int → Prop} : Step (toin (.int i) K) (K i) := ⟨fun h => W.in_ h⟩
instance i_ttru  : Step (tTru a C ρ M k) (a C ρ M fun d M1 => tru d M1 fun b => k b M1) := ⟨fun h => W.ttru h⟩
instance i_tand  : Step (tAnd x y C ρ M k) (x C ρ M fun c M1 => if c = true then y C ρ M1 k else k false M1) := ⟨fun h => W.tand h⟩
instance i_tor  : Step (tOr x y C ρ M k) (x C ρ M fun c M1 => if c = true then k true M1 else y C ρ M1 k) := ⟨fun h => W.tor h⟩
instance i_tnot  : Step (tNot x C ρ M k) (x C ρ M fun c M1 => k (!c) M1) := ⟨fun h => W.tnot h⟩
instance i_tyes  : Step (tYesD C ρ M k) (k true M) := ⟨fun h => W.tyes h⟩
instance i_chain  : Step (eChain op op' a b c C ρ M P) (a C ρ M fun x M1 => b C ρ M1 fun y M2 => op x y M2 fun z M3 => tobl z fun k => if k = true then c C ρ M3 fun w M4 => op' y w M4 P else P (.bl false) M3) := ⟨fun h => W.chain h⟩
instance i_isi {T : String} : Step (eIsi T a C ρ M P) (a C ρ M fun d M1 => toty M1 T d fun b => P (.bl b) M1) := ⟨fun h => W.isi h⟩
variable {Q : List D → (Mem → Prop) → Mem → Prop}
instance i_iseq  : Step (iSeq e C ρ M Q) (e C ρ M fun d M1 => tosq M1 d fun xs => Q xs (grdOf d xs) M1) := ⟨fun h => W.iseq h⟩
instance i_irng1  : Step (iRng1 a C ρ M Q) (a C ρ M fun d M1 => toin d fun j => (-(2 ^ 62) ≤ j ∧ j.toNat ≤ sizeLine) ∧ Q (rngI 0 j.toNat) (fun _ => True) M1) := ⟨fun h => W.irng1 h⟩
instance i_ienum  : Step (iEnumD a C ρ M Q) (a C ρ M fun d M1 => tosq M1 d fun xs => Q (enumD 0 xs) (grdOf d xs) M1) := ⟨fun h => W.ienum h⟩
instance i_izip  : Step (iZip a b C ρ M Q) (a C ρ M fun d M1 => b C ρ M1 fun e M2 => tosq M2 d fun xs => tosq M2 e fun ys => Q (zipD xs ys) (fun M => grdOf d xs M ∧ grdOf e ys M) M2) := ⟨fun h => W.izip h⟩
instance i_sqT {xs : List D} {K : List D → Prop} : Step (tosq M (.tup xs) K) (K xs) := ⟨fun h => W.sqT h⟩
instance i_sqK {xs : List D} {K : List D → Prop} : Step (tosq M (.kup xs) K) (K xs) := ⟨fun h => W.sqK h⟩
instance i_sqR {xs : List D} {K : List D → Prop} : Step (tosq M (.rol xs) K) (K xs) := ⟨fun h => W.sqR h⟩
variable {i j : Int}
instance i_add  : Step (opAdd (.int i) (.int j) M P) (P (.int (i + j)) M) := ⟨fun h => W.add h⟩
instance i_iadd  : Step (iaAdd (.int i) (.int j) M P) (P (.int (i + j)) M) := ⟨fun h => W.iadd h⟩
instance i_sub  : Step (opSub (.int i) (.int j) M P) (P (.int (i - j)) M) := ⟨fun h => W.sub h⟩
instance i_neg  : Step (opNeg (.int i) M P) (P (.int (-i)) M) := ⟨fun h => W.neg h⟩
instance i_lt  : Step (opLt (.int i) (.int j) M P) (P (.bl (decide (i < j))) M) := ⟨fun h => W.lt h⟩
instance i_le  : Step (opLe (.int i) (.int j) M P) (P (.bl (decide (i ≤ j))) M) := ⟨fun h => W.le h⟩
instance i_gt  : Step (opGt (.int i) (.int j) M P) (P (.bl (decide (j < i))) M) := ⟨fun h => W.gt h⟩
instance i_ge  : Step (opGe (.int i) (.int j) M P) (P (.bl (decide (j ≤ i))) M) := ⟨fun h => W.ge h⟩
instance i_eq_  : Step (opEq (.int i) (.int j) M P) (P (.bl (decide (i = j))) M) := ⟨fun h => W.eq_ h⟩
instance i_ne_  : Step (opNe (.int i) (.int j) M P) (P (.bl (!decide (i = j))) M) := ⟨fun h => W.ne_ h⟩
instance i_neB {x y : Bool} : Step (opNe (.bl x) (.bl y) M P) (P (.bl (x != y)) M) := ⟨fun h => W.neB h⟩
instance i_eqB {x y : Bool} : Step (opEq (.bl x) (.bl y) M P) (P (.bl (x == y)) M) := ⟨fun h => W.eqB h⟩
instance i_neTT  : Step (opNe (.bl true) (.bl true) M P) (P (.bl false) M) := ⟨fun h => W.neTT h⟩
instance i_eqTT  : Step (opEq (.bl true) (.bl true) M P) (P (.bl true) M) := ⟨fun h => W.eqTT h⟩
instance i_neTF  : Step (opNe (.bl true) (.bl false) M P) (P (.bl true) M) := ⟨fun h => W.neTF h⟩
instance i_eqTF  : Step (opEq (.bl true) (.bl false) M P) (P (.bl false) M) := ⟨fun h => W.eqTF h⟩
instance i_neFT  : Step (opNe (.bl false) (.bl true) M P) (P (.bl true) M) := ⟨fun h => W.neFT h⟩
instance i_eqFT  : Step (opEq (.bl false) (.bl true) M P) (P (.bl false) M) := ⟨fun h => W.eqFT h⟩
instance i_neFF  : Step (opNe (.bl false) (.bl false) M P) (P (.bl false) M) := ⟨fun h => W.neFF h⟩
instance i_eqFF  : Step (opEq (.bl false) (.bl false) M P) (P (.bl true) M) := ⟨fun h => W.eqFF h⟩
instance i_is0I  : Step (opIs (.int i) .non M P) (P (.bl false) M) := ⟨fun h => W.is0I h⟩
instance i_isnt0I  : Step (opIsNot (.int i) .non M P) (P (.bl true) M) := ⟨fun h => W.isnt0I h⟩
instance i_is0T {ds : List D} : Step (opIs (.tup ds) .non M P) (P (.bl false) M) := ⟨fun h => W.is0T h⟩
instance i_isnt0T {ds : List D} : Step (opIsNot (.tup ds) .non M P) (P (.bl true) M) := ⟨fun h => W.isnt0T h⟩
instance i_is0S {z : Str} : Step (opIs (.str z) .non M P) (P (.bl false) M) := ⟨fun h => W.is0S h⟩
instance i_isnt0S {z : Str} : Step (opIsNot (.str z) .non M P) (P (.bl true) M) := ⟨fun h => W.isnt0S h⟩
instance i_is0B {w : Bool} : Step (opIs (.bl w) .non M P) (P (.bl false) M) := ⟨fun h => W.is0B h⟩
instance i_isnt0B {w : Bool} : Step (opIsNot (.bl w) .non M P) (P (.bl true) M) := ⟨fun h => W.isnt0B h⟩
instance i_is0R {m : Nat} : Step (opIs (.ref m) .non M P) (P (.bl false) M) := ⟨fun h => W.is0R h⟩
instance i_isnt0R {m : Nat} : Step (opIsNot (.ref m) .non M P) (P (.bl true) M) := ⟨fun h => W.isnt0R h⟩
instance i_is0N  : Step (opIs .non .non M P) (P (.bl true) M) := ⟨fun h => W.is0N h⟩
instance i_isnt0N  : Step (opIsNot .non .non M P) (P (.bl false) M) := ⟨fun h => W.isnt0N h⟩
instance i_lenT {xs : List D} : Step (fLen [.tup xs] M P) (P (.int xs.length) M) := ⟨fun h => W.lenT h⟩
instance i_abs_  : Step (fAbs [.int i] M P) (P (.int (if i < 0 then -i else i)) M) := ⟨fun h => W.abs_ h⟩
instance i_int_  : Step (fInt [.int i] M P) (P (.int i) M) := ⟨fun h => W.int_ h⟩
instance i_intB {v : Bool} : Step (fInt [.bl v] M P) (P (.int (if v then 1 else 0)) M) := ⟨fun h => W.intB h⟩
instance i_max2  : Step (fMax2 [.int i, .int j] M P) (P (.int (if j > i then j else i)) M) := ⟨fun h => W.max2 h⟩
instance i_min2  : Step (fMin2 [.int i, .int j] M P) (P (.int (if j < i then j else i)) M) := ⟨fun h => W.min2 h⟩
instance i_gcd_  : Step (fGcd [.int i, .int j] M P) (P (.int ((Nat.gcd i.natAbs j.natAbs : Nat) : Int)) M) := ⟨fun h => W.gcd_ h⟩
instance i_tupT {xs : List D} : Step (fTuple [.tup xs] M P) (P (.tup xs) M) := ⟨fun h => W.tupT h⟩
instance i_listT {xs : List D} : Step (fList [.tup xs] M P) (P (.ref M.length) (M ++ [.lst xs])) := ⟨fun h => W.listT h⟩
end
section
variable {α : Type} {a b c d e f g : α} {l : List α}
end
section
variable {C : Ctx} {E : DEnds} {M : Mem} {P : Po} {e : DE} {op : DOp} {d : D} {l : List (Option D)} {y : Option D} {K : Env → Mem → Prop} {x0 x1 x2 x3 x4 x5 x6 x7 x8 x9 x10 x11 x12 x13 x14 x15 : Option D}
instance i_var0  : Step (eVar 0 C (some d :: l) M P) (P d M) := ⟨fun h => W.var0 h⟩
instance i_name0  : Step (gName 0 C d (y :: l) M K) (K (some d :: l) M) := ⟨fun h => W.name0 h⟩
instance i_aug0  : Step (sAug 0 e op C E (some d :: l) M) (e C (some d :: l) M fun y M1 => op d y M1 fun z M2 => E.nx (some z :: l) M2) := ⟨fun h => W.aug0 h⟩
instance i_var1  : Step (eVar 1 C (x0 :: some d :: l) M P) (P d M) := ⟨fun h => W.var1 h⟩
instance i_name1  : Step (gName 1 C d (x0 :: y :: l) M K) (K (x0 :: some d :: l) M) := ⟨fun h => W.name1 h⟩
instance i_aug1  : Step (sAug 1 e op C E (x0 :: some d :: l) M) (e C (x0 :: some d :: l) M fun y M1 => op d y M1 fun z M2 => E.nx (x0 :: some z :: l) M2) := ⟨fun h => W.aug1 h⟩
instance i_var2  : Step (eVar 2 C (x0 :: x1 :: some d :: l) M P) (P d M) := ⟨fun h => W.var2 h⟩
instance i_name2  : Step (gName 2 C d (x0 :: x1 :: y :: l) M K) (K (x0 :: x1 :: some d :: l) M) := ⟨fun h => W.name2 h⟩
instance i_aug2  : Step (sAug 2 e op C E (x0 :: x1 :: some d :: l) M) (e C (x0 :: x1 :: some d :: l) M fun y M1 => op d y M1 fun z M2 => E.nx (x0 :: x1 :: some z :: l) M2) := ⟨fun h => W.aug2 h⟩
instance i_var3  : Step (eVar 3 C (x0 :: x1 :: x2 :: some d :: l) M P) (P d M) := ⟨fun h => W.var3 h⟩
instance i_name3  : Step (gName 3 C d (x0 :: x1 :: x2 :: y :: l) M K) (K (x0 :: x1 :: x2 :: some d :: l) M) := ⟨fun h => W.name3 h⟩
instance i_aug3  : Step (sAug 3 e op C E (x0 :: x1 :: x2 :: some d :: l) M) (e C (x0 :: x1 :: x2 :: some d :: l) M fun y M1 => op d y M1 fun z M2 => E.nx (x0 :: x1 :: x2 :: some z :: l) M2) := ⟨fun h => W.aug3 h⟩
instance i_var4  : Step (eVar 4 C (x0 :: x1 :: x2 :: x3 :: some d :: l) M P) (P d M) := ⟨fun h => W.var4 h⟩
instance i_name4  : Step (gName 4 C d (x0 :: x1 :: x2 :: x3 :: y :: l) M K) (K (x0 :: x1 :: x2 :: x3 :: some d :: l) M) := ⟨fun h => W.name4 h⟩
instance i_aug4  : Step (sAug 4 e op C E (x0 :: x1 :: x2 :: x3 :: some d :: l) M) (e C (x0 :: x1 :: x2 :: x3 :: some d :: l) M fun y M1 => op d y M1 fun z M2 => E.nx (x0 :: x1 :: x2 :: x3 :: some z :: l) M2) := ⟨fun h => W.aug4 h⟩
instance i_var5  : Step (eVar 5 C (x0 :: x1 :: x2 :: x3 :: x4 :: some d :: l) M P) (P d M) := ⟨fun h => W.var5 h⟩
instance i_name5  : Step (gName 5 C d (x0 :: x1 :: x2 :: x3 :: x4 :: y :: l) M K) (K (x0 :: x1 :: x2 :: x3 :: x4 :: some d :: l) M) := ⟨fun h => W.name5 h⟩
instance i_aug5  : Step (sAug 5 e op C E (x0 :: x1 :: x2 :: x3 :: x4 :: some d :: l) M) (e C (x0 :: x1 :: x2 :: x3 :: x4 :: some d :: l) M fun y M1 => op d y M1 fun z M2 => E.nx (x0 :: x1 :: x2 :: x3 :: x4 :: some z :: l) M2) := ⟨fun h => W.aug5 h⟩
instance i_var6  : Step (eVar 6 C (x0 :: x1 :: x2 :: x3 :: x4 :: x5 :: some d :: l) M P) (P d M) := ⟨fun h => W.var6 h⟩
instance i_name6  : Step (gName 6 C d (x0 :: x1 :: x2 :: x3 :: x4 :: x5 :: y :: l) M K) (K (x0 :: x1 :: x2 :: x3 :: x4 :: x5 :: some d :: l) M) := ⟨fun h => W.name6 h⟩
instance i_aug6  : Step (sAug 6 e op C E (x0 :: x1 :: x2 :: x3 :: x4 :: x5 :: some d :: l) M) (e C (x0 :: x1 :: x2 :: x3 :: x4 :: x5 :: some d :: l) M fun y M1 => op d y M1 fun z M2 => E.nx (x0 :: x1 :: x2 :: x3 :: x4 :: x5 :: some z :: l) M2) := ⟨fun h => W.aug6 h⟩
instance i_var7  : Step (eVar 7 C (x0 :: x1 :: x2 :: x3 :: x4 :: x5 :: x6 :: some d :: l) M P) (P d M) := ⟨fun h => W.var7 h⟩
instance i_name7  : Step (gName 7 C d (x0 :: x1 :: x2 :: x3 :: x4 :: x5 :: x6 :: y :: l) M K) (K (x0 :: x1 :: x2 :: x3 :: x4 :: x5 :: x6 :: some d :: l) M) := ⟨fun h => W.name7 h⟩
instance i_aug7  : Step (sAug 7 e op C E (x0 :: x1 :: x2 :: x3 :: x4 :: x5 :: x6 :: some d :: l) M) (e C (x0 :: x1 :: x2 :: x3 :: x4 :: x5 :: x6 :: some d :: l) M fun y M1 => op d y M1 fun z M2 => E.nx (x0 :: x1 :: x2 :: x3 :: x4 :: x5 :: x6 :: some z :: l) M2) := ⟨fun h => W.aug7 h⟩
instance i_var8  : Step (eVar 8 C (x0 :: x1 :: x2 :: x3 :: x4 :: x5 :: x6 :: x7 :: some d :: l) M P) (P d M) := ⟨fun h => W.var8 h⟩
instance i_name8  : Step (gName 8 C d (x0 :: x1 :: x2 :: x3 :: x4 :: x5 :: x6 :: x7 :: y :: l) M K) (K (x0 :: x1 :: x2 :: x3 :: x4 :: x5 :: x6 :: x7 :: some d :: l) M) := ⟨fun h => W.name8 h⟩
instance i_aug8  : Step (sAug 8 e op C E (x0 :: x1 :: x2 :: x3 :: x4 :: x5 :: x6 :: x7 :: some d :: l) M) (e C (x0 :: x1 :: x2 :: x3 :: x4 :: x5 :: x6 :: x7 :: some d :: l) M fun y M1 => op d y M1 fun z M2 => E.nx (x0 :: x1 :: x2 :: x3 :: x4 :: x5 :: x6 :: x7 :: some z :: l) M2) := ⟨fun h => W.aug8 h⟩
instance i_var9  : Step (eVar 9 C (x0 :: x1 :: x2 :: x3 :: x4 :: x5 :: x6 :: x7 :: x8 :: some d :: l) M P) (P d M) := ⟨fun h => W.var9 h⟩
instance i_name9  : Step (gName 9 C d (x0 :: x1 :: x2 :: x3 :: x4 :: x5 :: x6 :: x7 :: x8 :: y :: l) M K) (K (x0 :: x1 :: x2 :: x3 :: x4 :: x5 :: x6 :: x7 :: x8 :: some d :: l) M) := ⟨fun h => W.name9 h⟩
instance i_aug9  : Step (sAug 9 e op C E (x0 :: x1 :: x2 :: x3 :: x4 :: x5 :: x6 :: x7 :: x8 :: some d :: l) M) (e C (x0 :: x1 :: x2 :: x3 :: x4 :: x5 :: x6 :: x7 :: x8 :: some d :: l) M fun y M1 => op d y M1 fun z M2 => E.nx (x0 :: x1 :: x2 :: x3 :: x4 :: x5 :: x6 :: x7 :: x8 :: some z :: l) M2) := ⟨fun h => W.aug9 h⟩
instance i_var10  : Step (eVar 10 C (x0 :: x1 :: x2 :: x3 :: x4 :: x5 :: x6 :: x7 :: x8 :: x9 :: some d :: l) M P) (P d M) := ⟨fun h => W.var10 h⟩
instance i_name10  : Step (gName 10 C d (x0 :: x1 :: x2 :: x3 :: x4 :: x5 :: x6 :: x7 :: x8 :: x9 :: y :: l) M K) (K (x0 :: x1 :: x2 :: x3 :: x4 :: x5 :: x6 :: x7 :: x8 :: x9 :: some d :: l) M) := ⟨fun h => W.name10 h⟩
instance i_aug10  : Step (sAug 10 e op C E (x0 :: x1 :: x2 :: x3 :: x4 :: x5 :: x6 :: x7 :: x8 :: x9 :: some d :: l) M) (e C (x0 :: x1 :: x2 :: x3 :: x4 :: x5 :: x6 :: x7 :: x8 :: x9 :: some d :: l) M fun y M1 => op d y M1 fun z M2 => E.nx (x0 :: x1 :: x2 :: x3 :: x4 :: x5 :: x6 :: x7 :: x8 :: x9 :: some z :: l) M2) := ⟨fun h => W.aug10 h⟩
instance i_var11  : Step (eVar 11 C (x0 :: x1 :: x2 :: x3 :: x4 :: x5 :: x6 :: x7 :: x8 :: x9 :: x10 :: some d :: l) M P) (P d M) := ⟨fun h => W.var11 h⟩
instance i_name11  : Step (gName 11 C d (x0 :: x1 :: x2 :: x3 :: x4 :: x5 :: x6 :: x7 :: x8 :: x9 :: x10 :: y :: l) M K) (K (x0 :: x1 :: x2 :: x3 :: x4 :: x5 :: x6 :: x7 :: x8 :: x9 :: x10 :: some d :: l) M) := ⟨fun h => W.name11 h⟩
instance i_aug11  : Step (sAug 11 e op C E (x0 :: x1 :: x2 :: x3 :: x4 :: x5 :: x6 :: x7 :: x8 :: x9 :: x10 :: some d :: l) M) (e C (x0 :: x1 :: x2 :: x3 :: x4 :: x5 :: x6 :: x7 :: x8 :: x9 :: x10 :: some d :: l) M fun y M1 => op d y M1 fun z M2 => E.nx (x0 :: x1 :: x2 :: x3 :: x4 :: x5 :: x6 :: x7 :: x8 :: x9 :: x10 :: some z :: l) M2) := ⟨fun h => W.aug11 h⟩
instance i_var12  : Step (eVar 12 C (x0 :: x1 :: x2 :: x3 :: x4 :: x5 :: x6 :: x7 :: x8 :: x9 :: x10 :: x11 :: some d :: l) M P) (P d M) := ⟨fun h => W.var12 h⟩
instance i_name12  : Step (gName 12 C d (x0 :: x1 :: x2 :: x3 :: x4 :: x5 :: x6 :: x7 :: x8 :: x9 :: x10 :: x11 :: y :: l) M K) (K (x0 :: x1 :: x2 :: x3 :: x4 :: x5 :: x6 :: x7 :: x8 :: x9 :: x10 :: x11 :: some d :: l) M) := ⟨fun h => W.name12 h⟩
instance i_aug12  : Step (sAug 12 e op C E (x0 :: x1 :: x2 :: x3 :: x4 :: x5 :: x6 :: x7 :: x8 :: x9 :: x10 :: x11 :: some d :: l) M) (e C (x0 :: x1 :: x2 :: x3 :: x4 :: x5 :: x6 :: x7 :: x8 :: x9 :: x10 :: x11 :: some d :: l) M fun y M1 => op d y M1 fun z M2 => E.nx (x0 :: x1 :: x2 :: x3 :: x4 :: x5 :: x6 :: x7 :: x8 :: x9 :: x10 :: x11 :: some z :: l) M2) := ⟨fun h => W.aug12 h⟩
instance i_var13  : Step (eVar 13 C (x0 :: x1 :: x2 :: x3 :: x4 :: x5 :: x6 :: x7 :: x8 :: x9 :: x10 :: x11 :: x12 :: some d :: l) M P) (P d M) := ⟨fun h => W.var13 h⟩
instance i_name13  : Step (gName 13 C d (x0 :: x1 :: x2 :: x3 :: x4 :: x5 :: x6 :: x7 :: x8 :: x9 :: x10 :: x11 :: x12 :: y :: l) M K) (K (x0 :: x1 :: x2 :: x3 :: x4 :: x5 :: x6 :: x7 :: x8 :: x9 :: x10 :: x11 :: x12 :: some d :: l) M) := ⟨fun h => W.name13 h⟩
instance i_aug13  : Step (sAug 13 e op C E (x0 :: x1 :: x2 :: x3 :: x4 :: x5 :: x6 :: x7 :: x8 :: x9 :: x10 :: x11 :: x12 :: some d :: l) M) (e C (x0 :: x1 :: x2 :: x3 :: x4 :: x5 :: x6 :: x7 :: x8 :: x9 :: x10 :: x11 :: x12 :: some d :: l) M fun y M1 => op d y M1 fun z M2 => E.nx (x0 :: x1 :: x2 :: x3 :: x4 :: x5 :: x6 :: x7 :: x8 :: x9 :: x10 :: x11 :: x12 :: some z :: l) M2) := ⟨fun h => W.aug13 h⟩
instance i_var14  : Step (eVar 14 C (x0 :: x1 :: x2 :: x3 :: x4 :: x5 :: x6 :: x7 :: x8 :: x9 :: x10 :: x11 :: x12 :: x13 :: some d :: l) M P) (P d M) := ⟨fun h => W.var14 h⟩
instance i_name14  : Step (gName 14 C d (x0 :: x1 :: x2 :: x3 :: x4 :: x5 :: x6 :: x7 :: x8 :: x9 :: x10 :: x11 :: x12 :: x13 :: y :: l) M K) (K (x0 :: x1 :: x2 :: x3 :: x4 :: x5 :: x6 :: x7 :: x8 :: x9 :: x10 :: x11 :: x12 :: x13 :: some d :: l) M) := ⟨fun h => W.name14 h⟩
instance i_aug14  : Step (sAug 14 e op C E (x0 :: x1 :: x2 :: x3 :: x4 :: x5 :: x6 :: x7 :: x8 :: x9 :: x10 :: x11 :: x12 :: x13 :: some d :: l) M) (e C (x0 :: x1 :: x2 :: x3 :: x4 :: x5 :: x6 :: x7 :: x8 :: x9 :: x10 :: x11 :: x12 :: x13 :: some d :: l) M fun y M1 => op d y M1 fun z M2 => E.nx (x0 :: x1 :: x2 :: x3 :: x4 :: x5 :: x6 :: x7 :: x8 :: x9 :: x10 :: x11 :: x12 :: x13 :: some z :: l) M2) := ⟨fun h => W.aug14 h⟩
instance i_var15  : Step (eVar 15 C (x0 :: x1 :: x2 :: x3 :: x4 :: x5 :: x6 :: x7 :: x8 :: x9 :: x10 :: x11 :: x12 :: x13 :: x14 :: some d :: l) M P) (P d M) := ⟨fun h => W.var15 h⟩
instance i_name15  : Step (gName 15 C d (x0 :: x1 :: x2 :: x3 :: x4 :: x5 :: x6 :: x7 :: x8 :: x9 :: x10 :: x11 :: x12 :: x13 :: x14 :: y :: l) M K) (K (x0 :: x1 :: x2 :: x3 :: x4 :: x5 :: x6 :: x7 :: x8 :: x9 :: x10 :: x11 :: x12 :: x13 :: x14 :: some d :: l) M) := ⟨fun h => W.name15 h⟩
instance i_aug15  : Step (sAug 15 e op C E (x0 :: x1 :: x2 :: x3 :: x4 :: x5 :: x6 :: x7 :: x8 :: x9 :: x10 :: x11 :: x12 :: x13 :: x14 :: some d :: l) M) (e C (x0 :: x1 :: x2 :: x3 :: x4 :: x5 :: x6 :: x7 :: x8 :: x9 :: x10 :: x11 :: x12 :: x13 :: x14 :: some d :: l) M fun y M1 => op d y M1 fun z M2 => E.nx (x0 :: x1 :: x2 :: x3 :: x4 :: x5 :: x6 :: x7 :: x8 :: x9 :: x10 :: x11 :: x12 :: x13 :: x14 :: some z :: l) M2) := ⟨fun h => W.aug15 h⟩
end
instance i_cutR {xs : List D} {lo hi : Option Int} {M : Mem} {P : Po} : Step (opCut (.rol xs) lo hi M P) (P (.ref M.length) (M ++ [.lst (cutD xs lo hi)])) := ⟨fun h => W.cutR h⟩
instance i_cutT {xs : List D} {lo hi : Option Int} {M : Mem} {P : Po} : Step (opCut (.tup xs) lo hi M P) (P (.tup (cutD xs lo hi)) M) := ⟨fun h => W.cutT h⟩
instance i_yes {A B : Prop} : Step (if true = true then A else B) (A) := ⟨fun h => W.yes h⟩
instance i_no {A B : Prop} : Step (if false = true then A else B) (B) := ⟨fun h => W.no h⟩
instance i_nyes {A B : Prop} : Step (if (!true) = true then A else B) (B) := ⟨fun h => W.nyes h⟩
instance i_nno {A B : Prop} : Step (if (!false) = true then A else B) (A) := ⟨fun h => W.nno h⟩
instance i_truI {i : Int} {M : Mem} {k : Bool → Prop} : Step (tru (.int i) M k) (k (decide (i ≠ 0))) := ⟨fun h => W.truI h⟩
instance i_truB {b : Bool} {M : Mem} {k : Bool → Prop} : Step (tru (.bl b) M k) (k b) := ⟨fun h => W.truB h⟩
section
variable {M : Mem} {P : Po} {C : Ctx} {ρ : Env}
instance i_disp2 {s1 s2 : Str} {a b : DE} : Step (eDisp [(eK (.str s1), a), (eK (.str s2), b)] C ρ M P) (a C ρ (M ++ [.dK []]) fun x M1 => b C ρ M1 fun y M2 => M2[M.length]? = some (.dK []) ∧ (2 : Nat) ≤ 15 ∧ P (.ref M.length) (M2.set M.length (.dK (mergeD [] [(.inr s1, x), (.inr s2, y)])))) := ⟨fun h => W.disp2 h⟩
instance i_rev {a : DE} : Step (eRev a C ρ M P) (a C ρ M fun d M1 => opRev d M1 P) := ⟨fun h => W.rev h⟩
instance i_revT {xs : List D} : Step (opRev (.tup xs) M P) (P (.tup xs.reverse) M) := ⟨fun h => W.revT h⟩
instance i_lenRol {xs : List D} : Step (fLen [.rol xs] M P) (P (.int (xs.length : Nat)) M) := ⟨fun h => W.lenRol h⟩
instance i_lenKup {xs : List D} : Step (fLen [.kup xs] M P) (P (.int (xs.length : Nat)) M) := ⟨fun h => W.lenKup h⟩
instance i_strN  : Step (fStr [.non] M P) (P (.str "None") M) := ⟨fun h => W.strN h⟩
instance i_clen {ds : List D} {k : D → Prop} : Step (cLen ds k) (k (.int (ds.length : Nat))) := ⟨fun h => W.clen h⟩
instance i_call_ {bs : List Bool} {k : D → Prop} : Step (cAll (bs.map D.bl) k) (k (.bl (bs.all id))) := ⟨fun h => W.call_ h⟩
instance i_cany {bs : List Bool} {k : D → Prop} : Step (cAny (bs.map D.bl) k) (k (.bl (bs.any id))) := ⟨fun h => W.cany h⟩
instance i_csum {l : List Int} {k : D → Prop} : Step (cSum (l.map D.int) k) (k (.int l.sum)) := ⟨fun h => W.csum h⟩
instance i_irng2 {a b : DE} {Q : List D → (Mem → Prop) → Mem → Prop} : Step (iRng2 a b C ρ M Q) (a C ρ M fun d M1 => b C ρ M1 fun e M2 => toin2 d e fun i j => ((j - i).toNat ≤ sizeLine ∧ -(2 ^ 62) ≤ i ∧ i < 2 ^ 62 ∧ -(2 ^ 62) ≤ j ∧ j < 2 ^ 62) ∧ Q (rngI i (j - i).toNat) (fun _ => True) M2) := ⟨fun h => W.irng2 h⟩
instance i_in2 {i j : Int} {K : Int → Int → Prop} : Step (toin2 (.int i) (.int j) K) (K i j) := ⟨fun h => W.in2 h⟩
variable {E : DEnds} {j n : Nat} {r : DA}
instance i_raise  : Step (sRaise j n r C E ρ M) (r C ρ M fun ds M1 => ds.length = n ∧ C.ex ρ j ds.reverse M1) := ⟨fun h => W.raise h⟩
end
section
variable {M : Mem} {K : Bool → Prop}
instance  : Step (toty M "int" .non K) (K false) := ⟨fun h => ty rfl k_NoneType_int h⟩
instance  : Step (toty M "bool" .non K) (K false) := ⟨fun h => ty rfl k_NoneType_bool h⟩
instance  : Step (toty M "str" .non K) (K false) := ⟨fun h => ty rfl k_NoneType_str h⟩
instance  : Step (toty M "tuple" .non K) (K false) := ⟨fun h => ty rfl k_NoneType_tuple h⟩
instance  : Step (toty M "list" .non K) (K false) := ⟨fun h => ty rfl k_NoneType_list h⟩
instance  : Step (toty M "dict" .non K) (K false) := ⟨fun h => ty rfl k_NoneType_dict h⟩
instance {b : Bool} : Step (toty M "int" (.bl b) K) (K true) := ⟨fun h => ty rfl k_bool_int h⟩
instance {b : Bool} : Step (toty M "bool" (.bl b) K) (K true) := ⟨fun h => ty rfl k_bool_bool h⟩
instance {b : Bool} : Step (toty M "str" (.bl b) K) (K false) := ⟨fun h => ty rfl k_bool_str h⟩
instance {b : Bool} : Step (toty M "tuple" (.bl b) K) (K false) := ⟨fun h => ty rfl k_bool_tuple h⟩
instance {b : Bool} : Step (toty M "list" (.bl b) K) (K false) := ⟨fun h => ty rfl k_bool_list h⟩
instance {b : Bool} : Step (toty M "dict" (.bl b) K) (K false) := ⟨fun h => ty rfl k_bool_dict h⟩
instance {i : Int} : Step (toty M "int" (.int i) K) (K true) := ⟨fun h => ty rfl k_int_int h⟩
instance {i : Int} : Step (toty M "bool" (.int i) K) (K false) := ⟨fun h => ty rfl k_int_bool h⟩
instance {i : Int} : Step (toty M "str" (.int i) K) (K false) := ⟨fun h => ty rfl k_int_str h⟩
instance {i : Int} : Step (toty M "tuple" (.int i) K) (K false) := ⟨fun h => ty rfl k_int_tuple h⟩
instance {i : Int} : Step (toty M "list" (.int i) K) (K false) := ⟨fun h => ty rfl k_int_list h⟩
instance {i : Int} : Step (toty M "dict" (.int i) K) (K false) := ⟨fun h => ty rfl k_int_dict h⟩
instance {z : Str} : Step (toty M "int" (.str z) K) (K false) := ⟨fun h => ty rfl k_str_int h⟩
instance {z : Str} : Step (toty M "bool" (.str z) K) (K false) := ⟨fun h => ty rfl k_str_bool h⟩
instance {z : Str} : Step (toty M "str" (.str z) K) (K true) := ⟨fun h => ty rfl k_str_str h⟩
instance {z : Str} : Step (toty M "tuple" (.str z) K) (K false) := ⟨fun h => ty rfl k_str_tuple h⟩
instance {z : Str} : Step (toty M "list" (.str z) K) (K false) := ⟨fun h => ty rfl k_str_list h⟩
instance {z : Str} : Step (toty M "dict" (.str z) K) (K false) := ⟨fun h => ty rfl k_str_dict h⟩
instance {xs : List D} : Step (toty M "int" (.tup xs) K) (K false) := ⟨fun h => ty rfl k_tuple_int h⟩
instance {xs : List D} : Step (toty M "bool" (.tup xs) K) (K false) := ⟨fun h => ty rfl k_tuple_bool h⟩
instance {xs : List D} : Step (toty M "str" (.tup xs) K) (K false) := ⟨fun h => ty rfl k_tuple_str h⟩
instance {xs : List D} : Step (toty M "tuple" (.tup xs) K) (K true) := ⟨fun h => ty rfl k_tuple_tuple h⟩
instance {xs : List D} : Step (toty M "list" (.tup xs) K) (K false) := ⟨fun h => ty rfl k_tuple_list h⟩
instance {xs : List D} : Step (toty M "dict" (.tup xs) K) (K false) := ⟨fun h => ty rfl k_tuple_dict h⟩
instance {xs : List D} : Step (toty M "int" (.kup xs) K) (K false) := ⟨fun h => ty rfl k_tuple_int h⟩
instance {xs : List D} : Step (toty M "bool" (.kup xs) K) (K false) := ⟨fun h => ty rfl k_tuple_bool h⟩
instance {xs : List D} : Step (toty M "str" (.kup xs) K) (K false) := ⟨fun h => ty rfl k_tuple_str h⟩
instance {xs : List D} : Step (toty M "tuple" (.kup xs) K) (K true) := ⟨fun h => ty rfl k_tuple_tuple h⟩
instance {xs : List D} : Step (toty M "list" (.kup xs) K) (K false) := ⟨fun h => ty rfl k_tuple_list h⟩
instance {xs : List D} : Step (toty M "dict" (.kup xs) K) (K false) := ⟨fun h => ty rfl k_tuple_dict h⟩
end
section
variable {C : Ctx} {ρ : Env} {M : Mem} {P : Po} {ga : DGs} {K : Env → Mem → Prop} {a b c d e f : D} {l : List D}
instance : Step (gTup 2 ga C (.tup [a, b]) ρ M K) (ga C [a, b] ρ M K) := ⟨fun h => ⟨rfl, h⟩⟩
instance : Step (gTup 2 ga C (.kup [a, b]) ρ M K) (ga C [a, b] ρ M K) := ⟨fun h => ⟨rfl, h⟩⟩
instance : Step (gTup 3 ga C (.tup [a, b, c]) ρ M K) (ga C [a, b, c] ρ M K) := ⟨fun h => ⟨rfl, h⟩⟩
instance : Step (gTup 3 ga C (.kup [a, b, c]) ρ M K) (ga C [a, b, c] ρ M K) := ⟨fun h => ⟨rfl, h⟩⟩
instance : Step (gTup 4 ga C (.tup [a, b, c, d]) ρ M K) (ga C [a, b, c, d] ρ M K) := ⟨fun h => ⟨rfl, h⟩⟩
instance : Step (gTup 4 ga C (.kup [a, b, c, d]) ρ M K) (ga C [a, b, c, d] ρ M K) := ⟨fun h => ⟨rfl, h⟩⟩
instance : Step (opIx (.tup (a :: l)) (.int 0) M P) (P a M) := ⟨fun h => ixT at0 h⟩
instance : Step (opIx (.kup (a :: l)) (.int 0) M P) (P a M) := ⟨fun h => ixK at0 h⟩
instance : Step (opIx (.tup (a :: b :: l)) (.int 1) M P) (P b M) := ⟨fun h => ixT at1 h⟩
instance : Step (opIx (.kup (a :: b :: l)) (.int 1) M P) (P b M) := ⟨fun h => ixK at1 h⟩
instance : Step (opIx (.tup (a :: b :: c :: l)) (.int 2) M P) (P c M) := ⟨fun h => ixT at2 h⟩
instance : Step (opIx (.kup (a :: b :: c :: l)) (.int 2) M P) (P c M) := ⟨fun h => ixK at2 h⟩
instance : Step (opIx (.tup (a :: b :: c :: d :: l)) (.int 3) M P) (P d M) := ⟨fun h => ixT at3 h⟩
instance : Step (opIx (.kup (a :: b :: c :: d :: l)) (.int 3) M P) (P d M) := ⟨fun h => ixK at3 h⟩
instance : Step (opIx (.tup (a :: b :: c :: d :: e :: l)) (.int 4) M P) (P e M) := ⟨fun h => ixT at4 h⟩
instance : Step (opIx (.kup (a :: b :: c :: d :: e :: l)) (.int 4) M P) (P e M) := ⟨fun h => ixK at4 h⟩
instance : Step (opIx (.tup (a :: b :: c :: d :: e :: f :: l)) (.int 5) M P) (P f M) := ⟨fun h => ixT at5 h⟩
instance : Step (opIx (.kup (a :: b :: c :: d :: e :: f :: l)) (.int 5) M P) (P f M) := ⟨fun h => ixK at5 h⟩
instance {x y : D} {K : D → D → Prop} : Step (topr [x, y] K) (K x y) := ⟨fun h => h⟩
end
end W
end DL


/-! the table: printed by gen.py -/
namespace DL.Law
open PySem PySem.Spec PyProof.Rows L2
abbrev top (i : Nat) : Stmt := PySem.Challenge.pw_watchedbylot_k20_duties_judged.main.body.getD i (.Pass ⟨0, 0, 0, 0⟩)
/-- is_integer: 0 thing -/
def d0 : Df := ⟨"is_integer", ["thing"], ["thing"], L2.defArgs (top 11), L2.defBody (top 11), L2.defScope (top 11), false⟩
/-- is_number: 0 thing -/
def d1 : Df := ⟨"is_number", ["thing"], ["thing"], L2.defArgs (top 12), L2.defBody (top 12), L2.defScope (top 12), false⟩
/-- integer_within: 0 thing, 1 low, 2 high -/
def d2 : Df := ⟨"integer_within", ["thing", "low", "high"], ["thing", "low", "high"], L2.defArgs (top 13), L2.defBody (top 13), L2.defScope (top 13), false⟩
/-- is_tuple: 0 thing, 1 many -/
def d3 : Df := ⟨"is_tuple", ["thing", "many"], ["thing", "many"], L2.defArgs (top 14), L2.defBody (top 14), L2.defScope (top 14), false⟩
/-- lot_fault: 0 many, 1 thing, 2 place, 3 number, 4 low -/
def d4 : Df := ⟨"lot_fault", ["many", "thing"], ["many", "thing", "place", "number", "low"], L2.defArgs (top 16), L2.defBody (top 16), L2.defScope (top 16), false⟩
/-- is_lot: 0 many, 1 thing -/
def d5 : Df := ⟨"is_lot", ["many", "thing"], ["many", "thing"], L2.defArgs (top 17), L2.defBody (top 17), L2.defScope (top 17), false⟩
/-- common_of: 0 one, 1 other, 2 number -/
def d6 : Df := ⟨"common_of", ["one", "other"], ["one", "other", "number"], L2.defArgs (top 18), L2.defBody (top 18), L2.defScope (top 18), false⟩
/-- check_wishes: 0 many, 1 thing, 2 number, 3 wish -/
def d7 : Df := ⟨"check_wishes", ["many", "thing"], ["many", "thing", "number", "wish"], L2.defArgs (top 20), L2.defBody (top 20), L2.defScope (top 20), false⟩
/-- check_duties: 0 posts, 1 thing -/
def d8 : Df := ⟨"check_duties", ["posts", "thing"], ["posts", "thing"], L2.defArgs (top 22), L2.defBody (top 22), L2.defScope (top 22), false⟩
/-- is_duty_night: 0 posts, 1 thing, 2 watched, 3 number, 4 post -/
def d9 : Df := ⟨"is_duty_night", ["posts", "thing"], ["posts", "thing", "watched", "number", "post"], L2.defArgs (top 23), L2.defBody (top 23), L2.defScope (top 23), false⟩
/-- keeps_duties: 0 duties, 1 rota, 2 post, 3 duty, 4 night -/
def d10 : Df := ⟨"keeps_duties", ["duties", "rota"], ["duties", "rota", "post", "duty", "night"], L2.defArgs (top 24), L2.defBody (top 24), L2.defScope (top 24), false⟩
/-- is_duty_rota: 0 many, 1 posts, 2 wishes, 3 duties, 4 nights, 5 thing, 6 night, 7 number -/
def d11 : Df := ⟨"is_duty_rota", ["many", "posts", "wishes", "duties", "nights", "thing"], ["many", "posts", "wishes", "duties", "nights", "thing", "night", "number"], L2.defArgs (top 25), L2.defBody (top 25), L2.defScope (top 25), false⟩
/-- room_for: 0 posts, 1 duties, 2 nights, 3 lot, 4 post, 5 duty -/
def d12 : Df := ⟨"room_for", ["posts", "duties", "nights", "lot"], ["posts", "duties", "nights", "lot", "post", "duty"], L2.defArgs (top 26), L2.defBody (top 26), L2.defScope (top 26), false⟩
/-- is_short_things: 0 many, 1 posts, 2 wishes, 3 duties, 4 nights, 5 thing, 6 number -/
def d13 : Df := ⟨"is_short_things", ["many", "posts", "wishes", "duties", "nights", "thing"], ["many", "posts", "wishes", "duties", "nights", "thing", "number"], L2.defArgs (top 27), L2.defBody (top 27), L2.defScope (top 27), false⟩
/-- _law_chest: 0 script, 1 mixed, 2 great, 3 k, 4 cell -/
def d14 : Df := ⟨"_law_chest", ["script"], ["script", "mixed", "great", "k", "cell"], L2.defArgs (top 29), L2.defBody (top 29), L2.defScope (top 29), false⟩
/-- _law_of: 0 chest, 1 many, 2 great, 3 cell -/
def d15 : Df := ⟨"_law_of", ["chest", "many"], ["chest", "many", "great", "cell"], L2.defArgs (top 30), L2.defBody (top 30), L2.defScope (top 30), false⟩
/-- _law_one: 0 chest, 1 things -/
def d16 : Df := ⟨"_law_one", ["chest", "things"], ["chest", "things"], L2.defArgs (top 31), L2.defBody (top 31), L2.defScope (top 31), false⟩
/-- _law_posts: 0 chest, 1 many, 2 most, 3 posts, 4 k, 5 way, 6 thing -/
def d17 : Df := ⟨"_law_posts", ["chest", "many", "most"], ["chest", "many", "most", "posts", "k", "way", "thing"], L2.defArgs (top 32), L2.defBody (top 32), L2.defScope (top 32), false⟩
/-- _law_night: 0 chest, 1 posts, 2 night, 3 post, 4 free, 5 thing -/
def d18 : Df := ⟨"_law_night", ["chest", "posts"], ["chest", "posts", "night", "post", "free", "thing"], L2.defArgs (top 33), L2.defBody (top 33), L2.defScope (top 33), false⟩
/-- _law_watched: 0 many, 1 rota, 2 counts, 3 night, 4 thing -/
def d19 : Df := ⟨"_law_watched", ["many", "rota"], ["many", "rota", "counts", "night", "thing"], L2.defArgs (top 34), L2.defBody (top 34), L2.defScope (top 34), false⟩
/-- _law_worked: 0 posts, 1 rota, 2 k, 3 night -/
def d20 : Df := ⟨"_law_worked", ["posts", "rota"], ["posts", "rota", "k", "night"], L2.defArgs (top 35), L2.defBody (top 35), L2.defScope (top 35), false⟩
/-- _law_whole: 0 thing -/
def d21 : Df := ⟨"_law_whole", ["thing"], ["thing"], L2.defArgs (top 36), L2.defBody (top 36), L2.defScope (top 36), false⟩
/-- _law_is_rota: 0 many, 1 posts, 2 wishes, 3 duties, 4 nights, 5 thing, 6 night, 7 seen, 8 k, 9 worked, 10 counts -/
def d22 : Df := ⟨"_law_is_rota", ["many", "posts", "wishes", "duties", "nights", "thing"], ["many", "posts", "wishes", "duties", "nights", "thing", "night", "seen", "k", "worked", "counts"], L2.defArgs (top 37), L2.defBody (top 37), L2.defScope (top 37), false⟩
/-- _law_is_lot: 0 many, 1 thing, 2 last, 3 one -/
def d23 : Df := ⟨"_law_is_lot", ["many", "thing"], ["many", "thing", "last", "one"], L2.defArgs (top 38), L2.defBody (top 38), L2.defScope (top 38), false⟩
/-- _law_beside: 0 posts, 1 duties, 2 nights, 3 lot, 4 total, 5 k, 6 thing -/
def d24 : Df := ⟨"_law_beside", ["posts", "duties", "nights", "lot"], ["posts", "duties", "nights", "lot", "total", "k", "thing"], L2.defArgs (top 39), L2.defBody (top 39), L2.defScope (top 39), false⟩
/-- _law_is_short: 0 many, 1 posts, 2 wishes, 3 duties, 4 nights, 5 thing, 6 one -/
def d25 : Df := ⟨"_law_is_short", ["many", "posts", "wishes", "duties", "nights", "thing"], ["many", "posts", "wishes", "duties", "nights", "thing", "one"], L2.defArgs (top 40), L2.defBody (top 40), L2.defScope (top 40), false⟩
/-- _law_says: 0 told, 1 due -/
def d26 : Df := ⟨"_law_says", ["told", "due"], ["told", "due"], L2.defArgs (top 41), L2.defBody (top 41), L2.defScope (top 41), false⟩
/-- _law_put: 0 row, 1 at, 2 thing -/
def d27 : Df := ⟨"_law_put", ["row", "at", "thing"], ["row", "at", "thing"], L2.defArgs (top 42), L2.defBody (top 42), L2.defScope (top 42), false⟩
/-- _law_bent: 0 chest, 1 many, 2 posts, 3 rota, 4 told, 5 at, 6 night, 7 k, 8 other, 9 strange, 10 odd, 11 one, 12 thing -/
def d28 : Df := ⟨"_law_bent", ["chest", "many", "posts", "rota"], ["chest", "many", "posts", "rota", "told", "at", "night", "k", "other", "strange", "odd", "one", "thing"], L2.defArgs (top 43), L2.defBody (top 43), L2.defScope (top 43), false⟩
/-- _law_asked: 0 chest, 1 many, 2 posts, 3 nights, 4 rota, 5 counts, 6 worked, 7 spare, 8 duties, 9 wishes, 10 things, 11 first, 12 thing, 13 at, 14 more, 15 night, 16 k -/
def d29 : Df := ⟨"_law_asked", ["chest", "many", "posts", "nights"], ["chest", "many", "posts", "nights", "rota", "counts", "worked", "spare", "duties", "wishes", "things", "first", "thing", "at", "more", "night", "k"], L2.defArgs (top 44), L2.defBody (top 44), L2.defScope (top 44), false⟩
/-- _law_lots: 0 chest, 1 many, 2 posts, 3 duties, 4 nights, 5 turn, 6 lot, 7 wishes, 8 at, 9 rest, 10 things, 11 thing, 12 one -/
def d30 : Df := ⟨"_law_lots", ["chest", "many", "posts", "duties", "nights"], ["chest", "many", "posts", "duties", "nights", "turn", "lot", "wishes", "at", "rest", "things", "thing", "one"], L2.defArgs (top 45), L2.defBody (top 45), L2.defScope (top 45), false⟩
/-- _law_refused: 0 posts, 1 thing, 2 place, 3 wrong -/
def d31 : Df := ⟨"_law_refused", ["posts", "thing", "place"], ["posts", "thing", "place", "wrong"], L2.defArgs (top 46), L2.defBody (top 46), L2.defScope (top 46), false⟩
/-- _law_checked: 0 chest, 1 many, 2 posts, 3 duties, 4 told, 5 things, 6 at, 7 bent, 8 k, 9 first, 10 thing, 11 post -/
def d32 : Df := ⟨"_law_checked", ["chest", "many"], ["chest", "many", "posts", "duties", "told", "things", "at", "bent", "k", "first", "thing", "post"], L2.defArgs (top 47), L2.defBody (top 47), L2.defScope (top 47), false⟩
/-- law: 0 script, 1 chest, 2 wide, 3 turn, 4 many, 5 posts, 6 rota, 7 at, 8 twice, 9 post, 10 thing -/
def d33 : Df := ⟨"law", ["script"], ["script", "chest", "wide", "turn", "many", "posts", "rota", "at", "twice", "post", "thing"], L2.defArgs (top 48), L2.defBody (top 48), L2.defScope (top 48), false⟩
def ds : List Df := [d0, d1, d2, d3, d4, d5, d6, d7, d8, d9, d10, d11, d12, d13, d14, d15, d16, d17, d18, d19, d20, d21, d22, d23, d24, d25, d26, d27, d28, d29, d30, d31, d32, d33]
def fns0 : List (Str × List Str) := [("is_integer", ["thing"]), ("is_number", ["thing"]), ("integer_within", ["thing", "low", "high"]), ("is_tuple", ["thing", "many"]), ("lot_fault", ["many", "thing"]), ("is_lot", ["many", "thing"]), ("common_of", ["one", "other"]), ("check_wishes", ["many", "thing"]), ("check_duties", ["posts", "thing"]), ("is_duty_night", ["posts", "thing"]), ("keeps_duties", ["duties", "rota"]), ("is_duty_rota", ["many", "posts", "wishes", "duties", "nights", "thing"]), ("room_for", ["posts", "duties", "nights", "lot"]), ("is_short_things", ["many", "posts", "wishes", "duties", "nights", "thing"]), ("_law_chest", ["script"]), ("_law_of", ["chest", "many"]), ("_law_one", ["chest", "things"]), ("_law_posts", ["chest", "many", "most"]), ("_law_night", ["chest", "posts"]), ("_law_watched", ["many", "rota"]), ("_law_worked", ["posts", "rota"]), ("_law_whole", ["thing"]), ("_law_is_rota", ["many", "posts", "wishes", "duties", "nights", "thing"]), ("_law_is_lot", ["many", "thing"]), ("_law_beside", ["posts", "duties", "nights", "lot"])]
def fns1 : List (Str × List Str) := [("_law_is_short", ["many", "posts", "wishes", "duties", "nights", "thing"]), ("_law_says", ["told", "due"]), ("_law_put", ["row", "at", "thing"]), ("_law_bent", ["chest", "many", "posts", "rota"]), ("_law_asked", ["chest", "many", "posts", "nights"]), ("_law_lots", ["chest", "many", "posts", "duties", "nights"]), ("_law_refused", ["posts", "thing", "place"]), ("_law_checked", ["chest", "many"]), ("law", ["script"])]
def G : Glb := ⟨fns0 ++ fns1, ["len", "range", "tuple", "list", "int", "bool", "abs", "sum", "all", "max", "min", "isinstance", "zip", "enumerate", "set", "str"], [], [], [], [], [21], [⟨"WatchError", [], [0]⟩, ⟨"DataError", [], [1, 0]⟩, ⟨"CallError", [], [2, 0]⟩, ⟨"BadRule", ["deep", "at", "word"], [3, 1, 0]⟩, ⟨"BadLot", ["at"], [4, 1, 0]⟩, ⟨"BadLosses", ["at"], [5, 1, 0]⟩, ⟨"BadLottery", ["at", "word"], [6, 1, 0]⟩, ⟨"BadWishes", ["at"], [7, 1, 0]⟩, ⟨"BadNight", ["at", "word"], [8, 1, 0]⟩]⟩
def c_is_integer : DS := (sRet (eAnd (eIsi "int" (eVar 0)) (eNot (eIsi "bool" (eVar 0)))))
def c_is_number : DS := (sRet (eAnd (eCall 0 (aCons (eVar 0) aNil)) (eBin opGe (eVar 0) (eK (.int 0)))))
def c_integer_within : DS := (sRet (eAnd (eCall 0 (aCons (eVar 0) aNil)) (eChain opLe opLe (eVar 1) (eVar 0) (eVar 2))))
def c_is_tuple : DS := (sRet (eAnd (eIsi "tuple" (eVar 0)) (eBin opEq (eF fLen (aCons (eVar 0) aNil)) (eVar 1))))
def c_lot_fault_g1 : DG := (gTup 2 (gCons (gName 2) (gCons (gName 3) gNil)))
def c_lot_fault_s1 : DS := (sIf (tNot (tTru (eCall 2 (aCons (eVar 3) (aCons (eVar 4) (aCons (eBin opSub (eVar 0) (eK (.int 1))) aNil))))))
(sRet (eVar 2))
sNext)
def c_lot_fault_b1 : DS := (sSeq (sAsg (eIf (tOf (eBin opEq (eVar 2) (eK (.int 0)))) (eK (.int 0)) (eBin opAdd (eBin opIx (eVar 1) (eBin opSub (eVar 2) (eK (.int 1)))) (eK (.int 1)))) (gName 4))
c_lot_fault_s1)
def c_lot_fault_s2 : DS := (sRet (eK .non))
def c_lot_fault_s3 : DS := (sSeq (sFor (iEnumD (eVar 1)) c_lot_fault_g1 c_lot_fault_b1)
c_lot_fault_s2)
def c_lot_fault : DS := (sSeq (sIf (tNot (tTru (eIsi "tuple" (eVar 1))))
(sRet (eUn opNeg (eK (.int 1))))
sNext)
c_lot_fault_s3)
def c_is_lot : DS := (sRet (eBin opIs (eCall 4 (aCons (eVar 0) (aCons (eVar 1) aNil))) (eK .non)))
def c_common_of_t1 : DT := (tOf (eBin (inD false) (eVar 2) (eVar 1)))
def c_common_of : DS := (sRet (eTupL (lcomp (iSeq (eVar 0)) (gName 2) c_common_of_t1 (eVar 2) [2])))
def c_check_wishes_g1 : DG := (gTup 2 (gCons (gName 2) (gCons (gName 3) gNil)))
def c_check_wishes_b1 : DS := (sIf (tNot (tTru (eCall 1 (aCons (eVar 3) aNil))))
(sRaise 7 1 (aCons (eVar 2) aNil))
sNext)
def c_check_wishes_s1 : DS := (sRet (eF (fC cSum true) (aCons (eVar 1) aNil)))
def c_check_wishes_s2 : DS := (sSeq (sFor (iEnumD (eVar 1)) c_check_wishes_g1 c_check_wishes_b1)
c_check_wishes_s1)
def c_check_wishes : DS := (sSeq (sIf (tNot (tTru (eCall 3 (aCons (eVar 1) (aCons (eVar 0) aNil)))))
(sRaise 7 1 (aCons (eUn opNeg (eK (.int 1))) aNil))
sNext)
c_check_wishes_s2)
def c_check_duties : DS := (sRet (eCall 7 (aCons (eF fLen (aCons (eVar 0) aNil)) (aCons (eVar 1) aNil))))
def c_is_duty_night_t1 : DT := (tOf (eBin opIsNot (eVar 3) (eK .non)))
def c_is_duty_night_e1 : DE := (eCall 0 (aCons (eVar 3) aNil))
def c_is_duty_night_g1 : DG := (gTup 2 (gCons (gName 4) (gCons (gName 3) gNil)))
def c_is_duty_night_e2 : DE := (eOr (eBin opIs (eVar 3) (eK .non)) (eBin (inD false) (eVar 3) (eVar 4)))
def c_is_duty_night_s1 : DS := (sRet (eFL cAll (lcomp (iZip (eVar 0) (eVar 1)) c_is_duty_night_g1 tYesD c_is_duty_night_e2 [4, 3])))
def c_is_duty_night_s2 : DS := (sSeq (sAsg (eNew (lcomp (iSeq (eVar 1)) (gName 3) c_is_duty_night_t1 (eVar 3) [3])) (gName 2))
(sSeq (sIf (tOr (tNot (tTru (eFL cAll (lcomp (iSeq (eVar 2)) (gName 3) tYesD c_is_duty_night_e1 [3])))) (tOf (eBin opNe (eF fLenSet (aCons (eVar 2) aNil)) (eF fLen (aCons (eVar 2) aNil)))))
(sRet (eK (.bl false)))
sNext)
c_is_duty_night_s1))
def c_is_duty_night : DS := (sSeq (sIf (tNot (tTru (eCall 3 (aCons (eVar 1) (aCons (eF fLen (aCons (eVar 0) aNil)) aNil)))))
(sRet (eK (.bl false)))
sNext)
c_is_duty_night_s2)
def c_keeps_duties_g1 : DG := (gTup 2 (gCons (gName 2) (gCons (gName 3) gNil)))
def c_keeps_duties_t1 : DT := (tOf (eBin opIsNot (eBin opIx (eVar 4) (eVar 2)) (eK .non)))
def c_keeps_duties_b1 : DS := (sIf (tOf (eBin opGt (eFL cLen (lcomp (iSeq (eVar 1)) (gName 4) c_keeps_duties_t1 (eVar 4) [4])) (eVar 3)))
(sRet (eK (.bl false)))
sNext)
def c_keeps_duties_s1 : DS := (sRet (eK (.bl true)))
def c_keeps_duties : DS := (sSeq (sFor (iEnumD (eVar 0)) c_keeps_duties_g1 c_keeps_duties_b1)
c_keeps_duties_s1)
def c_is_duty_rota_e1 : DE := (eCall 9 (aCons (eVar 1) (aCons (eVar 6) aNil)))
def c_is_duty_rota_t1 : DT := (tOf (eBin (inD false) (eVar 7) (eVar 6)))
def c_is_duty_rota_e2 : DE := (eBin opGe (eFL cLen (lcomp (iSeq (eVar 5)) (gName 6) c_is_duty_rota_t1 (eVar 6) [6])) (eBin opIx (eVar 2) (eVar 7)))
def c_is_duty_rota_s1 : DS := (sRet (eFL cAll (lcomp (iRng1 (eVar 0)) (gName 7) tYesD c_is_duty_rota_e2 [7])))
def c_is_duty_rota_s2 : DS := (sSeq (sIf (tNot (tTru (eCall 10 (aCons (eVar 3) (aCons (eVar 5) aNil)))))
(sRet (eK (.bl false)))
sNext)
c_is_duty_rota_s1)
def c_is_duty_rota : DS := (sSeq (sIf (tOr (tNot (tTru (eCall 3 (aCons (eVar 5) (aCons (eVar 4) aNil))))) (tNot (tTru (eFL cAll (lcomp (iSeq (eVar 5)) (gName 6) tYesD c_is_duty_rota_e1 [6])))))
(sRet (eK (.bl false)))
sNext)
c_is_duty_rota_s2)
def c_room_for_g1 : DG := (gTup 2 (gCons (gName 4) (gCons (gName 5) gNil)))
def c_room_for_t1 : DT := (tTru (eCall 6 (aCons (eVar 4) (aCons (eVar 3) aNil))))
def c_room_for_e1 : DE := (eF fMin2 (aCons (eVar 5) (aCons (eVar 2) aNil)))
def c_room_for : DS := (sRet (eFL cSum (lcomp (iZip (eVar 0) (eVar 1)) c_room_for_g1 c_room_for_t1 c_room_for_e1 [4, 5])))
def c_is_short_things_e1 : DE := (eBin opIx (eVar 2) (eVar 6))
def c_is_short_things_s1 : DS := (sRet (eBin opGt (eFL cSum (lcomp (iSeq (eVar 5)) (gName 6) tYesD c_is_short_things_e1 [6])) (eCall 12 (aCons (eVar 1) (aCons (eVar 3) (aCons (eVar 4) (aCons (eVar 5) aNil)))))))
def c_is_short_things : DS := (sSeq (sIf (tNot (tTru (eCall 5 (aCons (eVar 0) (aCons (eVar 5) aNil)))))
(sRet (eK (.bl false)))
sNext)
c_is_short_things_s1)
def c_law_chest_b1 : DS := (sSeq (sAsg (eBin opMod (eF fAbs (aCons (eF fInt (aCons (eBin opIx (eVar 0) (eVar 3)) aNil)) aNil)) (eBin opShl (eK (.int 1)) (eK (.int 1700)))) (gName 4))
(sSeq (sAsg (eBin opMod (eF fInt (aCons (eBin opAdd (eBin opAdd (eBin opAdd (eBin opMul (eVar 1) (eK (.int 25673))) (eBin opMod (eVar 4) (eK (.int 1999993)))) (eBin opMul (eK (.int 3)) (eVar 3))) (eK (.int 1))) aNil)) (eK (.int 2147483629))) (gName 1))
(sIf (tOf (eBin opGe (eVar 4) (eBin opPow (eK (.int 10)) (eK (.int 18)))))
(sDrop (eM "list" mAppend (eVar 2) (aCons (eVar 4) aNil)))
sNext)))
def c_law_chest_s1 : DS := (sRet (eDisp [((eK (.str "mixed")), (eVar 1)), ((eK (.str "great")), (eVar 2))]))
def c_law_chest : DS := (sSeq (sAsg (eK (.int 20477)) (gName 1))
(sSeq (sAsg (eLst aNil) (gName 2))
(sSeq (sFor (iRng1 (eF fMin2 (aCons (eF fLen (aCons (eVar 0) aNil)) (aCons (eK (.int 58)) aNil)))) (gName 3) c_law_chest_b1)
c_law_chest_s1)))
def c_law_of_s1 : DS := (sRet (eBin opMod (eVar 3) (eVar 1)))
def c_law_of_s2 : DS := (sSeq (sAsg (eBin opMod (eF fInt (aCons (eBin opAdd (eBin opMul (eBin opIx (eVar 0) (eK (.str "mixed"))) (eK (.int 39373))) (eK (.int 4349))) aNil)) (eK (.int 2147483629))) (gSub (eVar 0) (eK (.str "mixed"))))
(sRet (eBin opMod (eF fInt (aCons (eBin opDiv (eBin opIx (eVar 0) (eK (.str "mixed"))) (eK (.int 127))) aNil)) (eVar 1))))
def c_law_of : DS := (sSeq (sAsg (eBin opIx (eVar 0) (eK (.str "great"))) (gName 2))
(sSeq (sIf (tOf (eBin opGt (eF fLen (aCons (eVar 2) aNil)) (eK (.int 0))))
(sSeq (sAsg (eF fInt (aCons (eBin opIx (eVar 2) (eK (.int 0))) aNil)) (gName 3))
(sSeq (sAsg (eBin opDiv (eVar 3) (eVar 1)) (gSub (eVar 2) (eK (.int 0))))
(sSeq (sIf (tOf (eBin opEq (eBin opIx (eVar 2) (eK (.int 0))) (eK (.int 0))))
(sDrop (eM "list" mPop (eVar 2) (aCons (eK (.int 0)) aNil)))
sNext)
c_law_of_s1)))
sNext)
c_law_of_s2))
def c_law_one : DS := (sRet (eBin opIx (eVar 1) (eCall 15 (aCons (eVar 0) (aCons (eF fLen (aCons (eVar 1) aNil)) aNil)))))
def c_law_posts_t1 : DT := (tOf (eBin opEq (eCall 15 (aCons (eVar 0) (aCons (eK (.int 2)) aNil))) (eK (.int 0))))
def c_law_posts_b1 : DS := (sSeq (sAsg (eCall 15 (aCons (eVar 0) (aCons (eK (.int 6)) aNil))) (gName 5))
(sIf (tOf (eBin opEq (eVar 5) (eK (.int 0))))
(sDrop (eM "list" mAppend (eVar 3) (aCons (eCall 16 (aCons (eVar 0) (aCons (eLst (aCons (eTup aNil) (aCons (eTupRg (rg1 (eVar 1))) aNil))) aNil))) aNil)))
(sIf (tAnd (tOf (eBin opEq (eVar 5) (eK (.int 1)))) (tOf (eBin opGt (eF fLen (aCons (eVar 3) aNil)) (eK (.int 0)))))
(sDrop (eM "list" mAppend (eVar 3) (aCons (eCall 16 (aCons (eVar 0) (aCons (eVar 3) aNil))) aNil)))
(sDrop (eM "list" mAppend (eVar 3) (aCons (eTupL (lcomp (iRng1 (eVar 1)) (gName 6) c_law_posts_t1 (eVar 6) [6])) aNil))))))
def c_law_posts_s1 : DS := (sRet (eF fTuple (aCons (eVar 3) aNil)))
def c_law_posts : DS := (sSeq (sAsg (eLst aNil) (gName 3))
(sSeq (sFor (iRng1 (eCall 15 (aCons (eVar 0) (aCons (eBin opAdd (eVar 2) (eK (.int 1))) aNil)))) (gName 4) c_law_posts_b1)
c_law_posts_s1))
def c_law_night_t1 : DT := (tOf (eBin (inD true) (eVar 5) (eVar 2)))
def c_law_night_b1 : DS := (sSeq (sAsg (eNew (lcomp (iSeq (eVar 3)) (gName 5) c_law_night_t1 (eVar 5) [5])) (gName 4))
(sIf (tOr (tOf (eBin opEq (eF fLen (aCons (eVar 4) aNil)) (eK (.int 0)))) (tOf (eBin opEq (eCall 15 (aCons (eVar 0) (aCons (eK (.int 5)) aNil))) (eK (.int 0)))))
(sDrop (eM "list" mAppend (eVar 2) (aCons (eK .non) aNil)))
(sDrop (eM "list" mAppend (eVar 2) (aCons (eCall 16 (aCons (eVar 0) (aCons (eVar 4) aNil))) aNil)))))
def c_law_night_s1 : DS := (sRet (eF fTuple (aCons (eVar 2) aNil)))
def c_law_night : DS := (sSeq (sAsg (eLst aNil) (gName 2))
(sSeq (sFor (iSeq (eVar 1)) (gName 3) c_law_night_b1)
c_law_night_s1))
def c_law_watched_b1 : DS := (sIf (tOf (eBin opIsNot (eVar 4) (eK .non)))
(sAsg (eBin opAdd (eBin opIx (eVar 2) (eVar 4)) (eK (.int 1))) (gSub (eVar 2) (eVar 4)))
sNext)
def c_law_watched_b2 : DS := (sFor (iSeq (eVar 3)) (gName 4) c_law_watched_b1)
def c_law_watched_s1 : DS := (sRet (eVar 2))
def c_law_watched : DS := (sSeq (sAsg (eBin opMul (eLst (aCons (eK (.int 0)) aNil)) (eVar 0)) (gName 2))
(sSeq (sFor (iSeq (eVar 1)) (gName 3) c_law_watched_b2)
c_law_watched_s1))
def c_law_worked_t1 : DT := (tOf (eBin opIsNot (eBin opIx (eVar 3) (eVar 2)) (eK .non)))
def c_law_worked_e1 : DE := (eFL cLen (lcomp (iSeq (eVar 1)) (gName 3) c_law_worked_t1 (eVar 3) [3]))
def c_law_worked : DS := (sRet (eNew (lcomp (iRng1 (eF fLen (aCons (eVar 0) aNil))) (gName 2) tYesD c_law_worked_e1 [2])))
def c_law_whole : DS := (sRet (eAnd (eIsi "int" (eVar 0)) (eNot (eIsi "bool" (eVar 0)))))
def c_law_is_rota_s1 : DS := (sDrop (eM "list" mAppend (eVar 7) (aCons (eBin opIx (eVar 6) (eVar 8)) aNil)))
def c_law_is_rota_b1 : DS := (sIf (tOf (eBin opIsNot (eBin opIx (eVar 6) (eVar 8)) (eK .non)))
(sSeq (sIf (tOr (tNot (tTru (eCall 21 (aCons (eBin opIx (eVar 6) (eVar 8)) aNil)))) (tOr (tOf (eBin (inD true) (eBin opIx (eVar 6) (eVar 8)) (eBin opIx (eVar 1) (eVar 8)))) (tOf (eBin (inD false) (eBin opIx (eVar 6) (eVar 8)) (eVar 7)))))
(sRet (eK (.bl false)))
sNext)
c_law_is_rota_s1)
sNext)
def c_law_is_rota_s2 : DS := (sSeq (sAsg (eLst aNil) (gName 7))
(sFor (iRng1 (eF fLen (aCons (eVar 1) aNil))) (gName 8) c_law_is_rota_b1))
def c_law_is_rota_b2 : DS := (sSeq (sIf (tOr (tNot (tTru (eIsi "tuple" (eVar 6)))) (tOf (eBin opNe (eF fLen (aCons (eVar 6) aNil)) (eF fLen (aCons (eVar 1) aNil)))))
(sRet (eK (.bl false)))
sNext)
c_law_is_rota_s2)
def c_law_is_rota_t1 : DT := (tOf (eBin opGt (eBin opIx (eVar 9) (eVar 8)) (eBin opIx (eVar 3) (eVar 8))))
def c_law_is_rota_t2 : DT := (tOf (eBin opLt (eBin opIx (eVar 10) (eVar 8)) (eBin opIx (eVar 2) (eVar 8))))
def c_law_is_rota_s3 : DS := (sSeq (sAsg (eCall 19 (aCons (eVar 0) (aCons (eVar 5) aNil))) (gName 10))
(sRet (eBin opEq (eFL cLen (lcomp (iRng1 (eVar 0)) (gName 8) c_law_is_rota_t2 (eVar 8) [8])) (eK (.int 0)))))
def c_law_is_rota_s4 : DS := (sSeq (sAsg (eCall 20 (aCons (eVar 1) (aCons (eVar 5) aNil))) (gName 9))
(sSeq (sIf (tOf (eBin opGt (eFL cLen (lcomp (iRng1 (eF fLen (aCons (eVar 1) aNil))) (gName 8) c_law_is_rota_t1 (eVar 8) [8])) (eK (.int 0))))
(sRet (eK (.bl false)))
sNext)
c_law_is_rota_s3))
def c_law_is_rota_s5 : DS := (sSeq (sFor (iSeq (eVar 5)) (gName 6) c_law_is_rota_b2)
c_law_is_rota_s4)
def c_law_is_rota : DS := (sSeq (sIf (tOr (tNot (tTru (eIsi "tuple" (eVar 5)))) (tOf (eBin opNe (eF fLen (aCons (eVar 5) aNil)) (eVar 4))))
(sRet (eK (.bl false)))
sNext)
c_law_is_rota_s5)
def c_law_is_lot_s1 : DS := (sAsg (eVar 3) (gName 2))
def c_law_is_lot_b1 : DS := (sSeq (sIf (tOr (tNot (tTru (eCall 21 (aCons (eVar 3) aNil)))) (tOr (tOf (eBin opLe (eVar 3) (eVar 2))) (tOf (eBin opGe (eVar 3) (eVar 0)))))
(sRet (eK (.bl false)))
sNext)
c_law_is_lot_s1)
def c_law_is_lot_s2 : DS := (sRet (eK (.bl true)))
def c_law_is_lot_s3 : DS := (sSeq (sAsg (eUn opNeg (eK (.int 1))) (gName 2))
(sSeq (sFor (iSeq (eVar 1)) (gName 3) c_law_is_lot_b1)
c_law_is_lot_s2))
def c_law_is_lot : DS := (sSeq (sIf (tNot (tTru (eIsi "tuple" (eVar 1))))
(sRet (eK (.bl false)))
sNext)
c_law_is_lot_s3)
def c_law_beside_t1 : DT := (tOf (eBin (inD false) (eVar 6) (eVar 3)))
def c_law_beside_b1 : DS := (sIf (tOf (eBin opGt (eFL cLen (lcomp (iSeq (eBin opIx (eVar 0) (eVar 5))) (gName 6) c_law_beside_t1 (eVar 6) [6])) (eK (.int 0))))
(sAsg (eBin opAdd (eVar 4) (eF fMin2 (aCons (eBin opIx (eVar 1) (eVar 5)) (aCons (eVar 2) aNil)))) (gName 4))
sNext)
def c_law_beside_s1 : DS := (sRet (eVar 4))
def c_law_beside : DS := (sSeq (sAsg (eK (.int 0)) (gName 4))
(sSeq (sFor (iRng1 (eF fLen (aCons (eVar 0) aNil))) (gName 5) c_law_beside_b1)
c_law_beside_s1))
def c_law_is_short_e1 : DE := (eBin opIx (eVar 2) (eVar 6))
def c_law_is_short_s1 : DS := (sRet (eBin opGt (eFL cSum (lcomp (iSeq (eVar 5)) (gName 6) tYesD c_law_is_short_e1 [6])) (eCall 24 (aCons (eVar 1) (aCons (eVar 3) (aCons (eVar 4) (aCons (eVar 5) aNil)))))))
def c_law_is_short : DS := (sSeq (sIf (tNot (tTru (eCall 23 (aCons (eVar 0) (aCons (eVar 5) aNil)))))
(sRet (eK (.bl false)))
sNext)
c_law_is_short_s1)
def c_law_says : DS := (sRet (eAnd (eIsi "bool" (eVar 0)) (eBin opEq (eVar 0) (eVar 1))))
def c_law_put : DS := (sRet (eBin opAdd (eBin opAdd (eCut (eVar 0) oNone (oSome (eVar 1))) (eTup (aCons (eVar 2) aNil))) (eCut (eVar 0) (oSome (eBin opAdd (eVar 1) (eK (.int 1)))) oNone)))
def c_law_bent_e1 : DE := (eCall 27 (aCons (eVar 3) (aCons (eVar 5) (aCons (eVar 11) aNil))))
def c_law_bent_t1 : DT := (tOf (eBin (inD true) (eVar 12) (eBin opIx (eVar 2) (eVar 7))))
def c_law_bent_e2 : DE := (eCall 27 (aCons (eVar 3) (aCons (eVar 5) (aCons (eCall 27 (aCons (eVar 6) (aCons (eVar 7) (aCons (eVar 11) aNil)))) aNil))))
def c_law_bent_s1 : DS := (sRet (eVar 4))
def c_law_bent : DS := (sSeq (sAsg (eLst (aCons (eF fList (aCons (eVar 3) aNil)) (aCons (eCut (eVar 3) oNone (oSome (eUn opNeg (eK (.int 1))))) (aCons (eBin opAdd (eVar 3) (eCut (eVar 3) (oSome (eUn opNeg (eK (.int 1)))) oNone)) (aCons (eRev (eVar 3)) (aCons (eK .non) (aCons (eTup (aCons (eVar 3) aNil)) (aCons (eBin opAdd (eVar 3) (eTup (aCons (eTup aNil) aNil))) aNil)))))))) (gName 4))
(sSeq (sAsg (eCall 15 (aCons (eVar 0) (aCons (eF fLen (aCons (eVar 3) aNil)) aNil))) (gName 5))
(sSeq (sAsg (eBin opIx (eVar 3) (eVar 5)) (gName 6))
(sSeq (sAsg (eBin opAdd (eVar 4) (eNew (lcomp (iSeq (eTup (aCons (eF fList (aCons (eVar 6) aNil)) (aCons (eCut (eVar 6) oNone (oSome (eUn opNeg (eK (.int 1))))) (aCons (eBin opAdd (eVar 6) (eTup (aCons (eK .non) aNil))) (aCons (eK .non) (aCons (eRev (eVar 6)) (aCons (eTup aNil) aNil)))))))) (gName 11) tYesD c_law_bent_e1 [11]))) (gName 4))
(sSeq (sIf (tOf (eBin opGt (eF fLen (aCons (eVar 6) aNil)) (eK (.int 0))))
(sSeq (sAsg (eCall 15 (aCons (eVar 0) (aCons (eF fLen (aCons (eVar 6) aNil)) aNil))) (gName 7))
(sSeq (sAsg (eCall 15 (aCons (eVar 0) (aCons (eF fLen (aCons (eVar 6) aNil)) aNil))) (gName 8))
(sSeq (sAsg (eNew (lcomp (iRng1 (eVar 1)) (gName 12) c_law_bent_t1 (eVar 12) [12])) (gName 9))
(sSeq (sAsg (eLst (aCons (eK .non) (aCons (eVar 1) (aCons (eUn opNeg (eK (.int 1))) (aCons (eK (.bl true)) (aCons (eK (.bl false)) (aCons (eF fStr (aCons (eBin opIx (eVar 6) (eVar 7)) aNil)) (aCons (eTup (aCons (eBin opIx (eVar 6) (eVar 7)) aNil)) (aCons (eBin opIx (eVar 6) (eVar 8)) (aCons (eCall 15 (aCons (eVar 0) (aCons (eVar 1) aNil))) (aCons (eBin opEq (eBin opIx (eVar 6) (eVar 7)) (eK (.int 1))) aNil))))))))))) (gName 10))
(sSeq (sAsg (eBin opAdd (eBin opAdd (eBin opAdd (eVar 10) (eCut (eVar 9) oNone (oSome (eK (.int 1))))) (eCut (eVar 9) (oSome (eUn opNeg (eK (.int 1)))) oNone)) (eCut (eF fList (aCons (eBin opIx (eVar 2) (eVar 7)) aNil)) oNone (oSome (eK (.int 2))))) (gName 10))
(sAsg (eBin opAdd (eVar 4) (eNew (lcomp (iSeq (eVar 10)) (gName 11) tYesD c_law_bent_e2 [11]))) (gName 4)))))))
sNext)
c_law_bent_s1)))))
def c_law_asked_e1 : DE := (eCall 18 (aCons (eVar 0) (aCons (eVar 2) aNil)))
def c_law_asked_e2 : DE := (eBin opAdd (eBin opIx (eVar 6) (eVar 16)) (eCall 16 (aCons (eVar 0) (aCons (eLst (aCons (eK (.int 0)) (aCons (eK (.int 0)) (aCons (eVar 7) (aCons (eBin opSub (eBin opPow (eK (.int 10)) (eK (.int 6))) (eK (.int 10))) aNil))))) aNil))))
def c_law_asked_e3 : DE := (eF fMax2 (aCons (eK (.int 0)) (aCons (eBin opSub (eBin opIx (eVar 5) (eVar 16)) (eCall 16 (aCons (eVar 0) (aCons (eLst (aCons (eK (.int 0)) (aCons (eK (.int 0)) (aCons (eVar 7) aNil)))) aNil)))) aNil)))
def c_law_asked_b1 : DS := (sIf (tNot (tTru (eCall 26 (aCons (eCall 11 (aCons (eVar 1) (aCons (eVar 2) (aCons (eVar 9) (aCons (eVar 8) (aCons (eVar 3) (aCons (eVar 12) aNil))))))) (aCons (eCall 22 (aCons (eVar 1) (aCons (eVar 2) (aCons (eVar 9) (aCons (eVar 8) (aCons (eVar 3) (aCons (eVar 12) aNil))))))) aNil)))))
(sRet (eK (.bl false)))
sNext)
def c_law_asked_s1 : DS := (sIf (tNot (tTru (eCall 26 (aCons (eCall 11 (aCons (eVar 1) (aCons (eVar 2) (aCons (eVar 9) (aCons (eCall 27 (aCons (eVar 8) (aCons (eVar 13) (aCons (eBin opIx (eVar 6) (eVar 13)) aNil)))) (aCons (eVar 3) (aCons (eVar 4) aNil))))))) (aCons (eK (.bl true)) aNil)))))
(sRet (eK (.bl false)))
sNext)
def c_law_asked_s2 : DS := (sRet (eCall 30 (aCons (eVar 0) (aCons (eVar 1) (aCons (eVar 2) (aCons (eVar 8) (aCons (eVar 3) aNil)))))))
def c_law_asked_s3 : DS := (sSeq (sIf (tOf (eBin opGt (eF (fC cMax true) (aCons (eBin opAdd (eVar 6) (eLst (aCons (eK (.int 0)) aNil))) aNil)) (eK (.int 0))))
(sSeq (sAsg (eM "list" mIndex (eVar 6) (aCons (eF (fC cMax true) (aCons (eVar 6) aNil)) aNil)) (gName 13))
(sSeq (sIf (tNot (tTru (eCall 26 (aCons (eCall 11 (aCons (eVar 1) (aCons (eVar 2) (aCons (eVar 9) (aCons (eCall 27 (aCons (eVar 8) (aCons (eVar 13) (aCons (eBin opSub (eBin opIx (eVar 6) (eVar 13)) (eK (.int 1))) aNil)))) (aCons (eVar 3) (aCons (eVar 4) aNil))))))) (aCons (eK (.bl false)) aNil)))))
(sRet (eK (.bl false)))
sNext)
c_law_asked_s1))
sNext)
c_law_asked_s2)
def c_law_asked_s4 : DS := (sSeq (sAsg (eCall 15 (aCons (eVar 0) (aCons (eVar 1) aNil))) (gName 13))
(sSeq (sAsg (eCall 27 (aCons (eVar 9) (aCons (eVar 13) (aCons (eBin opAdd (eBin opIx (eVar 5) (eVar 13)) (eK (.int 1))) aNil)))) (gName 14))
(sSeq (sIf (tNot (tTru (eCall 26 (aCons (eCall 11 (aCons (eVar 1) (aCons (eVar 2) (aCons (eVar 14) (aCons (eVar 8) (aCons (eVar 3) (aCons (eVar 4) aNil))))))) (aCons (eK (.bl false)) aNil)))))
(sRet (eK (.bl false)))
sNext)
c_law_asked_s3)))
def c_law_asked_s5 : DS := (sSeq (sAsg (eCall 28 (aCons (eVar 0) (aCons (eVar 1) (aCons (eVar 2) (aCons (eVar 4) aNil))))) (gName 10))
(sSeq (sAsg (eCall 15 (aCons (eVar 0) (aCons (eF fLen (aCons (eVar 10) aNil)) aNil))) (gName 11))
(sSeq (sFor (iSeq (eCut (eBin opAdd (eCut (eVar 10) (oSome (eVar 11)) oNone) (eCut (eVar 10) oNone (oSome (eVar 11)))) oNone (oSome (eK (.int 9))))) (gName 12) c_law_asked_b1)
c_law_asked_s4)))
def c_law_asked : DS := (sSeq (sAsg (eTupL (lcomp (iRng1 (eVar 3)) (gName 15) tYesD c_law_asked_e1 [15])) (gName 4))
(sSeq (sAsg (eCall 19 (aCons (eVar 1) (aCons (eVar 4) aNil))) (gName 5))
(sSeq (sAsg (eCall 20 (aCons (eVar 2) (aCons (eVar 4) aNil))) (gName 6))
(sSeq (sAsg (eCall 15 (aCons (eVar 0) (aCons (eK (.int 3)) aNil))) (gName 7))
(sSeq (sAsg (eTupL (lcomp (iRng1 (eF fLen (aCons (eVar 2) aNil))) (gName 16) tYesD c_law_asked_e2 [16])) (gName 8))
(sSeq (sAsg (eTupL (lcomp (iRng1 (eVar 1)) (gName 16) tYesD c_law_asked_e3 [16])) (gName 9))
(sSeq (sIf (tNot (tTru (eCall 26 (aCons (eCall 11 (aCons (eVar 1) (aCons (eVar 2) (aCons (eVar 9) (aCons (eVar 8) (aCons (eVar 3) (aCons (eVar 4) aNil))))))) (aCons (eK (.bl true)) aNil)))))
(sRet (eK (.bl false)))
sNext)
c_law_asked_s5)))))))
def c_law_lots_t1 : DT := (tOf (eBin opEq (eCall 15 (aCons (eVar 0) (aCons (eK (.int 2)) aNil))) (eK (.int 0))))
def c_law_lots_e1 : DE := (eCall 16 (aCons (eVar 0) (aCons (eLst (aCons (eK (.int 0)) (aCons (eK (.int 1)) (aCons (eVar 4) aNil)))) aNil)))
def c_law_lots_e2 : DE := (eBin opIx (eVar 7) (eVar 12))
def c_law_lots_b1 : DS := (sIf (tNot (tTru (eCall 26 (aCons (eCall 13 (aCons (eVar 1) (aCons (eVar 2) (aCons (eVar 7) (aCons (eVar 3) (aCons (eVar 4) (aCons (eVar 11) aNil))))))) (aCons (eCall 25 (aCons (eVar 1) (aCons (eVar 2) (aCons (eVar 7) (aCons (eVar 3) (aCons (eVar 4) (aCons (eVar 11) aNil))))))) aNil)))))
(sRet (eK (.bl false)))
sNext)
def c_law_lots_s1 : DS := (sSeq (sAsg (eF fTuple (aCons (eVar 7) aNil)) (gName 7))
(sSeq (sAsg (eLst (aCons (eVar 6) (aCons (eRev (eVar 6)) (aCons (eF fList (aCons (eVar 6) aNil)) (aCons (eCut (eVar 6) oNone (oSome (eUn opNeg (eK (.int 1))))) (aCons (eBin opAdd (eVar 6) (eCut (eVar 6) (oSome (eUn opNeg (eK (.int 1)))) oNone)) (aCons (eTupRg (rg1 (eVar 1))) (aCons (eTup aNil) (aCons (eK .non) (aCons (eBin opAdd (eVar 6) (eTup (aCons (eVar 1) aNil))) (aCons (eBin opAdd (eTup (aCons (eUn opNeg (eK (.int 1))) aNil)) (eVar 6)) (aCons (eTup (aCons (eK (.bl true)) aNil)) (aCons (eBin opAdd (eVar 6) (eTup (aCons (eK .non) aNil))) aNil))))))))))))) (gName 10))
(sFor (iSeq (eLst (aCons (eVar 6) (aCons (eCall 16 (aCons (eVar 0) (aCons (eVar 10) aNil))) (aCons (eCall 16 (aCons (eVar 0) (aCons (eVar 10) aNil))) aNil))))) (gName 11) c_law_lots_b1)))
def c_law_lots_b2 : DS := (sSeq (sAsg (eTupL (lcomp (iRng1 (eVar 1)) (gName 11) c_law_lots_t1 (eVar 11) [11])) (gName 6))
(sSeq (sAsg (eNew (lcomp (iRng1 (eVar 1)) (gName 11) tYesD c_law_lots_e1 [11])) (gName 7))
(sSeq (sIf (tOf (eBin opGt (eF fLen (aCons (eVar 6) aNil)) (eK (.int 0))))
(sSeq (sAsg (eCall 16 (aCons (eVar 0) (aCons (eVar 6) aNil))) (gName 8))
(sSeq (sAsg (eK (.int 0)) (gSub (eVar 7) (eVar 8)))
(sSeq (sAsg (eBin opSub (eCall 24 (aCons (eVar 2) (aCons (eVar 3) (aCons (eVar 4) (aCons (eVar 6) aNil))))) (eFL cSum (lcomp (iSeq (eVar 6)) (gName 12) tYesD c_law_lots_e2 [12]))) (gName 9))
(sAsg (eBin opAdd (eF fMax2 (aCons (eK (.int 0)) (aCons (eVar 9) aNil))) (eBin opAnd (eVar 5) (eK (.int 1)))) (gSub (eVar 7) (eVar 8))))))
sNext)
c_law_lots_s1)))
def c_law_lots_s2 : DS := (sRet (eK (.bl true)))
def c_law_lots : DS := (sSeq (sFor (iRng1 (eK (.int 3))) (gName 5) c_law_lots_b2)
c_law_lots_s2)
def c_law_refused_y1 : DS := (sDrop (eCall 8 (aCons (eVar 0) (aCons (eVar 1) aNil))))
def c_law_refused_x1 : Nat → List D → DS := fun j fs => (sSeq (sIf (tTru (eK (.bl (([5, 4, 6, 8, 3, 2] : List Nat).any fun k => supB G j k))))
(sRet (eK (.bl false)))
sNext)
(sRet (eAnd (eK (.bl (supB G j 1))) (eAnd (eK (.bl (supB G j 0))) (eAnd (eCall 34 (aCons (eFl G j "at" fs) aNil)) (eBin opEq (eFl G j "at" fs) (eVar 2)))))))
def c_law_refused_x2 : Nat → List D → DS := fun _ _ => (sRet (eK (.bl false)))
def c_law_refused : DS := (sSeq (sTry G c_law_refused_y1 [⟨7, some 3, c_law_refused_x1⟩, ⟨0, none, c_law_refused_x2⟩])
(sRet (eK (.bl false))))
def c_law_checked_e1 : DE := (eCall 16 (aCons (eVar 0) (aCons (eLst (aCons (eK (.int 0)) (aCons (eK (.int 1)) (aCons (eCall 15 (aCons (eVar 0) (aCons (eK (.int 9)) aNil))) (aCons (eBin opPow (eK (.int 10)) (eK (.int 6))) aNil))))) aNil)))
def c_law_checked_b1 : DS := (sAsg (eCall 16 (aCons (eVar 0) (aCons (eLst (aCons (eBin opIx (eVar 3) (eVar 8)) (aCons (eUn opNeg (eK (.int 2))) (aCons (eK .non) aNil)))) aNil))) (gSub (eVar 7) (eVar 8)))
def c_law_checked_s1 : DS := (sIf (tNot (tTru (eCall 31 (aCons (eVar 2) (aCons (eF fTuple (aCons (eVar 7) aNil)) (aCons (eVar 6) aNil))))))
(sRet (eK (.bl false)))
sNext)
def c_law_checked_b2 : DS := (sIf (tNot (tTru (eCall 31 (aCons (eVar 2) (aCons (eVar 10) (aCons (eUn opNeg (eK (.int 1))) aNil))))))
(sRet (eK (.bl false)))
sNext)
def c_law_checked_s2 : DS := (sRet (eK (.bl true)))
def c_law_checked_s3 : DS := (sSeq (sAsg (eCall 15 (aCons (eVar 0) (aCons (eF fLen (aCons (eVar 5) aNil)) aNil))) (gName 9))
(sSeq (sFor (iSeq (eCut (eBin opAdd (eVar 5) (eVar 5)) (oSome (eVar 9)) (oSome (eBin opAdd (eVar 9) (eK (.int 3)))))) (gName 10) c_law_checked_b2)
c_law_checked_s2))
def c_law_checked_s4 : DS := (sSeq (sAsg (eLst (aCons (eVar 3) (aCons (eF fTuple (aCons (eBin opAdd (eVar 3) (eLst (aCons (eK (.int 0)) aNil))) aNil)) (aCons (eK .non) (aCons (eK (.str "12")) (aCons (eK (.int 0)) (aCons (eBin opAdd (eTup (aCons (eF fTuple (aCons (eVar 3) aNil)) aNil)) (eBin opMul (eTup (aCons (eK (.int 0)) aNil)) (eF fLen (aCons (eVar 3) aNil)))) aNil))))))) (gName 5))
(sSeq (sIf (tOf (eBin opGt (eF fLen (aCons (eVar 3) aNil)) (eK (.int 0))))
(sSeq (sAsg (eBin opAdd (eVar 5) (eLst (aCons (eF fTuple (aCons (eCut (eVar 3) (oSome (eK (.int 1))) oNone) aNil)) (aCons (eTup aNil) aNil)))) (gName 5))
(sSeq (sAsg (eCall 15 (aCons (eVar 0) (aCons (eF fLen (aCons (eVar 3) aNil)) aNil))) (gName 6))
(sSeq (sAsg (eF fList (aCons (eVar 3) aNil)) (gName 7))
(sSeq (sAsg (eCall 16 (aCons (eVar 0) (aCons (eLst (aCons (eUn opNeg (eK (.int 1))) (aCons (eK (.bl true)) (aCons (eK (.bl false)) (aCons (eK .non) (aCons (eK (.str "1")) (aCons (eTup (aCons (eK (.int 1)) aNil)) (aCons (eLst (aCons (eK (.int 0)) aNil)) (aCons (eUn opNeg (eBin opPow (eK (.int 10)) (eK (.int 30)))) aNil))))))))) aNil))) (gSub (eVar 7) (eVar 6)))
(sSeq (sFor (iRng2 (eBin opAdd (eVar 6) (eK (.int 1))) (eF fLen (aCons (eVar 3) aNil))) (gName 8) c_law_checked_b1)
c_law_checked_s1)))))
sNext)
c_law_checked_s3))
def c_law_checked : DS := (sSeq (sAsg (eCall 17 (aCons (eVar 0) (aCons (eVar 1) (aCons (eK (.int 7)) aNil)))) (gName 2))
(sSeq (sAsg (eNew (lcomp (iSeq (eVar 2)) (gName 11) tYesD c_law_checked_e1 [11])) (gName 3))
(sSeq (sAsg (eCall 8 (aCons (eVar 2) (aCons (eF fTuple (aCons (eVar 3) aNil)) aNil))) (gName 4))
(sSeq (sIf (tOr (tNot (tTru (eCall 21 (aCons (eVar 4) aNil)))) (tOf (eBin opNe (eVar 4) (eF (fC cSum true) (aCons (eVar 3) aNil)))))
(sRet (eK (.bl false)))
sNext)
c_law_checked_s4))))
def c_law_b1 : DS := (sSeq (sAsg (eBin opAdd (eK (.int 1)) (eCall 15 (aCons (eVar 1) (aCons (eK (.int 7)) aNil)))) (gName 4))
(sSeq (sAsg (eCall 17 (aCons (eVar 1) (aCons (eVar 4) (aCons (eK (.int 5)) aNil)))) (gName 5))
(sIf (tOr (tNot (tTru (eCall 29 (aCons (eVar 1) (aCons (eVar 4) (aCons (eVar 5) (aCons (eBin opAdd (eK (.int 1)) (eCall 15 (aCons (eVar 1) (aCons (eK (.int 5)) aNil)))) aNil))))))) (tNot (tTru (eCall 32 (aCons (eVar 1) (aCons (eVar 4) aNil))))))
(sRet (eK (.bl false)))
sNext)))
def c_law_t1 : DT := (tOf (eBin opGt (eCall 15 (aCons (eVar 1) (aCons (eK (.int 3)) aNil))) (eK (.int 0))))
def c_law_e1 : DE := (eTupL (lcomp (iRng1 (eK (.int 10))) (gName 10) c_law_t1 (eVar 10) [10]))
def c_law_s1 : DS := (sSeq (sAsg (eTupL (lcomp (iRng1 (eK (.int 8))) (gName 9) tYesD c_law_e1 [9])) (gName 5))
(sRet (eCall 29 (aCons (eVar 1) (aCons (eK (.int 10)) (aCons (eVar 5) (aCons (eK (.int 10)) aNil)))))))
def c_law_s2 : DS := (sSeq (sIf (tNot (tTru (eVar 2)))
(sRet (eK (.bl true)))
sNext)
c_law_s1)
def c_law_s3 : DS := (sSeq (sIf (tNot (tTru (eCall 26 (aCons (eCall 13 (aCons (eK (.int 3)) (aCons (eVar 5) (aCons (eTup (aCons (eK (.int 2)) (aCons (eK (.int 2)) (aCons (eK (.int 1)) aNil)))) (aCons (eTup (aCons (eK (.int 2)) (aCons (eK (.int 2)) aNil))) (aCons (eK (.int 2)) (aCons (eTup (aCons (eK (.int 0)) (aCons (eK (.int 1)) (aCons (eK (.int 2)) aNil)))) aNil))))))) (aCons (eK (.bl true)) aNil)))))
(sRet (eK (.bl false)))
sNext)
c_law_s2)
def c_law_s4 : DS := (sSeq (sIf (tNot (tTru (eCall 26 (aCons (eCall 11 (aCons (eK (.int 3)) (aCons (eVar 5) (aCons (eTup (aCons (eK (.int 0)) (aCons (eK (.int 0)) (aCons (eK (.int 0)) aNil)))) (aCons (eTup (aCons (eK (.int 2)) (aCons (eK (.int 2)) aNil))) (aCons (eK (.int 2)) (aCons (eTup (aCons (eBin opIx (eVar 8) (eK (.int 0))) (aCons (eBin opIx (eVar 8) (eK (.int 2))) aNil))) aNil))))))) (aCons (eK (.bl true)) aNil)))))
(sRet (eK (.bl false)))
sNext)
c_law_s3)
def c_law_s5 : DS := (sSeq (sAsg (eCall 15 (aCons (eVar 1) (aCons (eK (.int 2)) aNil))) (gName 7))
(sSeq (sAsg (eTup (aCons (eTup (aCons (eK (.int 1)) (aCons (eK .non) aNil))) (aCons (eTup (aCons (eK (.int 1)) (aCons (eK (.int 1)) aNil))) (aCons (eTup (aCons (eK .non) (aCons (eK (.int 1)) aNil))) aNil)))) (gName 8))
(sSeq (sIf (tNot (tTru (eCall 26 (aCons (eCall 11 (aCons (eK (.int 3)) (aCons (eVar 5) (aCons (eTup (aCons (eK (.int 0)) (aCons (eK (.int 0)) (aCons (eK (.int 0)) aNil)))) (aCons (eTup (aCons (eK (.int 2)) (aCons (eK (.int 2)) aNil))) (aCons (eK (.int 2)) (aCons (eTup (aCons (eBin opIx (eVar 8) (eVar 7)) (aCons (eBin opIx (eVar 8) (eK (.int 1))) aNil))) aNil))))))) (aCons (eK (.bl false)) aNil)))))
(sRet (eK (.bl false)))
sNext)
c_law_s4)))
def c_law_s6 : DS := (sSeq (sIf (tNot (tTru (eCall 26 (aCons (eCall 11 (aCons (eK (.int 3)) (aCons (eVar 5) (aCons (eTup (aCons (eK (.int 2)) (aCons (eK (.int 1)) (aCons (eK (.int 1)) aNil)))) (aCons (eTup (aCons (eK (.int 2)) (aCons (eK (.int 2)) aNil))) (aCons (eK (.int 2)) (aCons (eVar 6) aNil))))))) (aCons (eK (.bl false)) aNil)))))
(sRet (eK (.bl false)))
sNext)
c_law_s5)
def c_law_s7 : DS := (sSeq (sAsg (eTup (aCons (eTup (aCons (eK (.int 0)) (aCons (eK (.int 1)) aNil))) (aCons (eTup (aCons (eK (.int 1)) (aCons (eK (.int 2)) aNil))) aNil))) (gName 5))
(sSeq (sAsg (eTup (aCons (eTup (aCons (eK (.int 0)) (aCons (eK (.int 1)) aNil))) (aCons (eTup (aCons (eK (.int 1)) (aCons (eK (.int 2)) aNil))) aNil))) (gName 6))
(sSeq (sIf (tNot (tTru (eCall 26 (aCons (eCall 11 (aCons (eK (.int 3)) (aCons (eVar 5) (aCons (eTup (aCons (eK (.int 1)) (aCons (eK (.int 2)) (aCons (eK (.int 1)) aNil)))) (aCons (eTup (aCons (eK (.int 2)) (aCons (eK (.int 2)) aNil))) (aCons (eK (.int 2)) (aCons (eVar 6) aNil))))))) (aCons (eK (.bl true)) aNil)))))
(sRet (eK (.bl false)))
sNext)
c_law_s6)))
def c_law : DS := (sSeq (sAsg (eCall 14 (aCons (eVar 0) aNil)) (gName 1))
(sSeq (sAsg (eBin opEq (eCall 15 (aCons (eVar 1) (aCons (eK (.int 7)) aNil))) (eK (.int 4))) (gName 2))
(sSeq (sFor (iRng1 (eK (.int 2))) (gName 3) c_law_b1)
c_law_s7)))
def c_law_whole_H : DS := (sRet (eAnd (eIsi "int" (eVar 0)) (eNot (eIsi "bool" (eVar 0)))))
def T : List Fn := [⟨1, 1, c_is_integer⟩, ⟨1, 1, c_is_number⟩, ⟨3, 3, c_integer_within⟩, ⟨2, 2, c_is_tuple⟩, ⟨2, 5, c_lot_fault⟩, ⟨2, 2, c_is_lot⟩, ⟨2, 3, c_common_of⟩, ⟨2, 4, c_check_wishes⟩, ⟨2, 2, c_check_duties⟩, ⟨2, 5, c_is_duty_night⟩, ⟨2, 5, c_keeps_duties⟩, ⟨6, 8, c_is_duty_rota⟩, ⟨4, 6, c_room_for⟩, ⟨6, 7, c_is_short_things⟩, ⟨1, 5, c_law_chest⟩, ⟨2, 4, c_law_of⟩, ⟨2, 2, c_law_one⟩, ⟨3, 7, c_law_posts⟩, ⟨2, 6, c_law_night⟩, ⟨2, 5, c_law_watched⟩, ⟨2, 4, c_law_worked⟩, ⟨1, 1, c_law_whole⟩, ⟨6, 11, c_law_is_rota⟩, ⟨2, 4, c_law_is_lot⟩, ⟨4, 7, c_law_beside⟩, ⟨6, 7, c_law_is_short⟩, ⟨2, 2, c_law_says⟩, ⟨3, 3, c_law_put⟩, ⟨4, 13, c_law_bent⟩, ⟨4, 17, c_law_asked⟩, ⟨5, 13, c_law_lots⟩, ⟨3, 4, c_law_refused⟩, ⟨2, 12, c_law_checked⟩, ⟨1, 11, c_law⟩, ⟨1, 1, c_law_whole_H⟩]
def ci0 : Ci := ⟨"BadRule", ["deep", "at", "word"], L2.defArgs (iniS (top 4)), L2.defBody (iniS (top 4)), L2.defScope (iniS (top 4))⟩
theorem ck0 : CiOk ci0 where
  sc := ⟨by kernel_rfl, by kernel_rfl, by kernel_rfl, by decide +kernel, by kernel_rfl, by decide +kernel, by decide +kernel⟩
  vis := by kernel_rfl
  body := by kernel_rfl
  few := by decide
  bind := fun _ _ _ _ _ _ us hl => match us, hl with | [_, _, _, _], _ => rfl
def ci1 : Ci := ⟨"BadLot", ["at"], L2.defArgs (iniS (top 5)), L2.defBody (iniS (top 5)), L2.defScope (iniS (top 5))⟩
theorem ck1 : CiOk ci1 where
  sc := ⟨by kernel_rfl, by kernel_rfl, by kernel_rfl, by decide +kernel, by kernel_rfl, by decide +kernel, by decide +kernel⟩
  vis := by kernel_rfl
  body := by kernel_rfl
  few := by decide
  bind := fun _ _ _ _ _ _ us hl => match us, hl with | [_, _], _ => rfl
def ci2 : Ci := ⟨"BadLosses", ["at"], L2.defArgs (iniS (top 6)), L2.defBody (iniS (top 6)), L2.defScope (iniS (top 6))⟩
theorem ck2 : CiOk ci2 where
  sc := ⟨by kernel_rfl, by kernel_rfl, by kernel_rfl, by decide +kernel, by kernel_rfl, by decide +kernel, by decide +kernel⟩
  vis := by kernel_rfl
  body := by kernel_rfl
  few := by decide
  bind := fun _ _ _ _ _ _ us hl => match us, hl with | [_, _], _ => rfl
def ci3 : Ci := ⟨"BadLottery", ["at", "word"], L2.defArgs (iniS (top 7)), L2.defBody (iniS (top 7)), L2.defScope (iniS (top 7))⟩
theorem ck3 : CiOk ci3 where
  sc := ⟨by kernel_rfl, by kernel_rfl, by kernel_rfl, by decide +kernel, by kernel_rfl, by decide +kernel, by decide +kernel⟩
  vis := by kernel_rfl
  body := by kernel_rfl
  few := by decide
  bind := fun _ _ _ _ _ _ us hl => match us, hl with | [_, _, _], _ => rfl
def ci4 : Ci := ⟨"BadWishes", ["at"], L2.defArgs (iniS (top 8)), L2.defBody (iniS (top 8)), L2.defScope (iniS (top 8))⟩
theorem ck4 : CiOk ci4 where
  sc := ⟨by kernel_rfl, by kernel_rfl, by kernel_rfl, by decide +kernel, by kernel_rfl, by decide +kernel, by decide +kernel⟩
  vis := by kernel_rfl
  body := by kernel_rfl
  few := by decide
  bind := fun _ _ _ _ _ _ us hl => match us, hl with | [_, _], _ => rfl
def ci5 : Ci := ⟨"BadNight", ["at", "word"], L2.defArgs (iniS (top 9)), L2.defBody (iniS (top 9)), L2.defScope (iniS (top 9))⟩
theorem ck5 : CiOk ci5 where
  sc := ⟨by kernel_rfl, by kernel_rfl, by kernel_rfl, by decide +kernel, by kernel_rfl, by decide +kernel, by decide +kernel⟩
  vis := by kernel_rfl
  body := by kernel_rfl
  few := by decide
  bind := fun _ _ _ _ _ _ us hl => match us, hl with | [_, _, _], _ => rfl
def cis : List Ci := [ci0, ci1, ci2, ci3, ci4, ci5]
theorem k0 : ((comp G 120).Ss (cOf d0) d0.body).map (fun z => z.1) = some c_is_integer := by kernel_rfl
theorem o0 : DfOk G d0 ⟨1, 1, c_is_integer⟩ where
  np := rfl
  nl := rfl
  sc := ⟨by kernel_rfl, by kernel_rfl, by kernel_rfl, by decide +kernel, by kernel_rfl, by decide +kernel, by decide +kernel⟩
  code := code_ok k0
  bind := fun _ _ _ _ _ _ us hl => match us, hl with | [_], _ => rfl
theorem k1 : ((comp G 120).Ss (cOf d1) d1.body).map (fun z => z.1) = some c_is_number := by kernel_rfl
theorem o1 : DfOk G d1 ⟨1, 1, c_is_number⟩ where
  np := rfl
  nl := rfl
  sc := ⟨by kernel_rfl, by kernel_rfl, by kernel_rfl, by decide +kernel, by kernel_rfl, by decide +kernel, by decide +kernel⟩
  code := code_ok k1
  bind := fun _ _ _ _ _ _ us hl => match us, hl with | [_], _ => rfl
theorem k2 : ((comp G 120).Ss (cOf d2) d2.body).map (fun z => z.1) = some c_integer_within := by kernel_rfl
theorem o2 : DfOk G d2 ⟨3, 3, c_integer_within⟩ where
  np := rfl
  nl := rfl
  sc := ⟨by kernel_rfl, by kernel_rfl, by kernel_rfl, by decide +kernel, by kernel_rfl, by decide +kernel, by decide +kernel⟩
  code := code_ok k2
  bind := fun _ _ _ _ _ _ us hl => match us, hl with | [_, _, _], _ => rfl
theorem k3 : ((comp G 120).Ss (cOf d3) d3.body).map (fun z => z.1) = some c_is_tuple := by kernel_rfl
theorem o3 : DfOk G d3 ⟨2, 2, c_is_tuple⟩ where
  np := rfl
  nl := rfl
  sc := ⟨by kernel_rfl, by kernel_rfl, by kernel_rfl, by decide +kernel, by kernel_rfl, by decide +kernel, by decide +kernel⟩
  code := code_ok k3
  bind := fun _ _ _ _ _ _ us hl => match us, hl with | [_, _], _ => rfl
theorem k4 : ((comp G 120).Ss (cOf d4) d4.body).map (fun z => z.1) = some c_lot_fault := by kernel_rfl
theorem o4 : DfOk G d4 ⟨2, 5, c_lot_fault⟩ where
  np := rfl
  nl := rfl
  sc := ⟨by kernel_rfl, by kernel_rfl, by kernel_rfl, by decide +kernel, by kernel_rfl, by decide +kernel, by decide +kernel⟩
  code := code_ok k4
  bind := fun _ _ _ _ _ _ us hl => match us, hl with | [_, _], _ => rfl
theorem k5 : ((comp G 120).Ss (cOf d5) d5.body).map (fun z => z.1) = some c_is_lot := by kernel_rfl
theorem o5 : DfOk G d5 ⟨2, 2, c_is_lot⟩ where
  np := rfl
  nl := rfl
  sc := ⟨by kernel_rfl, by kernel_rfl, by kernel_rfl, by decide +kernel, by kernel_rfl, by decide +kernel, by decide +kernel⟩
  code := code_ok k5
  bind := fun _ _ _ _ _ _ us hl => match us, hl with | [_, _], _ => rfl
theorem k6 : ((comp G 120).Ss (cOf d6) d6.body).map (fun z => z.1) = some c_common_of := by kernel_rfl
theorem o6 : DfOk G d6 ⟨2, 3, c_common_of⟩ where
  np := rfl
  nl := rfl
  sc := ⟨by kernel_rfl, by kernel_rfl, by kernel_rfl, by decide +kernel, by kernel_rfl, by decide +kernel, by decide +kernel⟩
  code := code_ok k6
  bind := fun _ _ _ _ _ _ us hl => match us, hl with | [_, _], _ => rfl
theorem k7 : ((comp G 120).Ss (cOf d7) d7.body).map (fun z => z.1) = some c_check_wishes := by kernel_rfl
theorem o7 : DfOk G d7 ⟨2, 4, c_check_wishes⟩ where
  np := rfl
  nl := rfl
  sc := ⟨by kernel_rfl, by kernel_rfl, by kernel_rfl, by decide +kernel, by kernel_rfl, by decide +kernel, by decide +kernel⟩
  code := code_ok k7
  bind := fun _ _ _ _ _ _ us hl => match us, hl with | [_, _], _ => rfl
theorem k8 : ((comp G 120).Ss (cOf d8) d8.body).map (fun z => z.1) = some c_check_duties := by kernel_rfl
theorem o8 : DfOk G d8 ⟨2, 2, c_check_duties⟩ where
  np := rfl
  nl := rfl
  sc := ⟨by kernel_rfl, by kernel_rfl, by kernel_rfl, by decide +kernel, by kernel_rfl, by decide +kernel, by decide +kernel⟩
  code := code_ok k8
  bind := fun _ _ _ _ _ _ us hl => match us, hl with | [_, _], _ => rfl
theorem k9 : ((comp G 120).Ss (cOf d9) d9.body).map (fun z => z.1) = some c_is_duty_night := by kernel_rfl
theorem o9 : DfOk G d9 ⟨2, 5, c_is_duty_night⟩ where
  np := rfl
  nl := rfl
  sc := ⟨by kernel_rfl, by kernel_rfl, by kernel_rfl, by decide +kernel, by kernel_rfl, by decide +kernel, by decide +kernel⟩
  code := code_ok k9
  bind := fun _ _ _ _ _ _ us hl => match us, hl with | [_, _], _ => rfl
theorem k10 : ((comp G 120).Ss (cOf d10) d10.body).map (fun z => z.1) = some c_keeps_duties := by kernel_rfl
theorem o10 : DfOk G d10 ⟨2, 5, c_keeps_duties⟩ where
  np := rfl
  nl := rfl
  sc := ⟨by kernel_rfl, by kernel_rfl, by kernel_rfl, by decide +kernel, by kernel_rfl, by decide +kernel, by decide +kernel⟩
  code := code_ok k10
  bind := fun _ _ _ _ _ _ us hl => match us, hl with | [_, _], _ => rfl
theorem k11 : ((comp G 120).Ss (cOf d11) d11.body).map (fun z => z.1) = some c_is_duty_rota := by kernel_rfl
theorem o11 : DfOk G d11 ⟨6, 8, c_is_duty_rota⟩ where
  np := rfl
  nl := rfl
  sc := ⟨by kernel_rfl, by kernel_rfl, by kernel_rfl, by decide +kernel, by kernel_rfl, by decide +kernel, by decide +kernel⟩
  code := code_ok k11
  bind := fun _ _ _ _ _ _ us hl => match us, hl with | [_, _, _, _, _, _], _ => rfl
theorem k12 : ((comp G 120).Ss (cOf d12) d12.body).map (fun z => z.1) = some c_room_for := by kernel_rfl
theorem o12 : DfOk G d12 ⟨4, 6, c_room_for⟩ where
  np := rfl
  nl := rfl
  sc := ⟨by kernel_rfl, by kernel_rfl, by kernel_rfl, by decide +kernel, by kernel_rfl, by decide +kernel, by decide +kernel⟩
  code := code_ok k12
  bind := fun _ _ _ _ _ _ us hl => match us, hl with | [_, _, _, _], _ => rfl
theorem k13 : ((comp G 120).Ss (cOf d13) d13.body).map (fun z => z.1) = some c_is_short_things := by kernel_rfl
theorem o13 : DfOk G d13 ⟨6, 7, c_is_short_things⟩ where
  np := rfl
  nl := rfl
  sc := ⟨by kernel_rfl, by kernel_rfl, by kernel_rfl, by decide +kernel, by kernel_rfl, by decide +kernel, by decide +kernel⟩
  code := code_ok k13
  bind := fun _ _ _ _ _ _ us hl => match us, hl with | [_, _, _, _, _, _], _ => rfl
theorem k14 : ((comp G 120).Ss (cOf d14) d14.body).map (fun z => z.1) = some c_law_chest := by kernel_rfl
theorem o14 : DfOk G d14 ⟨1, 5, c_law_chest⟩ where
  np := rfl
  nl := rfl
  sc := ⟨by kernel_rfl, by kernel_rfl, by kernel_rfl, by decide +kernel, by kernel_rfl, by decide +kernel, by decide +kernel⟩
  code := code_ok k14
  bind := fun _ _ _ _ _ _ us hl => match us, hl with | [_], _ => rfl
theorem k15 : ((comp G 120).Ss (cOf d15) d15.body).map (fun z => z.1) = some c_law_of := by kernel_rfl
theorem o15 : DfOk G d15 ⟨2, 4, c_law_of⟩ where
  np := rfl
  nl := rfl
  sc := ⟨by kernel_rfl, by kernel_rfl, by kernel_rfl, by decide +kernel, by kernel_rfl, by decide +kernel, by decide +kernel⟩
  code := code_ok k15
  bind := fun _ _ _ _ _ _ us hl => match us, hl with | [_, _], _ => rfl
theorem k16 : ((comp G 120).Ss (cOf d16) d16.body).map (fun z => z.1) = some c_law_one := by kernel_rfl
theorem o16 : DfOk G d16 ⟨2, 2, c_law_one⟩ where
  np := rfl
  nl := rfl
  sc := ⟨by kernel_rfl, by kernel_rfl, by kernel_rfl, by decide +kernel, by kernel_rfl, by decide +kernel, by decide +kernel⟩
  code := code_ok k16
  bind := fun _ _ _ _ _ _ us hl => match us, hl with | [_, _], _ => rfl
theorem k17 : ((comp G 120).Ss (cOf d17) d17.body).map (fun z => z.1) = some c_law_posts := by kernel_rfl
theorem o17 : DfOk G d17 ⟨3, 7, c_law_posts⟩ where
  np := rfl
  nl := rfl
  sc := ⟨by kernel_rfl, by kernel_rfl, by kernel_rfl, by decide +kernel, by kernel_rfl, by decide +kernel, by decide +kernel⟩
  code := code_ok k17
  bind := fun _ _ _ _ _ _ us hl => match us, hl with | [_, _, _], _ => rfl
theorem k18 : ((comp G 120).Ss (cOf d18) d18.body).map (fun z => z.1) = some c_law_night := by kernel_rfl
theorem o18 : DfOk G d18 ⟨2, 6, c_law_night⟩ where
  np := rfl
  nl := rfl
  sc := ⟨by kernel_rfl, by kernel_rfl, by kernel_rfl, by decide +kernel, by kernel_rfl, by decide +kernel, by decide +kernel⟩
  code := code_ok k18
  bind := fun _ _ _ _ _ _ us hl => match us, hl with | [_, _], _ => rfl
theorem k19 : ((comp G 120).Ss (cOf d19) d19.body).map (fun z => z.1) = some c_law_watched := by kernel_rfl
theorem o19 : DfOk G d19 ⟨2, 5, c_law_watched⟩ where
  np := rfl
  nl := rfl
  sc := ⟨by kernel_rfl, by kernel_rfl, by kernel_rfl, by decide +kernel, by kernel_rfl, by decide +kernel, by decide +kernel⟩
  code := code_ok k19
  bind := fun _ _ _ _ _ _ us hl => match us, hl with | [_, _], _ => rfl
theorem k20 : ((comp G 120).Ss (cOf d20) d20.body).map (fun z => z.1) = some c_law_worked := by kernel_rfl
theorem o20 : DfOk G d20 ⟨2, 4, c_law_worked⟩ where
  np := rfl
  nl := rfl
  sc := ⟨by kernel_rfl, by kernel_rfl, by kernel_rfl, by decide +kernel, by kernel_rfl, by decide +kernel, by decide +kernel⟩
  code := code_ok k20
  bind := fun _ _ _ _ _ _ us hl => match us, hl with | [_, _], _ => rfl
theorem k21 : ((comp G 120).Ss (cOf d21) d21.body).map (fun z => z.1) = some c_law_whole := by kernel_rfl
theorem o21 : DfOk G d21 ⟨1, 1, c_law_whole⟩ where
  np := rfl
  nl := rfl
  sc := ⟨by kernel_rfl, by kernel_rfl, by kernel_rfl, by decide +kernel, by kernel_rfl, by decide +kernel, by decide +kernel⟩
  code := code_ok k21
  bind := fun _ _ _ _ _ _ us hl => match us, hl with | [_], _ => rfl
theorem k22 : ((comp G 120).Ss (cOf d22) d22.body).map (fun z => z.1) = some c_law_is_rota := by kernel_rfl
theorem o22 : DfOk G d22 ⟨6, 11, c_law_is_rota⟩ where
  np := rfl
  nl := rfl
  sc := ⟨by kernel_rfl, by kernel_rfl, by kernel_rfl, by decide +kernel, by kernel_rfl, by decide +kernel, by decide +kernel⟩
  code := code_ok k22
  bind := fun _ _ _ _ _ _ us hl => match us, hl with | [_, _, _, _, _, _], _ => rfl
theorem k23 : ((comp G 120).Ss (cOf d23) d23.body).map (fun z => z.1) = some c_law_is_lot := by kernel_rfl
theorem o23 : DfOk G d23 ⟨2, 4, c_law_is_lot⟩ where
  np := rfl
  nl := rfl
  sc := ⟨by kernel_rfl, by kernel_rfl, by kernel_rfl, by decide +kernel, by kernel_rfl, by decide +kernel, by decide +kernel⟩
  code := code_ok k23
  bind := fun _ _ _ _ _ _ us hl => match us, hl with | [_, _], _ => rfl
theorem k24 : ((comp G 120).Ss (cOf d24) d24.body).map (fun z => z.1) = some c_law_beside := by kernel_rfl
theorem o24 : DfOk G d24 ⟨4, 7, c_law_beside⟩ where
  np := rfl
  nl := rfl
  sc := ⟨by kernel_rfl, by kernel_rfl, by kernel_rfl, by decide +kernel, by kernel_rfl, by decide +kernel, by decide +kernel⟩
  code := code_ok k24
  bind := fun _ _ _ _ _ _ us hl => match us, hl with | [_, _, _, _], _ => rfl
theorem k25 : ((comp G 120).Ss (cOf d25) d25.body).map (fun z => z.1) = some c_law_is_short := by kernel_rfl
theorem o25 : DfOk G d25 ⟨6, 7, c_law_is_short⟩ where
  np := rfl
  nl := rfl
  sc := ⟨by kernel_rfl, by kernel_rfl, by kernel_rfl, by decide +kernel, by kernel_rfl, by decide +kernel, by decide +kernel⟩
  code := code_ok k25
  bind := fun _ _ _ _ _ _ us hl => match us, hl with | [_, _, _, _, _, _], _ => rfl
theorem k26 : ((comp G 120).Ss (cOf d26) d26.body).map (fun z => z.1) = some c_law_says := by kernel_rfl
theorem o26 : DfOk G d26 ⟨2, 2, c_law_says⟩ where
  np := rfl
  nl := rfl
  sc := ⟨by kernel_rfl, by kernel_rfl, by kernel_rfl, by decide +kernel, by kernel_rfl, by decide +kernel, by decide +kernel⟩
  code := code_ok k26
  bind := fun _ _ _ _ _ _ us hl => match us, hl with | [_, _], _ => rfl
theorem k27 : ((comp G 120).Ss (cOf d27) d27.body).map (fun z => z.1) = some c_law_put := by kernel_rfl
theorem o27 : DfOk G d27 ⟨3, 3, c_law_put⟩ where
  np := rfl
  nl := rfl
  sc := ⟨by kernel_rfl, by kernel_rfl, by kernel_rfl, by decide +kernel, by kernel_rfl, by decide +kernel, by decide +kernel⟩
  code := code_ok k27
  bind := fun _ _ _ _ _ _ us hl => match us, hl with | [_, _, _], _ => rfl
theorem k28 : ((comp G 120).Ss (cOf d28) d28.body).map (fun z => z.1) = some c_law_bent := by kernel_rfl
theorem o28 : DfOk G d28 ⟨4, 13, c_law_bent⟩ where
  np := rfl
  nl := rfl
  sc := ⟨by kernel_rfl, by kernel_rfl, by kernel_rfl, by decide +kernel, by kernel_rfl, by decide +kernel, by decide +kernel⟩
  code := code_ok k28
  bind := fun _ _ _ _ _ _ us hl => match us, hl with | [_, _, _, _], _ => rfl
theorem k29 : ((comp G 120).Ss (cOf d29) d29.body).map (fun z => z.1) = some c_law_asked := by kernel_rfl
theorem o29 : DfOk G d29 ⟨4, 17, c_law_asked⟩ where
  np := rfl
  nl := rfl
  sc := ⟨by kernel_rfl, by kernel_rfl, by kernel_rfl, by decide +kernel, by kernel_rfl, by decide +kernel, by decide +kernel⟩
  code := code_ok k29
  bind := fun _ _ _ _ _ _ us hl => match us, hl with | [_, _, _, _], _ => rfl
theorem k30 : ((comp G 120).Ss (cOf d30) d30.body).map (fun z => z.1) = some c_law_lots := by kernel_rfl
theorem o30 : DfOk G d30 ⟨5, 13, c_law_lots⟩ where
  np := rfl
  nl := rfl
  sc := ⟨by kernel_rfl, by kernel_rfl, by kernel_rfl, by decide +kernel, by kernel_rfl, by decide +kernel, by decide +kernel⟩
  code := code_ok k30
  bind := fun _ _ _ _ _ _ us hl => match us, hl with | [_, _, _, _, _], _ => rfl
theorem k31 : ((comp G 120).Ss (cOf d31) d31.body).map (fun z => z.1) = some c_law_refused := by kernel_rfl
theorem o31 : DfOk G d31 ⟨3, 4, c_law_refused⟩ where
  np := rfl
  nl := rfl
  sc := ⟨by kernel_rfl, by kernel_rfl, by kernel_rfl, by decide +kernel, by kernel_rfl, by decide +kernel, by decide +kernel⟩
  code := code_ok k31
  bind := fun _ _ _ _ _ _ us hl => match us, hl with | [_, _, _], _ => rfl
theorem k32 : ((comp G 120).Ss (cOf d32) d32.body).map (fun z => z.1) = some c_law_checked := by kernel_rfl
theorem o32 : DfOk G d32 ⟨2, 12, c_law_checked⟩ where
  np := rfl
  nl := rfl
  sc := ⟨by kernel_rfl, by kernel_rfl, by kernel_rfl, by decide +kernel, by kernel_rfl, by decide +kernel, by decide +kernel⟩
  code := code_ok k32
  bind := fun _ _ _ _ _ _ us hl => match us, hl with | [_, _], _ => rfl
theorem k33 : ((comp G 120).Ss (cOf d33) d33.body).map (fun z => z.1) = some c_law := by kernel_rfl
theorem o33 : DfOk G d33 ⟨1, 11, c_law⟩ where
  np := rfl
  nl := rfl
  sc := ⟨by kernel_rfl, by kernel_rfl, by kernel_rfl, by decide +kernel, by kernel_rfl, by decide +kernel, by decide +kernel⟩
  code := code_ok k33
  bind := fun _ _ _ _ _ _ us hl => match us, hl with | [_], _ => rfl
theorem u0 {n : Nat} {ex : XP} {a0 : D} {M : Mem} {P : Po} (h : c_is_integer ⟨sem T n, fun _ => ex⟩ ⟨fun _ M' => P .non M', P, fun _ _ => False, fun _ _ => False⟩ [some a0] M) : sem T (n + 1) 0 ex [a0] M P := ⟨rfl, h⟩
theorem u1 {n : Nat} {ex : XP} {a0 : D} {M : Mem} {P : Po} (h : c_is_number ⟨sem T n, fun _ => ex⟩ ⟨fun _ M' => P .non M', P, fun _ _ => False, fun _ _ => False⟩ [some a0] M) : sem T (n + 1) 1 ex [a0] M P := ⟨rfl, h⟩
theorem u2 {n : Nat} {ex : XP} {a0 a1 a2 : D} {M : Mem} {P : Po} (h : c_integer_within ⟨sem T n, fun _ => ex⟩ ⟨fun _ M' => P .non M', P, fun _ _ => False, fun _ _ => False⟩ [some a0, some a1, some a2] M) : sem T (n + 1) 2 ex [a0, a1, a2] M P := ⟨rfl, h⟩
theorem u3 {n : Nat} {ex : XP} {a0 a1 : D} {M : Mem} {P : Po} (h : c_is_tuple ⟨sem T n, fun _ => ex⟩ ⟨fun _ M' => P .non M', P, fun _ _ => False, fun _ _ => False⟩ [some a0, some a1] M) : sem T (n + 1) 3 ex [a0, a1] M P := ⟨rfl, h⟩
theorem u4 {n : Nat} {ex : XP} {a0 a1 : D} {M : Mem} {P : Po} (h : c_lot_fault ⟨sem T n, fun _ => ex⟩ ⟨fun _ M' => P .non M', P, fun _ _ => False, fun _ _ => False⟩ [some a0, some a1, none, none, none] M) : sem T (n + 1) 4 ex [a0, a1] M P := ⟨rfl, h⟩
theorem u5 {n : Nat} {ex : XP} {a0 a1 : D} {M : Mem} {P : Po} (h : c_is_lot ⟨sem T n, fun _ => ex⟩ ⟨fun _ M' => P .non M', P, fun _ _ => False, fun _ _ => False⟩ [some a0, some a1] M) : sem T (n + 1) 5 ex [a0, a1] M P := ⟨rfl, h⟩
theorem u6 {n : Nat} {ex : XP} {a0 a1 : D} {M : Mem} {P : Po} (h : c_common_of ⟨sem T n, fun _ => ex⟩ ⟨fun _ M' => P .non M', P, fun _ _ => False, fun _ _ => False⟩ [some a0, some a1, none] M) : sem T (n + 1) 6 ex [a0, a1] M P := ⟨rfl, h⟩
theorem u7 {n : Nat} {ex : XP} {a0 a1 : D} {M : Mem} {P : Po} (h : c_check_wishes ⟨sem T n, fun _ => ex⟩ ⟨fun _ M' => P .non M', P, fun _ _ => False, fun _ _ => False⟩ [some a0, some a1, none, none] M) : sem T (n + 1) 7 ex [a0, a1] M P := ⟨rfl, h⟩
theorem u8 {n : Nat} {ex : XP} {a0 a1 : D} {M : Mem} {P : Po} (h : c_check_duties ⟨sem T n, fun _ => ex⟩ ⟨fun _ M' => P .non M', P, fun _ _ => False, fun _ _ => False⟩ [some a0, some a1] M) : sem T (n + 1) 8 ex [a0, a1] M P := ⟨rfl, h⟩
theorem u9 {n : Nat} {ex : XP} {a0 a1 : D} {M : Mem} {P : Po} (h : c_is_duty_night ⟨sem T n, fun _ => ex⟩ ⟨fun _ M' => P .non M', P, fun _ _ => False, fun _ _ => False⟩ [some a0, some a1, none, none, none] M) : sem T (n + 1) 9 ex [a0, a1] M P := ⟨rfl, h⟩
theorem u10 {n : Nat} {ex : XP} {a0 a1 : D} {M : Mem} {P : Po} (h : c_keeps_duties ⟨sem T n, fun _ => ex⟩ ⟨fun _ M' => P .non M', P, fun _ _ => False, fun _ _ => False⟩ [some a0, some a1, none, none, none] M) : sem T (n + 1) 10 ex [a0, a1] M P := ⟨rfl, h⟩
theorem u11 {n : Nat} {ex : XP} {a0 a1 a2 a3 a4 a5 : D} {M : Mem} {P : Po} (h : c_is_duty_rota ⟨sem T n, fun _ => ex⟩ ⟨fun _ M' => P .non M', P, fun _ _ => False, fun _ _ => False⟩ [some a0, some a1, some a2, some a3, some a4, some a5, none, none] M) : sem T (n + 1) 11 ex [a0, a1, a2, a3, a4, a5] M P := ⟨rfl, h⟩
theorem u12 {n : Nat} {ex : XP} {a0 a1 a2 a3 : D} {M : Mem} {P : Po} (h : c_room_for ⟨sem T n, fun _ => ex⟩ ⟨fun _ M' => P .non M', P, fun _ _ => False, fun _ _ => False⟩ [some a0, some a1, some a2, some a3, none, none] M) : sem T (n + 1) 12 ex [a0, a1, a2, a3] M P := ⟨rfl, h⟩
theorem u13 {n : Nat} {ex : XP} {a0 a1 a2 a3 a4 a5 : D} {M : Mem} {P : Po} (h : c_is_short_things ⟨sem T n, fun _ => ex⟩ ⟨fun _ M' => P .non M', P, fun _ _ => False, fun _ _ => False⟩ [some a0, some a1, some a2, some a3, some a4, some a5, none] M) : sem T (n + 1) 13 ex [a0, a1, a2, a3, a4, a5] M P := ⟨rfl, h⟩
theorem u14 {n : Nat} {ex : XP} {a0 : D} {M : Mem} {P : Po} (h : c_law_chest ⟨sem T n, fun _ => ex⟩ ⟨fun _ M' => P .non M', P, fun _ _ => False, fun _ _ => False⟩ [some a0, none, none, none, none] M) : sem T (n + 1) 14 ex [a0] M P := ⟨rfl, h⟩
theorem u15 {n : Nat} {ex : XP} {a0 a1 : D} {M : Mem} {P : Po} (h : c_law_of ⟨sem T n, fun _ => ex⟩ ⟨fun _ M' => P .non M', P, fun _ _ => False, fun _ _ => False⟩ [some a0, some a1, none, none] M) : sem T (n + 1) 15 ex [a0, a1] M P := ⟨rfl, h⟩
theorem u16 {n : Nat} {ex : XP} {a0 a1 : D} {M : Mem} {P : Po} (h : c_law_one ⟨sem T n, fun _ => ex⟩ ⟨fun _ M' => P .non M', P, fun _ _ => False, fun _ _ => False⟩ [some a0, some a1] M) : sem T (n + 1) 16 ex [a0, a1] M P := ⟨rfl, h⟩
theorem u17 {n : Nat} {ex : XP} {a0 a1 a2 : D} {M : Mem} {P : Po} (h : c_law_posts ⟨sem T n, fun _ => ex⟩ ⟨fun _ M' => P .non M', P, fun _ _ => False, fun _ _ => False⟩ [some a0, some a1, some a2, none, none, none, none] M) : sem T (n + 1) 17 ex [a0, a1, a2] M P := ⟨rfl, h⟩
theorem u18 {n : Nat} {ex : XP} {a0 a1 : D} {M : Mem} {P : Po} (h : c_law_night ⟨sem T n, fun _ => ex⟩ ⟨fun _ M' => P .non M', P, fun _ _ => False, fun _ _ => False⟩ [some a0, some a1, none, none, none, none] M) : sem T (n + 1) 18 ex [a0, a1] M P := ⟨rfl, h⟩
theorem u19 {n : Nat} {ex : XP} {a0 a1 : D} {M : Mem} {P : Po} (h : c_law_watched ⟨sem T n, fun _ => ex⟩ ⟨fun _ M' => P .non M', P, fun _ _ => False, fun _ _ => False⟩ [some a0, some a1, none, none, none] M) : sem T (n + 1) 19 ex [a0, a1] M P := ⟨rfl, h⟩
theorem u20 {n : Nat} {ex : XP} {a0 a1 : D} {M : Mem} {P : Po} (h : c_law_worked ⟨sem T n, fun _ => ex⟩ ⟨fun _ M' => P .non M', P, fun _ _ => False, fun _ _ => False⟩ [some a0, some a1, none, none] M) : sem T (n + 1) 20 ex [a0, a1] M P := ⟨rfl, h⟩
theorem u21 {n : Nat} {ex : XP} {a0 : D} {M : Mem} {P : Po} (h : c_law_whole ⟨sem T n, fun _ => ex⟩ ⟨fun _ M' => P .non M', P, fun _ _ => False, fun _ _ => False⟩ [some a0] M) : sem T (n + 1) 21 ex [a0] M P := ⟨rfl, h⟩
theorem u22 {n : Nat} {ex : XP} {a0 a1 a2 a3 a4 a5 : D} {M : Mem} {P : Po} (h : c_law_is_rota ⟨sem T n, fun _ => ex⟩ ⟨fun _ M' => P .non M', P, fun _ _ => False, fun _ _ => False⟩ [some a0, some a1, some a2, some a3, some a4, some a5, none, none, none, none, none] M) : sem T (n + 1) 22 ex [a0, a1, a2, a3, a4, a5] M P := ⟨rfl, h⟩
theorem u23 {n : Nat} {ex : XP} {a0 a1 : D} {M : Mem} {P : Po} (h : c_law_is_lot ⟨sem T n, fun _ => ex⟩ ⟨fun _ M' => P .non M', P, fun _ _ => False, fun _ _ => False⟩ [some a0, some a1, none, none] M) : sem T (n + 1) 23 ex [a0, a1] M P := ⟨rfl, h⟩
theorem u24 {n : Nat} {ex : XP} {a0 a1 a2 a3 : D} {M : Mem} {P : Po} (h : c_law_beside ⟨sem T n, fun _ => ex⟩ ⟨fun _ M' => P .non M', P, fun _ _ => False, fun _ _ => False⟩ [some a0, some a1, some a2, some a3, none, none, none] M) : sem T (n + 1) 24 ex [a0, a1, a2, a3] M P := ⟨rfl, h⟩
theorem u25 {n : Nat} {ex : XP} {a0 a1 a2 a3 a4 a5 : D} {M : Mem} {P : Po} (h : c_law_is_short ⟨sem T n, fun _ => ex⟩ ⟨fun _ M' => P .non M', P, fun _ _ => False, fun _ _ => False⟩ [some a0, some a1, some a2, some a3, some a4, some a5, none] M) : sem T (n + 1) 25 ex [a0, a1, a2, a3, a4, a5] M P := ⟨rfl, h⟩
theorem u26 {n : Nat} {ex : XP} {a0 a1 : D} {M : Mem} {P : Po} (h : c_law_says ⟨sem T n, fun _ => ex⟩ ⟨fun _ M' => P .non M', P, fun _ _ => False, fun _ _ => False⟩ [some a0, some a1] M) : sem T (n + 1) 26 ex [a0, a1] M P := ⟨rfl, h⟩
theorem u27 {n : Nat} {ex : XP} {a0 a1 a2 : D} {M : Mem} {P : Po} (h : c_law_put ⟨sem T n, fun _ => ex⟩ ⟨fun _ M' => P .non M', P, fun _ _ => False, fun _ _ => False⟩ [some a0, some a1, some a2] M) : sem T (n + 1) 27 ex [a0, a1, a2] M P := ⟨rfl, h⟩
theorem u28 {n : Nat} {ex : XP} {a0 a1 a2 a3 : D} {M : Mem} {P : Po} (h : c_law_bent ⟨sem T n, fun _ => ex⟩ ⟨fun _ M' => P .non M', P, fun _ _ => False, fun _ _ => False⟩ [some a0, some a1, some a2, some a3, none, none, none, none, none, none, none, none, none] M) : sem T (n + 1) 28 ex [a0, a1, a2, a3] M P := ⟨rfl, h⟩
theorem u29 {n : Nat} {ex : XP} {a0 a1 a2 a3 : D} {M : Mem} {P : Po} (h : c_law_asked ⟨sem T n, fun _ => ex⟩ ⟨fun _ M' => P .non M', P, fun _ _ => False, fun _ _ => False⟩ [some a0, some a1, some a2, some a3, none, none, none, none, none, none, none, none, none, none, none, none, none] M) : sem T (n + 1) 29 ex [a0, a1, a2, a3] M P := ⟨rfl, h⟩
theorem u30 {n : Nat} {ex : XP} {a0 a1 a2 a3 a4 : D} {M : Mem} {P : Po} (h : c_law_lots ⟨sem T n, fun _ => ex⟩ ⟨fun _ M' => P .non M', P, fun _ _ => False, fun _ _ => False⟩ [some a0, some a1, some a2, some a3, some a4, none, none, none, none, none, none, none, none] M) : sem T (n + 1) 30 ex [a0, a1, a2, a3, a4] M P := ⟨rfl, h⟩
theorem u31 {n : Nat} {ex : XP} {a0 a1 a2 : D} {M : Mem} {P : Po} (h : c_law_refused ⟨sem T n, fun _ => ex⟩ ⟨fun _ M' => P .non M', P, fun _ _ => False, fun _ _ => False⟩ [some a0, some a1, some a2, none] M) : sem T (n + 1) 31 ex [a0, a1, a2] M P := ⟨rfl, h⟩
theorem u32 {n : Nat} {ex : XP} {a0 a1 : D} {M : Mem} {P : Po} (h : c_law_checked ⟨sem T n, fun _ => ex⟩ ⟨fun _ M' => P .non M', P, fun _ _ => False, fun _ _ => False⟩ [some a0, some a1, none, none, none, none, none, none, none, none, none, none] M) : sem T (n + 1) 32 ex [a0, a1] M P := ⟨rfl, h⟩
theorem u33 {n : Nat} {ex : XP} {a0 : D} {M : Mem} {P : Po} (h : c_law ⟨sem T n, fun _ => ex⟩ ⟨fun _ M' => P .non M', P, fun _ _ => False, fun _ _ => False⟩ [some a0, none, none, none, none, none, none, none, none, none, none] M) : sem T (n + 1) 33 ex [a0] M P := ⟨rfl, h⟩
theorem hk0 : ((comp G 120).Ss (cOfH d21) d21.body).map (fun z => z.1) = some c_law_whole_H := by kernel_rfl
theorem ho0 : DfHot G d21 ⟨1, 1, c_law_whole_H⟩ := ⟨rfl, rfl, code_of hk0⟩
theorem hu0 {n : Nat} {ex : XP} {a0 : D} {M : Mem} {P : Po} (h : c_law_whole_H ⟨sem T n, fun _ => ex⟩ ⟨fun _ M' => P .non M', P, fun _ _ => False, fun _ _ => False⟩ [some a0] M) : sem T (n + 1) 34 ex [a0] M P := ⟨rfl, h⟩
theorem tab : TabOk G ds cis T where
  fns := by rfl
  tab := fun i d h => by
    match i, h with
    | 0, h => cases h; exact ⟨_, rfl, o0⟩
    | 1, h => cases h; exact ⟨_, rfl, o1⟩
    | 2, h => cases h; exact ⟨_, rfl, o2⟩
    | 3, h => cases h; exact ⟨_, rfl, o3⟩
    | 4, h => cases h; exact ⟨_, rfl, o4⟩
    | 5, h => cases h; exact ⟨_, rfl, o5⟩
    | 6, h => cases h; exact ⟨_, rfl, o6⟩
    | 7, h => cases h; exact ⟨_, rfl, o7⟩
    | 8, h => cases h; exact ⟨_, rfl, o8⟩
    | 9, h => cases h; exact ⟨_, rfl, o9⟩
    | 10, h => cases h; exact ⟨_, rfl, o10⟩
    | 11, h => cases h; exact ⟨_, rfl, o11⟩
    | 12, h => cases h; exact ⟨_, rfl, o12⟩
    | 13, h => cases h; exact ⟨_, rfl, o13⟩
    | 14, h => cases h; exact ⟨_, rfl, o14⟩
    | 15, h => cases h; exact ⟨_, rfl, o15⟩
    | 16, h => cases h; exact ⟨_, rfl, o16⟩
    | 17, h => cases h; exact ⟨_, rfl, o17⟩
    | 18, h => cases h; exact ⟨_, rfl, o18⟩
    | 19, h => cases h; exact ⟨_, rfl, o19⟩
    | 20, h => cases h; exact ⟨_, rfl, o20⟩
    | 21, h => cases h; exact ⟨_, rfl, o21⟩
    | 22, h => cases h; exact ⟨_, rfl, o22⟩
    | 23, h => cases h; exact ⟨_, rfl, o23⟩
    | 24, h => cases h; exact ⟨_, rfl, o24⟩
    | 25, h => cases h; exact ⟨_, rfl, o25⟩
    | 26, h => cases h; exact ⟨_, rfl, o26⟩
    | 27, h => cases h; exact ⟨_, rfl, o27⟩
    | 28, h => cases h; exact ⟨_, rfl, o28⟩
    | 29, h => cases h; exact ⟨_, rfl, o29⟩
    | 30, h => cases h; exact ⟨_, rfl, o30⟩
    | 31, h => cases h; exact ⟨_, rfl, o31⟩
    | 32, h => cases h; exact ⟨_, rfl, o32⟩
    | 33, h => cases h; exact ⟨_, rfl, o33⟩
    | i + 34, h => exact absurd h (by simp [ds])
  hot := fun j i d h hd => by
    match j, h with
    | 0, h => cases h; cases hd; exact ⟨_, rfl, ho0⟩
    | j + 1, h => exact absurd h (by simp [G])
  ini := fun d h => by
    simp only [cis, List.mem_cons, List.not_mem_nil, or_false] at h
    rcases h with h | h | h | h | h | h
    · subst h; exact ck0
    · subst h; exact ck1
    · subst h; exact ck2
    · subst h; exact ck3
    · subst h; exact ck4
    · subst h; exact ck5
end DL.Law

namespace DL.Law
open PySem PySem.Spec PyProof.Rows L2
local macro_rules | `(tactic| walk_at "dl_m0") => `(tactic| first | assumption | exact get_new)
local macro_rules | `(tactic| walk_at "dl_m1") => `(tactic| first | assumption | exact get_new | exact get_set_self (by walk_at "dl_m0") | exact get_app (by walk_at "dl_m0") | (rw [get_set_ne (by omega)]; walk_at "dl_m0"))
local macro_rules | `(tactic| walk_at "dl_m2") => `(tactic| first | assumption | exact get_new | exact get_set_self (by walk_at "dl_m1") | exact get_app (by walk_at "dl_m1") | (rw [get_set_ne (by omega)]; walk_at "dl_m1"))
local macro_rules | `(tactic| walk_at "dl_mem") => `(tactic| first | assumption | exact get_new | exact get_set_self (by walk_at "dl_m2") | exact get_app (by walk_at "dl_m2") | (rw [get_set_ne (by omega)]; walk_at "dl_m2"))
local macro_rules | `(tactic| walk_at "dl_mul") => `(tactic| first | exact W.mulR (by omega) | exact W.mulL (by omega) | assumption)
local macro_rules | `(tactic| walk_at "dl_at") => `(tactic| first | exact W.at0 | exact W.at1 | exact W.at2 | exact W.at3 | exact W.at4 | exact W.at5 | assumption | exact W.at_nat (by assumption) | exact W.ix0 | exact W.ix1 | exact W.ix2 | exact W.ix_lt (by omega))
local macro_rules | `(tactic| walk_at "dl_size") => `(tactic| first | assumption | (simp only [W.size_is, List.length_append, List.length_cons, List.length_nil, List.length_map, List.length_set]; omega) | (simp only [W.size_is, List.length_append, List.length_cons, List.length_nil, List.length_map, List.length_set] at *; omega))
local macro_rules | `(tactic| walk_at "dl_kit") => `(tactic| first | exact W.k_NoneType_int | exact W.k_NoneType_bool | exact W.k_NoneType_str | exact W.k_NoneType_tuple | exact W.k_NoneType_list | exact W.k_NoneType_dict | exact W.k_bool_int | exact W.k_bool_bool | exact W.k_bool_str | exact W.k_bool_tuple | exact W.k_bool_list | exact W.k_bool_dict | exact W.k_int_int | exact W.k_int_bool | exact W.k_int_str | exact W.k_int_tuple | exact W.k_int_list | exact W.k_int_dict | exact W.k_str_int | exact W.k_str_bool | exact W.k_str_str | exact W.k_str_tuple | exact W.k_str_list | exact W.k_str_dict | exact W.k_tuple_int | exact W.k_tuple_bool | exact W.k_tuple_str | exact W.k_tuple_tuple | exact W.k_tuple_list | exact W.k_tuple_dict | exact W.k_list_int | exact W.k_list_bool | exact W.k_list_str | exact W.k_list_tuple | exact W.k_list_list | exact W.k_list_dict | exact W.k_dict_int | exact W.k_dict_bool | exact W.k_dict_str | exact W.k_dict_tuple | exact W.k_dict_list | exact W.k_dict_dict)
local macro_rules | `(tactic| walk_at "dl_ev1") => `(tactic| first
  | refine Step.go ?_
  | refine W.var rfl ?_ | (refine' W.ty rfl ?ha ?_; (case ha => walk_at "dl_kit")) | refine W.gtup rfl ?_ | refine W.aug rfl ?_
  | (refine' W.lenL ?hm ?_; (case hm => walk_at "dl_mem")) | (refine' W.sqL ?hm ?_; (case hm => walk_at "dl_mem")) | (refine' W.ixL ?hm ?ha ?_; (case hm => walk_at "dl_mem"); (case ha => walk_at "dl_at")) | (refine' W.ixT ?ha ?_; (case ha => walk_at "dl_at")) | (refine' W.ixK ?ha ?_; (case ha => walk_at "dl_at")) | (refine' W.append ?hm ?hl ?_; (case hm => walk_at "dl_mem"); (case hl => walk_at "dl_size"))
  | (refine' W.mod ?ha ?_; (case ha => omega)) | (refine' W.mul ?ha ?_; (case ha => walk_at "dl_mul")) | (refine' W.imul ?ha ?_; (case ha => walk_at "dl_mul")) | (refine' W.div ?ha ?hb ?_; (case ha => omega); (case hb => first | assumption | decide)) | (refine' W.pow ?ha ?_; (case ha => decide))
  | (refine' W.getL ?hm ?ha ?_; (case hm => walk_at "dl_mem"); (case ha => walk_at "dl_at")) | (refine' W.set0 ?hm ?_; (case hm => walk_at "dl_mem")) | (refine' W.set1 ?hm ?_; (case hm => walk_at "dl_mem")) | (refine' W.setL ?hm ?ha ?_; (case hm => walk_at "dl_mem"); (case ha => walk_at "dl_at"))
  | (refine' W.tupL1 ?hm ?_; (case hm => walk_at "dl_mem")) | (refine' W.listL ?hm ?_; (case hm => walk_at "dl_mem")) | (refine' And.intro (W.isL ?hm) ?_; (case hm => walk_at "dl_mem")) | (refine' And.intro (show _ ≤ sizeLine from ?ha) ?_; (case ha => walk_at "dl_size"))
  | (refine' W.pop0 ?hm ?_; (case hm => walk_at "dl_mem")) | (refine' W.extend ?hm ?hn ?hl ?_; (case hm => walk_at "dl_mem"); (case hn => walk_at "dl_mem"); (case hl => walk_at "dl_size")) | (refine' W.addL ?hm ?hn ?hl ?_; (case hm => walk_at "dl_mem"); (case hn => walk_at "dl_mem"); (case hl => walk_at "dl_size"))
  | (refine' W.cutL ?hm ?_; (case hm => walk_at "dl_mem")) | (refine' W.truL ?hm ?_; (case hm => walk_at "dl_mem")))
local macro_rules | `(tactic| walk_at "dl_ev") => `(tactic| with_reducible repeat walk_at "dl_ev1")
local macro_rules | `(tactic| walk_at "dl_w") => `(tactic| try dsimp only [wiped, List.foldr, List.set])

/-! ### _law_chest, _law_of, _law_one -/
theorem s_of {k n g : Nat} {ex : XP} {M : Mem} {m : Int} {P : Po} (hp : Chest M n g) (hm : 1 ≤ m) (hl : m < 2 ^ 64) (go : ∀ r M', 0 ≤ r → r < m → K2 n g M M' → Chest M' n g → P (.int r) M') : sem T (k + 1) 15 ex [.ref n, .int m] M P := by
  obtain ⟨⟨a, gs, hn, hg, ha, hl1, hgs⟩, hne⟩ := hp
  have hml : m.natAbs.log2 < 9000 := log_smallI (by omega) hl
  refine u15 ?_
  unfold c_law_of
  walk_at "dl_ev"
  refine W.ixDK hn rfl val_g ?_
  walk_at "dl_ev"
  have rest : ∀ (x : Option D), c_law_of_s2 ⟨sem T k, fun _ => ex⟩ ⟨fun _ M' => P .non M', P, fun _ _ => False, fun _ _ => False⟩ [some (.ref n), some (.int m), some (.ref g), x] M := by
    intro x
    unfold c_law_of_s2
    walk_at "dl_ev"
    refine W.ixDK hn rfl val_m ?_
    walk_at "dl_ev"
    refine W.setDK hn rfl (by show 2 < sizeLine; decide) ?_
    rw [put_m]
    walk_at "dl_ev"
    refine W.ixDK (get_set_self hn) rfl val_m ?_
    walk_at "dl_ev"
    have h0 := Int.emod_nonneg (a * 39373 + 4349) (by decide : (2147483629 : Int) ≠ 0)
    refine go _ _ (Int.emod_nonneg _ (by omega)) (Int.emod_lt_of_pos _ (by omega)) K2.set1 ⟨⟨_, gs, get_set_self hn, by rw [get_set_ne hne]; exact hg, h0, hl1, hgs⟩, hne⟩
  refine W.dec (fun h => ?_) (fun h => ?_)
  · cases gs with
    | nil => simp at h
    | cons y gs =>
      have hy := hgs y List.mem_cons_self
      have hg' : M[g]? = some (.lst (.int y :: gs.map .int)) := hg
      walk_at "dl_ev"
      have hg2 : (M.set g (Cell.lst (.int (y / m) :: gs.map .int)))[g]? = some (.lst (.int (y / m) :: gs.map .int)) := get_set_self hg'
      refine W.dec (fun h0 => ?_) (fun h0 => ?_)
      · walk_at "dl_ev"
        refine W.popAt hg2 (k := 0) rfl rfl (by simp at hl1 ⊢; rw [W.size_is]; omega) ?_
        unfold c_law_of_s1
        walk_at "dl_ev"
        refine go _ _ (Int.emod_nonneg _ (by omega)) (Int.emod_lt_of_pos _ (by omega)) (K2.set2.trans K2.set2) ⟨⟨a, gs, ?_, ?_, ha, by simp at hl1; omega, fun z hz => hgs z (List.mem_cons_of_mem _ hz)⟩, hne⟩
        · rw [get_set_ne (Ne.symm hne), get_set_ne (Ne.symm hne)]; exact hn
        · rw [get_set_self hg2]; rfl
      · unfold c_law_of_s1
        walk_at "dl_ev"
        refine go _ _ (Int.emod_nonneg _ (by omega)) (Int.emod_lt_of_pos _ (by omega)) K2.set2 ⟨⟨a, (y / m) :: gs, ?_, hg2, ha, by simpa using hl1, fun z hz => ?_⟩, hne⟩
        · rw [get_set_ne (Ne.symm hne)]; exact hn
        · rcases List.mem_cons.mp hz with e | e
          · subst e; exact Int.ediv_nonneg hy (by omega)
          · exact hgs z (List.mem_cons_of_mem _ e)
  · exact rest _
theorem s_one {k n g q : Nat} {ex : XP} {M : Mem} {xs : List D} {P : Po} (hp : Chest M n g) (hq : M[q]? = some (.lst xs)) (hqn : q ≠ n) (hqg : q ≠ g) (h0 : xs ≠ []) (hs : xs.length ≤ 1000000) (go : ∀ (i : Nat) x M', xs[i]? = some x → K2 n g M M' → Chest M' n g → P x M') : sem T (k + 2) 16 ex [.ref n, .ref q] M P := by
  have hlen : 0 < xs.length := List.length_pos_iff.mpr h0
  refine u16 ?_
  unfold c_law_one
  walk_at "dl_ev"
  refine s_of hp (by omega) (by omega) fun r M' r0 r1 kp hp' => ?_
  obtain ⟨i, rfl⟩ : ∃ i : Nat, r = (i : Nat) := ⟨r.toNat, by omega⟩
  have hi : i < xs.length := by omega
  refine W.ixL (kp.get hq hqn hqg) (W.at_nat (List.getElem?_eq_getElem hi)) ?_
  exact go i _ M' (List.getElem?_eq_getElem hi) kp hp'
theorem s_chest {k : Nat} {ex : XP} {M : Mem} {ns : List Int} {P : Po} (hs : Small ns) (go : ∀ n g M', Chest M' n g → P (.ref n) M') : sem T (k + 1) 14 ex [.rol (ns.map .int)] M P := by
  refine u14 ?_
  have hl := hs.1
  unfold c_law_chest
  walk_at "dl_ev"
  obtain ⟨m, hm, hm2, hm3⟩ : ∃ m : Nat, (if (58 : Int) < ((ns.map D.int).length : Nat) then (58 : Int) else ((ns.map D.int).length : Nat)) = (m : Nat) ∧ m ≤ 58 ∧ m ≤ ns.length := by
    rw [List.length_map]
    by_cases h : (58 : Int) < (ns.length : Nat)
    · exact ⟨58, by rw [if_pos h]; rfl, Nat.le_refl _, by omega⟩
    · exact ⟨ns.length, by rw [if_neg h], by omega, Nat.le_refl _⟩
  rw [hm]
  refine ⟨⟨by omega, by rw [W.size_is]; omega⟩, ?_⟩
  rw [Int.toNat_natCast]
  refine floop_inv (fun js ρ M' => ∃ (i : Nat) (a : Int) (o3 o4 : Option D) (gs : List Int), ρ = [some (.rol (ns.map .int)), some (.int a), some (.ref M.length), o3, o4] ∧ js = rngI i (m - i) ∧ i ≤ m ∧ gs.length ≤ i ∧ 0 ≤ a ∧ (∀ g ∈ gs, (0 : Int) ≤ g) ∧ M' = M ++ [.lst (gs.map .int)]) ?_ ?_ _ _ _
    ⟨0, 20477, none, none, [], rfl, rfl, Nat.zero_le _, Nat.zero_le _, by decide, (fun g h => (by cases h)), rfl⟩
  · rintro x js ρ M' ⟨i, a, o3, o4, gs, rfl, e, hi, hg, ha, hgs, rfl⟩
    obtain ⟨h1, rfl, e2⟩ := rng_next e
    refine ⟨True.intro, fun K hK => ?_⟩
    unfold c_law_chest_b1
    walk_at "dl_ev"
    have hz : (ns.map D.int)[i]? = some (.int ns[i]) := by rw [List.getElem?_map, List.getElem?_eq_getElem (by omega)]; rfl
    generalize ns[i] = z at hz
    refine W.ixRol (W.at_nat hz) ?_
    walk_at "dl_ev"
    refine W.shl ⟨by decide, by decide, by decide⟩ ?_
    obtain ⟨B, hB, hB0⟩ : ∃ B : Int, B = 1 * 2 ^ Int.toNat 1700 ∧ 0 < B := ⟨_, rfl, by rw [Int.one_mul]; exact Int.pow_pos (by decide)⟩
    rw [← hB]
    refine W.mod hB0 ?_
    have hn0 := Int.emod_nonneg (if z < 0 then -z else z) (by omega : B ≠ 0)
    generalize (if z < 0 then -z else z) % B = nb at hn0
    clear hB hB0
    have hm4 := Int.emod_nonneg (a * 25673 + nb % 1999993 + 3 * (i : Int) + 1) (by omega : (2147483629 : Int) ≠ 0)
    walk_at "dl_ev"
    have hgn : (M ++ [Cell.lst (gs.map D.int)])[M.length]? = some (.lst (gs.map .int)) := get_new
    refine W.dec (fun h => ?_) (fun h => ?_)
    · have hsl : (gs.map D.int).length < sizeLine := by rw [List.length_map, W.size_is]; omega
      walk_at "dl_ev"
      rw [set_new]
      refine hK _ _ ⟨i + 1, _, _, _, gs ++ [nb], rfl, e2, by omega, by simp; omega, hm4, fun g hgg => ?_, by simp⟩
      rcases List.mem_append.mp hgg with q | q
      · exact hgs g q
      · have : g = nb := by simpa using q
        omega
    · walk_at "dl_ev"
      exact hK _ _ ⟨i + 1, _, _, _, gs, rfl, e2, by omega, by omega, hm4, hgs, rfl⟩
  · rintro ρ M' ⟨i, a, o3, o4, gs, rfl, e, hi, hg, ha, hgs, rfl⟩
    refine ⟨True.intro, ?_⟩
    unfold c_law_chest_s1
    walk_at "dl_ev"
    refine ⟨get_new, by decide, ?_⟩
    rw [set_new, merge_ch]
    refine go _ M.length _ ⟨⟨a, gs, get_new, ?_, ha, by omega, hgs⟩, by simp⟩
    exact get_app get_new

/-! ### the values that are looked at -/
inductive Okd (M : Mem) : D → Prop
  | non : Okd M .non
  | bl (b : Bool) : Okd M (.bl b)
  | int (i : Int) : Okd M (.int i)
  | str (z : Str) : Okd M (.str z)
  | tup (xs : List D) (l : xs.length ≤ 1000) (h : ∀ x ∈ xs, Okd M x) : Okd M (.tup xs)
  | lst {n : Nat} {xs : List D} (h : M[n]? = some (.lst xs)) : Okd M (.ref n)
theorem Okd.apd {M M' : Mem} (a : Apd M M') {d : D} (h : Okd M d) : Okd M' d := by
  induction h with
  | non => exact .non
  | bl b => exact .bl b
  | int i => exact .int i
  | str z => exact .str z
  | tup xs l _ ih => exact .tup xs l ih
  | lst h => exact .lst (a.get h)
def isI : D → Bool
  | .int _ => true
  | _ => false
def within (d : D) (lo hi : Int) : Bool := match d with
  | .int i => decide (lo ≤ i ∧ i ≤ hi)
  | _ => false
theorem ty_list {M : Mem} {n : Nat} {xs : List D} (h : M[n]? = some (.lst xs)) : tyOf M (.ref n) = some "list" := by
  unfold tyOf
  dsimp only
  rw [h]
theorem s_isint {k : Nat} {ex : XP} {M : Mem} {d : D} {P : Po} (hd : Okd M d) (go : P (.bl (isI d)) M) : sem T (k + 1) 0 ex [d] M P := by
  refine u0 ?_
  unfold c_is_integer
  cases hd with
  | lst h =>
    walk_at "dl_ev"
    refine W.ty (ty_list h) (by walk_at "dl_kit") ?_
    walk_at "dl_ev"
    exact go
  | _ =>
    walk_at "dl_ev"
    exact go
theorem s_within {k : Nat} {ex : XP} {M : Mem} {d : D} {lo hi : Int} {P : Po} (hd : Okd M d) (go : P (.bl (within d lo hi)) M) : sem T (k + 2) 2 ex [d, .int lo, .int hi] M P := by
  refine u2 ?_
  unfold c_integer_within
  walk_at "dl_ev"
  refine s_isint hd ?_
  cases hd with
  | int i =>
    have e1 : isI (.int i) = true := rfl
    have e2 : within (.int i) lo hi = decide (lo ≤ i ∧ i ≤ hi) := rfl
    rw [e2] at go
    rw [e1]
    walk_at "dl_ev"
    refine W.dec (fun h => ?_) (fun h => ?_)
    · walk_at "dl_ev"
      have e : decide (lo ≤ i ∧ i ≤ hi) = decide (i ≤ hi) := by
        rw [Bool.eq_iff_iff, decide_eq_true_eq, decide_eq_true_eq]
        exact ⟨fun z => z.2, fun z => ⟨h, z⟩⟩
      rw [e] at go
      exact go
    · have e : decide (lo ≤ i ∧ i ≤ hi) = false := decide_eq_false fun z => h z.1
      rw [e] at go
      exact go
  | non => exact go
  | bl b => exact go
  | str z => exact go
  | tup xs l h => exact go
  | lst h => exact go
def isT (d : D) (m : Int) : Bool := match d with
  | .tup xs => decide ((xs.length : Int) = m)
  | _ => false
theorem s_istuple {k : Nat} {ex : XP} {M : Mem} {d : D} {m : Int} {P : Po} (hd : Okd M d) (go : P (.bl (isT d m)) M) : sem T (k + 1) 3 ex [d, .int m] M P := by
  refine u3 ?_
  unfold c_is_tuple
  cases hd with
  | lst h =>
    walk_at "dl_ev"
    refine W.ty (ty_list h) (by walk_at "dl_kit") ?_
    walk_at "dl_ev"
    exact go
  | _ =>
    walk_at "dl_ev"
    exact go
theorem Okd.k2 {M M' : Mem} {n g : Nat} (k : K2 n g M M') (h : Chest M n g) (h' : Chest M' n g) {d : D} (o : Okd M d) : Okd M' d := by
  induction o with
  | non => exact .non
  | bl b => exact .bl b
  | int i => exact .int i
  | str z => exact .str z
  | tup xs l _ ih => exact .tup xs l ih
  | @lst r xs hr =>
    by_cases e1 : r = n
    · subst e1
      obtain ⟨⟨a, gs, h1, _⟩, _⟩ := h
      rw [hr] at h1
      cases h1
    · by_cases e2 : r = g
      · subst e2
        obtain ⟨⟨a, gs, _, h2, _⟩, _⟩ := h'
        exact .lst h2
      · exact .lst (k.get hr e1 e2)
theorem Okd.set {M : Mem} {b : Nat} {xs zs : List D} (hb : M[b]? = some (.lst xs)) {d : D} (o : Okd M d) : Okd (M.set b (.lst zs)) d := by
  induction o with
  | non => exact .non
  | bl b => exact .bl b
  | int i => exact .int i
  | str z => exact .str z
  | tup xs l _ ih => exact .tup xs l ih
  | @lst r ys hr =>
    by_cases e : b = r
    · subst e
      exact .lst (get_set_self hb)
    · exact .lst (by rw [List.getElem?_set_ne e]; exact hr)

/-! ### nights of numbers and empty posts -/
def oD : Option Int → D
  | none => .non
  | some i => .int i
abbrev pD (p : List Int) : D := .tup (p.map .int)
abbrev psD (ps : List (List Int)) : D := .tup (ps.map pD)
abbrev isD (l : List Int) : D := .tup (l.map .int)
theorem flI : ∀ l : List Int, (l.map D.int).all flat? = true
  | [] => rfl
  | a :: l => by
    show (true && (l.map D.int).all flat?) = true
    rw [flI l]
    rfl
theorem flO : ∀ l : List (Option Int), (l.map oD).all flat? = true
  | [] => rfl
  | a :: l => by
    show (flat? (oD a) && (l.map oD).all flat?) = true
    rw [flO l]
    cases a <;> rfl
theorem anyI (i : Int) : ∀ l : List Int, (toPys (l.map D.int)).any (fun z => PyData.eqv z (toPy (.int i))) = decide (i ∈ l)
  | [] => rfl
  | a :: l => by
    show ((a : Int) == i || (toPys (l.map D.int)).any (fun z => PyData.eqv z (toPy (.int i)))) = _
    rw [anyI i l, Bool.eq_iff_iff]
    simp only [Bool.or_eq_true, beq_iff_eq, decide_eq_true_eq, List.mem_cons]
    exact ⟨fun z => z.imp Eq.symm id, fun z => z.imp Eq.symm id⟩
theorem anyO (i : Int) : ∀ l : List (Option Int), (toPys (l.map oD)).any (fun z => PyData.eqv z (toPy (.int i))) = decide (some i ∈ l)
  | [] => rfl
  | none :: l => by
    show (false || (toPys (l.map oD)).any (fun z => PyData.eqv z (toPy (.int i)))) = _
    rw [anyO i l, Bool.false_or, Bool.eq_iff_iff]
    simp
  | some a :: l => by
    show ((a : Int) == i || (toPys (l.map oD)).any (fun z => PyData.eqv z (toPy (.int i)))) = _
    rw [anyO i l, Bool.eq_iff_iff]
    simp only [Bool.or_eq_true, beq_iff_eq, decide_eq_true_eq, List.mem_cons, Option.some.injEq]
    exact ⟨fun z => z.imp Eq.symm id, fun z => z.imp Eq.symm id⟩
theorem inI {i : Int} {l : List Int} {d : D} {M : Mem} {P : Po} (hs : seqOf M d = some (l.map D.int)) (h : P (.bl (decide (i ∈ l))) M) : inD false (.int i) d M P := by
  unfold inD
  rw [hs]
  refine ⟨.inl ⟨rfl, flI l⟩, ?_⟩
  rw [if_neg (by decide), anyI]
  exact h
theorem notinI {i : Int} {l : List Int} {d : D} {M : Mem} {P : Po} (hs : seqOf M d = some (l.map D.int)) (h : P (.bl (!decide (i ∈ l))) M) : inD true (.int i) d M P := by
  unfold inD
  rw [hs]
  refine ⟨.inl ⟨rfl, flI l⟩, ?_⟩
  rw [if_pos rfl, anyI]
  exact h
theorem inO {i : Int} {l : List (Option Int)} {d : D} {M : Mem} {P : Po} (hs : seqOf M d = some (l.map oD)) (h : P (.bl (decide (some i ∈ l))) M) : inD false (.int i) d M P := by
  unfold inD
  rw [hs]
  refine ⟨.inl ⟨rfl, flO l⟩, ?_⟩
  rw [if_neg (by decide), anyO]
  exact h
theorem notinO {i : Int} {l : List (Option Int)} {d : D} {M : Mem} {P : Po} (hs : seqOf M d = some (l.map oD)) (h : P (.bl (!decide (some i ∈ l))) M) : inD true (.int i) d M P := by
  unfold inD
  rw [hs]
  refine ⟨.inl ⟨rfl, flO l⟩, ?_⟩
  rw [if_pos rfl, anyO]
  exact h
theorem lenSetL {n : Nat} {ns : List Int} {M : Mem} {P : Po} (hM : M[n]? = some (.lst (ns.map .int))) (hl : ns.length ≤ 1000) (h : P (.int ((ddl ns).length : Nat)) M) : fLenSet [.ref n] M P := by
  unfold fLenSet
  dsimp only
  rw [show seqOf M (.ref n) = some (ns.map .int) from by unfold seqOf; dsimp only; rw [hM]]
  dsimp only
  rw [W.ints_map]
  exact ⟨hl, h⟩
theorem ddl_le : ∀ l : List Int, (ddl l).length ≤ l.length
  | [] => Nat.le_refl _
  | a :: l => by
    have := ddl_le l
    unfold ddl
    split <;> simp only [List.length_cons] <;> omega
theorem ddl_nd : ∀ {l : List Int}, (ddl l).length = l.length ↔ l.Nodup
  | [] => ⟨fun _ => List.nodup_nil, fun _ => rfl⟩
  | a :: l => by
    have := ddl_le l
    unfold ddl
    rw [List.nodup_cons]
    split
    · rename_i h
      exact ⟨fun z => by simp only [List.length_cons] at z; omega, fun z => (z.1 h).elim⟩
    · rename_i h
      simp only [List.length_cons]
      exact ⟨fun z => ⟨h, ddl_nd.mp (by omega)⟩, fun z => by rw [ddl_nd.mpr z.2]⟩
/-! ### one night of a duty rota -/
def wat (xs : List D) : List D := xs.filter fun x => !isNon x
def hasI (p : List Int) (d : D) : Bool := isNon d || match d with
  | .int i => decide (i ∈ p)
  | _ => false
def unI : List D → List Int
  | [] => []
  | .int i :: r => i :: unI r
  | _ :: r => unI r
theorem unI_all : ∀ {l : List D}, l.all isI = true → l = (unI l).map .int
  | [], _ => rfl
  | d :: l, h => by
    rw [List.all_cons, Bool.and_eq_true] at h
    cases d <;> first | (cases h.1; done) | skip
    show _ = D.int _ :: (unI l).map .int
    rw [← unI_all h.2]
def okN (ps : List (List Int)) : D → Bool
  | .tup xs => decide (xs.length = ps.length) && ((wat xs).all isI && (decide (unI (wat xs)).Nodup && (ps.zip xs).all fun q => hasI q.1 q.2))
  | _ => false
theorem zipD_p (ps : List (List Int)) (xs : List D) : zipD (ps.map pD) xs = (ps.zip xs).map fun q => .tup [pD q.1, q.2] := by
  unfold zipD
  rw [List.zip_map_left, List.map_map]
  rfl
theorem s_isnight {k : Nat} {ex : XP} {M : Mem} {ps : List (List Int)} {d : D} {P : Po} (hd : Okd M d) (go : ∀ M', Apd M M' → P (.bl (okN ps d)) M') : sem T (k + 2) 9 ex [psD ps, d] M P := by
  refine u9 ?_
  unfold c_is_duty_night
  walk_at "dl_ev"
  refine s_istuple hd ?_
  have bad : isT d ((ps.map pD).length : Nat) = false → okN ps d = false := by
    intro h
    cases d <;> first | rfl | skip
    have h2 := of_decide_eq_false h
    rw [List.length_map] at h2
    unfold okN
    dsimp only
    rw [decide_eq_false (by omega)]
    rfl
  by_cases ht : isT d ((ps.map pD).length : Nat) = true
  · rw [ht]
    walk_at "dl_ev"
    unfold c_is_duty_night_s2
    cases hd <;> first | (cases ht; done) | skip
    rename_i xs hl hx
    have hlen : xs.length = ps.length := by
      have h2 := of_decide_eq_true ht
      rw [List.length_map] at h2
      omega
    have e0 : okN ps (.tup xs) = ((wat xs).all isI && (decide (unI (wat xs)).Nodup && (ps.zip xs).all fun q => hasI q.1 q.2)) := by
      show (decide (xs.length = ps.length) && _) = _
      rw [decide_eq_true hlen, Bool.true_and]
    walk_at "dl_ev"
    refine cloop_pure (fun x => !isNon x) id True.intro _ [] (fun x hx acc K hK => ?_) ?_
    · show gName 3 _ x [some (psD ps), some (.tup xs), none, none, none] M _
      walk_at "dl_ev"
      unfold c_is_duty_night_t1
      walk_at "dl_ev"
      refine W.isnt0 ?_
      walk_at "dl_ev"
      cases hn : isNon x with
      | true =>
        rw [hn] at hK
        exact hK
      | false =>
        rw [hn] at hK
        exact hK
    · rw [List.map_id, List.nil_append]
      have hw : (xs.filter fun x => !isNon x) = wat xs := rfl
      rw [hw]
      have hwx : ∀ x ∈ wat xs, Okd M x := fun x h => hx x (List.mem_filter.mp h).1
      have hwl : (wat xs).length ≤ 1000 := Nat.le_trans (List.length_filter_le _ _) hl
      have hM : (M ++ [Cell.lst (wat xs)])[M.length]? = some (.lst (wat xs)) := get_new
      walk_at "dl_ev"
      refine cloop_pure (fun _ => true) (fun x => .bl (isI x)) hM _ [] (fun x hx acc K hK => ?_) ?_
      · show gName 3 _ x [some (psD ps), some (.tup xs), some (.ref M.length), none, none] _ _
        walk_at "dl_ev"
        unfold c_is_duty_night_e1
        walk_at "dl_ev"
        refine s_isint ((hwx x hx).apd Apd.one) ?_
        exact hK
      · have e1 : ([] ++ (List.filter (fun _ => true) (wat xs)).map fun x => D.bl (isI x)) = ((wat xs).map isI).map D.bl := by
          rw [List.nil_append, List.filter_eq_self.mpr fun _ _ => rfl, List.map_map]
          rfl
        rw [e1]
        refine W.call_ ?_
        have e2 : ((wat xs).map isI).all id = (wat xs).all isI := by
          rw [List.all_map]
          rfl
        rw [e2]
        walk_at "dl_ev"
        cases ha : (wat xs).all isI with
        | false =>
          rw [ha] at e0
          walk_at "dl_ev"
          rw [e0] at go
          exact go _ Apd.one
        | true =>
          rw [ha, Bool.true_and] at e0
          walk_at "dl_ev"
          have hu := unI_all ha
          have hul : (unI (wat xs)).length = (wat xs).length := by
            conv => rhs; rw [hu]
            rw [List.length_map]
          refine lenSetL (ns := unI (wat xs)) (by rw [← hu]; exact hM) (by omega) ?_
          walk_at "dl_ev"
          cases hnd : decide (unI (wat xs)).Nodup with
          | false =>
            rw [hnd] at e0
            have e3 : decide (((ddl (unI (wat xs))).length : Int) = ((wat xs).length : Nat)) = false := decide_eq_false fun z => of_decide_eq_false hnd (ddl_nd.mp (by omega))
            rw [e3]
            walk_at "dl_ev"
            rw [e0] at go
            exact go _ Apd.one
          | true =>
            rw [hnd, Bool.true_and] at e0
            have e3 : decide (((ddl (unI (wat xs))).length : Int) = ((wat xs).length : Nat)) = true := decide_eq_true (by rw [ddl_nd.mpr (of_decide_eq_true hnd)]; omega)
            rw [e3]
            walk_at "dl_ev"
            unfold c_is_duty_night_s1
            walk_at "dl_ev"
            rw [zipD_p]
            refine cloop_map (fun q : List Int × D => D.tup [pD q.1, q.2]) (fun q => .bl (hasI q.1 q.2)) ⟨True.intro, True.intro⟩ _ [] (fun q hq acc K hK => ?_) ?_
            · show c_is_duty_night_g1 _ (D.tup [pD q.1, q.2]) [some (psD ps), some (.tup xs), some (.ref M.length), none, none] _ _
              obtain ⟨p, x⟩ := q
              unfold c_is_duty_night_g1
              walk_at "dl_ev"
              unfold c_is_duty_night_e2
              walk_at "dl_ev"
              refine W.is0 ?_
              have hxm : x ∈ xs := (List.of_mem_zip hq).2
              cases hn : isNon x with
              | true =>
                walk_at "dl_ev"
                have e4 : hasI p x = true := by
                  unfold hasI
                  rw [hn]
                  rfl
                rw [e4] at hK
                exact hK
              | false =>
                walk_at "dl_ev"
                have hi : isI x = true := by
                  have z := List.all_eq_true.mp ha x (List.mem_filter.mpr ⟨hxm, by rw [hn]; rfl⟩)
                  exact z
                cases x <;> first | (cases hi; done) | skip
                refine inI rfl ?_
                exact hK
            · have e4 : ([] ++ (ps.zip xs).map fun q => D.bl (hasI q.1 q.2)) = ((ps.zip xs).map fun q => hasI q.1 q.2).map D.bl := by
                rw [List.nil_append, List.map_map]
                rfl
              rw [e4]
              refine W.call_ ?_
              have e5 : ((ps.zip xs).map fun q => hasI q.1 q.2).all id = (ps.zip xs).all fun q => hasI q.1 q.2 := by
                rw [List.all_map]
                rfl
              rw [e5, ← e0]
              walk_at "dl_ev"
              exact go _ Apd.one
  · have h2 : isT d ((ps.map pD).length : Nat) = false := by simpa using ht
    rw [h2]
    walk_at "dl_ev"
    rw [bad h2] at go
    exact go _ Apd.refl

/-! ### rotas of numbers -/
theorem cloop_R {g : D → Env → Mem → (Env → Mem → Prop) → Prop} {tt : Env → Mem → (Bool → Mem → Prop) → Prop} {e : Env → Mem → (D → Mem → Prop) → Prop} {grd : Mem → Prop} {ρ : Env} {P : List D → Mem → Prop} (R : Mem → Prop) (f : D → Bool) (h : D → D) (hg : ∀ M, R M → grd M) :
    ∀ (xs acc : List D) (M : Mem), R M → (∀ x ∈ xs, ∀ (acc : List D) (M : Mem) (K : List D → Mem → Prop), R M → (∀ M', R M' → K (if f x = true then acc ++ [h x] else acc) M') → g x ρ M fun ρ2 M2 => tt ρ2 M2 fun b M3 => if b = true then e ρ2 M3 fun d M4 => K (acc ++ [d]) M4 else K acc M3) →
      (∀ M', R M' → P (acc ++ (xs.filter f).map h) M') → cloop g tt e grd ρ P xs acc M
  | [], acc, M, r, _, p => ⟨hg M r, by simpa using p M r⟩
  | x :: xs, acc, M, r, st, p => by
    refine ⟨hg M r, st x List.mem_cons_self acc M (cloop g tt e grd ρ P xs) r fun M' r' => cloop_R R f h hg xs _ M' r' (fun y hy => st y (List.mem_cons_of_mem _ hy)) ?_⟩
    by_cases hf : f x = true
    · rw [if_pos hf]
      rw [List.filter_cons_of_pos hf, List.map_cons] at p
      simpa using p
    · rw [if_neg hf]
      rw [List.filter_cons_of_neg hf] at p
      exact p
def niD (os : List (Option Int)) : D := .tup (os.map oD)
abbrev roD (r : List (List (Option Int))) : D := .tup (r.map niD)
def unO : D → Option Int
  | .int i => some i
  | _ => none
def unN : D → List (Option Int)
  | .tup xs => xs.map unO
  | _ => []
theorem unN_ni (os : List (Option Int)) : unN (niD os) = os := by
  show (os.map oD).map unO = os
  rw [List.map_map]
  conv => rhs; rw [← List.map_id os]
  refine List.map_congr_left fun o _ => ?_
  cases o <;> rfl
structure GoodN (ps : List (List Int)) (os : List (Option Int)) : Prop where
  len : os.length = ps.length
  nd : (os.filterMap id).Nodup
  mem : ∀ (j : Nat) (p : List Int) (i : Int), ps[j]? = some p → os[j]? = some (some i) → i ∈ p
theorem wat_o : ∀ os : List (Option Int), wat (os.map oD) = (os.filterMap id).map D.int
  | [] => rfl
  | none :: os => wat_o os
  | some i :: os => by
    show D.int i :: wat (os.map oD) = D.int i :: (os.filterMap id).map D.int
    rw [wat_o os]
theorem unI_map : ∀ l : List Int, unI (l.map D.int) = l
  | [] => rfl
  | a :: l => by
    show a :: unI (l.map D.int) = _
    rw [unI_map l]
theorem allI_map (l : List Int) : (l.map D.int).all isI = true := by
  rw [List.all_map]
  exact List.all_eq_true.mpr fun _ _ => rfl
theorem okN_ni {ps : List (List Int)} {os : List (Option Int)} : okN ps (niD os) = true ↔ GoodN ps os := by
  show (decide ((os.map oD).length = ps.length) && ((wat (os.map oD)).all isI && (decide (unI (wat (os.map oD))).Nodup && (ps.zip (os.map oD)).all fun q => hasI q.1 q.2))) = true ↔ _
  rw [wat_o, allI_map, unI_map, List.length_map, Bool.true_and, Bool.and_eq_true, Bool.and_eq_true, decide_eq_true_eq, decide_eq_true_eq, List.all_eq_true]
  constructor
  · rintro ⟨h1, h2, h3⟩
    refine ⟨h1, h2, fun j p i e1 e2 => ?_⟩
    have z := h3 (p, .int i) (List.mem_iff_getElem?.mpr ⟨j, by rw [List.getElem?_zip_eq_some]; exact ⟨e1, by rw [List.getElem?_map, e2]; rfl⟩⟩)
    have z : (false || decide (i ∈ p)) = true := z
    simpa using z
  · rintro ⟨h1, h2, h3⟩
    refine ⟨h1, h2, fun q hq => ?_⟩
    obtain ⟨j, hj⟩ := List.mem_iff_getElem?.mp hq
    rw [List.getElem?_zip_eq_some, List.getElem?_map] at hj
    obtain ⟨o, e1, e2⟩ := Option.map_eq_some_iff.mp hj.2
    cases o with
    | none => rw [← e2]; rfl
    | some i =>
      have z := h3 j _ _ hj.1 e1
      rw [← e2]
      show (false || decide (i ∈ q.1)) = true
      simpa using z
theorem okN_un {ps : List (List Int)} {d : D} (h : okN ps d = true) : d = niD (unN d) := by
  cases d <;> first | (cases h; done) | skip
  rename_i xs
  unfold okN at h
  simp only [Bool.and_eq_true, decide_eq_true_eq] at h
  obtain ⟨h1, h2, h3, h4⟩ := h
  show D.tup xs = D.tup ((xs.map unO).map oD)
  rw [List.map_map]
  congr 1
  conv => lhs; rw [← List.map_id xs]
  refine List.map_congr_left fun x hx => ?_
  cases hn : isNon x with
  | true =>
    cases x <;> first | (cases hn; done) | rfl
  | false =>
    have z := List.all_eq_true.mp h2 x (List.mem_filter.mpr ⟨hx, by rw [hn]; rfl⟩)
    cases x <;> first | (cases z; done) | rfl
/-- nights with a watcher at post j -/
def hs (j : Nat) (os : List (Option Int)) : Bool := (os[j]?.join).isSome
def wk (r : List (List (Option Int))) (j : Nat) : Nat := r.countP (hs j)
/-- nights that watch thing i -/
def ct (r : List (List (Option Int))) (i : Int) : Nat := r.countP fun os => decide (some i ∈ os)
def keepB (r : List (List (Option Int))) (ds : List Int) : Bool := (List.range ds.length).all fun j => decide ((wk r j : Int) ≤ ds.getD j 0)
def wishB (r : List (List (Option Int))) (ws : List Int) (many : Nat) : Bool := (List.range many).all fun i => decide (ws.getD i 0 ≤ (ct r i : Int))
def okT (r : List (List (Option Int))) (ws ds : List Int) (many : Nat) : Bool := keepB r ds && wishB r ws many
def okR (ps : List (List Int)) (ws ds : List Int) (many : Nat) (m : Int) (d : D) : Bool := isT d m && match d with
  | .tup xs => xs.all (okN ps) && okT (xs.map unN) ws ds many
  | _ => false
theorem isNon_o (o : Option Int) : isNon (oD o) = !o.isSome := by cases o <;> rfl
/-- how many nights have a watcher at a post, as a comprehension counts them -/
theorem filt_len {α β : Type} (r : List α) (f : α → β) (p : β → Bool) (q : α → Bool) (h : ∀ a ∈ r, p (f a) = q a) : ((r.map f).filter p).length = r.countP q := by
  rw [List.filter_map, List.length_map, ← List.countP_eq_length_filter]
  exact List.countP_congr fun a ha => by rw [Function.comp, h a ha]
theorem s_keeps {k : Nat} {ex : XP} {M : Mem} {r : List (List (Option Int))} {ds : List Int} {P : Po} (hl : ∀ os ∈ r, os.length = ds.length) (go : P (.bl (keepB r ds)) M) : sem T (k + 1) 10 ex [isD ds, roD r] M P := by
  refine u10 ?_
  unfold c_keeps_duties
  walk_at "dl_ev"
  refine floop_inv (fun js ρ M' => ∃ (i : Nat) (o2 o3 o4 : Option D), ρ = [some (isD ds), some (roD r), o2, o3, o4] ∧ i ≤ ds.length ∧ js = enumD i ((ds.drop i).map .int) ∧ (∀ j, j < i → (wk r j : Int) ≤ ds.getD j 0) ∧ M' = M) ?_ ?_ _ _ _ ⟨0, none, none, none, rfl, Nat.zero_le _, rfl, fun j hj => absurd hj (Nat.not_lt_zero _), rfl⟩
  · rintro x js ρ M' ⟨i, o2, o3, o4, rfl, hi, e, hk, rfl⟩
    have hlt : i < ds.length := by
      rcases Nat.lt_or_ge i ds.length with h | h
      · exact h
      · rw [List.drop_eq_nil_of_le h] at e
        cases e
    rw [List.drop_eq_getElem_cons hlt] at e
    obtain ⟨e3, e4⟩ := List.cons.inj e
    subst e3 e4
    refine ⟨True.intro, fun K hK => ?_⟩
    unfold c_keeps_duties_g1
    walk_at "dl_ev"
    unfold c_keeps_duties_b1
    walk_at "dl_ev"
    refine cloop_R (fun M2 => M2 = M') (fun d => match d with
      | .tup xs => !isNon (xs.getD i .non)
      | _ => false) id (fun _ _ => True.intro) _ [] _ rfl (fun d hd acc M2 K2 e2 hK2 => ?_) ?_
    · subst e2
      obtain ⟨os, ho, rfl⟩ := List.mem_map.mp hd
      have ho := hl os ho
      have hz : (os.map oD)[i]? = some (oD os[i]) := by rw [List.getElem?_map, List.getElem?_eq_getElem (by omega)]; rfl
      show gName 4 _ (niD os) [some (isD ds), some (roD r), some (nD i), some (.int ds[i]), none] _ _
      walk_at "dl_ev"
      unfold c_keeps_duties_t1
      walk_at "dl_ev"
      refine W.ixT (W.at_nat hz) ?_
      walk_at "dl_ev"
      refine W.isnt0 ?_
      walk_at "dl_ev"
      have hK3 := hK2 _ rfl
      have eg : (match niD os with
        | .tup xs => !isNon (xs.getD i .non)
        | _ => false) = !isNon (oD os[i]) := by
        show (!isNon ((os.map oD).getD i .non)) = _
        rw [List.getD_eq_getElem?_getD, hz]
        rfl
      rw [eg] at hK3
      cases hn : isNon (oD os[i]) with
      | true =>
        rw [hn] at hK3
        exact hK3
      | false =>
        rw [hn] at hK3
        exact hK3
    · rintro M2 rfl
      rw [List.nil_append, List.map_id]
      refine W.clen ?_
      walk_at "dl_ev"
      have ew : ((r.map niD).filter fun d => match d with
        | .tup xs => !isNon (xs.getD i .non)
        | _ => false).length = wk r i := by
        refine filt_len r niD _ _ fun os ho => ?_
        have ho := hl os ho
        show (!isNon ((os.map oD).getD i .non)) = (os[i]?.join).isSome
        rw [List.getD_eq_getElem?_getD, List.getElem?_map, List.getElem?_eq_getElem (by omega)]
        show (!isNon (oD os[i])) = os[i].isSome
        rw [isNon_o, Bool.not_not]
      rw [ew]
      have eg : ds.getD i 0 = ds[i] := by rw [List.getD_eq_getElem?_getD, List.getElem?_eq_getElem hlt]; rfl
      refine W.dec (fun h => ?_) (fun h => ?_)
      · walk_at "dl_ev"
        have e5 : keepB r ds = false := by
          unfold keepB
          refine List.all_eq_false.mpr ⟨i, List.mem_range.mpr hlt, ?_⟩
          rw [decide_eq_true_eq, eg]
          omega
        rw [e5] at go
        exact go
      · walk_at "dl_ev"
        refine hK _ _ ⟨i + 1, _, _, _, rfl, hlt, rfl, fun j hj => ?_, rfl⟩
        rcases Nat.lt_or_ge j i with h2 | h2
        · exact hk j h2
        · have : j = i := by omega
          subst this
          rw [eg]
          omega
  · rintro ρ M' ⟨i, o2, o3, o4, rfl, hi, e, hk, rfl⟩
    refine ⟨True.intro, ?_⟩
    have hge : ds.length ≤ i := by
      rcases Nat.lt_or_ge i ds.length with h | h
      · rw [List.drop_eq_getElem_cons h] at e
        cases e
      · exact h
    unfold c_keeps_duties_s1
    walk_at "dl_ev"
    have e5 : keepB r ds = true := by
      unfold keepB
      refine List.all_eq_true.mpr fun j hj => decide_eq_true (hk j ?_)
      have := List.mem_range.mp hj
      omega
    rw [e5] at go
    exact go
theorem s_isrota {k : Nat} {ex : XP} {M : Mem} {ps : List (List Int)} {ws ds : List Int} {many : Nat} {m : Int} {d : D} {P : Po} (hd : Okd M d) (hm : many ≤ 1000) (hw : ws.length = many) (hds : ds.length = ps.length) (go : ∀ M', Apd M M' → P (.bl (okR ps ws ds many m d)) M') : sem T (k + 3) 11 ex [nD many, psD ps, isD ws, isD ds, .int m, d] M P := by
  refine u11 ?_
  unfold c_is_duty_rota
  walk_at "dl_ev"
  refine s_istuple hd ?_
  cases ht : isT d m with
  | false =>
    have e : okR ps ws ds many m d = false := by
      unfold okR
      rw [ht]
      rfl
    rw [e] at go
    walk_at "dl_ev"
    exact go _ Apd.refl
  | true =>
    walk_at "dl_ev"
    cases hd <;> first | (cases ht; done) | skip
    rename_i xs hl hx
    have e : okR ps ws ds many m (.tup xs) = (xs.all (okN ps) && okT (xs.map unN) ws ds many) := by
      unfold okR
      rw [ht]
      rfl
    walk_at "dl_ev"
    refine cloop_R (fun M' => Apd M M') (fun _ => true) (fun x => .bl (okN ps x)) (fun _ _ => True.intro) _ [] _ Apd.refl (fun x hxx acc M2 K a hK => ?_) ?_
    · show gName 6 _ x [some (nD many), some (psD ps), some (isD ws), some (isD ds), some (.int m), some (.tup xs), none, none] _ _
      walk_at "dl_ev"
      unfold c_is_duty_rota_e1
      walk_at "dl_ev"
      refine s_isnight ((hx x hxx).apd a) fun M3 a3 => ?_
      exact hK _ (a.trans a3)
    · intro M2 a2
      have e1 : ([] ++ (List.filter (fun _ => true) xs).map fun x => D.bl (okN ps x)) = (xs.map (okN ps)).map D.bl := by
        rw [List.nil_append, List.filter_eq_self.mpr fun _ _ => rfl, List.map_map]
        rfl
      rw [e1]
      refine W.call_ ?_
      have e2 : (xs.map (okN ps)).all id = xs.all (okN ps) := by
        rw [List.all_map]
        rfl
      rw [e2]
      walk_at "dl_ev"
      cases ha : xs.all (okN ps) with
      | false =>
        rw [e, ha] at go
        walk_at "dl_ev"
        exact go _ a2
      | true =>
        rw [e, ha, Bool.true_and] at go
        walk_at "dl_ev"
        unfold c_is_duty_rota_s2
        have hall := List.all_eq_true.mp ha
        have hr : xs = (xs.map unN).map niD := by
          rw [List.map_map]
          conv => lhs; rw [← List.map_id xs]
          exact List.map_congr_left fun x hx => okN_un (hall x hx)
        have hgood : ∀ os ∈ xs.map unN, GoodN ps os := fun os ho => by
          obtain ⟨x, h1, rfl⟩ := List.mem_map.mp ho
          have z := hall x h1
          rw [okN_un z] at z
          exact okN_ni.mp z
        generalize xs.map unN = r at *
        subst hr
        walk_at "dl_ev"
        refine s_keeps (fun os ho => by rw [(hgood os ho).len, hds]) ?_
        unfold okT at go
        cases hk : keepB r ds with
        | false =>
          rw [hk] at go
          walk_at "dl_ev"
          exact go _ a2
        | true =>
          rw [hk, Bool.true_and] at go
          walk_at "dl_ev"
          unfold c_is_duty_rota_s1
          walk_at "dl_ev"
          refine ⟨⟨by omega, by rw [W.size_is]; omega⟩, ?_⟩
          rw [Int.toNat_natCast]
          refine cloop_rng (fun i => .bl (decide (ws.getD i 0 ≤ (ct r i : Int)))) True.intro (fun i hi acc K hK => ?_) ?_
          · show gName 7 _ (nD i) [some (nD many), some (psD ps), some (isD ws), some (isD ds), some (.int m), some (roD r), none, none] _ _
            walk_at "dl_ev"
            unfold c_is_duty_rota_e2
            walk_at "dl_ev"
            refine cloop_R (fun M' => M' = M2) (fun d => match d with
              | .tup xs => decide (some (i : Int) ∈ xs.map unO)
              | _ => false) id (fun _ _ => True.intro) _ [] _ rfl (fun d hd acc M3 K2 e2 hK2 => ?_) ?_
            · subst e2
              obtain ⟨os, ho, rfl⟩ := List.mem_map.mp hd
              show gName 6 _ (niD os) [some (nD many), some (psD ps), some (isD ws), some (isD ds), some (.int m), some (roD r), none, some (nD i)] _ _
              walk_at "dl_ev"
              unfold c_is_duty_rota_t1
              walk_at "dl_ev"
              refine inO (l := os) rfl ?_
              walk_at "dl_ev"
              have hK3 := hK2 _ rfl
              have eg : (match niD os with
                | .tup xs => decide (some (i : Int) ∈ xs.map unO)
                | _ => false) = decide (some (i : Int) ∈ os) := by
                show decide (some (i : Int) ∈ unN (niD os)) = _
                rw [unN_ni]
              rw [eg] at hK3
              cases hn : decide (some (i : Int) ∈ os) with
              | true =>
                rw [hn] at hK3
                exact hK3
              | false =>
                rw [hn] at hK3
                exact hK3
            · rintro M3 rfl
              rw [List.nil_append, List.map_id]
              refine W.clen ?_
              have ew : ((r.map niD).filter fun d => match d with
                | .tup xs => decide (some (i : Int) ∈ xs.map unO)
                | _ => false).length = ct r i := by
                refine filt_len r niD _ _ fun os ho => ?_
                show decide (some (i : Int) ∈ unN (niD os)) = _
                rw [unN_ni]
              rw [ew]
              have hz : (ws.map D.int)[i]? = some (.int (ws.getD i 0)) := by
                rw [List.getElem?_map, List.getD_eq_getElem?_getD, List.getElem?_eq_getElem (by omega)]
                rfl
              walk_at "dl_ev"
              exact hK
          · have e4 : ((List.range many).map fun (i : Nat) => D.bl (decide (ws.getD i 0 ≤ (ct r i : Int)))) = ((List.range many).map fun (i : Nat) => decide (ws.getD i 0 ≤ (ct r i : Int))).map D.bl := by
              rw [List.map_map]
              rfl
            rw [e4]
            refine W.call_ ?_
            have e5 : ((List.range many).map fun (i : Nat) => decide (ws.getD i 0 ≤ (ct r i : Int))).all id = wishB r ws many := by
              rw [List.all_map]
              rfl
            rw [e5]
            walk_at "dl_ev"
            exact go _ a2

/-! ### the law's own rota test -/
theorem s_wholeD {k : Nat} {ex : XP} {M : Mem} {d : D} {P : Po} (hd : Okd M d) (go : P (.bl (isI d)) M) : sem T (k + 1) 21 ex [d] M P := by
  refine u21 ?_
  unfold c_law_whole
  cases hd with
  | lst h =>
    walk_at "dl_ev"
    refine W.ty (ty_list h) (by walk_at "dl_kit") ?_
    walk_at "dl_ev"
    exact go
  | _ =>
    walk_at "dl_ev"
    exact go
theorem s_says {k : Nat} {ex : XP} {M : Mem} {b : Bool} {P : Po} (go : P (.bl true) M) : sem T (k + 1) 26 ex [.bl b, .bl b] M P := by
  refine u26 ?_
  unfold c_law_says
  cases b <;> (walk_at "dl_ev"; exact go)
theorem s_worked {k : Nat} {ex : XP} {M : Mem} {ps : List (List Int)} {r : List (List (Option Int))} {P : Po} (hl : ∀ os ∈ r, os.length = ps.length) (hp : ps.length ≤ 1000) (go : P (.ref M.length) (M ++ [.lst ((List.range ps.length).map fun j => nD (wk r j))])) : sem T (k + 1) 20 ex [psD ps, roD r] M P := by
  refine u20 ?_
  unfold c_law_worked
  walk_at "dl_ev"
  refine ⟨⟨by omega, by rw [List.length_map, W.size_is]; omega⟩, ?_⟩
  rw [Int.toNat_natCast, List.length_map]
  refine cloop_rng (fun j => nD (wk r j)) True.intro (fun i hi acc K hK => ?_) ?_
  · show gName 2 _ (nD i) [some (psD ps), some (roD r), none, none] _ _
    walk_at "dl_ev"
    unfold c_law_worked_e1
    walk_at "dl_ev"
    refine cloop_R (fun M' => M' = M) (fun d => match d with
      | .tup xs => !isNon (xs.getD i .non)
      | _ => false) id (fun _ _ => True.intro) _ [] _ rfl (fun d hd acc M2 K2 e2 hK2 => ?_) ?_
    · subst e2
      obtain ⟨os, ho, rfl⟩ := List.mem_map.mp hd
      have ho := hl os ho
      have hz : (os.map oD)[i]? = some (oD os[i]) := by rw [List.getElem?_map, List.getElem?_eq_getElem (by omega)]; rfl
      show gName 3 _ (niD os) [some (psD ps), some (roD r), some (nD i), none] _ _
      walk_at "dl_ev"
      unfold c_law_worked_t1
      walk_at "dl_ev"
      refine W.ixT (W.at_nat hz) ?_
      walk_at "dl_ev"
      refine W.isnt0 ?_
      walk_at "dl_ev"
      have hK3 := hK2 _ rfl
      have eg : (match niD os with
        | .tup xs => !isNon (xs.getD i .non)
        | _ => false) = !isNon (oD os[i]) := by
        show (!isNon ((os.map oD).getD i .non)) = _
        rw [List.getD_eq_getElem?_getD, hz]
        rfl
      rw [eg] at hK3
      cases hn : isNon (oD os[i]) with
      | true =>
        rw [hn] at hK3
        exact hK3
      | false =>
        rw [hn] at hK3
        exact hK3
    · rintro M2 rfl
      rw [List.nil_append, List.map_id]
      refine W.clen ?_
      have ew : ((r.map niD).filter fun d => match d with
        | .tup xs => !isNon (xs.getD i .non)
        | _ => false).length = wk r i := by
        refine filt_len r niD _ _ fun os ho => ?_
        have ho := hl os ho
        show (!isNon ((os.map oD).getD i .non)) = (os[i]?.join).isSome
        rw [List.getD_eq_getElem?_getD, List.getElem?_map, List.getElem?_eq_getElem (by omega)]
        show (!isNon (oD os[i])) = os[i].isSome
        rw [isNon_o, Bool.not_not]
      rw [ew]
      exact hK
  · walk_at "dl_ev"
    exact go
/-- how often each thing is watched -/
def tal (many : Nat) (l : List (Option Int)) : List D := (List.range many).map fun (i : Nat) => nD (l.count (some (i : Int)))
theorem tal_len {many : Nat} {l : List (Option Int)} : (tal many l).length = many := by simp [tal]
theorem tal_get {many i : Nat} {l : List (Option Int)} (h : i < many) : (tal many l)[i]? = some (nD (l.count (some (i : Int)))) := by
  unfold tal
  rw [List.getElem?_map, List.getElem?_range h]
  rfl
theorem tal_set {many i : Nat} {l : List (Option Int)} : (tal many l).set i (.int ((l.count (some (i : Int)) : Nat) + 1)) = tal many (l ++ [some (i : Int)]) := by
  apply List.ext_getElem?
  intro j
  rw [List.getElem?_set]
  split
  · rename_i h
    subst h
    split
    · rename_i h2
      rw [tal_len] at h2
      rw [tal_get h2, List.count_append]
      show some (D.int _) = some (D.int _)
      congr 2
      rw [List.count_singleton_self]
      omega
    · rename_i h2
      rw [tal_len] at h2
      rw [List.getElem?_eq_none (by rw [tal_len]; omega)]
  · rename_i h
    rcases Nat.lt_or_ge j many with h2 | h2
    · rw [tal_get h2, tal_get h2, List.count_append]
      have : ([some (i : Int)] : List (Option Int)).count (some (j : Int)) = 0 := List.count_eq_zero.mpr fun z => by
        have z2 : (j : Int) = i := by simpa using z
        exact h (by omega)
      rw [this, Nat.add_zero]
    · rw [List.getElem?_eq_none (by rw [tal_len]; omega), List.getElem?_eq_none (by rw [tal_len]; omega)]
theorem tal_non {many : Nat} {l : List (Option Int)} : tal many (l ++ [none]) = tal many l := by
  unfold tal
  refine List.map_congr_left fun i _ => ?_
  rw [List.count_append]
  have : ([none] : List (Option Int)).count (some (i : Int)) = 0 := List.count_eq_zero.mpr fun z => by simp at z
  rw [this, Nat.add_zero]
theorem tal_nil {many : Nat} : tal many [] = List.replicate many (D.int 0) := by
  unfold tal
  apply List.ext_getElem?
  intro j
  rw [List.getElem?_map, List.getElem?_replicate]
  rcases Nat.lt_or_ge j many with h | h
  · rw [List.getElem?_range h, if_pos h]; rfl
  · rw [List.getElem?_eq_none (by simpa using h), if_neg (by omega)]; rfl
theorem s_watched {k : Nat} {ex : XP} {M : Mem} {many : Nat} {r : List (List (Option Int))} {P : Po} (hm : many ≤ 1000) (hi : ∀ os ∈ r, ∀ i, some i ∈ os → 0 ≤ i ∧ i < many) (go : ∀ q M', Apd M M' → M.length ≤ q → M'[q]? = some (.lst (tal many r.flatten)) → P (.ref q) M') : sem T (k + 1) 19 ex [nD many, roD r] M P := by
  refine u19 ?_
  unfold c_law_watched
  walk_at "dl_ev"
  refine W.rep get_new ⟨by omega, by omega, by rw [W.size_is]; simp; omega⟩ ?_
  have e0 : (List.replicate ((many : Nat) : Int).toNat [D.int 0]).flatten = tal many [] := by
    rw [Int.toNat_natCast, tal_nil]
    clear go hi hm
    induction many with
    | zero => rfl
    | succ n ih => rw [List.replicate_succ, List.flatten_cons, ih, List.replicate_succ]; rfl
  rw [e0]
  obtain ⟨q, hq⟩ : ∃ q, q = (M ++ [Cell.lst [.int 0]]).length := ⟨_, rfl⟩
  rw [← hq]
  walk_at "dl_ev"
  obtain ⟨B, hB⟩ : ∃ B, B = M ++ [Cell.lst [D.int 0]] := ⟨_, rfl⟩
  rw [← hB] at hq ⊢
  refine floop_inv (fun js ρ M' => ∃ (dn rs : List (List (Option Int))) (o3 o4 : Option D), ρ = [some (nD many), some (roD r), some (.ref q), o3, o4] ∧ dn ++ rs = r ∧ js = rs.map niD ∧ M' = B ++ [.lst (tal many dn.flatten)]) ?_ ?_ _ _ _ ⟨[], r, none, none, rfl, rfl, rfl, rfl⟩
  · rintro x js ρ M' ⟨dn, rs, o3, o4, rfl, e1, e2, rfl⟩
    cases rs with
    | nil => cases e2
    | cons os rs =>
      obtain ⟨e3, e4⟩ := List.cons.inj e2
      subst e3 e4
      refine ⟨True.intro, fun K hK => ?_⟩
      have hos := hi os (by rw [← e1]; simp)
      walk_at "dl_ev"
      unfold c_law_watched_b2
      show sFor _ _ _ _ _ [some (nD many), some (roD r), some (.ref q), some (.tup (os.map oD)), o4] _
      walk_at "dl_ev"
      refine floop_inv (fun js ρ M' => ∃ (d2 r2 : List (Option Int)) (o4 : Option D), ρ = [some (nD many), some (roD r), some (.ref q), some (.tup (os.map oD)), o4] ∧ d2 ++ r2 = os ∧ js = r2.map oD ∧ M' = B ++ [.lst (tal many (dn.flatten ++ d2))]) ?_ ?_ _ _ _ ⟨[], os, o4, rfl, rfl, rfl, by rw [List.append_nil]⟩
      · rintro x js ρ M' ⟨d2, r2, o4, rfl, f1, f2, rfl⟩
        cases r2 with
        | nil => cases f2
        | cons o r2 =>
          obtain ⟨f3, f4⟩ := List.cons.inj f2
          subst f3 f4
          refine ⟨True.intro, fun K hK => ?_⟩
          unfold c_law_watched_b1
          cases o with
          | none =>
            show gName 4 _ D.non _ _ _
            walk_at "dl_ev"
            exact hK _ _ ⟨d2 ++ [none], r2, _, rfl, by rw [List.append_assoc]; exact f1, rfl, by rw [← List.append_assoc, tal_non]⟩
          | some z =>
            obtain ⟨z0, z1⟩ := hos z (by rw [← f1]; simp)
            obtain ⟨i, rfl⟩ : ∃ i : Nat, z = (i : Nat) := ⟨z.toNat, by omega⟩
            have hin : i < many := by omega
            show gName 4 _ (D.int (i : Nat)) _ _ _
            have hM : (B ++ [Cell.lst (tal many (dn.flatten ++ d2))])[q]? = some (.lst (tal many (dn.flatten ++ d2))) := by rw [hq]; exact get_new
            walk_at "dl_ev"
            refine W.ixL hM (W.at_nat (tal_get hin)) ?_
            walk_at "dl_ev"
            refine W.setL hM (W.ix_lt (by rw [tal_len]; exact hin)) ?_
            rw [tal_set, hq, set_new]
            exact hK _ _ ⟨d2 ++ [some (i : Int)], r2, _, by rw [hq], by rw [List.append_assoc]; exact f1, rfl, by rw [← List.append_assoc]⟩
      · rintro ρ M' ⟨d2, r2, o4, rfl, f1, f2, rfl⟩
        refine ⟨True.intro, ?_⟩
        have : r2 = [] := by cases r2 with
          | nil => rfl
          | cons _ _ => cases f2
        subst this
        rw [List.append_nil] at f1
        subst f1
        exact hK _ _ ⟨dn ++ [d2], rs, _, _, rfl, by rw [List.append_assoc]; exact e1, rfl, by rw [List.flatten_append]; simp⟩
  · rintro ρ M' ⟨dn, rs, o3, o4, rfl, e1, e2, rfl⟩
    refine ⟨True.intro, ?_⟩
    have : rs = [] := by cases rs with
      | nil => rfl
      | cons _ _ => cases e2
    subst this
    rw [List.append_nil] at e1
    subst e1
    unfold c_law_watched_s1
    walk_at "dl_ev"
    refine go q _ ?_ (by rw [hq, hB]; simp) (by rw [hq]; exact get_new)
    rw [hB]
    exact Apd.one.trans Apd.one
/-- a thing is watched once a night -/
theorem ct_flat {ps : List (List Int)} {i : Int} : ∀ {r : List (List (Option Int))}, (∀ os ∈ r, GoodN ps os) → r.flatten.count (some i) = ct r i
  | [], _ => rfl
  | os :: r, h => by
    have ih := ct_flat (i := i) fun os ho => h os (List.mem_cons_of_mem _ ho)
    have hn := (h os List.mem_cons_self).nd
    have e : os.count (some i) = (os.filterMap id).count i := by
      clear ih hn h
      induction os with
      | nil => rfl
      | cons o os ih =>
        cases o with
        | none => rw [List.count_cons, ih]; simp
        | some j =>
          show _ = (j :: os.filterMap id).count i
          rw [List.count_cons, List.count_cons, ih]
          simp
    have e2 : os.count (some i) = if some i ∈ os then 1 else 0 := by
      split
      · rename_i h2
        have h3 : 0 < os.count (some i) := List.count_pos_iff.mpr h2
        have h4 := List.nodup_iff_count.mp hn i
        omega
      · rename_i h2
        exact List.count_eq_zero.mpr h2
    unfold ct at ih ⊢
    rw [List.flatten_cons, List.count_append, ih, e2, List.countP_cons]
    by_cases h2 : some i ∈ os
    · rw [if_pos h2, if_pos (decide_eq_true h2)]; omega
    · rw [if_neg h2, if_neg (by simpa using h2)]; omega

/-! ### the law's own rota test, the whole -/
theorem cloop_mapR {α : Type} {g : D → Env → Mem → (Env → Mem → Prop) → Prop} {tt : Env → Mem → (Bool → Mem → Prop) → Prop} {e : Env → Mem → (D → Mem → Prop) → Prop} {grd : Mem → Prop} {ρ : Env} {P : List D → Mem → Prop} (R : Mem → Prop) (f : α → D) (p : α → Bool) (h : α → D) (hg : ∀ M, R M → grd M) :
    ∀ (l : List α) (acc : List D) (M : Mem), R M → (∀ a ∈ l, ∀ (acc : List D) (M : Mem) (K : List D → Mem → Prop), R M → (∀ M', R M' → K (if p a = true then acc ++ [h a] else acc) M') → g (f a) ρ M fun ρ2 M2 => tt ρ2 M2 fun b M3 => if b = true then e ρ2 M3 fun d M4 => K (acc ++ [d]) M4 else K acc M3) →
      (∀ M', R M' → P (acc ++ (l.filter p).map h) M') → cloop g tt e grd ρ P (l.map f) acc M
  | [], acc, M, r, _, q => ⟨hg M r, by simpa using q M r⟩
  | a :: l, acc, M, r, st, q => by
    refine ⟨hg M r, st a List.mem_cons_self acc M (cloop g tt e grd ρ P (l.map f)) r fun M' r' => cloop_mapR R f p h hg l _ M' r' (fun y hy => st y (List.mem_cons_of_mem _ hy)) ?_⟩
    by_cases hf : p a = true
    · rw [if_pos hf]
      rw [List.filter_cons_of_pos hf, List.map_cons] at q
      simpa using q
    · rw [if_neg hf]
      rw [List.filter_cons_of_neg hf] at q
      exact q
/-- a filter over numbers in a row that touches nothing -/
theorem cloop_rngf {g : D → Env → Mem → (Env → Mem → Prop) → Prop} {tt : Env → Mem → (Bool → Mem → Prop) → Prop} {e : Env → Mem → (D → Mem → Prop) → Prop} {grd : Mem → Prop} {ρ : Env} {P : List D → Mem → Prop} {M : Mem} {n : Nat} (p : Nat → Bool) (hg : grd M)
    (st : ∀ i, i < n → ∀ (acc : List D) (K : List D → Mem → Prop), K (if p i = true then acc ++ [nD i] else acc) M → g (nD i) ρ M fun ρ2 M2 => tt ρ2 M2 fun b M3 => if b = true then e ρ2 M3 fun d M4 => K (acc ++ [d]) M4 else K acc M3)
    (q : P (((List.range n).filter p).map nD) M) : cloop g tt e grd ρ P (rngI 0 n) [] M := by
  rw [rng0]
  refine cloop_mapR (fun M' => M' = M) nD p nD (fun M' e => e ▸ hg) _ [] M rfl (fun i hi acc M' K e hK => ?_) (fun M' e => ?_)
  · subst e
    exact st i (List.mem_range.mp hi) acc K (hK _ rfl)
  · subst e
    exact q
def walkN : List (List Int) → List D → List Int → Bool
  | p :: ps, x :: xs, seen => if isNon x = true then walkN ps xs seen else match x with
    | .int i => decide (i ∈ p) && (!decide (i ∈ seen) && walkN ps xs (seen ++ [i]))
    | _ => false
  | _, _, _ => true
theorem walk_ok : ∀ {ps : List (List Int)} {xs : List D} {seen : List Int}, xs.length = ps.length → seen.Nodup → walkN ps xs seen = ((wat xs).all isI && (decide (seen ++ unI (wat xs)).Nodup && (ps.zip xs).all fun q => hasI q.1 q.2))
  | [], [], seen, _, h => by
    show true = (true && (decide (seen ++ []).Nodup && true))
    rw [List.append_nil, decide_eq_true h]
    rfl
  | p :: ps, [], _, e, _ => by simp at e
  | [], x :: xs, _, e, _ => by simp at e
  | p :: ps, x :: xs, seen, e, h => by
    have el : xs.length = ps.length := by simpa using e
    have oth : isNon x = false → isI x = false → walkN (p :: ps) (x :: xs) seen = ((wat (x :: xs)).all isI && (decide (seen ++ unI (wat (x :: xs))).Nodup && ((p :: ps).zip (x :: xs)).all fun q => hasI q.1 q.2)) := fun h1 h2 => by
      have w : wat (x :: xs) = x :: wat xs := by
        unfold wat
        rw [List.filter_cons_of_pos (by rw [h1]; rfl)]
      rw [w, List.all_cons, h2, Bool.false_and, Bool.false_and]
      unfold walkN
      rw [h1, if_neg Bool.false_ne_true]
      cases x <;> first | rfl | (cases h2; done)
    cases x with
    | non => 
      have z := walk_ok (ps := ps) (xs := xs) (seen := seen) el h
      show walkN ps xs seen = ((wat xs).all isI && (decide (seen ++ unI (wat xs)).Nodup && (true && (ps.zip xs).all fun q => hasI q.1 q.2)))
      rw [z, Bool.true_and]
    | int i =>
      show (decide (i ∈ p) && (!decide (i ∈ seen) && walkN ps xs (seen ++ [i]))) = ((wat xs).all isI && (decide (seen ++ i :: unI (wat xs)).Nodup && (decide (i ∈ p) && (ps.zip xs).all fun q => hasI q.1 q.2)))
      by_cases hs : i ∈ seen
      · have e2 : decide (seen ++ i :: unI (wat xs)).Nodup = false := decide_eq_false fun z => by
          rw [List.nodup_append] at z
          exact z.2.2 i hs i List.mem_cons_self rfl
        rw [e2, decide_eq_true hs]
        simp
      · have hn : (seen ++ [i]).Nodup := by
          rw [List.nodup_append]
          refine ⟨h, by simp, fun a ha b hb => ?_⟩
          rintro rfl
          exact hs ((by simpa using hb : a = i) ▸ ha)
        have z := walk_ok (ps := ps) (xs := xs) (seen := seen ++ [i]) el hn
        rw [z, List.append_assoc, List.singleton_append, decide_eq_false hs]
        cases decide (i ∈ p) <;> cases (wat xs).all isI <;> cases decide (seen ++ i :: unI (wat xs)).Nodup <;> simp
    | _ => exact oth rfl rfl
theorem okN_walk {ps : List (List Int)} {xs : List D} : okN ps (.tup xs) = (decide (xs.length = ps.length) && walkN ps xs []) := by
  unfold okN
  dsimp only
  by_cases h : xs.length = ps.length
  · rw [walk_ok h List.nodup_nil, List.nil_append]
  · rw [decide_eq_false h, Bool.false_and, Bool.false_and]
theorem walk_non {p : List Int} {ps : List (List Int)} {y : D} {ys : List D} {seen : List Int} (h : isNon y = true) : walkN (p :: ps) (y :: ys) seen = walkN ps ys seen := by
  cases y <;> first | (cases h; done) | rfl
theorem walk_bad {p : List Int} {ps : List (List Int)} {y : D} {ys : List D} {seen : List Int} (h : isNon y = false) (h2 : isI y = false) : walkN (p :: ps) (y :: ys) seen = false := by
  unfold walkN
  rw [h, if_neg Bool.false_ne_true]
  cases y <;> first | rfl | (cases h2; done)
theorem ite_K {b : Bool} {acc : List D} {d : D} {K : List D → Mem → Prop} {M : Mem} (h : K (if b = true then acc ++ [d] else acc) M) : if b = true then K (acc ++ [d]) M else K acc M := by
  cases b <;> exact h
theorem s_lawrota {k : Nat} {ex : XP} {M : Mem} {ps : List (List Int)} {ws ds : List Int} {many : Nat} {m : Int} {d : D} {P : Po} (hd : Okd M d) (hm : many ≤ 1000) (hpl : ps.length ≤ 1000) (hw : ws.length = many) (hds : ds.length = ps.length) (hps : ∀ p ∈ ps, ∀ i ∈ p, 0 ≤ i ∧ i < many) (go : ∀ M', Apd M M' → P (.bl (okR ps ws ds many m d)) M') : sem T (k + 2) 22 ex [nD many, psD ps, isD ws, isD ds, .int m, d] M P := by
  refine u22 ?_
  unfold c_law_is_rota
  have no : okR ps ws ds many m d = false → P (.bl false) M := fun e => by
    rw [e] at go
    exact go _ Apd.refl
  cases hd with
  | non => exact no (by unfold okR; rfl)
  | bl b => exact no (by unfold okR; rfl)
  | int i => exact no (by unfold okR; rfl)
  | str z => exact no (by unfold okR; rfl)
  | lst h =>
    walk_at "dl_ev"
    refine W.ty (ty_list h) (by walk_at "dl_kit") ?_
    walk_at "dl_ev"
    exact no (by unfold okR; rfl)
  | tup xs hl hx =>
    walk_at "dl_ev"
    refine W.dec_not (fun hne => ?_) (fun heq => ?_)
    · walk_at "dl_ev"
      refine no ?_
      unfold okR
      rw [show isT (.tup xs) m = false from decide_eq_false hne]
      rfl
    · have ht : isT (.tup xs) m = true := decide_eq_true heq
      have e : okR ps ws ds many m (.tup xs) = (xs.all (okN ps) && okT (xs.map unN) ws ds many) := by
        unfold okR
        rw [ht]
        rfl
      walk_at "dl_ev"
      unfold c_law_is_rota_s5
      walk_at "dl_ev"
      refine floop_inv (fun js ρ M' => ∃ (dn : List D) (o6 o7 o8 o9 o10 : Option D), ρ = [some (nD many), some (psD ps), some (isD ws), some (isD ds), some (.int m), some (.tup xs), o6, o7, o8, o9, o10] ∧ dn ++ js = xs ∧ dn.all (okN ps) = true ∧ Apd M M') ?_ ?_ _ _ _ ⟨[], none, none, none, none, none, rfl, rfl, rfl, Apd.refl⟩
      · rintro x js ρ M' ⟨dn, o6, o7, o8, o9, o10, rfl, e1, hdn, ap⟩
        refine ⟨True.intro, fun K hK => ?_⟩
        have hxm : x ∈ xs := by rw [← e1]; simp
        have bad : ∀ {M2 : Mem}, Apd M' M2 → okN ps x = false → P (.bl false) M2 := fun {M2} a2 h => by
          have e2 : xs.all (okN ps) = false := List.all_eq_false.mpr ⟨x, hxm, by rw [h]; exact Bool.false_ne_true⟩
          rw [e, e2, Bool.false_and] at go
          exact go _ (ap.trans a2)
        have hxo := hx x hxm
        walk_at "dl_ev"
        unfold c_law_is_rota_b2
        cases hxo with
        | non => exact bad Apd.refl rfl
        | bl b => exact bad Apd.refl rfl
        | int i => exact bad Apd.refl rfl
        | str z => exact bad Apd.refl rfl
        | lst h =>
          walk_at "dl_ev"
          refine W.ty (ty_list (ap.get h)) (by walk_at "dl_kit") ?_
          walk_at "dl_ev"
          exact bad Apd.refl rfl
        | tup ys hyl hy =>
          walk_at "dl_ev"
          refine W.dec_not (fun hne => ?_) (fun heq2 => ?_)
          · walk_at "dl_ev"
            refine bad Apd.refl ?_
            rw [okN_walk, decide_eq_false (by rw [List.length_map] at hne; omega), Bool.false_and]
          · have hyp : ys.length = ps.length := by rw [List.length_map] at heq2; omega
            have e3 : okN ps (.tup ys) = walkN ps ys [] := by rw [okN_walk, decide_eq_true hyp, Bool.true_and]
            walk_at "dl_ev"
            unfold c_law_is_rota_s2
            walk_at "dl_ev"
            rw [List.length_map]
            refine ⟨⟨by omega, by rw [W.size_is]; omega⟩, ?_⟩
            rw [Int.toNat_natCast]
            refine floop_inv (fun js2 ρ M2 => ∃ (i : Nat) (seen : List Int) (o8 : Option D), ρ = [some (nD many), some (psD ps), some (isD ws), some (isD ds), some (.int m), some (.tup xs), some (.tup ys), some (.ref M'.length), o8, o9, o10] ∧ js2 = rngI i (ps.length - i) ∧ i ≤ ps.length ∧ seen.length ≤ i ∧ walkN (ps.drop i) (ys.drop i) seen = walkN ps ys [] ∧ M2 = M' ++ [.lst (seen.map .int)]) ?_ ?_ _ _ _ ⟨0, [], o8, rfl, rfl, Nat.zero_le _, Nat.le_refl _, rfl, rfl⟩
            · rintro z js2 ρ M2 ⟨i, seen, o8, rfl, f, hi, hsl, hwk, rfl⟩
              obtain ⟨h1, rfl, f2⟩ := rng_next f
              refine ⟨True.intro, fun K2 hK2 => ?_⟩
              rw [List.drop_eq_getElem_cons h1, List.drop_eq_getElem_cons (by omega : i < ys.length)] at hwk
              have hy1 : ys[i]? = some ys[i] := List.getElem?_eq_getElem (by omega)
              have hp1 : (ps.map pD)[i]? = some (pD ps[i]) := by rw [List.getElem?_map, List.getElem?_eq_getElem h1]; rfl
              have hyo := hy ys[i] (List.getElem_mem _)
              generalize ys[i] = y at hwk hy1 hyo
              have ay : atI ys (i : Nat) = some y := W.at_nat hy1
              have apx : atI (ps.map pD) (i : Nat) = some (pD ps[i]) := W.at_nat hp1
              have hM : (M' ++ [Cell.lst (seen.map D.int)])[M'.length]? = some (.lst (seen.map .int)) := get_new
              unfold c_law_is_rota_b1
              walk_at "dl_ev"
              refine W.isnt0 ?_
              walk_at "dl_ev"
              cases hn : isNon y with
              | true =>
                rw [walk_non hn] at hwk
                walk_at "dl_ev"
                exact hK2 _ _ ⟨i + 1, seen, _, rfl, f2, h1, by omega, hwk, rfl⟩
              | false =>
                walk_at "dl_ev"
                refine s_wholeD ((hyo.apd ap).apd Apd.one) ?_
                have stop : walkN ps ys [] = false → P (.bl false) (M' ++ [Cell.lst (seen.map D.int)]) := fun q => bad Apd.one (e3.trans q)
                cases hyi : isI y with
                | false =>
                  walk_at "dl_ev"
                  refine stop ?_
                  rw [← hwk, walk_bad hn hyi]
                | true =>
                  cases y <;> first | (cases hyi; done) | skip
                  rename_i j
                  have hwk3 : (decide (j ∈ ps[i]) && (!decide (j ∈ seen) && walkN (ps.drop (i + 1)) (ys.drop (i + 1)) (seen ++ [j]))) = walkN ps ys [] := hwk
                  walk_at "dl_ev"
                  refine notinI rfl ?_
                  walk_at "dl_ev"
                  cases hj : decide (j ∈ ps[i]) with
                  | false =>
                    rw [hj] at hwk3
                    walk_at "dl_ev"
                    exact stop hwk3.symm
                  | true =>
                    rw [hj, Bool.true_and] at hwk3
                    walk_at "dl_ev"
                    refine inI (l := seen) (by unfold seqOf; dsimp only; rw [hM]) ?_
                    walk_at "dl_ev"
                    cases hs : decide (j ∈ seen) with
                    | true =>
                      rw [hs] at hwk3
                      walk_at "dl_ev"
                      exact stop hwk3.symm
                    | false =>
                      rw [hs] at hwk3
                      have hsz : (seen.map D.int).length < sizeLine := by rw [List.length_map, W.size_is]; omega
                      walk_at "dl_ev"
                      unfold c_law_is_rota_s1
                      walk_at "dl_ev"
                      rw [set_new]
                      exact hK2 _ _ ⟨i + 1, seen ++ [j], _, rfl, f2, h1, by rw [List.length_append]; show _ + 1 ≤ _; omega, hwk3, by simp⟩
            · rintro ρ M2 ⟨i, seen, o8, rfl, f, hi, hsl, hwk, rfl⟩
              refine ⟨True.intro, ?_⟩
              have hge : ps.length ≤ i := by
                rcases Nat.lt_or_ge i ps.length with h | h
                · obtain ⟨w, hw⟩ : ∃ w, ps.length - i = w + 1 := ⟨ps.length - i - 1, by omega⟩
                  rw [hw, rngC1] at f
                  cases f
                · exact h
              rw [List.drop_eq_nil_of_le hge] at hwk
              have ok : okN ps (.tup ys) = true := by rw [e3, ← hwk]; rfl
              refine hK _ _ ⟨dn ++ [.tup ys], _, _, _, _, _, rfl, by rw [List.append_assoc]; exact e1, ?_, ap.trans Apd.one⟩
              rw [List.all_append, hdn]
              show (true && (okN ps (.tup ys) && true)) = true
              rw [ok]
              rfl
      · rintro ρ M' ⟨dn, o6, o7, o8, o9, o10, rfl, e1, hdn, ap⟩
        refine ⟨True.intro, ?_⟩
        rw [List.append_nil] at e1
        subst e1
        rw [e, hdn, Bool.true_and] at go
        have hall := List.all_eq_true.mp hdn
        have hr : dn = (dn.map unN).map niD := by
          rw [List.map_map]
          conv => lhs; rw [← List.map_id dn]
          exact List.map_congr_left fun x hx => okN_un (hall x hx)
        have hgood : ∀ os ∈ dn.map unN, GoodN ps os := fun os ho => by
          obtain ⟨x, h1, rfl⟩ := List.mem_map.mp ho
          have z := hall x h1
          rw [okN_un z] at z
          exact okN_ni.mp z
        generalize dn.map unN = r at *
        subst hr
        unfold c_law_is_rota_s4
        walk_at "dl_ev"
        refine s_worked (fun os ho => (hgood os ho).len) hpl ?_
        walk_at "dl_ev"
        have hM : (M' ++ [Cell.lst ((List.range ps.length).map fun j => nD (wk r j))])[M'.length]? = some (.lst ((List.range ps.length).map fun j => nD (wk r j))) := get_new
        refine ⟨⟨by omega, by rw [List.length_map, W.size_is]; omega⟩, ?_⟩
        rw [Int.toNat_natCast, List.length_map]
        refine cloop_rngf (fun j => decide (ds.getD j 0 < (wk r j : Int))) True.intro (fun j hj acc K hK => ?_) ?_
        · have h1 : ((List.range ps.length).map fun j => nD (wk r j))[j]? = some (nD (wk r j)) := by rw [List.getElem?_map, List.getElem?_range hj]; rfl
          have h2 : (ds.map D.int)[j]? = some (.int (ds.getD j 0)) := by
            rw [List.getElem?_map, List.getD_eq_getElem?_getD, List.getElem?_eq_getElem (by omega)]
            rfl
          show gName 8 _ (nD j) [some (nD many), some (psD ps), some (isD ws), some (isD ds), some (.int m), some (.tup (r.map niD)), o6, o7, none, some (.ref M'.length), o10] _ _
          walk_at "dl_ev"
          unfold c_law_is_rota_t1
          walk_at "dl_ev"
          exact ite_K hK
        · refine W.clen ?_
          walk_at "dl_ev"
          rw [List.length_map]
          have ek : decide (0 < ((((List.range ps.length).filter fun j => decide (ds.getD j 0 < (wk r j : Int))).length : Nat) : Int)) = !keepB r ds := by
            rw [Bool.eq_iff_iff, decide_eq_true_eq, Bool.not_eq_true', ]
            unfold keepB
            rw [List.all_eq_false]
            constructor
            · intro h
              have h : 0 < ((List.range ps.length).filter fun j => decide (ds.getD j 0 < (wk r j : Int))).length := by omega
              obtain ⟨j, hj⟩ := List.length_pos_iff_exists_mem.mp h
              obtain ⟨h1, h2⟩ := List.mem_filter.mp hj
              refine ⟨j, by rw [hds]; exact h1, ?_⟩
              have h2 := of_decide_eq_true h2
              rw [decide_eq_true_eq]
              omega
            · rintro ⟨j, h1, h2⟩
              rw [decide_eq_true_eq] at h2
              have := List.length_pos_of_mem (List.mem_filter.mpr ⟨by rw [hds] at h1; exact h1, decide_eq_true (by omega : ds.getD j 0 < (wk r j : Int))⟩ : j ∈ (List.range ps.length).filter fun j => decide (ds.getD j 0 < (wk r j : Int)))
              omega
          rw [ek]
          unfold okT at go
          cases hk : keepB r ds with
          | false =>
            rw [hk] at go
            walk_at "dl_ev"
            exact go _ (ap.trans Apd.one)
          | true =>
            rw [hk, Bool.true_and] at go
            walk_at "dl_ev"
            unfold c_law_is_rota_s3
            walk_at "dl_ev"
            refine s_watched hm (fun os ho i hi => ?_) fun q M2 a2 hq1 hq => ?_
            · obtain ⟨j, hj⟩ := List.mem_iff_getElem?.mp hi
              have hjl := (List.getElem?_eq_some_iff.mp hj).1
              have hg := hgood os ho
              exact hps _ (List.getElem_mem (by rw [← hg.len]; exact hjl)) i (hg.mem j _ i (List.getElem?_eq_getElem (by rw [← hg.len]; exact hjl)) hj)
            · walk_at "dl_ev"
              refine ⟨⟨by omega, by rw [W.size_is]; omega⟩, ?_⟩
              rw [Int.toNat_natCast]
              refine cloop_rngf (fun i => decide ((ct r i : Int) < ws.getD i 0)) True.intro (fun i hi acc K hK => ?_) ?_
              · have h1 : (tal many r.flatten)[i]? = some (nD (ct r i)) := by rw [tal_get hi, ct_flat hgood]
                have h2 : (ws.map D.int)[i]? = some (.int (ws.getD i 0)) := by
                  rw [List.getElem?_map, List.getD_eq_getElem?_getD, List.getElem?_eq_getElem (by omega)]
                  rfl
                show gName 8 _ (nD i) [some (nD many), some (psD ps), some (isD ws), some (isD ds), some (.int m), some (.tup (r.map niD)), o6, o7, none, some (.ref M'.length), some (.ref q)] _ _
                walk_at "dl_ev"
                unfold c_law_is_rota_t2
                walk_at "dl_ev"
                exact ite_K hK
              · refine W.clen ?_
                walk_at "dl_ev"
                rw [List.length_map]
                have ek : decide (((((List.range many).filter fun (i : Nat) => decide ((ct r i : Int) < ws.getD i 0)).length : Nat) : Int) = 0) = wishB r ws many := by
                  rw [Bool.eq_iff_iff, decide_eq_true_eq]
                  unfold wishB
                  rw [List.all_eq_true]
                  constructor
                  · intro h i hi
                    have h : ((List.range many).filter fun (i : Nat) => decide ((ct r i : Int) < ws.getD i 0)) = [] := List.length_eq_zero_iff.mp (by omega)
                    have z := (List.filter_eq_nil_iff.mp h) i hi
                    rw [decide_eq_true_eq] at z ⊢
                    omega
                  · intro h
                    have : ((List.range many).filter fun (i : Nat) => decide ((ct r i : Int) < ws.getD i 0)) = [] := List.filter_eq_nil_iff.mpr fun i hi => by
                      have z := of_decide_eq_true (h i hi)
                      rw [decide_eq_true_eq]
                      omega
                    rw [this]
                    rfl
                rw [ek]
                exact go _ ((ap.trans Apd.one).trans a2)

/-! ### lots that are short -/
def lotW (many : Nat) : Int → List D → Bool
  | _, [] => true
  | last, .int i :: r => decide (last < i ∧ i < many) && lotW many i r
  | _, _ :: _ => false
theorem lotW_cons {many : Nat} {last : Int} {x : D} {r : List D} : lotW many last (x :: r) = (within x (last + 1) ((many : Int) - 1) && match x with
  | .int i => lotW many i r
  | _ => false) := by
  cases x <;> try rfl
  rename_i i
  show (decide (last < i ∧ i < many) && lotW many i r) = (decide (last + 1 ≤ i ∧ i ≤ (many : Int) - 1) && lotW many i r)
  congr 1
  rw [Bool.eq_iff_iff, decide_eq_true_eq, decide_eq_true_eq]
  omega
def isLot (many : Nat) : D → Bool
  | .tup xs => lotW many (-1) xs
  | _ => false
theorem lotW_un {many : Nat} : ∀ {xs : List D} {last : Int}, -1 ≤ last → lotW many last xs = true → xs = (unI xs).map .int ∧ ∀ i ∈ unI xs, 0 ≤ i ∧ i < many
  | [], _, _, _ => ⟨rfl, nofun⟩
  | x :: xs, last, h0, h => by
    rw [lotW_cons, Bool.and_eq_true] at h
    cases x <;> first | (cases h.2; done) | skip
    rename_i i
    have hw : last + 1 ≤ i ∧ i ≤ (many : Int) - 1 := of_decide_eq_true h.1
    obtain ⟨e1, e2⟩ := lotW_un (by omega) h.2
    refine ⟨?_, fun j hj => ?_⟩
    · show D.int i :: xs = D.int i :: (unI xs).map .int
      rw [← e1]
    · rcases List.mem_cons.mp hj with z | z
      · omega
      · exact e2 j z
theorem s_lotfault {k : Nat} {ex : XP} {M : Mem} {many : Nat} {d : D} {P : Po} (hd : Okd M d) (go : ∀ r, isNon r = isLot many d → P r M) : sem T (k + 3) 4 ex [nD many, d] M P := by
  refine u4 ?_
  unfold c_lot_fault
  cases hd with
  | non => exact go _ rfl
  | bl b => exact go _ rfl
  | int i => exact go _ rfl
  | str z => exact go _ rfl
  | lst h =>
    walk_at "dl_ev"
    refine W.ty (ty_list h) (by walk_at "dl_kit") ?_
    walk_at "dl_ev"
    exact go _ rfl
  | tup xs hl hx =>
    walk_at "dl_ev"
    unfold c_lot_fault_s3
    walk_at "dl_ev"
    refine floop_inv (fun js ρ M' => ∃ (dn rs : List D) (last : Int) (o2 o3 o4 : Option D), ρ = [some (nD many), some (.tup xs), o2, o3, o4] ∧ dn ++ rs = xs ∧ js = enumD dn.length rs ∧ lotW many last rs = lotW many (-1) xs ∧ ((dn = [] ∧ last = -1) ∨ (∃ d2, dn = d2 ++ [.int last])) ∧ M' = M) ?_ ?_ _ _ _ ⟨[], xs, -1, none, none, none, rfl, rfl, rfl, rfl, .inl ⟨rfl, rfl⟩, rfl⟩
    · rintro x js ρ M' ⟨dn, rs, last, o2, o3, o4, rfl, e1, e2, e3, e4, rfl⟩
      cases rs with
      | nil => cases e2
      | cons q rs =>
        obtain ⟨e5, e6⟩ := List.cons.inj e2
        subst e5 e6
        refine ⟨True.intro, fun K hK => ?_⟩
        unfold c_lot_fault_g1
        walk_at "dl_ev"
        unfold c_lot_fault_b1
        walk_at "dl_ev"
        have hq := hx q (by rw [← e1]; simp)
        have tail : c_lot_fault_s1 ⟨sem T (k + 2), fun _ => ex⟩ ⟨K, P, K, fun ρ' M'' => c_lot_fault_s2 ⟨sem T (k + 2), fun _ => ex⟩ ⟨fun _ M' => P .non M', P, fun _ _ => False, fun _ _ => False⟩ ρ' M''⟩ [some (nD many), some (.tup xs), some (nD dn.length), some q, some (.int (last + 1))] M' := by
          unfold c_lot_fault_s1
          walk_at "dl_ev"
          refine s_within hq ?_
          rw [lotW_cons] at e3
          cases hw : within q (last + 1) ((many : Int) - 1) with
          | false =>
            rw [hw] at e3
            walk_at "dl_ev"
            exact go _ e3
          | true =>
            rw [hw, Bool.true_and] at e3
            cases q <;> first | (cases hw; done) | skip
            rename_i i
            walk_at "dl_ev"
            exact hK _ _ ⟨dn ++ [.int i], rs, i, _, _, _, rfl, by rw [List.append_assoc]; exact e1, by rw [List.length_append]; rfl, e3, .inr ⟨dn, rfl⟩, rfl⟩
        refine W.dec (fun h => ?_) (fun h => ?_)
        · have hd0 : dn = [] := List.length_eq_zero_iff.mp (by omega)
          rcases e4 with ⟨_, rfl⟩ | ⟨d2, z⟩
          · walk_at "dl_ev"
            exact tail
          · rw [hd0] at z
            simp at z
        · rcases e4 with ⟨z, _⟩ | ⟨d2, z⟩
          · rw [z] at h
            exact (h rfl).elim
          · have hz : atI xs ((dn.length : Int) - 1) = some (.int last) := by
              have e : (dn.length : Int) - 1 = ((d2.length : Nat) : Int) := by rw [z, List.length_append]; show ((_ + 1 : Nat) : Int) - 1 = _; omega
              rw [e]
              refine W.at_nat ?_
              rw [← e1, z, List.append_assoc, List.getElem?_append_right (Nat.le_refl _), Nat.sub_self]
              rfl
            walk_at "dl_ev"
            exact tail
    · rintro ρ M' ⟨dn, rs, last, o2, o3, o4, rfl, e1, e2, e3, e4, rfl⟩
      refine ⟨True.intro, ?_⟩
      cases rs with
      | nil =>
        unfold c_lot_fault_s2
        walk_at "dl_ev"
        exact go _ e3
      | cons _ _ => cases e2
theorem s_islot {k : Nat} {ex : XP} {M : Mem} {many : Nat} {d : D} {P : Po} (hd : Okd M d) (go : P (.bl (isLot many d)) M) : sem T (k + 4) 5 ex [nD many, d] M P := by
  refine u5 ?_
  unfold c_is_lot
  walk_at "dl_ev"
  refine s_lotfault hd fun r hr => ?_
  walk_at "dl_ev"
  refine W.is0 ?_
  rw [hr]
  exact go
def mn (i j : Int) : Int := if j < i then j else i
def meet (p l : List Int) : Bool := p.any fun i => decide (i ∈ l)
def room (nights : Int) (l : List Int) : List (List Int) → List Int → Int
  | p :: ps, d :: ds => (if meet p l = true then mn d nights else 0) + room nights l ps ds
  | _, _ => 0
theorem s_common {k : Nat} {ex : XP} {M : Mem} {p l : List Int} {P : Po} (go : P (.tup ((p.filter fun i => decide (i ∈ l)).map .int)) M) : sem T (k + 1) 6 ex [isD p, isD l] M P := by
  refine u6 ?_
  unfold c_common_of
  walk_at "dl_ev"
  refine cloop_mapR (fun M' => M' = M) D.int (fun i => decide (i ∈ l)) D.int (fun _ _ => True.intro) _ [] _ rfl (fun i hi acc M2 K e hK => ?_) ?_
  · subst e
    show gName 2 _ (.int i) [some (isD p), some (isD l), none] _ _
    walk_at "dl_ev"
    unfold c_common_of_t1
    walk_at "dl_ev"
    refine inI rfl ?_
    walk_at "dl_ev"
    exact ite_K (hK _ rfl)
  · rintro M2 rfl
    exact go
theorem meet_filt {p l : List Int} : (!((p.filter fun i => decide (i ∈ l)).map D.int).isEmpty) = meet p l := by
  rw [Bool.eq_iff_iff, Bool.not_eq_true', ← Bool.not_eq_true, List.isEmpty_iff, List.map_eq_nil_iff, List.filter_eq_nil_iff]
  unfold meet
  rw [List.any_eq_true]
  constructor
  · intro h
    refine Classical.byContradiction fun z => h fun a ha hb => z ⟨a, ha, hb⟩
  · rintro ⟨a, ha, hb⟩ h
    exact h a ha hb
theorem truT {xs : List D} {M : Mem} {k : Bool → Prop} (h : k (!xs.isEmpty)) : tru (.tup xs) M k := h
theorem zipD_pd (ps : List (List Int)) (ds : List Int) : zipD (ps.map pD) (ds.map .int) = (ps.zip ds).map fun q => .tup [pD q.1, .int q.2] := by
  unfold zipD
  rw [List.zip_map, List.map_map]
  rfl
theorem room_zip {nights : Int} {l : List Int} : ∀ {ps : List (List Int)} {ds : List Int}, (((ps.zip ds).filter fun q => meet q.1 l).map fun q => mn q.2 nights).sum = room nights l ps ds
  | [], _ => by simp [room]
  | p :: ps, [] => by simp [room]
  | p :: ps, d :: ds => by
    rw [List.zip_cons_cons, List.filter_cons]
    unfold room
    split
    · rename_i h
      have h : meet p l = true := h
      rw [List.map_cons, List.sum_cons, room_zip]
    · rename_i h
      have h : ¬ meet p l = true := h
      rw [room_zip, Int.zero_add]
theorem s_room {k : Nat} {ex : XP} {M : Mem} {ps : List (List Int)} {ds l : List Int} {nights : Int} {P : Po} (go : P (.int (room nights l ps ds)) M) : sem T (k + 2) 12 ex [psD ps, isD ds, .int nights, isD l] M P := by
  refine u12 ?_
  unfold c_room_for
  walk_at "dl_ev"
  rw [zipD_pd]
  refine cloop_mapR (fun M' => M' = M) (fun q : List Int × Int => D.tup [pD q.1, .int q.2]) (fun q => meet q.1 l) (fun q => .int (mn q.2 nights)) (fun _ _ => ⟨True.intro, True.intro⟩) _ [] _ rfl (fun q hq acc M2 K e hK => ?_) ?_
  · subst e
    obtain ⟨p, d⟩ := q
    show c_room_for_g1 _ (.tup [pD p, .int d]) [some (psD ps), some (isD ds), some (.int nights), some (isD l), none, none] _ _
    unfold c_room_for_g1
    walk_at "dl_ev"
    unfold c_room_for_t1
    walk_at "dl_ev"
    refine s_common ?_
    walk_at "dl_ev"
    refine truT ?_
    rw [meet_filt]
    have hK2 : K (if meet p l = true then acc ++ [D.int (mn d nights)] else acc) M2 := hK _ rfl
    cases hm : meet p l with
    | false =>
      rw [hm] at hK2
      exact hK2
    | true =>
      rw [hm] at hK2
      walk_at "dl_ev"
      unfold c_room_for_e1
      walk_at "dl_ev"
      exact hK2
  · rintro M2 rfl
    rw [List.nil_append]
    have e : (((ps.zip ds).filter fun q => meet q.1 l).map fun q => D.int (mn q.2 nights)) = (((ps.zip ds).filter fun q => meet q.1 l).map fun q => mn q.2 nights).map D.int := by
      rw [List.map_map]
      rfl
    rw [e]
    refine W.csum ?_
    rw [room_zip]
    exact go
def wsum (ws l : List Int) : Int := (l.map fun i => ws.getD i.toNat 0).sum
def shortB (many : Nat) (ps : List (List Int)) (ws ds : List Int) (nights : Int) (d : D) : Bool := isLot many d && match d with
  | .tup xs => decide (room nights (unI xs) ps ds < wsum ws (unI xs))
  | _ => false
theorem ws_get {ws : List Int} {i : Int} (h0 : 0 ≤ i) (h : i < ws.length) : atI (ws.map D.int) i = some (.int (ws.getD i.toNat 0)) := by
  obtain ⟨j, rfl⟩ : ∃ j : Nat, i = (j : Nat) := ⟨i.toNat, by omega⟩
  refine W.at_nat ?_
  rw [List.getElem?_map, List.getD_eq_getElem?_getD, Int.toNat_natCast, List.getElem?_eq_getElem (by omega)]
  rfl
theorem s_short {k : Nat} {ex : XP} {M : Mem} {many : Nat} {ps : List (List Int)} {ws ds : List Int} {nights : Int} {d : D} {P : Po} (hd : Okd M d) (hw : ws.length = many) (go : P (.bl (shortB many ps ws ds nights d)) M) : sem T (k + 5) 13 ex [nD many, psD ps, isD ws, isD ds, .int nights, d] M P := by
  refine u13 ?_
  unfold c_is_short_things
  walk_at "dl_ev"
  refine s_islot hd ?_
  unfold shortB at go
  cases hl : isLot many d with
  | false =>
    rw [hl] at go
    walk_at "dl_ev"
    exact go
  | true =>
    rw [hl, Bool.true_and] at go
    walk_at "dl_ev"
    cases d <;> first | (cases hl; done) | skip
    rename_i xs
    obtain ⟨e1, e2⟩ := lotW_un (by omega) (show lotW many (-1) xs = true from hl)
    dsimp only at go
    generalize unI xs = l at *
    subst e1
    unfold c_is_short_things_s1
    walk_at "dl_ev"
    refine cloop_map D.int (fun i => .int (ws.getD i.toNat 0)) True.intro l [] (fun i hi acc K hK => ?_) ?_
    · show gName 6 _ (.int i) [some (nD many), some (psD ps), some (isD ws), some (isD ds), some (.int nights), some (isD l), none] _ _
      have hz := ws_get (e2 i hi).1 (by rw [hw]; exact (e2 i hi).2)
      walk_at "dl_ev"
      unfold c_is_short_things_e1
      walk_at "dl_ev"
      exact hK
    · have e : ([] ++ l.map fun (i : Int) => D.int (ws.getD i.toNat 0)) = (l.map fun i => ws.getD i.toNat 0).map D.int := by
        rw [List.map_map]
        rfl
      rw [e]
      refine W.csum ?_
      walk_at "dl_ev"
      refine s_room ?_
      walk_at "dl_ev"
      exact go
theorem s_lawlot {k : Nat} {ex : XP} {M : Mem} {many : Nat} {d : D} {P : Po} (hd : Okd M d) (go : P (.bl (isLot many d)) M) : sem T (k + 2) 23 ex [nD many, d] M P := by
  refine u23 ?_
  unfold c_law_is_lot
  cases hd with
  | non => exact go
  | bl b => exact go
  | int i => exact go
  | str z => exact go
  | lst h =>
    walk_at "dl_ev"
    refine W.ty (ty_list h) (by walk_at "dl_kit") ?_
    walk_at "dl_ev"
    exact go
  | tup xs hl hx =>
    walk_at "dl_ev"
    unfold c_law_is_lot_s3
    walk_at "dl_ev"
    refine floop_inv (fun js ρ M' => ∃ (last : Int) (o3 : Option D), ρ = [some (nD many), some (.tup xs), some (.int last), o3] ∧ (∀ x ∈ js, Okd M x) ∧ lotW many last js = lotW many (-1) xs ∧ M' = M) ?_ ?_ _ _ _ ⟨-1, none, rfl, hx, rfl, rfl⟩
    · rintro x js ρ M' ⟨last, o3, rfl, hj, e3, rfl⟩
      refine ⟨True.intro, fun K hK => ?_⟩
      have hxo := hj x List.mem_cons_self
      have hj2 : ∀ y ∈ js, Okd M' y := fun y hy => hj y (List.mem_cons_of_mem _ hy)
      walk_at "dl_ev"
      unfold c_law_is_lot_b1
      walk_at "dl_ev"
      refine s_wholeD hxo ?_
      have stop : lotW many (-1) xs = false → P (.bl false) M' := fun z => by
        have z : isLot many (.tup xs) = false := z
        rw [z] at go
        exact go
      cases hi : isI x with
      | false =>
        walk_at "dl_ev"
        refine stop ?_
        rw [← e3]
        cases x <;> first | rfl | (cases hi; done)
      | true =>
        cases x <;> first | (cases hi; done) | skip
        rename_i i
        have e4 : (decide (last < i ∧ i < many) && lotW many i js) = lotW many (-1) xs := e3
        walk_at "dl_ev"
        refine W.dec (fun h => ?_) (fun h => ?_)
        · walk_at "dl_ev"
          refine stop ?_
          rw [← e4, decide_eq_false (by omega), Bool.false_and]
        · walk_at "dl_ev"
          refine W.dec (fun h2 => ?_) (fun h2 => ?_)
          · walk_at "dl_ev"
            refine stop ?_
            rw [← e4, decide_eq_false (by omega), Bool.false_and]
          · walk_at "dl_ev"
            unfold c_law_is_lot_s1
            walk_at "dl_ev"
            exact hK _ _ ⟨i, _, rfl, hj2, by rw [← e4, decide_eq_true (by omega), Bool.true_and], rfl⟩
    · rintro ρ M' ⟨last, o3, rfl, hj, e3, rfl⟩
      refine ⟨True.intro, ?_⟩
      unfold c_law_is_lot_s2
      walk_at "dl_ev"
      have z : isLot many (.tup xs) = true := e3.symm
      rw [z] at go
      exact go
theorem s_beside {k : Nat} {ex : XP} {M : Mem} {ps : List (List Int)} {ds l : List Int} {nights : Int} {P : Po} (hpl : ps.length ≤ 1000) (hds : ds.length = ps.length) (go : P (.int (room nights l ps ds)) M) : sem T (k + 1) 24 ex [psD ps, isD ds, .int nights, isD l] M P := by
  refine u24 ?_
  unfold c_law_beside
  walk_at "dl_ev"
  rw [List.length_map]
  refine ⟨⟨by omega, by rw [W.size_is]; omega⟩, ?_⟩
  rw [Int.toNat_natCast]
  refine floop_inv (fun js ρ M' => ∃ (i : Nat) (t : Int) (o5 o6 : Option D), ρ = [some (psD ps), some (isD ds), some (.int nights), some (isD l), some (.int t), o5, o6] ∧ js = rngI i (ps.length - i) ∧ i ≤ ps.length ∧ t + room nights l (ps.drop i) (ds.drop i) = room nights l ps ds ∧ M' = M) ?_ ?_ _ _ _ ⟨0, 0, none, none, rfl, rfl, Nat.zero_le _, Int.zero_add _, rfl⟩
  · rintro x js ρ M' ⟨i, t, o5, o6, rfl, f, hi, ht, rfl⟩
    obtain ⟨h1, rfl, f2⟩ := rng_next f
    refine ⟨True.intro, fun K hK => ?_⟩
    rw [List.drop_eq_getElem_cons h1, List.drop_eq_getElem_cons (by omega : i < ds.length)] at ht
    have apx : atI (ps.map pD) (i : Nat) = some (pD ps[i]) := W.at_nat (by rw [List.getElem?_map, List.getElem?_eq_getElem h1]; rfl)
    have adx : atI (ds.map D.int) (i : Nat) = some (.int ds[i]) := W.at_nat (by rw [List.getElem?_map, List.getElem?_eq_getElem (by omega)]; rfl)
    generalize ps[i] = p at ht apx
    generalize ds[i] = d at ht adx
    have ht : t + ((if meet p l = true then mn d nights else 0) + room nights l (ps.drop (i + 1)) (ds.drop (i + 1))) = room nights l ps ds := ht
    unfold c_law_beside_b1
    walk_at "dl_ev"
    refine cloop_mapR (fun M2 => M2 = M') D.int (fun i => decide (i ∈ l)) D.int (fun _ _ => True.intro) _ [] _ rfl (fun j hj acc M2 K e hK => ?_) ?_
    · subst e
      show gName 6 _ (.int j) [some (psD ps), some (isD ds), some (.int nights), some (isD l), some (.int t), some (nD i), none] _ _
      walk_at "dl_ev"
      unfold c_law_beside_t1
      walk_at "dl_ev"
      refine inI rfl ?_
      walk_at "dl_ev"
      exact ite_K (hK _ rfl)
    · rintro M2 rfl
      rw [List.nil_append]
      refine W.clen ?_
      rw [List.length_map]
      have em : (0 < (p.filter fun i => decide (i ∈ l)).length) ↔ meet p l = true := by
        rw [← meet_filt, List.length_pos_iff, Bool.not_eq_true', ← Bool.not_eq_true, List.isEmpty_iff, List.map_eq_nil_iff]
      walk_at "dl_ev"
      refine W.dec (fun h => ?_) (fun h => ?_)
      · walk_at "dl_ev"
        rw [if_pos (em.mp (by omega))] at ht
        refine hK _ _ ⟨i + 1, t + mn d nights, _, _, rfl, f2, h1, by omega, rfl⟩
      · walk_at "dl_ev"
        rw [if_neg fun z => h (by have := em.mpr z; omega)] at ht
        exact hK _ _ ⟨i + 1, t, _, _, rfl, f2, h1, by omega, rfl⟩
  · rintro ρ M' ⟨i, t, o5, o6, rfl, f, hi, ht, rfl⟩
    refine ⟨True.intro, ?_⟩
    have hge : ps.length ≤ i := by
      rcases Nat.lt_or_ge i ps.length with h | h
      · obtain ⟨w, hw⟩ : ∃ w, ps.length - i = w + 1 := ⟨ps.length - i - 1, by omega⟩
        rw [hw, rngC1] at f
        cases f
      · exact h
    rw [List.drop_eq_nil_of_le hge] at ht
    have ht : t + 0 = room nights l ps ds := ht
    unfold c_law_beside_s1
    walk_at "dl_ev"
    rw [show t = room nights l ps ds by omega]
    exact go
theorem s_lawshort {k : Nat} {ex : XP} {M : Mem} {many : Nat} {ps : List (List Int)} {ws ds : List Int} {nights : Int} {d : D} {P : Po} (hd : Okd M d) (hw : ws.length = many) (hpl : ps.length ≤ 1000) (hds : ds.length = ps.length) (go : P (.bl (shortB many ps ws ds nights d)) M) : sem T (k + 3) 25 ex [nD many, psD ps, isD ws, isD ds, .int nights, d] M P := by
  refine u25 ?_
  unfold c_law_is_short
  walk_at "dl_ev"
  refine s_lawlot hd ?_
  unfold shortB at go
  cases hl : isLot many d with
  | false =>
    rw [hl] at go
    walk_at "dl_ev"
    exact go
  | true =>
    rw [hl, Bool.true_and] at go
    walk_at "dl_ev"
    cases d <;> first | (cases hl; done) | skip
    rename_i xs
    obtain ⟨e1, e2⟩ := lotW_un (by omega) (show lotW many (-1) xs = true from hl)
    dsimp only at go
    generalize unI xs = l at *
    subst e1
    unfold c_law_is_short_s1
    walk_at "dl_ev"
    refine cloop_map D.int (fun i => .int (ws.getD i.toNat 0)) True.intro l [] (fun i hi acc K hK => ?_) ?_
    · show gName 6 _ (.int i) [some (nD many), some (psD ps), some (isD ws), some (isD ds), some (.int nights), some (isD l), none] _ _
      have hz := ws_get (e2 i hi).1 (by rw [hw]; exact (e2 i hi).2)
      walk_at "dl_ev"
      unfold c_law_is_short_e1
      walk_at "dl_ev"
      exact hK
    · have e : ([] ++ l.map fun (i : Int) => D.int (ws.getD i.toNat 0)) = (l.map fun i => ws.getD i.toNat 0).map D.int := by
        rw [List.map_map]
        rfl
      rw [e]
      refine W.csum ?_
      walk_at "dl_ev"
      refine s_beside hpl hds ?_
      walk_at "dl_ev"
      exact go

/-! ### what is dealt: posts, nights -/
theorem k2_app {n g : Nat} {M M' : Mem} {c : Cell} (k : K2 n g M M') : K2 n g M (M' ++ [c]) := k.trans (Apd.k2 Apd.one)
/-- numbers in a row, each taken or not -/
theorem cloop_pick {g : D → Env → Mem → (Env → Mem → Prop) → Prop} {tt : Env → Mem → (Bool → Mem → Prop) → Prop} {e : Env → Mem → (D → Mem → Prop) → Prop} {grd : Mem → Prop} {ρ : Env} {P : List D → Mem → Prop} (R : Mem → Prop) {many : Nat} {M : Mem} (hg : ∀ M, R M → grd M) (r : R M)
    (st : ∀ i, i < many → ∀ (acc : List D) (M : Mem) (K : List D → Mem → Prop), R M → (∀ (b : Bool) M', R M' → K (if b = true then acc ++ [nD i] else acc) M') → g (nD i) ρ M fun ρ2 M2 => tt ρ2 M2 fun b M3 => if b = true then e ρ2 M3 fun d M4 => K (acc ++ [d]) M4 else K acc M3)
    (fin : ∀ l : List Int, l.length ≤ many → (∀ i ∈ l, 0 ≤ i ∧ i < many) → ∀ M', R M' → P (l.map .int) M') : cloop g tt e grd ρ P (rngI 0 many) [] M := by
  refine cloop_inv (fun js acc M' => ∃ (i : Nat) (l : List Int), acc = l.map .int ∧ js = rngI i (many - i) ∧ i ≤ many ∧ l.length ≤ i ∧ (∀ j ∈ l, 0 ≤ j ∧ j < many) ∧ R M') ?_ ?_ _ _ _ ⟨0, [], rfl, rfl, Nat.zero_le _, Nat.le_refl _, nofun, r⟩
  · rintro x js acc M' ⟨i, l, rfl, f, hi, hl, hm, r⟩
    obtain ⟨h1, rfl, f2⟩ := rng_next f
    refine ⟨hg _ r, fun K hK => st i h1 _ M' K r fun b M2 r2 => ?_⟩
    cases b with
    | false => exact hK _ _ ⟨i + 1, l, rfl, f2, h1, by omega, hm, r2⟩
    | true =>
      refine hK _ _ ⟨i + 1, l ++ [(i : Int)], by rw [List.map_append]; rfl, f2, h1, by rw [List.length_append]; show _ + 1 ≤ _; omega, fun j hj => ?_, r2⟩
      rcases List.mem_append.mp hj with z | z
      · exact hm j z
      · have : j = i := by simpa using z
        omega
  · rintro acc M' ⟨i, l, rfl, f, hi, hl, hm, r⟩
    exact ⟨hg _ r, fin l (by omega) hm M' r⟩
/-- posts over things below many -/
def PsOk (many : Nat) (ps : List (List Int)) : Prop := ∀ p ∈ ps, p.length ≤ many ∧ ∀ i ∈ p, 0 ≤ i ∧ i < many
theorem PsOk.add {many : Nat} {ps : List (List Int)} {p : List Int} (h : PsOk many ps) (hp : p.length ≤ many ∧ ∀ i ∈ p, 0 ≤ i ∧ i < many) : PsOk many (ps ++ [p]) := fun q hq => by
  rcases List.mem_append.mp hq with z | z
  · exact h q z
  · have : q = p := by simpa using z
    rw [this]
    exact hp
theorem rng_ints (many : Nat) : rngI 0 many = ((List.range many).map fun (i : Nat) => (i : Int)).map .int := by
  rw [rng0, List.map_map]
  rfl
theorem s_posts {k n g many most : Nat} {ex : XP} {M : Mem} {P : Po} (hp : Chest M n g) (hm : many ≤ 1000) (hmo : most ≤ 1000) (go : ∀ ps M', PsOk many ps → ps.length ≤ most → K2 n g M M' → Chest M' n g → P (psD ps) M') : sem T (k + 3) 17 ex [.ref n, nD many, nD most] M P := by
  refine u17 ?_
  unfold c_law_posts
  walk_at "dl_ev"
  have ap0 : Apd M (M ++ [Cell.lst []]) := Apd.one
  refine s_of (hp.apd ap0) (by omega) (by omega) fun r M1 r0 r1 k1 hp1 => ?_
  obtain ⟨c, rfl⟩ : ∃ c : Nat, r = (c : Nat) := ⟨r.toNat, by omega⟩
  have hq1 : M1[M.length]? = some (.lst []) := k1.get get_new (by have := hp.lt.1; omega) (by have := hp.lt.2; omega)
  walk_at "dl_ev"
  refine ⟨⟨by omega, by rw [W.size_is]; omega⟩, ?_⟩
  rw [Int.toNat_natCast]
  obtain ⟨q, hq⟩ : ∃ q, q = M.length := ⟨_, rfl⟩
  have hqn : q ≠ n := by have := hp.lt.1; omega
  have hqg : q ≠ g := by have := hp.lt.2; omega
  rw [← hq] at hq1 ⊢
  refine floop_inv (fun js ρ M' => ∃ (i : Nat) (ps : List (List Int)) (o4 o5 o6 : Option D), ρ = [some (.ref n), some (nD many), some (nD most), some (.ref q), o4, o5, o6] ∧ js = rngI i (c - i) ∧ i ≤ c ∧ ps.length = i ∧ PsOk many ps ∧ M'[q]? = some (.lst (ps.map pD)) ∧ K2 n g M M' ∧ Chest M' n g) ?_ ?_ _ _ _ ⟨0, [], none, none, none, rfl, rfl, Nat.zero_le _, rfl, nofun, hq1, (Apd.k2 ap0).trans k1, hp1⟩
  · rintro x js ρ M' ⟨i, ps, o4, o5, o6, rfl, f, hi, hpl, hps, hM, k2, hp2⟩
    obtain ⟨h1, rfl, f2⟩ := rng_next f
    refine ⟨True.intro, fun K hK => ?_⟩
    unfold c_law_posts_b1
    walk_at "dl_ev"
    refine s_of hp2 (by decide) (by decide) fun w M3 w0 w1 k3 hp3 => ?_
    have hM3 := k3.get hM hqn hqg
    have k3' := k2.trans k3
    -- what is appended
    have put : ∀ (p : List Int) (M4 : Mem) (o4 o5 o6 : Option D), p.length ≤ many ∧ (∀ i ∈ p, 0 ≤ i ∧ i < many) → M4[q]? = some (.lst (ps.map pD)) → K2 n g M M4 → Chest M4 n g → mAppend (.ref q) [pD p] M4 fun _ M' => K [some (.ref n), some (nD many), some (nD most), some (.ref q), o4, o5, o6] M' := by
      intro p M4 o4 o5 o6 hpp h4 k4 hp4
      refine W.append h4 (by rw [List.length_map, W.size_is]; omega) ?_
      refine hK _ _ ⟨i + 1, ps ++ [p], _, _, _, rfl, f2, h1, by rw [List.length_append, hpl]; rfl, hps.add hpp, ?_, k4.wr (by omega), hp4.wr hqn hqg⟩
      rw [get_set_self h4, List.map_append]
      rfl
    walk_at "dl_ev"
    refine W.dec (fun h => ?_) (fun h => ?_)
    · walk_at "dl_ev"
      refine ⟨⟨by decide, by decide, by omega, by omega, by omega⟩, ?_⟩
      rw [Int.sub_zero, Int.toNat_natCast, rng_ints]
      walk_at "dl_ev"
      have hq4 : (M3 ++ [Cell.lst [D.tup [], D.tup (((List.range many).map fun (i : Nat) => (i : Int)).map .int)]])[M3.length]? = some (.lst [D.tup [], D.tup (((List.range many).map fun (i : Nat) => (i : Int)).map .int)]) := get_new
      refine s_one (hp3.apd Apd.one) hq4 (by have := hp3.lt.1; omega) (by have := hp3.lt.2; omega) (by simp) (by show (2 : Nat) ≤ _; omega) fun j x M5 hj k5 hp5 => ?_
      have hx : ∃ p : List Int, x = pD p ∧ p.length ≤ many ∧ ∀ i ∈ p, 0 ≤ i ∧ i < many := by
        have := List.mem_of_getElem? hj
        simp only [List.mem_cons, List.not_mem_nil, or_false] at this
        rcases this with z | z
        · exact ⟨[], z, Nat.zero_le _, nofun⟩
        · refine ⟨_, z, by simp, fun i hi => ?_⟩
          obtain ⟨m, hm, rfl⟩ := List.mem_map.mp hi
          have := List.mem_range.mp hm
          omega
      obtain ⟨p, rfl, hpp⟩ := hx
      walk_at "dl_ev"
      exact put p M5 _ _ _ hpp (k5.get (get_app hM3) hqn hqg) ((k2_app k3').trans k5) hp5
    · walk_at "dl_ev"
      have third : ∀ o4 o6, eTupL (lcomp (iRng1 (eVar 1)) (gName 6) c_law_posts_t1 (eVar 6) [6]) ⟨sem T (k + 2), fun _ => ex⟩ [some (.ref n), some (nD many), some (nD most), some (.ref q), o4, some (.int w), o6] M3 fun d M4 => mAppend (.ref q) [d] M4 fun _ M' => K [some (.ref n), some (nD many), some (nD most), some (.ref q), o4, some (.int w), o6] M' := by
        intro o4 o6
        walk_at "dl_ev"
        refine ⟨⟨by omega, by rw [W.size_is]; omega⟩, ?_⟩
        rw [Int.toNat_natCast]
        refine cloop_pick (fun M' => K2 n g M3 M' ∧ Chest M' n g) (fun _ _ => True.intro) ⟨K2.refl, hp3⟩ (fun i hi acc M4 K2' ⟨k4, hp4⟩ hK2 => ?_) fun l hl hlm M4 ⟨k4, hp4⟩ => ?_
        · show gName 6 _ (nD i) [some (.ref n), some (nD many), some (nD most), some (.ref q), o4, some (.int w), none] _ _
          walk_at "dl_ev"
          unfold c_law_posts_t1
          walk_at "dl_ev"
          refine s_of hp4 (by decide) (by decide) fun v M5 v0 v1 k5 hp5 => ?_
          walk_at "dl_ev"
          exact ite_K (hK2 _ _ ⟨k4.trans k5, hp5⟩)
        · walk_at "dl_ev"
          exact put l M4 _ _ _ ⟨hl, hlm⟩ (k4.get hM3 hqn hqg) (k3'.trans k4) hp4
      refine W.dec (fun h2 => ?_) (fun h2 => ?_)
      · walk_at "dl_ev"
        refine W.dec (fun h3 => ?_) (fun h3 => ?_)
        · walk_at "dl_ev"
          refine s_one hp3 hM3 hqn hqg (by
            intro z
            rw [z] at h3
            simp at h3) (by rw [List.length_map]; omega) fun j x M5 hj k5 hp5 => ?_
          rw [List.getElem?_map] at hj
          obtain ⟨p, hj2, rfl⟩ := Option.map_eq_some_iff.mp hj
          walk_at "dl_ev"
          exact put p M5 _ _ _ (hps p (List.mem_of_getElem? hj2)) (k5.get hM3 hqn hqg) (k3'.trans k5) hp5
        · walk_at "dl_ev"
          exact third _ _
      · walk_at "dl_ev"
        exact third _ _
  · rintro ρ M' ⟨i, ps, o4, o5, o6, rfl, f, hi, hpl, hps, hM, k2, hp2⟩
    refine ⟨True.intro, ?_⟩
    have hge : c ≤ i := by
      rcases Nat.lt_or_ge i c with h | h
      · obtain ⟨w, hw⟩ : ∃ w, c - i = w + 1 := ⟨c - i - 1, by omega⟩
        rw [hw, rngC1] at f
        cases f
      · exact h
    unfold c_law_posts_s1
    walk_at "dl_ev"
    exact go ps M' hps (by omega) k2 hp2
theorem s_put {k a : Nat} {ex : XP} {M : Mem} {xs : List D} {d : D} {P : Po} (ha : a < xs.length) (hs : xs.length ≤ 1000000) (go : P (.tup (xs.set a d)) M) : sem T (k + 1) 27 ex [.tup xs, nD a, d] M P := by
  refine u27 ?_
  unfold c_law_put
  walk_at "dl_ev"
  rw [W.cut_to]
  refine W.addT (by rw [List.length_take, W.size_is]; show _ + 1 ≤ _; omega) ?_
  walk_at "dl_ev"
  rw [show ((a : Nat) : Int) + 1 = ((a + 1 : Nat) : Int) from rfl, cut_from]
  refine W.addT (by rw [List.length_append, List.length_take, List.length_drop, W.size_is]; show _ + 1 + _ ≤ _; omega) ?_
  rw [List.append_assoc, List.singleton_append]
  rw [List.set_eq_take_append_cons_drop, if_pos ha] at go
  exact go
theorem oD_app {os : List (Option Int)} {o : Option Int} : os.map oD ++ [oD o] = (os ++ [o]).map oD := by rw [List.map_append]; rfl
theorem GoodN.add {ps : List (List Int)} {os : List (Option Int)} {p : List Int} (h : GoodN ps os) {o : Option Int} (ho : ∀ i, o = some i → i ∈ p ∧ some i ∉ os) : GoodN (ps ++ [p]) (os ++ [o]) := by
  refine ⟨by rw [List.length_append, List.length_append, h.len]; rfl, ?_, fun j q i e1 e2 => ?_⟩
  · rw [List.filterMap_append]
    cases o with
    | none => simpa using h.nd
    | some i =>
      show (os.filterMap id ++ [i]).Nodup
      rw [List.nodup_append]
      refine ⟨h.nd, by simp, fun a ha b hb => ?_⟩
      rintro rfl
      have e : a = i := by simpa using hb
      subst e
      refine (ho a rfl).2 ?_
      obtain ⟨z, z1, z2⟩ := List.mem_filterMap.mp ha
      have z2 : z = some a := z2
      exact z2 ▸ z1
  · rcases Nat.lt_or_ge j os.length with hj | hj
    · rw [List.getElem?_append_left (by rw [← h.len]; exact hj)] at e1
      rw [List.getElem?_append_left hj] at e2
      exact h.mem j q i e1 e2
    · have hjl : j = os.length := by
        have := (List.getElem?_eq_some_iff.mp e2).1
        rw [List.length_append] at this
        have : j < os.length + 1 := this
        omega
      subst hjl
      rw [List.getElem?_append_right (Nat.le_refl _), Nat.sub_self] at e2
      rw [h.len, List.getElem?_append_right (Nat.le_refl _), Nat.sub_self] at e1
      have e2 : o = some i := by simpa using e2
      have e1 : p = q := by simpa using e1
      rw [← e1]
      exact (ho i e2).1
theorem s_night {k n g many : Nat} {ex : XP} {M : Mem} {ps : List (List Int)} {P : Po} (hp : Chest M n g) (hm : many ≤ 1000) (hpl : ps.length ≤ 1000) (hps : PsOk many ps) (go : ∀ os M', GoodN ps os → K2 n g M M' → Chest M' n g → P (niD os) M') : sem T (k + 3) 18 ex [.ref n, psD ps] M P := by
  refine u18 ?_
  unfold c_law_night
  walk_at "dl_ev"
  have ap0 : Apd M (M ++ [Cell.lst []]) := Apd.one
  obtain ⟨q, hq⟩ : ∃ q, q = M.length := ⟨_, rfl⟩
  have hqn : q ≠ n := by have := hp.lt.1; omega
  have hqg : q ≠ g := by have := hp.lt.2; omega
  have hq1 : (M ++ [Cell.lst []])[q]? = some (.lst []) := by rw [hq]; exact get_new
  rw [← hq]
  refine floop_inv (fun js ρ M' => ∃ (dn rs : List (List Int)) (os : List (Option Int)) (o3 o4 o5 : Option D), ρ = [some (.ref n), some (psD ps), some (.ref q), o3, o4, o5] ∧ dn ++ rs = ps ∧ js = rs.map pD ∧ GoodN dn os ∧ M'[q]? = some (.lst (os.map oD)) ∧ K2 n g M M' ∧ Chest M' n g) ?_ ?_ _ _ _ ⟨[], ps, [], none, none, none, rfl, rfl, rfl, ⟨rfl, List.nodup_nil, fun j p i e => by simp at e⟩, hq1, Apd.k2 ap0, hp.apd ap0⟩
  · rintro x js ρ M' ⟨dn, rs, os, o3, o4, o5, rfl, e1, e2, hg, hM, k2, hp2⟩
    cases rs with
    | nil => cases e2
    | cons p rs =>
      obtain ⟨e3, e4⟩ := List.cons.inj e2
      subst e3 e4
      have hpp := hps p (by rw [← e1]; simp)
      have hosl : os.length ≤ 1000 := by
        have := congrArg List.length e1
        rw [List.length_append] at this
        rw [hg.len]
        omega
      refine ⟨True.intro, fun K hK => ?_⟩
      unfold c_law_night_b1
      walk_at "dl_ev"
      have put : ∀ (o : Option Int) (M4 : Mem) (o3 o4 o5 : Option D), (∀ i, o = some i → i ∈ p ∧ some i ∉ os) → M4[q]? = some (.lst (os.map oD)) → K2 n g M M4 → Chest M4 n g → K [some (.ref n), some (psD ps), some (.ref q), o3, o4, o5] (M4.set q (.lst (os.map oD ++ [oD o]))) := by
        intro o M4 o3 o4 o5 ho h4 k4 hp4
        refine hK _ _ ⟨dn ++ [p], rs, os ++ [o], _, _, _, rfl, by rw [List.append_assoc]; exact e1, rfl, hg.add ho, ?_, k4.wr (by omega), hp4.wr hqn hqg⟩
        rw [get_set_self h4, oD_app]
      refine cloop_mapR (fun M2 => M2 = M') D.int (fun i => !decide (some i ∈ os)) D.int (fun _ _ => True.intro) _ [] _ rfl (fun i hi acc M2 K2' e hK2 => ?_) ?_
      · subst e
        show gName 5 _ (.int i) [some (.ref n), some (psD ps), some (.ref q), some (pD p), o4, none] _ _
        walk_at "dl_ev"
        unfold c_law_night_t1
        walk_at "dl_ev"
        refine notinO (l := os) (by unfold seqOf; dsimp only; rw [hM]) ?_
        walk_at "dl_ev"
        exact ite_K (hK2 _ rfl)
      · rintro M2 rfl
        rw [List.nil_append]
        obtain ⟨fr, hfr⟩ : ∃ fr, fr = p.filter fun i => !decide (some i ∈ os) := ⟨_, rfl⟩
        rw [← hfr]
        have hfm : ∀ i ∈ fr, i ∈ p ∧ some i ∉ os := fun i hi => by
          rw [hfr] at hi
          obtain ⟨h1, h2⟩ := List.mem_filter.mp hi
          exact ⟨h1, by simpa using h2⟩
        have hfl : fr.length ≤ 1000 := by
          rw [hfr]
          exact Nat.le_trans (List.length_filter_le _ _) (by omega)
        have hF : (M2 ++ [Cell.lst (fr.map D.int)])[M2.length]? = some (.lst (fr.map .int)) := get_new
        have hMa : (M2 ++ [Cell.lst (fr.map D.int)])[q]? = some (.lst (os.map oD)) := get_app hM
        have hpa := hp2.apd (Apd.one (M := M2) (c := Cell.lst (fr.map D.int)))
        have ka := k2_app (c := Cell.lst (fr.map D.int)) k2
        walk_at "dl_ev"
        refine W.dec (fun h => ?_) (fun h => ?_)
        · walk_at "dl_ev"
          exact put none _ _ _ _ nofun hMa ka hpa
        · walk_at "dl_ev"
          refine s_of hpa (by decide) (by decide) fun v M3 v0 v1 k3 hp3 => ?_
          have hln := hp2.lt
          have hF3 := k3.get hF (by omega) (by omega)
          walk_at "dl_ev"
          refine W.dec (fun h2 => ?_) (fun h2 => ?_)
          · walk_at "dl_ev"
            have hM3 := k3.get hMa hqn hqg
            walk_at "dl_ev"
            exact put none _ _ _ _ nofun hM3 (ka.trans k3) hp3
          · have hM3 := k3.get hMa hqn hqg
            walk_at "dl_ev"
            refine s_one hp3 hF3 (by omega) (by omega) (by
              intro z
              rw [z] at h
              exact h rfl) (by rw [List.length_map]; omega) fun j x M5 hj k5 hp5 => ?_
            rw [List.getElem?_map] at hj
            obtain ⟨i, hj2, rfl⟩ := Option.map_eq_some_iff.mp hj
            have hM5 := k5.get (k3.get hMa hqn hqg) hqn hqg
            walk_at "dl_ev"
            exact put (some i) _ _ _ _ (fun i' e => by cases e; exact hfm _ (List.mem_of_getElem? hj2)) hM5 ((ka.trans k3).trans k5) hp5
  · rintro ρ M' ⟨dn, rs, os, o3, o4, o5, rfl, e1, e2, hg, hM, k2, hp2⟩
    refine ⟨True.intro, ?_⟩
    have : rs = [] := by cases rs with
      | nil => rfl
      | cons _ _ => cases e2
    subst this
    rw [List.append_nil] at e1
    subst e1
    unfold c_law_night_s1
    walk_at "dl_ev"
    exact go os M' hg k2 hp2

/-! ### rotas bent -/
theorem eqNI {i : Int} {M : Mem} {P : Po} (h : P (.bl false) M) : opEq .non (.int i) M P := by
  unfold opEq
  exact ⟨⟨rfl, rfl⟩, h⟩
theorem okd_o {M : Mem} (o : Option Int) : Okd M (oD o) := by cases o <;> constructor
theorem okd_ni {M : Mem} {os : List (Option Int)} (h : os.length ≤ 1000) : Okd M (niD os) := .tup _ (by rw [List.length_map]; exact h) fun x hx => by
  obtain ⟨o, _, rfl⟩ := List.mem_map.mp hx
  exact okd_o o
theorem okd_is {M : Mem} {l : List Int} (h : l.length ≤ 1000) : Okd M (isD l) := .tup _ (by rw [List.length_map]; exact h) fun x hx => by
  obtain ⟨o, _, rfl⟩ := List.mem_map.mp hx
  exact .int _
/-- a list of things to ask about -/
structure Things (n g : Nat) (L : Nat) (M : Mem) (q : Nat) (xs : List D) : Prop where
  at_ : M[q]? = some (.lst xs)
  len : xs.length ≤ L
  ne : xs ≠ []
  ok : ∀ d ∈ xs, Okd M d
  qn : q ≠ n
  qg : q ≠ g
theorem Things.k2 {n g L q : Nat} {M M' : Mem} {xs : List D} (t : Things n g L M q xs) (k : K2 n g M M') (h : Chest M n g) (h' : Chest M' n g) : Things n g L M' q xs := ⟨k.get t.at_ t.qn t.qg, t.len, t.ne, fun d hd => (t.ok d hd).k2 k h h', t.qn, t.qg⟩
theorem okd_tup {M : Mem} {xs : List D} (h : ∀ x ∈ xs, Okd M x) (l : xs.length ≤ 1000) : Okd M (.tup xs) := .tup xs l h
theorem mem_set {α : Type} {xs : List α} {a : Nat} {d x : α} (h : x ∈ xs.set a d) : x ∈ xs ∨ x = d := List.mem_or_eq_of_mem_set h
theorem s_bent {k n g many : Nat} {ex : XP} {M : Mem} {ps : List (List Int)} {r : List (List (Option Int))} {P : Po} (hp : Chest M n g) (hr : ∀ os ∈ r, GoodN ps os) (h1 : 1 ≤ r.length) (h2 : r.length ≤ 100) (hpl : ps.length ≤ 100) (hps : PsOk many ps) (hm : many ≤ 100) (hm1 : 1 ≤ many) (go : ∀ q xs M', Things n g 500 M' q xs → K2 n g M M' → Chest M' n g → P (.ref q) M') : sem T (k + 2) 28 ex [.ref n, nD many, psD ps, roD r] M P := by
  refine u28 ?_
  unfold c_law_bent
  have hrl : (r.map niD).length = r.length := List.length_map _
  walk_at "dl_ev"
  refine W.addT (by rw [W.size_is]; have := cut_len (xs := r.map niD) (lo := some (-1)) (hi := none); omega) ?_
  walk_at "dl_ev"
  refine W.addT (by rw [W.size_is, hrl]; show _ + 1 ≤ _; omega) ?_
  walk_at "dl_ev"
  have hrow : ∀ (N : Mem) (x : D), x ∈ r.map niD → Okd N x := fun N x hx => by
    obtain ⟨os, ho, rfl⟩ := List.mem_map.mp hx
    exact okd_ni (by rw [(hr os ho).len]; omega)
  obtain ⟨q1, hq1⟩ : ∃ q, q = (M ++ [Cell.lst (r.map niD)]).length := ⟨_, rfl⟩
  obtain ⟨xs1, hx1⟩ : ∃ xs : List D, xs = [.ref M.length, .tup (cutD (r.map niD) none (some (-1))), .tup (r.map niD ++ cutD (r.map niD) (some (-1)) none), .tup (r.map niD).reverse, .non, .tup [.tup (r.map niD)], .tup (r.map niD ++ [.tup []])] := ⟨_, rfl⟩
  rw [← hq1, ← hx1]
  have ap1 : Apd M (M ++ [Cell.lst (r.map niD)] ++ [Cell.lst xs1]) := Apd.one.trans Apd.one
  have hp1 := hp.apd ap1
  have ln := hp.lt
  have t1 : Things n g 10 (M ++ [Cell.lst (r.map niD)] ++ [Cell.lst xs1]) q1 xs1 := by
    have hl := cut_len (xs := r.map niD) (lo := some (-1)) (hi := none)
    have hl2 := cut_len (xs := r.map niD) (lo := none) (hi := some (-1))
    rw [hrl] at hl hl2
    refine ⟨by rw [hq1]; exact get_new, by rw [hx1]; show (7 : Nat) ≤ 10; omega, by rw [hx1]; exact List.cons_ne_nil _ _, fun d hd => ?_, by rw [hq1, List.length_append]; omega, by rw [hq1, List.length_append]; omega⟩
    rw [hx1] at hd
    simp only [List.mem_cons, List.not_mem_nil, or_false] at hd
    rcases hd with e | e | e | e | e | e | e <;> subst e
    · exact .lst (xs := r.map niD) (get_app get_new)
    · exact okd_tup (fun x hx => hrow _ x (mem_cut hx)) (by omega)
    · refine okd_tup (fun x hx => ?_) (by rw [List.length_append, hrl]; omega)
      rcases List.mem_append.mp hx with z | z
      · exact hrow _ x z
      · exact hrow _ x (mem_cut z)
    · exact okd_tup (fun x hx => hrow _ x (List.mem_reverse.mp hx)) (by rw [List.length_reverse]; omega)
    · exact .non
    · refine okd_tup (fun x hx => ?_) (by show (1 : Nat) ≤ _; omega)
      have : x = .tup (r.map niD) := by simpa using hx
      subst this
      exact okd_tup (fun x hx => hrow _ x hx) (by omega)
    · refine okd_tup (fun x hx => ?_) (by rw [List.length_append]; show _ + 1 ≤ _; omega)
      rcases List.mem_append.mp hx with z | z
      · exact hrow _ x z
      · have : x = .tup [] := by simpa using z
        subst this
        exact okd_tup nofun (Nat.zero_le _)
  have k1 : K2 n g M (M ++ [Cell.lst (r.map niD)] ++ [Cell.lst xs1]) := Apd.k2 ap1
  clear hx1
  generalize M ++ [Cell.lst (r.map niD)] ++ [Cell.lst xs1] = M1 at *
  clear hq1
  refine s_of hp1 (by omega) (by omega) fun v M2 v0 v1 k2 hp2 => ?_
  obtain ⟨a, rfl⟩ : ∃ a : Nat, v = (a : Nat) := ⟨v.toNat, by omega⟩
  have t2 := t1.k2 k2 hp1 hp2
  have k2' := k1.trans k2
  obtain ⟨os, hos⟩ : ∃ os, r[a]? = some os := ⟨_, List.getElem?_eq_getElem (by omega)⟩
  have hosg := hr os (List.mem_of_getElem? hos)
  have hosl := hosg.len
  have hra : (r.map niD)[a]? = some (.tup (os.map oD)) := by rw [List.getElem?_map, hos]; rfl
  have hat : atI (r.map niD) (a : Nat) = some (.tup (os.map oD)) := W.at_nat hra
  walk_at "dl_ev"
  refine W.addT (by rw [List.length_map, W.size_is]; show _ + 1 ≤ _; omega) ?_
  walk_at "dl_ev"
  -- a night put into the rota
  have hput : ∀ (N : Mem) (d : D), Okd N d → Okd N (.tup ((r.map niD).set a d)) := fun N d hd => okd_tup (fun x hx => by
    rcases mem_set hx with z | z
    · exact hrow _ x z
    · rw [z]; exact hd) (by rw [List.length_set]; omega)
  have hal : a < (r.map niD).length := by omega
  refine cloop_pure (fun _ => true) (fun x => .tup ((r.map niD).set a x)) True.intro _ [] (fun x hx acc K hK => ?_) ?_
  · show gName 11 _ x [some (.ref n), some (nD many), some (psD ps), some (roD r), some (.ref q1), some (nD a), some (.tup (os.map oD)), none, none, none, none, none, none] _ _
    walk_at "dl_ev"
    unfold c_law_bent_e1
    walk_at "dl_ev"
    refine s_put hal (by omega) ?_
    exact hK
  · have hol : (os.map oD).length = os.length := List.length_map _
    have hoo : ∀ (N : Mem) (x : D), x ∈ os.map oD → Okd N x := fun N x hx => by
      obtain ⟨o, _, rfl⟩ := List.mem_map.mp hx
      exact okd_o o
    obtain ⟨N, hN⟩ : ∃ N, N = M2 ++ [Cell.lst (os.map oD)] := ⟨_, rfl⟩
    obtain ⟨ys, hys⟩ : ∃ ys : List D, ys = [D.ref M2.length, .tup (cutD (os.map oD) none (some (-1))), .tup (os.map oD ++ [.non]), .non, .tup (os.map oD).reverse, .tup []] := ⟨_, rfl⟩
    rw [← hN, ← hys, List.nil_append, List.filter_eq_self.mpr fun _ _ => rfl]
    have hyl : ys.length = 6 := by rw [hys]; rfl
    have hyo : ∀ y ∈ ys, Okd N y := fun y hy => by
      have hl2 := cut_len (xs := os.map oD) (lo := none) (hi := some (-1))
      rw [hol] at hl2
      rw [hys] at hy
      simp only [List.mem_cons, List.not_mem_nil, or_false] at hy
      rcases hy with e | e | e | e | e | e <;> subst e
      · rw [hN]; exact .lst (xs := os.map oD) get_new
      · exact okd_tup (fun x hx => hoo _ x (mem_cut hx)) (by omega)
      · refine okd_tup (fun x hx => ?_) (by rw [List.length_append]; show _ + 1 ≤ _; omega)
        rcases List.mem_append.mp hx with z | z
        · exact hoo _ x z
        · have : x = .non := by simpa using z
          subst this
          exact .non
      · exact .non
      · exact okd_tup (fun x hx => hoo _ x (List.mem_reverse.mp hx)) (by rw [List.length_reverse]; omega)
      · exact okd_tup nofun (Nat.zero_le _)
    have apN : Apd M2 N := by rw [hN]; exact Apd.one
    have tN : N[q1]? = some (.lst xs1) := apN.get t2.at_
    have hpN := hp2.apd apN
    have kN := k2'.trans (Apd.k2 apN)
    have okN1 : ∀ d ∈ xs1, Okd N d := fun d hd => (t2.ok d hd).apd apN
    clear hys hN
    walk_at "dl_ev"
    have ht1 := t1.len
    refine W.addL (xs := xs1) (ys := ys.map fun x => .tup ((r.map niD).set a x)) (get_app tN) get_new (by rw [List.length_map, W.size_is]; omega) ?_
    walk_at "dl_ev"
    obtain ⟨N2, hN2⟩ : ∃ N2, N2 = N ++ [Cell.lst (ys.map fun x => .tup ((r.map niD).set a x))] := ⟨_, rfl⟩
    rw [← hN2]
    have apN2 : Apd N N2 := by rw [hN2]; exact Apd.one
    have hlN : n < N.length ∧ g < N.length := hpN.lt
    have hlN2 : N2.length = N.length + 1 := by rw [hN2, List.length_append]; rfl
    have t3 : Things n g 16 (N2 ++ [Cell.lst (xs1 ++ ys.map fun x => .tup ((r.map niD).set a x))]) N2.length (xs1 ++ ys.map fun x => .tup ((r.map niD).set a x)) := by
      refine ⟨get_new, by rw [List.length_append, List.length_map]; omega, ?_, fun d hd => ?_, by omega, by omega⟩
      · intro z
        exact t1.ne (List.append_eq_nil_iff.mp z).1
      · rcases List.mem_append.mp hd with z | z
        · exact ((okN1 d z).apd apN2).apd Apd.one
        · obtain ⟨y, hy, rfl⟩ := List.mem_map.mp z
          exact (hput _ y (((hyo y hy).apd apN2).apd Apd.one))
    have kN3 := k2_app (c := Cell.lst (xs1 ++ ys.map fun x => D.tup ((r.map niD).set a x))) (kN.trans (Apd.k2 apN2))
    have hpN3 := (hpN.apd apN2).apd (Apd.one (c := Cell.lst (xs1 ++ ys.map fun x => D.tup ((r.map niD).set a x))))
    generalize xs1 ++ ys.map (fun x => D.tup ((r.map niD).set a x)) = xs3 at *
    obtain ⟨q3, hq3⟩ : ∃ q, q = N2.length := ⟨_, rfl⟩
    rw [← hq3] at t3 ⊢
    walk_at "dl_ev"
    generalize N2 ++ [Cell.lst xs3] = N4 at *
    clear hq3 hN2
    have fin : ∀ (q : Nat) (xs : List D) (M' : Mem), Things n g 500 M' q xs → K2 n g M M' → Chest M' n g → P (.ref q) M' := go
    rw [hol]
    refine W.dec (fun h => ?_) (fun h => ?_)
    · walk_at "dl_ev"
      rw [hol]
      refine s_of hpN3 (by omega) (by omega) fun v M5 v0 v1 k5 hp5 => ?_
      obtain ⟨kk, rfl⟩ : ∃ a : Nat, v = (a : Nat) := ⟨v.toNat, by omega⟩
      walk_at "dl_ev"
      rw [hol]
      refine s_of hp5 (by omega) (by omega) fun v M6 w0 w1 k6 hp6 => ?_
      obtain ⟨oo, rfl⟩ : ∃ a : Nat, v = (a : Nat) := ⟨v.toNat, by omega⟩
      have k46 := k5.trans k6
      have t6 := t3.k2 k46 hpN3 hp6
      have kM6 := kN3.trans k46
      obtain ⟨o, ho⟩ : ∃ o, os[kk]? = some o := ⟨_, List.getElem?_eq_getElem (by omega)⟩
      obtain ⟨o2, ho2⟩ : ∃ o, os[oo]? = some o := ⟨_, List.getElem?_eq_getElem (by omega)⟩
      obtain ⟨p, hpk⟩ : ∃ p, ps[kk]? = some p := ⟨_, List.getElem?_eq_getElem (by omega)⟩
      have ak : atI (os.map oD) (kk : Nat) = some (oD o) := W.at_nat (by rw [List.getElem?_map, ho]; rfl)
      have ak2 : atI (os.map oD) (oo : Nat) = some (oD o2) := W.at_nat (by rw [List.getElem?_map, ho2]; rfl)
      have apk : atI (ps.map pD) (kk : Nat) = some (.tup (p.map .int)) := W.at_nat (by rw [List.getElem?_map, hpk]; rfl)
      have hpp := hps p (List.mem_of_getElem? hpk)
      walk_at "dl_ev"
      refine ⟨⟨by omega, by rw [W.size_is]; omega⟩, ?_⟩
      rw [Int.toNat_natCast]
      refine cloop_rngf (fun i => !decide ((i : Int) ∈ p)) True.intro (fun i hi acc K hK => ?_) ?_
      · show gName 12 _ (nD i) [some (.ref n), some (nD many), some (psD ps), some (roD r), some (.ref q3), some (nD a), some (.tup (os.map oD)), some (nD kk), some (nD oo), none, none, none, none] _ _
        walk_at "dl_ev"
        unfold c_law_bent_t1
        walk_at "dl_ev"
        refine notinI rfl ?_
        walk_at "dl_ev"
        exact ite_K hK
      · obtain ⟨st, hst⟩ : ∃ st, st = ((List.range many).filter fun (i : Nat) => !decide ((i : Int) ∈ p)).map nD := ⟨_, rfl⟩
        have hstl : st.length ≤ 100 := by
          rw [hst, List.length_map]
          have := List.length_filter_le (fun (i : Nat) => !decide ((i : Int) ∈ p)) (List.range many)
          rw [List.length_range] at this
          omega
        have hsto : ∀ N, ∀ x ∈ st, Okd N x := fun N x hx => by
          rw [hst] at hx
          obtain ⟨i, _, rfl⟩ := List.mem_map.mp hx
          exact .int _
        rw [← hst]
        obtain ⟨q6, hq6⟩ : ∃ q, q = M6.length := ⟨_, rfl⟩
        have hS : (M6 ++ [Cell.lst st])[q6]? = some (.lst st) := by rw [hq6]; exact get_new
        have hp7 := hp6.apd (Apd.one (c := Cell.lst st))
        have k7 := k2_app (c := Cell.lst st) kM6
        have l6 := hp6.lt
        have h6n : q6 ≠ n ∧ q6 ≠ g := by omega
        have t7 := t6.k2 (k2_app (c := Cell.lst st) K2.refl) hp6 hp7
        rw [← hq6]
        generalize M6 ++ [Cell.lst st] = M7 at *
        walk_at "dl_ev"
        have str1 : ∀ {M : Mem} {P : Po}, (∀ z, P (.str z) M) → fStr [oD o] M P := fun {M P} h => by
          cases o with
          | none => exact h _
          | some i =>
            have := hpp.2 i (hosg.mem kk p i hpk ho)
            refine W.str_ ?_ (h _)
            have z : i.natAbs < 2 ^ 64 := by omega
            by_cases h2 : i.natAbs = 0
            · rw [h2]; decide
            · have := (Nat.log2_lt h2).mpr z
              omega
        have eq1 : ∀ {M : Mem} {P : Po}, (∀ b, P (.bl b) M) → opEq (oD o) (.int 1) M P := fun {M P} h => by
          cases o with
          | none => exact eqNI (h _)
          | some i => exact W.eq_ (h _)
        refine str1 fun z => ?_
        walk_at "dl_ev"
        refine s_of hp7 (by omega) (by omega) fun v M8 v0 v1 k8 hp8 => ?_
        have hS8 := k8.get hS h6n.1 h6n.2
        walk_at "dl_ev"
        refine eq1 fun b => ?_
        walk_at "dl_ev"
        obtain ⟨od, hod⟩ : ∃ od : List D, od = [.non, nD many, .int (-1), .bl true, .bl false, .str z, .tup [oD o], oD o2, .int v, .bl b] := ⟨_, rfl⟩
        have hodl : od.length = 10 := by rw [hod]; rfl
        have hodo : ∀ N, ∀ x ∈ od, Okd N x := fun N x hx => by
          rw [hod] at hx
          simp only [List.mem_cons, List.not_mem_nil, or_false] at hx
          rcases hx with e | e | e | e | e | e | e | e | e | e <;> subst e
          · exact .non
          · exact .int _
          · exact .int _
          · exact .bl _
          · exact .bl _
          · exact .str _
          · refine okd_tup (fun x hx => ?_) (by show (1 : Nat) ≤ _; omega)
            have : x = oD o := by simpa using hx
            rw [this]
            exact okd_o o
          · exact okd_o o2
          · exact .int _
          · exact .bl _
        rw [← hod]
        have t8 := t7.k2 k8 hp7 hp8
        have kM8 := k7.trans k8
        clear hod
        have c1 := cut_len (xs := st) (lo := none) (hi := some 1)
        have c2 := cut_len (xs := st) (lo := some (-1)) (hi := none)
        have c3 := cut_len (xs := p.map D.int) (lo := none) (hi := some 2)
        rw [List.length_map] at c3
        walk_at "dl_ev"
        obtain ⟨MB, hMB⟩ : ∃ N, N = M8 ++ [Cell.lst od] ++ [Cell.lst (cutD st none (some 1))] ++ [Cell.lst (od ++ cutD st none (some 1))] ++ [Cell.lst (cutD st (some (-1)) none)] ++ [Cell.lst (od ++ cutD st none (some 1) ++ cutD st (some (-1)) none)] ++ [Cell.lst (p.map .int)] ++ [Cell.lst (cutD (p.map .int) none (some 2))] := ⟨_, rfl⟩
        have aB : Apd M8 MB := by rw [hMB]; exact (((((Apd.one.trans Apd.one).trans Apd.one).trans Apd.one).trans Apd.one).trans Apd.one).trans Apd.one
        rw [← hMB]
        clear hMB
        obtain ⟨o3l, ho3l⟩ : ∃ l, l = od ++ cutD st none (some 1) ++ cutD st (some (-1)) none ++ cutD (p.map .int) none (some 2) := ⟨_, rfl⟩
        have ho3l1 : o3l.length ≤ 400 := by rw [ho3l, List.length_append, List.length_append, List.length_append]; omega
        have ho3o : ∀ N, ∀ x ∈ o3l, Okd N x := fun N x hx => by
          rw [ho3l] at hx
          rcases List.mem_append.mp hx with z | z
          · rcases List.mem_append.mp z with z | z
            · exact (List.mem_append.mp z).elim (hodo N x) fun z => hsto N x (mem_cut z)
            · exact hsto N x (mem_cut z)
          · obtain ⟨i, _, rfl⟩ := List.mem_map.mp (mem_cut z)
            exact .int _
        rw [← ho3l]
        clear ho3l
        have aC : Apd M8 (MB ++ [Cell.lst o3l]) := aB.trans Apd.one
        have hpC := hp8.apd aC
        have tC := t8.k2 (Apd.k2 aC) hp8 hpC
        have kC := kM8.trans (Apd.k2 aC)
        have hO : (MB ++ [Cell.lst o3l])[MB.length]? = some (.lst o3l) := get_new
        obtain ⟨q9, hq9⟩ : ∃ q, q = MB.length := ⟨_, rfl⟩
        rw [← hq9] at hO ⊢
        generalize MB ++ [Cell.lst o3l] = MC at *
        walk_at "dl_ev"
        have hkl : kk < (os.map oD).length := by rw [hol]; omega
        refine cloop_pure (fun _ => true) (fun x => .tup ((r.map niD).set a (.tup ((os.map oD).set kk x)))) hO _ [] (fun x hx acc K hK => ?_) ?_
        · show gName 11 _ x [some (.ref n), some (nD many), some (psD ps), some (roD r), some (.ref q3), some (nD a), some (.tup (os.map oD)), some (nD kk), some (nD oo), some (.ref q6), some (.ref q9), none, none] _ _
          walk_at "dl_ev"
          unfold c_law_bent_e2
          walk_at "dl_ev"
          refine s_put hkl (by rw [hol]; omega) ?_
          walk_at "dl_ev"
          refine s_put hal (by omega) ?_
          exact hK
        · rw [List.nil_append, List.filter_eq_self.mpr fun _ _ => rfl]
          walk_at "dl_ev"
          refine W.addL (xs := xs3) (ys := o3l.map fun x => .tup ((r.map niD).set a (.tup ((os.map oD).set kk x)))) (get_app tC.at_) get_new (by rw [List.length_map, W.size_is]; have := tC.len; omega) ?_
          walk_at "dl_ev"
          unfold c_law_bent_s1
          walk_at "dl_ev"
          obtain ⟨MD, hMD⟩ : ∃ N, N = MC ++ [Cell.lst (o3l.map fun x => .tup ((r.map niD).set a (.tup ((os.map oD).set kk x))))] := ⟨_, rfl⟩
          have aD : Apd MC MD := by rw [hMD]; exact Apd.one
          have lD : MC.length < MD.length := by rw [hMD, List.length_append]; show _ < _ + 1; omega
          rw [← hMD]
          clear hMD
          have lC := hpC.lt
          refine go MD.length _ _ ⟨get_new, by rw [List.length_append, List.length_map]; have := tC.len; omega, fun z => tC.ne (List.append_eq_nil_iff.mp z).1, fun d hd => ?_, by omega, by omega⟩ (kC.trans (Apd.k2 (aD.trans Apd.one))) (hpC.apd (aD.trans Apd.one))
          rcases List.mem_append.mp hd with z | z
          · exact (tC.ok d z).apd (aD.trans Apd.one)
          · obtain ⟨x, hx, rfl⟩ := List.mem_map.mp z
            refine hput _ _ (okd_tup (fun y hy => ?_) (by rw [List.length_set, hol]; omega))
            rcases mem_set hy with w | w
            · exact hoo _ y w
            · rw [w]; exact ho3o _ x hx
    · walk_at "dl_ev"
      unfold c_law_bent_s1
      walk_at "dl_ev"
      exact go q3 xs3 N4 ⟨t3.at_, Nat.le_trans t3.len (by omega), t3.ne, t3.ok, t3.qn, t3.qg⟩ kN3 hpN3

/-! ### lots asked about -/
theorem s_oneT {k n g : Nat} {ex : XP} {M : Mem} {xs : List D} {P : Po} (hp : Chest M n g) (h0 : xs ≠ []) (hs : xs.length ≤ 1000000) (go : ∀ (i : Nat) x M', xs[i]? = some x → K2 n g M M' → Chest M' n g → P x M') : sem T (k + 2) 16 ex [.ref n, .tup xs] M P := by
  have hlen : 0 < xs.length := List.length_pos_iff.mpr h0
  refine u16 ?_
  unfold c_law_one
  walk_at "dl_ev"
  refine s_of hp (by omega) (by omega) fun r M' r0 r1 kp hp' => ?_
  obtain ⟨i, rfl⟩ : ∃ i : Nat, r = (i : Nat) := ⟨r.toNat, by omega⟩
  have hi : i < xs.length := by omega
  refine W.ixT (W.at_nat (List.getElem?_eq_getElem hi)) ?_
  exact go i _ M' (List.getElem?_eq_getElem hi) kp hp'
/-- numbers in a row, for each an integer -/
theorem cloop_ints {g : D → Env → Mem → (Env → Mem → Prop) → Prop} {tt : Env → Mem → (Bool → Mem → Prop) → Prop} {e : Env → Mem → (D → Mem → Prop) → Prop} {grd : Mem → Prop} {ρ : Env} {P : List D → Mem → Prop} (R : Mem → Prop) (V : Nat → Int → Prop) {many : Nat} {M : Mem} (hg : ∀ M, R M → grd M) (r : R M)
    (st : ∀ i, i < many → ∀ (acc : List D) (M : Mem) (K : List D → Mem → Prop), R M → (∀ (v : Int) M', V i v → R M' → K (acc ++ [.int v]) M') → g (nD i) ρ M fun ρ2 M2 => tt ρ2 M2 fun b M3 => if b = true then e ρ2 M3 fun d M4 => K (acc ++ [d]) M4 else K acc M3)
    (fin : ∀ l : List Int, l.length = many → (∀ (i : Nat) v, l[i]? = some v → V i v) → ∀ M', R M' → P (l.map .int) M') : cloop g tt e grd ρ P (rngI 0 many) [] M := by
  refine cloop_inv (fun js acc M' => ∃ (i : Nat) (l : List Int), acc = l.map .int ∧ js = rngI i (many - i) ∧ i ≤ many ∧ l.length = i ∧ (∀ (j : Nat) v, l[j]? = some v → V j v) ∧ R M') ?_ ?_ _ _ _ ⟨0, [], rfl, rfl, Nat.zero_le _, rfl, fun j v h => by simp at h, r⟩
  · rintro x js acc M' ⟨i, l, rfl, f, hi, hl, hm, r⟩
    obtain ⟨h1, rfl, f2⟩ := rng_next f
    refine ⟨hg _ r, fun K hK => st i h1 _ M' K r fun v M2 hv r2 => ?_⟩
    refine hK _ _ ⟨i + 1, l ++ [v], by rw [List.map_append]; rfl, f2, h1, by rw [List.length_append, hl]; rfl, fun j w hj => ?_, r2⟩
    rcases Nat.lt_or_ge j l.length with z | z
    · rw [List.getElem?_append_left z] at hj
      exact hm j w hj
    · have hjl := (List.getElem?_eq_some_iff.mp hj).1
      rw [List.length_append] at hjl
      have hjl : j < l.length + 1 := hjl
      have : j = l.length := by omega
      subst this
      rw [List.getElem?_append_right (Nat.le_refl _), Nat.sub_self] at hj
      have : v = w := by simpa using hj
      rw [← this, hl]
      exact hv
  · rintro acc M' ⟨i, l, rfl, f, hi, hl, hm, r⟩
    have hge : many ≤ i := by
      rcases Nat.lt_or_ge i many with h | h
      · obtain ⟨w, hw⟩ : ∃ w, many - i = w + 1 := ⟨many - i - 1, by omega⟩
        rw [hw, rngC1] at f
        cases f
      · exact h
    exact ⟨hg _ r, fin l (by omega) hm M' r⟩
theorem s_lots {k n g many : Nat} {ex : XP} {M : Mem} {ps : List (List Int)} {ds : List Int} {nights : Int} {P : Po} (hp : Chest M n g) (hpl : ps.length ≤ 100) (hps : PsOk many ps) (hds : ds.length = ps.length) (hm : many ≤ 100) (hm1 : 1 ≤ many) (go : ∀ M', K2 n g M M' → Chest M' n g → P (.bl true) M') : sem T (k + 6) 30 ex [.ref n, nD many, psD ps, isD ds, .int nights] M P := by
  refine u30 ?_
  unfold c_law_lots
  walk_at "dl_ev"
  refine ⟨⟨by decide, by decide⟩, ?_⟩
  refine floop_inv (fun js ρ M' => ∃ (i : Nat) (o5 o6 o7 o8 o9 o10 o11 o12 : Option D), ρ = [some (.ref n), some (nD many), some (psD ps), some (isD ds), some (.int nights), o5, o6, o7, o8, o9, o10, o11, o12] ∧ js = rngI i (3 - i) ∧ i ≤ 3 ∧ K2 n g M M' ∧ Chest M' n g) ?_ ?_ _ _ _ ⟨0, none, none, none, none, none, none, none, none, rfl, rfl, by omega, K2.refl, hp⟩
  · rintro x js ρ M' ⟨i, o5, o6, o7, o8, o9, o10, o11, o12, rfl, f, hi, k1, hp1⟩
    obtain ⟨h1, rfl, f2⟩ := rng_next f
    refine ⟨True.intro, fun K hK => ?_⟩
    show gName 5 _ (nD i) [some (.ref n), some (nD many), some (psD ps), some (isD ds), some (.int nights), _, o6, o7, o8, o9, o10, o11, o12] M' _
    walk_at "dl_ev"
    unfold c_law_lots_b2
    walk_at "dl_ev"
    refine ⟨⟨by omega, by rw [W.size_is]; omega⟩, ?_⟩
    rw [Int.toNat_natCast]
    refine cloop_pick (fun M2 => K2 n g M' M2 ∧ Chest M2 n g) (fun _ _ => True.intro) ⟨K2.refl, hp1⟩ (fun j hj acc M2 K2' ⟨k4, hp4⟩ hK2 => ?_) fun l hl hlm M2 ⟨k2, hp2⟩ => ?_
    · show gName 11 _ (nD j) [some (.ref n), some (nD many), some (psD ps), some (isD ds), some (.int nights), some (nD i), o6, o7, o8, o9, o10, none, o12] _ _
      walk_at "dl_ev"
      unfold c_law_lots_t1
      walk_at "dl_ev"
      refine s_of hp4 (by decide) (by decide) fun v M5 v0 v1 k5 hp5 => ?_
      walk_at "dl_ev"
      exact ite_K (hK2 _ _ ⟨k4.trans k5, hp5⟩)
    · walk_at "dl_ev"
      refine ⟨⟨by omega, by rw [W.size_is]; omega⟩, ?_⟩
      rw [Int.toNat_natCast]
      refine cloop_ints (fun M3 => K2 n g M2 M3 ∧ Chest M3 n g) (fun _ _ => True) (fun _ _ => True.intro) ⟨K2.refl, hp2⟩ (fun j hj acc M3 K2' ⟨k4, hp4⟩ hK2 => ?_) fun ws hw _ M3 ⟨k3, hp3⟩ => ?_
      · show gName 11 _ (nD j) [some (.ref n), some (nD many), some (psD ps), some (isD ds), some (.int nights), some (nD i), some (isD l), o7, o8, o9, o10, none, o12] _ _
        walk_at "dl_ev"
        unfold c_law_lots_e1
        walk_at "dl_ev"
        have l4 := hp4.lt
        refine s_one (hp4.apd Apd.one) get_new (by omega) (by omega) (List.cons_ne_nil _ _) (by show (3 : Nat) ≤ _; omega) fun a x M5 hx k5 hp5 => ?_
        have hx : ∃ v, x = .int v := by
          have := List.mem_of_getElem? hx
          simp only [List.mem_cons, List.not_mem_nil, or_false] at this
          rcases this with z | z | z <;> exact ⟨_, z⟩
        obtain ⟨v, rfl⟩ := hx
        exact hK2 v _ True.intro ⟨(k2_app k4).trans k5, hp5⟩
      · have hlc : l.length ≤ 100 := by omega
        have k13 := (k1.trans k2).trans k3
        -- what is asked once the wishes stand
        have last : ∀ (E : DEnds) (q : Nat) (ws : List Int) (M4 : Mem) (o8 o9 o11 : Option D), (∀ ρ M, K ρ M → E.nx ρ M) → ws.length = many → M4[q]? = some (.lst (ws.map .int)) → K2 n g M M4 → Chest M4 n g → c_law_lots_s1 ⟨sem T (k + 5), fun _ => ex⟩ E [some (.ref n), some (nD many), some (psD ps), some (isD ds), some (.int nights), some (nD i), some (isD l), some (.ref q), o8, o9, o10, o11, o12] M4 := by
          intro E q ws M4 o8 o9 o11 hE hws hM4 k4 hp4
          unfold c_law_lots_s1
          have hll : (l.map D.int).length = l.length := List.length_map _
          have c1 := cut_len (xs := l.map D.int) (lo := none) (hi := some (-1))
          have c2 := cut_len (xs := l.map D.int) (lo := some (-1)) (hi := none)
          rw [hll] at c1 c2
          walk_at "dl_ev"
          refine W.addT (by rw [W.size_is, hll]; omega) ?_
          walk_at "dl_ev"
          refine ⟨⟨by decide, by decide, by omega, by omega, by omega⟩, ?_⟩
          rw [Int.sub_zero, Int.toNat_natCast, rng_ints]
          walk_at "dl_ev"
          refine W.addT (by rw [W.size_is, hll]; show _ + 1 ≤ _; omega) ?_
          walk_at "dl_ev"
          refine W.addT (by rw [W.size_is, hll]; show 1 + _ ≤ _; omega) ?_
          walk_at "dl_ev"
          refine W.addT (by rw [W.size_is, hll]; show _ + 1 ≤ _; omega) ?_
          walk_at "dl_ev"
          obtain ⟨M5, hM5⟩ : ∃ N, N = M4 ++ [Cell.lst (l.map D.int)] := ⟨_, rfl⟩
          have a5 : Apd M4 M5 := by rw [hM5]; exact Apd.one
          have l5 : M5.length = M4.length + 1 := by rw [hM5, List.length_append]; rfl
          have hq5 : M5[M4.length]? = some (.lst (l.map D.int)) := by rw [hM5]; exact get_new
          rw [← hM5]
          obtain ⟨ts, hts⟩ : ∃ ts : List D, ts = [isD l, .tup (l.map D.int).reverse, .ref M4.length, .tup (cutD (l.map D.int) none (some (-1))), .tup (l.map D.int ++ cutD (l.map D.int) (some (-1)) none), .tup (((List.range many).map fun (i : Nat) => (i : Int)).map .int), .tup [], .non, .tup (l.map D.int ++ [nD many]), .tup ([.int (-1)] ++ l.map D.int), .tup [.bl true], .tup (l.map D.int ++ [.non])] := ⟨_, rfl⟩
          have hol : ∀ (N : Mem) (x : D), x ∈ l.map D.int → Okd N x := fun N x hx => by
            obtain ⟨i, _, rfl⟩ := List.mem_map.mp hx
            exact .int _
          have one : ∀ (N : Mem) (x y : D), Okd N y → x ∈ [y] → Okd N x := fun N x y hy hx => by
            have : x = y := by simpa using hx
            rw [this]; exact hy
          have htl : ts.length = 12 := by rw [hts]; rfl
          have hto : ∀ d ∈ ts, Okd M5 d := fun d hd => by
            rw [hts] at hd
            simp only [List.mem_cons, List.not_mem_nil, or_false] at hd
            rcases hd with e | e | e | e | e | e | e | e | e | e | e | e <;> subst e
            · exact okd_is (by omega)
            · exact okd_tup (fun x hx => hol _ x (List.mem_reverse.mp hx)) (by rw [List.length_reverse]; omega)
            · exact .lst hq5
            · exact okd_tup (fun x hx => hol _ x (mem_cut hx)) (by omega)
            · refine okd_tup (fun x hx => ?_) (by rw [List.length_append, hll]; omega)
              exact (List.mem_append.mp hx).elim (hol _ x) fun z => hol _ x (mem_cut z)
            · exact okd_is (by rw [List.length_map, List.length_range]; omega)
            · exact okd_tup nofun (Nat.zero_le _)
            · exact .non
            · refine okd_tup (fun x hx => ?_) (by rw [List.length_append, hll]; show _ + 1 ≤ _; omega)
              exact (List.mem_append.mp hx).elim (hol _ x) (one _ x _ (.int _))
            · refine okd_tup (fun x hx => ?_) (by rw [List.length_append, hll]; show 1 + _ ≤ _; omega)
              exact (List.mem_append.mp hx).elim (one _ x _ (.int _)) (hol _ x)
            · exact okd_tup (fun x hx => one _ x _ (.bl _) hx) (by show (1 : Nat) ≤ _; omega)
            · refine okd_tup (fun x hx => ?_) (by rw [List.length_append, hll]; show _ + 1 ≤ _; omega)
              exact (List.mem_append.mp hx).elim (hol _ x) (one _ x _ .non)
          have htne : ts ≠ [] := fun z => by rw [z] at htl; cases htl
          rw [← hts]
          clear hts hM5
          have hp5 := hp4.apd a5
          have l4 := hp4.lt
          have a6 : Apd M5 (M5 ++ [Cell.lst ts]) := Apd.one
          have t6 : Things n g 12 (M5 ++ [Cell.lst ts]) M5.length ts := ⟨get_new, by omega, htne, fun d hd => (hto d hd).apd a6, by omega, by omega⟩
          have k6 := (k4.trans (Apd.k2 a5)).trans (Apd.k2 a6)
          have hp6 := hp5.apd a6
          obtain ⟨q5, hqq⟩ : ∃ q, q = M5.length := ⟨_, rfl⟩
          rw [← hqq] at t6 ⊢
          generalize M5 ++ [Cell.lst ts] = M6 at *
          walk_at "dl_ev"
          refine s_one hp6 t6.at_ t6.qn t6.qg t6.ne (by omega) fun j1 x M7 hx k7 hp7 => ?_
          have t7 := t6.k2 k7 hp6 hp7
          walk_at "dl_ev"
          refine s_one hp7 t7.at_ t7.qn t7.qg t7.ne (by omega) fun j2 y M8 hy k8 hp8 => ?_
          have t8 := t7.k2 k8 hp7 hp8
          walk_at "dl_ev"
          have a9 : Apd M8 (M8 ++ [Cell.lst [isD l, x, y]]) := Apd.one
          have hg9 : (M8 ++ [Cell.lst [isD l, x, y]])[M8.length]? = some (.lst [isD l, x, y]) := get_new
          have hp9 := hp8.apd a9
          have k9 := ((k6.trans k7).trans k8).trans (Apd.k2 a9)
          have ho9 : ∀ d ∈ [isD l, x, y], Okd (M8 ++ [Cell.lst [isD l, x, y]]) d := fun d hd => by
            simp only [List.mem_cons, List.not_mem_nil, or_false] at hd
            rcases hd with e | e | e
            · rw [e]; exact okd_is (by omega)
            · rw [e]; exact (t8.ok x (List.mem_of_getElem? hx)).apd a9
            · rw [e]; exact (t8.ok y (List.mem_of_getElem? hy)).apd a9
          generalize M8 ++ [Cell.lst [isD l, x, y]] = M9 at *
          refine floop_inv (fun js ρ M' => ∃ (o11 : Option D), ρ = [some (.ref n), some (nD many), some (psD ps), some (isD ds), some (.int nights), some (nD i), some (isD l), some (isD ws), o8, o9, some (.ref q5), o11, o12] ∧ (∀ d ∈ js, Okd M9 d) ∧ M' = M9) ?_ ?_ _ _ _ ⟨_, rfl, ho9, rfl⟩
          · rintro z js ρ M' ⟨o11, rfl, hz, rfl⟩
            have hzo := hz z List.mem_cons_self
            refine ⟨hg9, fun K2 hK2 => ?_⟩
            walk_at "dl_ev"
            unfold c_law_lots_b1
            walk_at "dl_ev"
            refine s_short hzo hws ?_
            walk_at "dl_ev"
            refine s_lawshort hzo hws (by omega) hds ?_
            walk_at "dl_ev"
            refine s_says ?_
            walk_at "dl_ev"
            exact hK2 _ _ ⟨_, rfl, fun d hd => hz d (List.mem_cons_of_mem _ hd), rfl⟩
          · rintro ρ M' ⟨o11, rfl, hz, rfl⟩
            exact ⟨hg9, hE _ _ <| hK _ _ ⟨i + 1, _, _, _, _, _, _, _, _, rfl, f2, h1, k9, hp9⟩⟩
        have hW : (M3 ++ [Cell.lst (ws.map D.int)])[M3.length]? = some (.lst (ws.map .int)) := get_new
        obtain ⟨q, hq⟩ : ∃ q, q = M3.length := ⟨_, rfl⟩
        have l3 := hp3.lt
        have k4 := k2_app (c := Cell.lst (ws.map D.int)) k13
        have hp4 := hp3.apd (Apd.one (c := Cell.lst (ws.map D.int)))
        have hqn : q ≠ n ∧ q ≠ g := by omega
        have hq0 : M.length ≤ q := by have := k13.len; omega
        rw [← hq] at hW
        have hw2 : (ws.map D.int).length = many := by rw [List.length_map, hw]
        walk_at "dl_ev"
        rw [← hq]
        generalize M3 ++ [Cell.lst (ws.map D.int)] = M4 at *
        refine W.dec (fun h => ?_) (fun h => ?_)
        · walk_at "dl_ev"
          refine s_oneT hp4 (fun z => by rw [z] at h; exact absurd h (by decide)) (by rw [List.length_map]; omega) fun j x M5 hx k5 hp5 => ?_
          rw [List.getElem?_map] at hx
          obtain ⟨v, hv, rfl⟩ := Option.map_eq_some_iff.mp hx
          have hv2 := hlm v (List.mem_of_getElem? hv)
          obtain ⟨a, rfl⟩ : ∃ a : Nat, v = (a : Nat) := ⟨v.toNat, by omega⟩
          have hM5 := k5.get hW hqn.1 hqn.2
          have ha : a < ws.length := by omega
          have hset : ∀ (v : Int), (ws.map D.int).set a (.int v) = (ws.set a v).map .int := fun v => by rw [List.map_set]
          walk_at "dl_ev"
          refine s_beside (by omega) hds ?_
          walk_at "dl_ev"
          have hM6 : (M5.set q (Cell.lst ((ws.map D.int).set a (.int 0))))[q]? = some (.lst ((ws.set a 0).map .int)) := by rw [get_set_self hM5, hset]
          refine cloop_map D.int (fun i => .int ((ws.set a 0).getD i.toNat 0)) True.intro l [] (fun i hi acc K hK => ?_) ?_
          · have hz := ws_get (ws := ws.set a 0) (hlm i hi).1 (by rw [List.length_set, hw]; exact (hlm i hi).2)
            show gName 12 _ (.int i) [_, _, _, _, _, _, _, _, _, _, _, _, none] _ _
            walk_at "dl_ev"
            unfold c_law_lots_e2
            walk_at "dl_ev"
            exact hK
          · have e : ([] ++ l.map fun (i : Int) => D.int ((ws.set a 0).getD i.toNat 0)) = (l.map fun i => (ws.set a 0).getD i.toNat 0).map D.int := by
              rw [List.map_map]
              rfl
            rw [e]
            refine W.csum ?_
            walk_at "dl_ev"
            refine andN1 ?_
            walk_at "dl_ev"
            refine W.setL hM6 (W.ix_lt (by rw [List.length_map, List.length_set]; exact ha)) ?_
            rw [List.set_set, List.map_set.symm, List.set_set]
            refine last _ q _ _ _ _ _ (fun _ _ h => h) (by rw [List.length_set, hw]) (get_set_self hM5) ((k4.trans k5).wr hq0) (hp5.wr hqn.1 hqn.2)
        · walk_at "dl_ev"
          exact last _ q ws M4 _ _ _ (fun _ _ h => h) hw hW k4 hp4
  · rintro ρ M' ⟨i, o5, o6, o7, o8, o9, o10, o11, o12, rfl, f, hi, k1, hp1⟩
    refine ⟨True.intro, ?_⟩
    unfold c_law_lots_s2
    walk_at "dl_ev"
    exact go M' k1 hp1

/-! ### _law_asked -/
theorem rng_end {n i : Nat} (f : ([] : List D) = rngI i (n - i)) : n ≤ i := by
  rcases Nat.lt_or_ge i n with h | h
  · obtain ⟨w, hw⟩ : ∃ w, n - i = w + 1 := ⟨n - i - 1, by omega⟩
    rw [hw, rngC1] at f
    cases f
  · exact h
theorem okR_good {ps : List (List Int)} {ws ds : List Int} {many m : Nat} {r : List (List (Option Int))} (hr : ∀ os ∈ r, GoodN ps os) (hm : r.length = m) : okR ps ws ds many (m : Int) (roD r) = okT r ws ds many := by
  unfold okR
  have e1 : isT (roD r) (m : Int) = true := by
    show decide ((((r.map niD).length : Nat) : Int) = m) = true
    rw [List.length_map, hm]
    exact decide_eq_true rfl
  have e2 : (r.map niD).all (okN ps) = true := List.all_eq_true.mpr fun x hx => by
    obtain ⟨os, ho, rfl⟩ := List.mem_map.mp hx
    exact okN_ni.mpr (hr os ho)
  have e3 : (r.map niD).map unN = r := by
    rw [List.map_map]
    conv => rhs; rw [← List.map_id r]
    exact List.map_congr_left fun os _ => unN_ni os
  rw [e1, Bool.true_and]
  show ((r.map niD).all (okN ps) && okT ((r.map niD).map unN) ws ds many) = _
  rw [e2, e3, Bool.true_and]
theorem keep_ok {r : List (List (Option Int))} {ds : List Int} (h : ∀ (j : Nat) v, ds[j]? = some v → (wk r j : Int) ≤ v) : keepB r ds = true := by
  unfold keepB
  refine List.all_eq_true.mpr fun j hj => decide_eq_true ?_
  have hj := List.mem_range.mp hj
  rw [List.getD_eq_getElem?_getD, List.getElem?_eq_getElem hj]
  exact h j _ (List.getElem?_eq_getElem hj)
theorem keep_bad {r : List (List (Option Int))} {ds : List Int} {j : Nat} {v : Int} (h : ds[j]? = some v) (h2 : v < wk r j) : keepB r ds = false := by
  unfold keepB
  refine List.all_eq_false.mpr ⟨j, List.mem_range.mpr (List.getElem?_eq_some_iff.mp h).1, ?_⟩
  rw [List.getD_eq_getElem?_getD, h, decide_eq_true_eq]
  show ¬ (wk r j : Int) ≤ v
  omega
theorem wish_ok {r : List (List (Option Int))} {ws : List Int} {many : Nat} (hw : ws.length = many) (h : ∀ (j : Nat) v, ws[j]? = some v → v ≤ (ct r j : Int)) : wishB r ws many = true := by
  unfold wishB
  refine List.all_eq_true.mpr fun j hj => decide_eq_true ?_
  have hj := List.mem_range.mp hj
  rw [List.getD_eq_getElem?_getD, List.getElem?_eq_getElem (by omega)]
  exact h j _ (List.getElem?_eq_getElem (by omega))
theorem wish_bad {r : List (List (Option Int))} {ws : List Int} {many j : Nat} {v : Int} (hj : j < many) (h : ws[j]? = some v) (h2 : (ct r j : Int) < v) : wishB r ws many = false := by
  unfold wishB
  refine List.all_eq_false.mpr ⟨j, List.mem_range.mpr hj, ?_⟩
  rw [List.getD_eq_getElem?_getD, h, decide_eq_true_eq]
  show ¬ v ≤ (ct r j : Int)
  omega
theorem set_ints {ws : List Int} {a : Nat} {v : Int} : (ws.map D.int).set a (.int v) = (ws.set a v).map .int := by rw [List.map_set]
theorem first_at {x : Int} : ∀ {l : List Int}, x ∈ l → ∃ j : Nat, l[j]? = some x ∧ ∀ m : Nat, m < j → l[m]? ≠ some x
  | a :: l, h => by
    by_cases e : a = x
    · exact ⟨0, by rw [e]; rfl, fun m hm => absurd hm (Nat.not_lt_zero _)⟩
    · obtain ⟨j, h1, h2⟩ := first_at ((List.mem_cons.mp h).resolve_left fun z => e z.symm)
      refine ⟨j + 1, by simpa using h1, fun m hm => ?_⟩
      cases m with
      | zero => simpa using e
      | succ m => simpa using h2 m (by omega)
theorem maxL_mem : ∀ {l : List Int}, l ≠ [] → maxL l ∈ l
  | [], h => (h rfl).elim
  | [x], _ => List.mem_cons_self
  | x :: y :: r, _ => by
    show max x (maxL (y :: r)) ∈ _
    rcases Int.le_total x (maxL (y :: r)) with h | h
    · rw [Int.max_eq_right h]
      exact List.mem_cons_of_mem _ (maxL_mem (List.cons_ne_nil _ _))
    · rw [Int.max_eq_left h]
      exact List.mem_cons_self
theorem maxL_app0 : ∀ {l : List Int}, 0 < maxL (l ++ [0]) → l ≠ []
  | [], h => by simp [maxL] at h
  | _ :: _, _ => List.cons_ne_nil _ _
theorem s_asked {k n g many m : Nat} {ex : XP} {M : Mem} {ps : List (List Int)} {P : Po} (hp : Chest M n g) (hpl : ps.length ≤ 100) (hps : PsOk many ps) (hm : many ≤ 100) (hm1 : 1 ≤ many) (hn1 : 1 ≤ m) (hn : m ≤ 100) (go : ∀ M', K2 n g M M' → Chest M' n g → P (.bl true) M') : sem T (k + 8) 29 ex [.ref n, nD many, psD ps, nD m] M P := by
  refine u29 ?_
  unfold c_law_asked
  walk_at "dl_ev"
  refine ⟨⟨by omega, by rw [W.size_is]; omega⟩, ?_⟩
  rw [Int.toNat_natCast]
  refine cloop_inv (fun js acc M' => ∃ (i : Nat) (r : List (List (Option Int))), acc = r.map niD ∧ js = rngI i (m - i) ∧ i ≤ m ∧ r.length = i ∧ (∀ os ∈ r, GoodN ps os) ∧ K2 n g M M' ∧ Chest M' n g) ?_ ?_ _ _ _ ⟨0, [], rfl, rfl, Nat.zero_le _, rfl, nofun, K2.refl, hp⟩
  · rintro x js acc M' ⟨i, r, rfl, f, hi, hl, hg, k1, hp1⟩
    obtain ⟨h1, rfl, f2⟩ := rng_next f
    refine ⟨True.intro, fun K hK => ?_⟩
    show gName 15 _ (nD i) [some (.ref n), some (nD many), some (psD ps), some (nD m), none, none, none, none, none, none, none, none, none, none, none, none, none] _ _
    walk_at "dl_ev"
    unfold c_law_asked_e1
    walk_at "dl_ev"
    refine s_night hp1 (by omega) (by omega) hps fun os M2 ho k2 hp2 => ?_
    refine hK _ _ ⟨i + 1, r ++ [os], by rw [List.map_append]; rfl, f2, h1, by rw [List.length_append, hl]; rfl, fun o h => ?_, k1.trans k2, hp2⟩
    rcases List.mem_append.mp h with z | z
    · exact hg o z
    · have : o = os := by simpa using z
      rw [this]; exact ho
  · rintro acc M1 ⟨i, r, rfl, f, hi, hl, hg, k1, hp1⟩
    have hrl : r.length = m := by have := rng_end f; omega
    refine ⟨True.intro, ?_⟩
    walk_at "dl_ev"
    have hin : ∀ os ∈ r, ∀ i, some i ∈ os → 0 ≤ i ∧ i < many := fun os ho i h => by
      obtain ⟨j, hj⟩ := List.mem_iff_getElem?.mp h
      have hjl := (List.getElem?_eq_some_iff.mp hj).1
      have hg := hg os ho
      exact (hps _ (List.getElem_mem (by rw [← hg.len]; exact hjl))).2 i (hg.mem j _ i (List.getElem?_eq_getElem (by rw [← hg.len]; exact hjl)) hj)
    refine s_watched (by omega) hin fun q5 M2 a2 hq5 hM2 => ?_
    walk_at "dl_ev"
    refine s_worked (fun os ho => (hg os ho).len) (by omega) ?_
    obtain ⟨q6, hq6⟩ : ∃ q, q = M2.length := ⟨_, rfl⟩
    have hM3 : (M2 ++ [Cell.lst ((List.range ps.length).map fun j => nD (wk r j))])[q6]? = some (.lst ((List.range ps.length).map fun j => nD (wk r j))) := by rw [hq6]; exact get_new
    have a3 : Apd M2 (M2 ++ [Cell.lst ((List.range ps.length).map fun j => nD (wk r j))]) := Apd.one
    have hC3 := a3.get hM2
    rw [← hq6]
    have l1 := hp1.lt
    have hl12 : M1.length ≤ M2.length := by obtain ⟨N, rfl⟩ := a2; simp
    have k3 := k1.trans (Apd.k2 (a2.trans a3))
    have hp3 := hp1.apd (a2.trans a3)
    generalize M2 ++ [Cell.lst ((List.range ps.length).map fun j => nD (wk r j))] = M3 at *
    have h5 : q5 ≠ n ∧ q5 ≠ g := by omega
    have h6 : q6 ≠ n ∧ q6 ≠ g := by omega
    walk_at "dl_ev"
    refine s_of hp3 (by decide) (by decide) fun sp M4 s0 s1 k34 hp4 => ?_
    have hC4 := k34.get hC3 h5.1 h5.2
    have hW4 := k34.get hM3 h6.1 h6.2
    have k4 := k3.trans k34
    walk_at "dl_ev"
    refine ⟨⟨by omega, by rw [List.length_map, W.size_is]; omega⟩, ?_⟩
    rw [Int.toNat_natCast, List.length_map]
    refine cloop_ints (fun N => K2 n g M4 N ∧ Chest N n g) (fun j v => (wk r j : Int) ≤ v) (fun _ _ => True.intro) ⟨K2.refl, hp4⟩ (fun j hj acc N K ⟨kN, hpN⟩ hK => ?_) fun ds hds hdv M5 ⟨k45, hp5⟩ => ?_
    · show gName 16 _ (nD j) [some (.ref n), some (nD many), some (psD ps), some (nD m), some (roD r), some (.ref q5), some (.ref q6), some (.int sp), none, none, none, none, none, none, none, none, none] _ _
      have hWN := kN.get hW4 h6.1 h6.2
      have hz : atI ((List.range ps.length).map fun j => nD (wk r j)) (j : Nat) = some (nD (wk r j)) := W.at_nat (by rw [List.getElem?_map, List.getElem?_range hj]; rfl)
      walk_at "dl_ev"
      unfold c_law_asked_e2
      walk_at "dl_ev"
      have lN := hpN.lt
      refine s_one (hpN.apd Apd.one) get_new (by omega) (by omega) (List.cons_ne_nil _ _) (by show (4 : Nat) ≤ _; omega) fun a x M6 hx k6 hp6 => ?_
      have hx : ∃ v, x = .int v ∧ 0 ≤ v := by
        have := List.mem_of_getElem? hx
        simp only [List.mem_cons, List.not_mem_nil, or_false] at this
        rcases this with z | z | z | z
        · exact ⟨_, z, by decide⟩
        · exact ⟨_, z, by decide⟩
        · exact ⟨_, z, s0⟩
        · exact ⟨_, z, by decide⟩
      obtain ⟨v, rfl, hv⟩ := hx
      walk_at "dl_ev"
      exact hK _ _ (by omega) ⟨(k2_app kN).trans k6, hp6⟩
    · have hC5 := k45.get hC4 h5.1 h5.2
      have hW5 := k45.get hW4 h6.1 h6.2
      have k5 := k4.trans k45
      walk_at "dl_ev"
      refine ⟨⟨by omega, by rw [W.size_is]; omega⟩, ?_⟩
      rw [Int.toNat_natCast]
      refine cloop_ints (fun N => K2 n g M5 N ∧ Chest N n g) (fun i v => v ≤ (ct r i : Int)) (fun _ _ => True.intro) ⟨K2.refl, hp5⟩ (fun j hj acc N K ⟨kN, hpN⟩ hK => ?_) fun ws hws hwv M6 ⟨k56, hp6⟩ => ?_
      · show gName 16 _ (nD j) [some (.ref n), some (nD many), some (psD ps), some (nD m), some (roD r), some (.ref q5), some (.ref q6), some (.int sp), some (isD ds), none, none, none, none, none, none, none, none] _ _
        have hCN := kN.get hC5 h5.1 h5.2
        have hz : atI (tal many r.flatten) (j : Nat) = some (nD (ct r j)) := W.at_nat (by rw [tal_get hj, ct_flat hg])
        walk_at "dl_ev"
        unfold c_law_asked_e3
        walk_at "dl_ev"
        have lN := hpN.lt
        refine s_one (hpN.apd Apd.one) get_new (by omega) (by omega) (List.cons_ne_nil _ _) (by show (3 : Nat) ≤ _; omega) fun a x M7 hx k6 hp6 => ?_
        have hx : ∃ v, x = .int v ∧ 0 ≤ v := by
          have := List.mem_of_getElem? hx
          simp only [List.mem_cons, List.not_mem_nil, or_false] at this
          rcases this with z | z | z
          · exact ⟨_, z, by decide⟩
          · exact ⟨_, z, by decide⟩
          · exact ⟨_, z, s0⟩
        obtain ⟨v, rfl, hv⟩ := hx
        walk_at "dl_ev"
        refine hK _ _ ?_ ⟨(k2_app kN).trans k6, hp6⟩
        split <;> omega
      · have hC6 := k56.get hC5 h5.1 h5.2
        have hW6 := k56.get hW5 h6.1 h6.2
        have k6 := k5.trans k56
        have hwk : wk r = wk r := rfl
        have okr : ∀ N, Okd N (roD r) := fun N => okd_tup (fun x hx => by
          obtain ⟨os, ho, rfl⟩ := List.mem_map.mp hx
          exact okd_ni (by rw [(hg os ho).len]; omega)) (by rw [List.length_map]; omega)
        walk_at "dl_ev"
        refine s_isrota (okr _) (by omega) hws hds fun M7 a7 => ?_
        have e1 : okR ps ws ds many (m : Int) (roD r) = true := by
          rw [okR_good hg hrl]
          unfold okT
          rw [keep_ok hdv, wish_ok hws hwv]
          rfl
        rw [e1]
        walk_at "dl_ev"
        refine s_says ?_
        walk_at "dl_ev"
        unfold c_law_asked_s5
        have hp7 := hp6.apd a7
        have k7 := k6.trans (Apd.k2 a7)
        have hC7 := a7.get hC6
        have hW7 := a7.get hW6
        walk_at "dl_ev"
        refine s_bent hp7 hg (by omega) (by omega) hpl hps hm hm1 fun q xs M8 t8 k78 hp8 => ?_
        have hC8 := k78.get hC7 h5.1 h5.2
        have hW8 := k78.get hW7 h6.1 h6.2
        have k8 := k7.trans k78
        have ht8 := t8.at_
        have hxl := t8.len
        walk_at "dl_ev"
        refine s_of hp8 (by have := List.length_pos_iff.mpr t8.ne; omega) (by omega) fun v M9 v0 v1 k89 hp9 => ?_
        obtain ⟨c, rfl⟩ : ∃ a : Nat, v = (a : Nat) := ⟨v.toNat, by omega⟩
        have t9 := t8.k2 k89 hp8 hp9
        have ht9 := t9.at_
        have hC9 := k89.get hC8 h5.1 h5.2
        have hW9 := k89.get hW8 h6.1 h6.2
        have k9 := k8.trans k89
        have c1 := cut_len (xs := xs) (lo := some (c : Int)) (hi := none)
        have c2 := cut_len (xs := xs) (lo := none) (hi := some (c : Int))
        walk_at "dl_ev"
        obtain ⟨MZ, hMZ⟩ : ∃ N, N = M9 ++ [Cell.lst (cutD xs (some (c : Int)) none)] ++ [Cell.lst (cutD xs none (some (c : Int)))] ++ [Cell.lst (cutD xs (some (c : Int)) none ++ cutD xs none (some (c : Int)))] := ⟨_, rfl⟩
        have aZ : Apd M9 MZ := by rw [hMZ]; exact (Apd.one.trans Apd.one).trans Apd.one
        rw [← hMZ]
        clear hMZ
        obtain ⟨zs, hzs⟩ : ∃ l, l = cutD (cutD xs (some (c : Int)) none ++ cutD xs none (some (c : Int))) none (some 9) := ⟨_, rfl⟩
        have hzm : ∀ d ∈ zs, d ∈ xs := fun d hd => by
          rw [hzs] at hd
          exact (List.mem_append.mp (mem_cut hd)).elim mem_cut mem_cut
        rw [← hzs]
        clear hzs c1 c2
        have aA : Apd M9 (MZ ++ [Cell.lst zs]) := aZ.trans Apd.one
        have hZ : (MZ ++ [Cell.lst zs])[MZ.length]? = some (.lst zs) := get_new
        have hzo : ∀ d ∈ zs, Okd (MZ ++ [Cell.lst zs]) d := fun d hd => (t9.ok d (hzm d hd)).apd aA
        have hpA := hp9.apd aA
        have hCA := aA.get hC9
        have hWA := aA.get hW9
        have kA := k9.trans (Apd.k2 aA)
        generalize MZ.length = qz at *
        generalize MZ ++ [Cell.lst zs] = MA at *
        clear aZ
        refine floop_inv (fun js ρ M' => ∃ (o12 : Option D), ρ = [some (.ref n), some (nD many), some (psD ps), some (nD m), some (roD r), some (.ref q5), some (.ref q6), some (.int sp), some (isD ds), some (isD ws), some (.ref q), some (nD c), o12, none, none, none, none] ∧ (∀ d ∈ js, Okd MA d) ∧ Apd MA M') ?_ ?_ _ _ _ ⟨_, rfl, hzo, Apd.refl⟩
        · rintro z js ρ M' ⟨o12, rfl, hz, aM⟩
          have hzo := (hz z List.mem_cons_self).apd aM
          refine ⟨aM.get hZ, fun K2 hK2 => ?_⟩
          walk_at "dl_ev"
          unfold c_law_asked_b1
          walk_at "dl_ev"
          refine s_isrota hzo (by omega) hws hds fun N1 b1 => ?_
          walk_at "dl_ev"
          refine s_lawrota (hzo.apd b1) (by omega) (by omega) hws hds (fun p hp => (hps p hp).2) fun N2 b2 => ?_
          walk_at "dl_ev"
          refine s_says ?_
          walk_at "dl_ev"
          exact hK2 _ _ ⟨_, rfl, fun d hd => hz d (List.mem_cons_of_mem _ hd), (aM.trans b1).trans b2⟩
        · rintro ρ M' ⟨o12, rfl, hz, aM⟩
          refine ⟨aM.get hZ, ?_⟩
          unfold c_law_asked_s4
          have hpB := hpA.apd aM
          have hCB := aM.get hCA
          have hWB := aM.get hWA
          have kB := kA.trans (Apd.k2 aM)
          clear hZ hzo
          generalize M' = MB at *
          walk_at "dl_ev"
          refine s_of hpB (by omega) (by omega) fun v MC v0 v1 kBC hpC => ?_
          obtain ⟨a, rfl⟩ : ∃ a : Nat, v = (a : Nat) := ⟨v.toNat, by omega⟩
          have hCC := kBC.get hCB h5.1 h5.2
          have hWC := kBC.get hWB h6.1 h6.2
          have kC := kB.trans kBC
          have ham : a < many := by omega
          have hta : atI (tal many r.flatten) (a : Nat) = some (nD (ct r a)) := W.at_nat (by rw [tal_get ham, ct_flat hg])
          have haw : a < (ws.map D.int).length := by rw [List.length_map]; omega
          walk_at "dl_ev"
          refine s_put haw (by rw [List.length_map]; omega) ?_
          rw [set_ints]
          walk_at "dl_ev"
          refine s_isrota (okr _) (by omega) (by rw [List.length_set, hws]) hds fun MD aD => ?_
          have e2 : okR ps (ws.set a ((ct r a : Int) + 1)) ds many (m : Int) (roD r) = false := by
            rw [okR_good hg hrl]
            unfold okT
            rw [wish_bad (j := a) (v := (ct r a : Int) + 1) ham (by rw [List.getElem?_set_self (by omega)]) (by omega), Bool.and_false]
          rw [e2]
          have hpD := hpC.apd aD
          have hWD := aD.get hWC
          have kD := kC.trans (Apd.k2 aD)
          walk_at "dl_ev"
          refine s_says ?_
          walk_at "dl_ev"
          unfold c_law_asked_s3
          have fin : ∀ (N : Mem) (o13 : Option D) (o14 : Option D), K2 n g M N → Chest N n g → c_law_asked_s2 ⟨sem T (k + 7), fun _ => ex⟩ ⟨fun _ M' => P .non M', P, fun _ _ => False, fun _ _ => False⟩ [some (.ref n), some (nD many), some (psD ps), some (nD m), some (roD r), some (.ref q5), some (.ref q6), some (.int sp), some (isD ds), some (isD ws), some (.ref q), some (nD c), o12, o13, o14, none, none] N := by
            intro N o13 o14 kN hpN
            unfold c_law_asked_s2
            walk_at "dl_ev"
            exact s_lots hpN hpl hps hds hm hm1 fun M' k' hp' => go M' (kN.trans k') hp'
          have hwl : ((List.range ps.length).map fun j => nD (wk r j)).length = ps.length := by rw [List.length_map, List.length_range]
          have hsz : ((List.range ps.length).map fun j => nD (wk r j)).length + [D.int 0].length ≤ sizeLine := by rw [hwl, W.size_is]; show _ + 1 ≤ _; omega
          obtain ⟨wl, hwl2⟩ : ∃ wl : List Int, wl = (List.range ps.length).map fun (j : Nat) => ((wk r j : Nat) : Int) := ⟨_, rfl⟩
          have hwl3 : ((List.range ps.length).map fun j => nD (wk r j)) = wl.map .int := by rw [hwl2, List.map_map]; rfl
          have hwg : ∀ j, j < ps.length → wl[j]? = some (wk r j : Int) := fun j hj => by rw [hwl2, List.getElem?_map, List.getElem?_range hj]; rfl
          have hwlen : wl.length = ps.length := by rw [hwl2, List.length_map, List.length_range]
          walk_at "dl_ev"
          obtain ⟨ME, hME⟩ : ∃ N, N = MD ++ [Cell.lst [D.int 0]] := ⟨_, rfl⟩
          have aE : Apd MD ME := by rw [hME]; exact Apd.one
          rw [← hME]
          clear hME
          refine maxR (l := wl ++ [0]) (by rw [get_new, hwl3, List.map_append]; rfl) (by rw [List.length_append]; exact Nat.succ_pos _) ?_
          have aF : Apd MD (ME ++ [Cell.lst (((List.range ps.length).map fun j => nD (wk r j)) ++ [D.int 0])]) := aE.trans Apd.one
          have hWF := aF.get hWD
          have hpF := hpD.apd aF
          have kF := kD.trans (Apd.k2 aF)
          generalize ME ++ [Cell.lst (((List.range ps.length).map fun j => nD (wk r j)) ++ [D.int 0])] = MF at *
          rw [hwl3] at hWF
          walk_at "dl_ev"
          refine W.dec (fun h => ?_) (fun h => ?_)
          · have hne := maxL_app0 h
            obtain ⟨j, hj1, hj2⟩ := first_at (maxL_mem hne)
            have hjl := (List.getElem?_eq_some_iff.mp hj1).1
            have hje : maxL wl = wk r j := by
              have := hwg j (by omega)
              rw [hj1] at this
              exact Option.some.inj this
            have hix : atI (wl.map D.int) (j : Nat) = some (nD (wk r j)) := W.at_nat (by rw [List.getElem?_map, hwg j (by omega)]; rfl)
            have hjd : j < (ds.map D.int).length := by rw [List.length_map]; omega
            walk_at "dl_ev"
            refine maxR hWF (List.length_pos_iff.mpr hne) ?_
            walk_at "dl_ev"
            refine idxL hWF hj1 hj2 ?_
            walk_at "dl_ev"
            refine s_put hjd (by rw [List.length_map]; omega) ?_
            rw [set_ints]
            walk_at "dl_ev"
            refine s_isrota (okr _) (by omega) hws (by rw [List.length_set, hds]) fun MG aG => ?_
            have e3 : okR ps ws (ds.set j ((wk r j : Int) - 1)) many (m : Int) (roD r) = false := by
              rw [okR_good hg hrl]
              unfold okT
              rw [keep_bad (j := j) (v := (wk r j : Int) - 1) (by rw [List.getElem?_set_self (by rw [hds]; omega)]) (by omega), Bool.false_and]
            rw [e3]
            have hWG := aG.get hWF
            walk_at "dl_ev"
            refine s_says ?_
            walk_at "dl_ev"
            unfold c_law_asked_s1
            walk_at "dl_ev"
            refine s_put hjd (by rw [List.length_map]; omega) ?_
            rw [set_ints]
            walk_at "dl_ev"
            refine s_isrota (okr _) (by omega) hws (by rw [List.length_set, hds]) fun MH aH => ?_
            have e4 : okR ps ws (ds.set j (wk r j : Int)) many (m : Int) (roD r) = true := by
              rw [okR_good hg hrl]
              unfold okT
              rw [keep_ok (fun i v hv => ?_), wish_ok hws hwv]
              · rfl
              · rw [List.getElem?_set] at hv
                split at hv
                · rename_i e
                  subst e
                  split at hv
                  · cases hv; exact Int.le_refl _
                  · cases hv
                · exact hdv i v hv
            rw [e4]
            walk_at "dl_ev"
            refine s_says ?_
            walk_at "dl_ev"
            exact fin _ _ _ (kF.trans (Apd.k2 (aG.trans aH))) (hpF.apd (aG.trans aH))
          · walk_at "dl_ev"
            exact fin _ _ _ kF hpF

/-! ### check_duties -/
theorem fsumT {l : List Int} {M : Mem} {P : Po} (h : P (.int l.sum) M) : fC cSum true [.tup (l.map .int)] M P := by
  unfold fC
  dsimp only [seqOf]
  exact ⟨.inl rfl, W.csum h⟩
def numB (d : D) : Bool := match d with
  | .int i => decide (0 ≤ i)
  | _ => false
theorem s_isnum {k : Nat} {ex : XP} {M : Mem} {d : D} {P : Po} (hd : Okd M d) (go : P (.bl (numB d)) M) : sem T (k + 2) 1 ex [d] M P := by
  refine u1 ?_
  unfold c_is_number
  walk_at "dl_ev"
  refine s_isint hd ?_
  cases hd with
  | int i =>
    have e1 : isI (.int i) = true := rfl
    rw [e1]
    walk_at "dl_ev"
    exact go
  | non => exact go
  | bl b => exact go
  | str z => exact go
  | tup xs l h => exact go
  | lst h => exact go
def faultD (m : Int) : D → Option Int
  | .tup xs => if (xs.length : Int) = m then (xs.findIdx? fun d => !numB d).map fun (i : Nat) => (i : Int) else some (-1)
  | _ => some (-1)
theorem s_wishes_bad {k : Nat} {ex : XP} {M : Mem} {d : D} {m i : Int} {P : Po} (hd : Okd M d) (hf : faultD m d = some i) (go : ex 7 [.int i] M) : sem T (k + 3) 7 ex [.int m, d] M P := by
  refine u7 ?_
  unfold c_check_wishes
  walk_at "dl_ev"
  refine s_istuple hd ?_
  walk_at "dl_ev"
  by_cases ht : isT d m = true
  · rw [ht]
    walk_at "dl_ev"
    cases d <;> first | (cases ht; done) | skip
    rename_i xs
    have hl : (xs.length : Int) = m := of_decide_eq_true ht
    unfold faultD at hf
    dsimp only at hf
    rw [if_pos hl] at hf
    obtain ⟨n, hn, rfl⟩ := Option.map_eq_some_iff.mp hf
    obtain ⟨hn1, hn2, hn3⟩ := List.findIdx?_eq_some_iff_getElem.mp hn
    obtain ⟨hlx, hx⟩ : xs.length ≤ 1000 ∧ ∀ x ∈ xs, Okd M x := by
      cases hd with
      | tup _ l h => exact ⟨l, h⟩
    unfold c_check_wishes_s2
    walk_at "dl_ev"
    refine floop_inv (fun zs ρ M' => ∃ (dn rs : List D) (o2 o3 : Option D), ρ = [some (.int m), some (.tup xs), o2, o3] ∧ dn ++ rs = xs ∧ zs = enumD dn.length rs ∧ dn.length ≤ n ∧ M' = M) ?_ ?_ _ _ _ ⟨[], xs, none, none, rfl, rfl, rfl, Nat.zero_le _, rfl⟩
    · rintro z zs ρ M' ⟨dn, rs, o2, o3, rfl, e1, e2, hz, rfl⟩
      cases rs with
      | nil => cases e2
      | cons q rs =>
        obtain ⟨e3, e4⟩ := List.cons.inj e2
        subst e3 e4
        refine ⟨True.intro, fun K hK => ?_⟩
        unfold c_check_wishes_g1
        walk_at "dl_ev"
        unfold c_check_wishes_b1
        walk_at "dl_ev"
        refine s_isnum (hx q (by rw [← e1]; simp)) ?_
        walk_at "dl_ev"
        have hq : xs[dn.length]'(by rw [← e1]; simp) = q := by
          simp [← e1]
        rcases Nat.lt_or_ge dn.length n with h | h
        · have z := hn3 dn.length h
          rw [hq] at z
          have z' : numB q = true := by simpa using z
          rw [z']
          walk_at "dl_ev"
          exact hK _ _ ⟨dn ++ [q], rs, _, _, rfl, by rw [List.append_assoc]; exact e1, by rw [List.length_append]; rfl, by rw [List.length_append]; exact h, rfl⟩
        · have en : dn.length = n := Nat.le_antisymm hz h
          have z := hn2
          have e5 : xs[n] = q := by simp only [← en]; exact hq
          rw [e5] at z
          have z' : numB q = false := by simpa using z
          rw [z']
          walk_at "dl_ev"
          rw [en]
          exact ⟨rfl, go⟩
    · rintro ρ M' ⟨dn, rs, o2, o3, rfl, e1, e2, hz, rfl⟩
      cases rs with
      | nil =>
        rw [List.append_nil] at e1
        rw [e1] at hz
        omega
      | cons q rs => cases e2
  · have ht : isT d m = false := by simpa using ht
    rw [ht]
    walk_at "dl_ev"
    have e : faultD m d = some (-1) := by
      cases d <;> first | rfl | skip
      unfold faultD
      dsimp only
      rw [if_neg (of_decide_eq_false ht)]
    rw [e] at hf
    cases hf
    exact ⟨rfl, go⟩
theorem s_duties_bad {k : Nat} {ex : XP} {M : Mem} {ps : List (List Int)} {d : D} {i : Int} {P : Po} (hd : Okd M d) (hf : faultD (ps.length : Nat) d = some i) (go : ex 7 [.int i] M) : sem T (k + 4) 8 ex [psD ps, d] M P := by
  refine u8 ?_
  unfold c_check_duties
  walk_at "dl_ev"
  exact s_wishes_bad hd (by rw [List.length_map]; exact hf) go
theorem s_duties_ok {k : Nat} {ex : XP} {M : Mem} {ps : List (List Int)} {ds : List Int} {P : Po} (h : ∀ v ∈ ds, 0 ≤ v) (hl : ds.length = ps.length) (hl2 : ds.length ≤ 1000) (go : P (.int ds.sum) M) : sem T (k + 4) 8 ex [psD ps, isD ds] M P := by
  refine u8 ?_
  unfold c_check_duties
  walk_at "dl_ev"
  refine u7 ?_
  unfold c_check_wishes
  walk_at "dl_ev"
  refine s_istuple (okd_is hl2) ?_
  have ht : isT (isD ds) (((ps.map pD).length : Nat) : Int) = true := decide_eq_true (by rw [List.length_map, List.length_map, hl])
  rw [ht]
  walk_at "dl_ev"
  unfold c_check_wishes_s2
  walk_at "dl_ev"
  refine floop_inv (fun zs ρ M' => ∃ (dn rs : List Int) (o2 o3 : Option D), ρ = [some (.int ((ps.map pD).length : Nat)), some (isD ds), o2, o3] ∧ dn ++ rs = ds ∧ zs = enumD dn.length (rs.map .int) ∧ M' = M) ?_ ?_ _ _ _ ⟨[], ds, none, none, rfl, rfl, rfl, rfl⟩
  · rintro z zs ρ M' ⟨dn, rs, o2, o3, rfl, e1, e2, rfl⟩
    cases rs with
    | nil => cases e2
    | cons q rs =>
      obtain ⟨e3, e4⟩ := List.cons.inj e2
      subst e3 e4
      refine ⟨True.intro, fun K hK => ?_⟩
      unfold c_check_wishes_g1
      walk_at "dl_ev"
      unfold c_check_wishes_b1
      walk_at "dl_ev"
      refine s_isnum (.int q) ?_
      rw [show numB (.int q) = true from decide_eq_true (h q (by rw [← e1]; simp))]
      walk_at "dl_ev"
      exact hK _ _ ⟨dn ++ [q], rs, _, _, rfl, by rw [List.append_assoc]; exact e1, by rw [List.length_append]; rfl, rfl⟩
  · rintro ρ M' ⟨dn, rs, o2, o3, rfl, e1, e2, rfl⟩
    refine ⟨True.intro, ?_⟩
    unfold c_check_wishes_s1
    walk_at "dl_ev"
    refine fsumT ?_
    exact go
theorem s_wholeH {k : Nat} {ex : XP} {M : Mem} {i : Int} {P : Po} (go : P (.bl true) M) : sem T (k + 1) 34 ex [.int i] M P := by
  refine hu0 ?_
  unfold c_law_whole_H
  walk_at "dl_ev"
  exact go
theorem fl_at {C : Ctx} {ρ : Env} {M : Mem} {P : Po} {d : D} (h : P d M) : eFl G 7 "at" [d] C ρ M P := by
  have e : eFl G 7 "at" [d] C ρ M P = P d M := by kernel_rfl
  rw [e]
  exact h
theorem s_refused {k : Nat} {ex : XP} {M : Mem} {ps : List (List Int)} {d : D} {i : Int} {P : Po} (hd : Okd M d) (hf : faultD (ps.length : Nat) d = some i) (go : P (.bl true) M) : sem T (k + 5) 31 ex [psD ps, d, .int i] M P := by
  refine u31 ?_
  unfold c_law_refused
  walk_at "dl_ev"
  unfold sTry c_law_refused_y1
  walk_at "dl_ev"
  refine s_duties_bad hd hf ⟨by kernel_rfl, ?_⟩
  unfold clD
  rw [if_pos (by kernel_rfl)]
  refine ⟨by show 3 < 4; omega, ?_⟩
  dsimp only [List.set]
  unfold c_law_refused_x1
  have e1 : (([5, 4, 6, 8, 3, 2] : List Nat).any fun k => supB G 7 k) = false := by kernel_rfl
  have e2 : supB G 7 1 = true := by kernel_rfl
  have e3 : supB G 7 0 = true := by kernel_rfl
  rw [e1, e2, e3]
  walk_at "dl_ev"
  refine fl_at ?_
  walk_at "dl_ev"
  refine s_wholeH ?_
  walk_at "dl_ev"
  refine fl_at ?_
  walk_at "dl_ev"
  rw [decide_eq_true rfl]
  exact go

/-! ### _law_checked -/
theorem rep_flat {m : Nat} {d : D} : (List.replicate m [d]).flatten = List.replicate m d := by
  induction m with
  | zero => rfl
  | succ n ih => rw [List.replicate_succ, List.flatten_cons, ih, List.replicate_succ]; rfl
theorem fault_len {m : Nat} {xs : List D} (h : xs.length ≠ m) : faultD (m : Int) (.tup xs) = some (-1) := by
  unfold faultD
  dsimp only
  rw [if_neg (by omega)]
theorem s_checked {k n g many : Nat} {ex : XP} {M : Mem} {P : Po} (hp : Chest M n g) (hm : many ≤ 100) (go : ∀ M', K2 n g M M' → Chest M' n g → P (.bl true) M') : sem T (k + 8) 32 ex [.ref n, nD many] M P := by
  refine u32 ?_
  unfold c_law_checked
  walk_at "dl_ev"
  refine s_posts (most := 7) hp (by omega) (by omega) fun ps M1 hps hpl k1 hp1 => ?_
  walk_at "dl_ev"
  refine cloop_inv (fun js acc M' => ∃ (l : List Int), acc = l.map .int ∧ l.length + js.length = ps.length ∧ (∀ v ∈ l, 0 ≤ v) ∧ K2 n g M1 M' ∧ Chest M' n g) ?_ ?_ _ _ _ ⟨[], rfl, by rw [List.length_map]; exact Nat.zero_add _, nofun, K2.refl, hp1⟩
  · rintro x js acc M' ⟨l, rfl, hl, hv, k2, hp2⟩
    refine ⟨True.intro, fun K hK => ?_⟩
    show gName 11 _ x [some (.ref n), some (nD many), some (psD ps), none, none, none, none, none, none, none, none, none] _ _
    walk_at "dl_ev"
    unfold c_law_checked_e1
    walk_at "dl_ev"
    refine s_of hp2 (by decide) (by decide) fun w M3 w0 w1 k3 hp3 => ?_
    have l3 := hp3.lt
    walk_at "dl_ev"
    refine s_one (hp3.apd Apd.one) get_new (by omega) (by omega) (List.cons_ne_nil _ _) (by show (4 : Nat) ≤ _; omega) fun a x M5 hx k5 hp5 => ?_
    have hx : ∃ v, x = .int v ∧ 0 ≤ v := by
      have := List.mem_of_getElem? hx
      simp only [List.mem_cons, List.not_mem_nil, or_false] at this
      rcases this with z | z | z | z
      · exact ⟨_, z, by decide⟩
      · exact ⟨_, z, by decide⟩
      · exact ⟨_, z, w0⟩
      · exact ⟨_, z, by decide⟩
    obtain ⟨v, rfl, hv0⟩ := hx
    refine hK _ _ ⟨l ++ [v], by rw [List.map_append]; rfl, by rw [List.length_append]; rw [List.length_cons] at hl; show l.length + 1 + _ = _; omega, fun u hu => ?_, (k2_app (k2.trans k3)).trans k5, hp5⟩
    rcases List.mem_append.mp hu with z | z
    · exact hv u z
    · have : u = v := by simpa using z
      rw [this]; exact hv0
  · rintro acc M2 ⟨ds, rfl, hl, hv, k12, hp2⟩
    have hds : ds.length = ps.length := hl
    refine ⟨True.intro, ?_⟩
    have l2 := hp2.lt
    obtain ⟨q3, hq3⟩ : ∃ q, q = M2.length := ⟨_, rfl⟩
    have hD : (M2 ++ [Cell.lst (ds.map D.int)])[q3]? = some (.lst (ds.map .int)) := by rw [hq3]; exact get_new
    have hp3 := hp2.apd (Apd.one (c := Cell.lst (ds.map D.int)))
    have k3 := k2_app (c := Cell.lst (ds.map D.int)) (k1.trans k12)
    have h3 : q3 ≠ n ∧ q3 ≠ g := by omega
    rw [← hq3]
    have hdl : (ds.map D.int).length = ds.length := List.length_map _
    generalize M2 ++ [Cell.lst (ds.map D.int)] = M3 at *
    walk_at "dl_ev"
    refine s_duties_ok hv hds (by omega) ?_
    walk_at "dl_ev"
    refine s_wholeD (.int _) ?_
    rw [show isI (.int ds.sum) = true from rfl]
    walk_at "dl_ev"
    refine W.fsum hD ?_
    walk_at "dl_ev"
    rw [decide_eq_true rfl]
    walk_at "dl_ev"
    unfold c_law_checked_s4
    walk_at "dl_ev"
    refine W.repT ⟨by omega, by omega, by decide⟩ ?_
    rw [hdl, Int.toNat_natCast, rep_flat]
    refine W.addT (by rw [List.length_replicate, W.size_is]; show 1 + _ ≤ _; omega) ?_
    walk_at "dl_ev"
    obtain ⟨M4, hM4⟩ : ∃ N, N = M3 ++ [Cell.lst [D.int 0]] ++ [Cell.lst (ds.map D.int ++ [D.int 0])] := ⟨_, rfl⟩
    have a4 : Apd M3 M4 := by rw [hM4]; exact Apd.one.trans Apd.one
    rw [← hM4]
    clear hM4
    have hD4 := a4.get hD
    have hp4 := hp3.apd a4
    have k4 := k3.trans (Apd.k2 a4)
    have oint : ∀ (N : Mem) (x : D), x ∈ ds.map D.int → Okd N x := fun N x hx => by
      obtain ⟨v, _, rfl⟩ := List.mem_map.mp hx
      exact .int _
    have one : ∀ (N : Mem) (x y : D), Okd N y → x ∈ [y] → Okd N x := fun N x y hy hx => by
      have : x = y := by simpa using hx
      rw [this]; exact hy
    obtain ⟨ts, hts⟩ : ∃ l, l = [D.ref q3, .tup (ds.map D.int ++ [.int 0]), .non, .str (Str.ofString "12"), .int 0, .tup ([isD ds] ++ List.replicate ds.length (.int 0))] := ⟨_, rfl⟩
    have htl : ts.length = 6 := by rw [hts]; rfl
    have hto : ∀ d ∈ ts, Okd M4 d ∧ faultD (ps.length : Nat) d = some (-1) := fun d hd => by
      rw [hts] at hd
      simp only [List.mem_cons, List.not_mem_nil, or_false] at hd
      rcases hd with e | e | e | e | e | e <;> subst e
      · exact ⟨.lst hD4, rfl⟩
      · refine ⟨okd_tup (fun x hx => (List.mem_append.mp hx).elim (oint _ x) (one _ x _ (.int _))) (by rw [List.length_append, hdl]; show _ + 1 ≤ _; omega), fault_len (by rw [List.length_append, hdl]; show _ + 1 ≠ _; omega)⟩
      · exact ⟨.non, rfl⟩
      · exact ⟨.str _, rfl⟩
      · exact ⟨.int _, rfl⟩
      · refine ⟨okd_tup (fun x hx => (List.mem_append.mp hx).elim (one _ x _ (okd_is (by omega))) fun z => ?_) (by rw [List.length_append, List.length_replicate]; show 1 + _ ≤ _; omega), fault_len (by rw [List.length_append, List.length_replicate]; show 1 + _ ≠ _; omega)⟩
        rw [List.eq_of_mem_replicate z]
        exact .int _
    rw [← hts]
    clear hts
    have l4 := hp4.lt
    obtain ⟨q5, hq5⟩ : ∃ q, q = M4.length := ⟨_, rfl⟩
    have t5 : Things n g 20 (M4 ++ [Cell.lst ts]) q5 ts := ⟨by rw [hq5]; exact get_new, by omega, (fun z => by rw [z] at htl; cases htl), fun d hd => (hto d hd).1.apd Apd.one, by omega, by omega⟩
    have hp5 := hp4.apd (Apd.one (c := Cell.lst ts))
    have k5 := k2_app (c := Cell.lst ts) k4
    have hD5 := get_app (N := [Cell.lst ts]) hD4
    rw [← hq5]
    have hq3l : q3 < M4.length := lt_of_get hD4
    have h4l : (M4 ++ [Cell.lst ts]).length = M4.length + 1 := by rw [List.length_append]; rfl
    generalize M4 ++ [Cell.lst ts] = M5 at *
    have rest : ∀ (E : DEnds) (q : Nat) (xs : List D) (N : Mem) (o6 o7 o8 o9 o10 o11 : Option D), (∀ M', K2 n g M M' → Chest M' n g → E.rt (.bl true) M') → Things n g 20 N q xs → (∀ d ∈ xs, faultD (ps.length : Nat) d = some (-1)) → K2 n g M N → Chest N n g → c_law_checked_s3 ⟨sem T (k + 7), fun _ => ex⟩ E [some (.ref n), some (nD many), some (psD ps), some (.ref q3), some (.int ds.sum), some (.ref q), o6, o7, o8, o9, o10, o11] N := by
      intro E q xs N o6 o7 o8 o9 o10 o11 hE t hf kN hpN
      unfold c_law_checked_s3
      have ht := t.at_
      have hxl := t.len
      walk_at "dl_ev"
      refine s_of hpN (by have := List.length_pos_iff.mpr t.ne; omega) (by omega) fun v N2 v0 v1 k2 hp2 => ?_
      obtain ⟨c, rfl⟩ : ∃ a : Nat, v = (a : Nat) := ⟨v.toNat, by omega⟩
      have t2 := t.k2 k2 hpN hp2
      have ht2 := t2.at_
      walk_at "dl_ev"
      obtain ⟨zs, hzs⟩ : ∃ l, l = cutD (xs ++ xs) (some (c : Int)) (some ((c : Int) + 3)) := ⟨_, rfl⟩
      have hzm : ∀ d ∈ zs, d ∈ xs := fun d hd => by
        rw [hzs] at hd
        exact (List.mem_append.mp (mem_cut hd)).elim id id
      rw [← hzs]
      have aZ : Apd N2 (N2 ++ [Cell.lst (xs ++ xs)] ++ [Cell.lst zs]) := Apd.one.trans Apd.one
      have hZ : (N2 ++ [Cell.lst (xs ++ xs)] ++ [Cell.lst zs])[(N2 ++ [Cell.lst (xs ++ xs)]).length]? = some (.lst zs) := get_new
      have kZ := (kN.trans k2).trans (Apd.k2 aZ)
      have hpZ := hp2.apd aZ
      have hzo : ∀ d ∈ zs, Okd (N2 ++ [Cell.lst (xs ++ xs)] ++ [Cell.lst zs]) d ∧ faultD (ps.length : Nat) d = some (-1) := fun d hd => ⟨(t2.ok d (hzm d hd)).apd aZ, hf d (hzm d hd)⟩
      clear hzs hzm
      generalize (N2 ++ [Cell.lst (xs ++ xs)]).length = qz at *
      generalize N2 ++ [Cell.lst (xs ++ xs)] ++ [Cell.lst zs] = NZ at *
      refine floop_inv (fun js ρ M' => ∃ (o10 : Option D), ρ = [some (.ref n), some (nD many), some (psD ps), some (.ref q3), some (.int ds.sum), some (.ref q), o6, o7, o8, some (nD c), o10, o11] ∧ (∀ d ∈ js, Okd NZ d ∧ faultD (ps.length : Nat) d = some (-1)) ∧ M' = NZ) ?_ ?_ _ _ _ ⟨_, rfl, hzo, rfl⟩
      · rintro z js ρ M' ⟨o10, rfl, hz, rfl⟩
        refine ⟨hZ, fun K2 hK2 => ?_⟩
        walk_at "dl_ev"
        unfold c_law_checked_b2
        walk_at "dl_ev"
        refine s_refused (hz z List.mem_cons_self).1 (hz z List.mem_cons_self).2 ?_
        walk_at "dl_ev"
        exact hK2 _ _ ⟨_, rfl, fun d hd => hz d (List.mem_cons_of_mem _ hd), rfl⟩
      · rintro ρ M' ⟨o10, rfl, hz, rfl⟩
        refine ⟨hZ, ?_⟩
        unfold c_law_checked_s2
        walk_at "dl_ev"
        exact hE _ kZ hpZ
    walk_at "dl_ev"
    rw [hdl]
    refine W.dec (fun h => ?_) (fun h => ?_)
    · walk_at "dl_ev"
      refine W.addL (xs := ts) (ys := [.tup (cutD (ds.map .int) (some 1) none), .tup []]) (get_app (get_app t5.at_)) get_new (by rw [htl, W.size_is]; show (6 : Nat) + 2 ≤ _; omega) ?_
      obtain ⟨M6, hM6⟩ : ∃ N, N = M5 ++ [Cell.lst (cutD (ds.map D.int) (some 1) none)] ++ [Cell.lst [D.tup (cutD (ds.map D.int) (some 1) none), D.tup []]] := ⟨_, rfl⟩
      have a6 : Apd M5 M6 := by rw [hM6]; exact Apd.one.trans Apd.one
      have l6 : M5.length < M6.length := by rw [hM6, List.length_append, List.length_append]; show _ < _ + 1 + 1; omega
      rw [← hM6]
      clear hM6
      obtain ⟨t2s, ht2s⟩ : ∃ l, l = ts ++ [D.tup (cutD (ds.map D.int) (some 1) none), .tup []] := ⟨_, rfl⟩
      have hcut : cutD (ds.map D.int) (some 1) none = (ds.map D.int).drop 1 := cut_from (m := 1)
      have h2o : ∀ d ∈ t2s, Okd M6 d ∧ faultD (ps.length : Nat) d = some (-1) := fun d hd => by
        rw [ht2s] at hd
        rcases List.mem_append.mp hd with z | z
        · exact ⟨(t5.ok d z).apd a6, (hto d z).2⟩
        · simp only [List.mem_cons, List.not_mem_nil, or_false] at z
          rcases z with e | e <;> subst e
          · rw [hcut]
            exact ⟨okd_tup (fun x hx => oint _ x (List.mem_of_mem_drop hx)) (by rw [List.length_drop, hdl]; omega), fault_len (by rw [List.length_drop, hdl]; omega)⟩
          · exact ⟨okd_tup nofun (Nat.zero_le _), fault_len (by show 0 ≠ _; omega)⟩
      have h2l : t2s.length = 8 := by rw [ht2s, List.length_append, htl]; rfl
      rw [← ht2s]
      clear ht2s
      have l5 := hp5.lt
      have t7 : Things n g 20 (M6 ++ [Cell.lst t2s]) M6.length t2s := ⟨get_new, by omega, (fun z => by rw [z] at h2l; cases h2l), fun d hd => (h2o d hd).1.apd Apd.one, by omega, by omega⟩
      have hp7 := (hp5.apd a6).apd (Apd.one (c := Cell.lst t2s))
      have k7 := k5.trans (Apd.k2 (a6.trans (Apd.one (c := Cell.lst t2s))))
      have hD7 := (a6.trans (Apd.one (c := Cell.lst t2s))).get hD5
      generalize M6.length = q7 at *
      generalize M6 ++ [Cell.lst t2s] = M7 at *
      clear l6 a6
      walk_at "dl_ev"
      rw [hdl]
      refine s_of hp7 (by omega) (by omega) fun v M8 v0 v1 k78 hp8 => ?_
      obtain ⟨a, rfl⟩ : ∃ a : Nat, v = (a : Nat) := ⟨v.toNat, by omega⟩
      have t8 := t7.k2 k78 hp7 hp8
      have hD8 := k78.get hD7 h3.1 h3.2
      have k8 := k7.trans k78
      have l8 := hp8.lt
      have had : a < ds.length := by omega
      walk_at "dl_ev"
      obtain ⟨q9, hq9⟩ : ∃ q, q = M8.length := ⟨_, rfl⟩
      rw [← hq9]
      have hB9 : (M8 ++ [Cell.lst (ds.map D.int)])[q9]? = some (.lst (ds.map .int)) := by rw [hq9]; exact get_new
      have a9 : Apd M8 (M8 ++ [Cell.lst (ds.map D.int)]) := Apd.one
      have hq9n : q9 ≠ n ∧ q9 ≠ g ∧ q9 ≠ q3 ∧ q9 ≠ q7 := by
        have h1 := lt_of_get hD8
        have h2 := lt_of_get t8.at_
        omega
      have hMl : M.length ≤ q9 := by have := k8.len; omega
      have t9 := t8.k2 (Apd.k2 a9) hp8 (hp8.apd a9)
      have hp9 := hp8.apd a9
      have hD9 := a9.get hD8
      have k9 := k8.trans (Apd.k2 a9)
      have l9 := hp9.lt
      generalize M8 ++ [Cell.lst (ds.map D.int)] = M9 at *
      refine s_one ((hp9.apd Apd.one).apd Apd.one) get_new (by rw [List.length_append]; omega) (by rw [List.length_append]; omega) (List.cons_ne_nil _ _) (by show (8 : Nat) ≤ _; omega) fun j x MA hx kA hpA => ?_
      have k9A : K2 n g M9 MA := (Apd.k2 (Apd.one.trans Apd.one)).trans kA
      have hxo : Okd MA x ∧ numB x = false := by
        have hz : (M9 ++ [Cell.lst [D.int 0]])[M9.length]? = some (.lst [.int 0]) := get_new
        have := List.mem_of_getElem? hx
        simp only [List.mem_cons, List.not_mem_nil, or_false] at this
        rcases this with z | z | z | z | z | z | z | z <;> subst z
        · exact ⟨.int _, rfl⟩
        · exact ⟨.bl _, rfl⟩
        · exact ⟨.bl _, rfl⟩
        · exact ⟨.non, rfl⟩
        · exact ⟨.str _, rfl⟩
        · exact ⟨okd_tup (fun x hx => one _ x _ (.int _) hx) (by show (1 : Nat) ≤ _; omega), rfl⟩
        · exact ⟨.lst (kA.get (get_app hz) (by omega) (by omega)), rfl⟩
        · exact ⟨.int _, by decide⟩
      clear hx
      have tA := t9.k2 k9A hp9 hpA
      have hDA := k9A.get hD9 h3.1 h3.2
      have hBA := k9A.get hB9 hq9n.1 hq9n.2.1
      have kMA := k9.trans k9A
      clear kA
      walk_at "dl_ev"
      refine ⟨⟨by rw [W.size_is]; omega, by omega, by omega, by omega, by omega⟩, ?_⟩
      have e0 : (((ds.map D.int).length : Int) - ((a : Int) + 1)).toNat = ds.length - (a + 1) := by rw [hdl]; omega
      have e1 : ((a : Int) + 1) = ((a + 1 : Nat) : Int) := rfl
      rw [e0, e1]
      refine floop_inv (fun js ρ M2 => ∃ (i : Nat) (ys : List D) (o8 : Option D), ρ = [some (.ref n), some (nD many), some (psD ps), some (.ref q3), some (.int ds.sum), some (.ref q7), some (nD a), some (.ref q9), o8, none, none, none] ∧ js = rngI (i : Nat) (ds.length - i) ∧ i ≤ ds.length ∧ a < i ∧ K2 n g M M2 ∧ Chest M2 n g ∧ M2[q9]? = some (.lst ys) ∧ ys.length = ds.length ∧ ys[a]? = some x ∧ (∀ j, j < a → ∃ y, ys[j]? = some y ∧ numB y = true) ∧ (∀ y ∈ ys, Okd M2 y) ∧ M2[q3]? = some (.lst (ds.map .int)) ∧ Things n g 20 M2 q7 t2s) ?_ ?_ _ _ _
        ⟨a + 1, (ds.map D.int).set a x, none, rfl, rfl, by omega, Nat.lt_succ_self _, kMA.wr hMl, hpA.wr hq9n.1 hq9n.2.1, get_set_self hBA, by rw [List.length_set, hdl], List.getElem?_set_self (by rw [hdl]; exact had), fun j hj => ?_, fun y hy => ?_, by rw [get_set_ne hq9n.2.2.1]; exact hDA, ⟨by rw [get_set_ne hq9n.2.2.2]; exact tA.at_, tA.len, tA.ne, fun d hd => (tA.ok d hd).set hBA, tA.qn, tA.qg⟩⟩
      · rintro z js ρ M2 ⟨i, ys, o8, rfl, e, hi, hti, k2, hp2, hb, hyl, hyt, hyj, hyo, hD2, t2⟩
        obtain ⟨h1, rfl, e2⟩ := rng_next e
        refine ⟨True.intro, fun K2' hK2 => ?_⟩
        have api : atI (ds.map D.int) (i : Nat) = some (.int ds[i]) := W.at_nat (by rw [List.getElem?_map, List.getElem?_eq_getElem h1]; rfl)
        have ln2 := hp2.lt
        unfold c_law_checked_b1
        walk_at "dl_ev"
        refine s_one (q := M2.length) (hp2.apd Apd.one) get_new (by omega) (by omega) (List.cons_ne_nil _ _) (by show (3 : Nat) ≤ 1000000; omega) fun _ y M3 hy k3 hp3 => ?_
        have k23 : K2 n g M2 M3 := (Apd.k2 Apd.one).trans k3
        have hyok : Okd M3 y := by
          have hy' := List.mem_of_getElem? hy
          simp only [List.mem_cons, List.not_mem_nil, or_false] at hy'
          rcases hy' with e | e | e <;> subst e <;> constructor
        have hb3 := k23.get hb hq9n.1 hq9n.2.1
        have t3 := t2.k2 k23 hp2 hp3
        have hD3 := k23.get hD2 h3.1 h3.2
        refine W.setL hb3 (W.ix_lt (by rw [hyl]; exact h1)) ?_
        refine hK2 _ _ ⟨i + 1, ys.set i y, _, rfl, e2, h1, by omega, (k2.trans k23).wr hMl, hp3.wr hq9n.1 hq9n.2.1, get_set_self hb3, by rw [List.length_set, hyl], by rw [List.getElem?_set_ne (by omega)]; exact hyt, fun j hj => by rw [List.getElem?_set_ne (by omega)]; exact hyj j hj, fun w hw => ?_, by rw [get_set_ne hq9n.2.2.1]; exact hD3, ⟨by rw [get_set_ne hq9n.2.2.2]; exact t3.at_, t3.len, t3.ne, fun d hd => (t3.ok d hd).set hb3, t3.qn, t3.qg⟩⟩
        rcases mem_set hw with z | z
        · exact ((hyo w z).k2 k23 hp2 hp3).set hb3
        · rw [z]; exact hyok.set hb3
      · rintro ρ M2 ⟨i, ys, o8, rfl, e, hi, hti, k2, hp2, hb, hyl, hyt, hyj, hyo, hD2, t2⟩
        refine ⟨True.intro, ?_⟩
        unfold c_law_checked_s1
        walk_at "dl_ev"
        refine s_refused (okd_tup hyo (by omega)) ?_ ?_
        · unfold faultD
          dsimp only
          rw [if_pos (by rw [hyl, hds])]
          have ef : ys.findIdx? (fun d => !numB d) = some a := by
            rw [List.findIdx?_eq_some_iff_getElem]
            obtain ⟨z1, z2⟩ := List.getElem?_eq_some_iff.mp hyt
            refine ⟨z1, by rw [z2, hxo.2]; rfl, fun j hj => ?_⟩
            obtain ⟨p, z3, z4⟩ := hyj j hj
            have z5 := (List.getElem?_eq_some_iff.mp z3).2
            rw [z5, z4]
            decide
          rw [ef]
          rfl
        · walk_at "dl_ev"
          exact rest _ q7 t2s M2 _ _ _ _ _ _ (fun M' k' hp' => go M' k' hp') t2 (fun d hd => (h2o d hd).2) k2 hp2
      · refine ⟨.int ds[j], ?_, decide_eq_true (hv _ (List.getElem_mem _))⟩
        rw [List.getElem?_set_ne (by omega), List.getElem?_map, List.getElem?_eq_getElem (by omega)]
        rfl
      · rcases mem_set hy with z | z
        · exact oint _ y z
        · rw [z]; exact hxo.1.set hBA
    · walk_at "dl_ev"
      exact rest _ q5 ts M5 _ _ _ _ _ _ (fun M' k' hp' => go M' k' hp') t5 (fun d hd => (hto d hd).2) k5 hp5

/-! ### the law -/
theorem law_data (ns : List Int) (hs : Small ns) : sem T 40 33 (fun _ _ _ => False) [.rol (ns.map D.int)] [] fun r _ => r = .bl true := by
  refine u33 ?_
  unfold c_law
  walk_at "dl_ev"
  refine s_chest hs fun n g M hp => ?_
  walk_at "dl_ev"
  refine s_of hp (by decide) (by decide) fun w M1 w0 w1 k1 hp1 => ?_
  walk_at "dl_ev"
  refine ⟨⟨by decide, by decide⟩, ?_⟩
  generalize decide (w = 4) = wide
  refine floop_inv (fun js ρ M' => ∃ o3 o4 o5 : Option D, ρ = [some (.rol (ns.map .int)), some (.ref n), some (.bl wide), o3, o4, o5, none, none, none, none, none] ∧ Chest M' n g) ?_ ?_ _ _ _ ⟨_, _, _, rfl, hp1⟩
  · rintro x js ρ M' ⟨o3, o4, o5, rfl, hp⟩
    refine ⟨True.intro, fun K hK => ?_⟩
    unfold c_law_b1
    walk_at "dl_ev"
    refine s_of hp (by decide) (by decide) fun r M2 r0 r1 k2 hp2 => ?_
    obtain ⟨m, rfl⟩ : ∃ m : Nat, r = (m : Nat) := ⟨r.toNat, by omega⟩
    have e : (1 : Int) + ((m : Nat) : Int) = ((1 + m : Nat) : Int) := by omega
    walk_at "dl_ev"
    rw [e]
    refine s_posts (most := 5) hp2 (by omega) (by omega) fun ps M3 hps hpl k3 hp3 => ?_
    walk_at "dl_ev"
    refine s_of hp3 (by decide) (by decide) fun r M4 r0 r1 k4 hp4 => ?_
    obtain ⟨c, rfl⟩ : ∃ m : Nat, r = (m : Nat) := ⟨r.toNat, by omega⟩
    have e : (1 : Int) + ((c : Nat) : Int) = ((1 + c : Nat) : Int) := by omega
    walk_at "dl_ev"
    rw [e]
    refine s_asked hp4 (by omega) hps (by omega) (by omega) (by omega) (by omega) fun M5 k5 hp5 => ?_
    walk_at "dl_ev"
    refine s_checked hp5 (by omega) fun M6 k6 hp6 => ?_
    walk_at "dl_ev"
    exact hK _ _ ⟨_, _, _, rfl, hp6⟩
  · rintro ρ M' ⟨o3, o4, o5, rfl, hp⟩
    refine ⟨True.intro, ?_⟩
    unfold c_law_s7
    walk_at "dl_ev"
    have oI : ∀ (N : Mem) (o : List (Option Int)), o.length ≤ 1000 → Okd N (niD o) := fun N o h => okd_ni h
    have two : ∀ (N : Mem) (a b : List (Option Int)), a.length ≤ 1000 → b.length ≤ 1000 → Okd N (.tup [niD a, niD b]) := fun N a b ha hb => okd_tup (fun x hx => by
      simp only [List.mem_cons, List.not_mem_nil, or_false] at hx
      rcases hx with e | e <;> subst e
      · exact okd_ni ha
      · exact okd_ni hb) (by show (2 : Nat) ≤ _; omega)
    refine s_isrota (ps := [[0, 1], [1, 2]]) (ws := [1, 2, 1]) (ds := [2, 2]) (many := 3) (m := 2) (d := .tup [niD [some 0, some 1], niD [some 1, some 2]]) (two _ _ _ (by decide) (by decide)) (by decide) rfl rfl fun M2 a2 => ?_
    rw [show okR [[0, 1], [1, 2]] [1, 2, 1] [2, 2] 3 2 (.tup [niD [some 0, some 1], niD [some 1, some 2]]) = true by decide +kernel]
    walk_at "dl_ev"
    refine s_says ?_
    walk_at "dl_ev"
    unfold c_law_s6
    walk_at "dl_ev"
    refine s_isrota (ps := [[0, 1], [1, 2]]) (ws := [2, 1, 1]) (ds := [2, 2]) (many := 3) (m := 2) (d := .tup [niD [some 0, some 1], niD [some 1, some 2]]) (two _ _ _ (by decide) (by decide)) (by decide) rfl rfl fun M3 a3 => ?_
    rw [show okR [[0, 1], [1, 2]] [2, 1, 1] [2, 2] 3 2 (.tup [niD [some 0, some 1], niD [some 1, some 2]]) = false by decide +kernel]
    walk_at "dl_ev"
    refine s_says ?_
    walk_at "dl_ev"
    unfold c_law_s5
    walk_at "dl_ev"
    have hp3 := hp.apd (a2.trans a3)
    refine s_of hp3 (by decide) (by decide) fun v M4 v0 v1 k4 hp4 => ?_
    walk_at "dl_ev"
    obtain ⟨o, ho, hon⟩ : ∃ o : List (Option Int), atI [.tup [.int 1, .non], .tup [.int 1, .int 1], .tup [.non, .int 1]] v = some (niD o) ∧ o.length ≤ 1000 ∧ okR [[0, 1], [1, 2]] [0, 0, 0] [2, 2] 3 2 (.tup [niD o, niD [some 1, some 1]]) = false := by
      rcases (by omega : v = 0 ∨ v = 1) with e | e <;> subst e
      · exact ⟨[some 1, none], rfl, by decide, by decide +kernel⟩
      · exact ⟨[some 1, some 1], rfl, by decide, by decide +kernel⟩
    walk_at "dl_ev"
    refine s_isrota (ps := [[0, 1], [1, 2]]) (ws := [0, 0, 0]) (ds := [2, 2]) (many := 3) (m := 2) (d := .tup [niD o, niD [some 1, some 1]]) (two _ _ _ hon.1 (by decide)) (by decide) rfl rfl fun M5 a5 => ?_
    rw [hon.2]
    walk_at "dl_ev"
    refine s_says ?_
    walk_at "dl_ev"
    unfold c_law_s4
    walk_at "dl_ev"
    refine s_isrota (ps := [[0, 1], [1, 2]]) (ws := [0, 0, 0]) (ds := [2, 2]) (many := 3) (m := 2) (d := .tup [niD [some 1, none], niD [none, some 1]]) (two _ _ _ (by decide) (by decide)) (by decide) rfl rfl fun M6 a6 => ?_
    rw [show okR [[0, 1], [1, 2]] [0, 0, 0] [2, 2] 3 2 (.tup [niD [some 1, none], niD [none, some 1]]) = true by decide +kernel]
    walk_at "dl_ev"
    refine s_says ?_
    walk_at "dl_ev"
    unfold c_law_s3
    walk_at "dl_ev"
    refine s_short (ps := [[0, 1], [1, 2]]) (ws := [2, 2, 1]) (ds := [2, 2]) (many := 3) (d := isD [0, 1, 2]) (okd_is (by decide)) rfl ?_
    rw [show shortB 3 [[0, 1], [1, 2]] [2, 2, 1] [2, 2] 2 (isD [0, 1, 2]) = true by decide +kernel]
    walk_at "dl_ev"
    refine s_says ?_
    walk_at "dl_ev"
    unfold c_law_s2
    have hp6 := hp4.apd (a5.trans a6)
    cases wide with
    | false =>
      walk_at "dl_ev"
      rfl
    | true =>
      walk_at "dl_ev"
      unfold c_law_s1
      walk_at "dl_ev"
      refine ⟨⟨by decide, by rw [W.size_is]; decide⟩, ?_⟩
      rw [show Int.toNat 8 = 8 from rfl]
      refine cloop_inv (fun js acc M' => ∃ (i : Nat) (ps : List (List Int)), acc = ps.map pD ∧ js = rngI i (8 - i) ∧ i ≤ 8 ∧ ps.length = i ∧ PsOk 10 ps ∧ Chest M' n g) ?_ ?_ _ _ _ ⟨0, [], rfl, rfl, by omega, rfl, nofun, hp6⟩
      · rintro x js acc M7 ⟨i, ps, rfl, f, hi, hl, hps, hp7⟩
        obtain ⟨h1, rfl, f2⟩ := rng_next f
        refine ⟨True.intro, fun K hK => ?_⟩
        show gName 9 _ (nD i) [some (.rol (ns.map .int)), some (.ref n), some (.bl true), o3, o4, _, _, some (.int v), _, none, none] _ _
        walk_at "dl_ev"
        unfold c_law_e1
        walk_at "dl_ev"
        refine ⟨⟨by decide, by rw [W.size_is]; decide⟩, ?_⟩
        rw [show Int.toNat 10 = 10 from rfl]
        refine cloop_pick (many := 10) (fun M' => Chest M' n g) (fun _ _ => True.intro) hp7 (fun j hj acc M8 K2' hp8 hK2 => ?_) fun l hl2 hlm M8 hp8 => ?_
        · show gName 10 _ (nD j) [some (.rol (ns.map .int)), some (.ref n), some (.bl true), o3, o4, _, _, some (.int v), _, some (nD i), none] _ _
          walk_at "dl_ev"
          unfold c_law_t1
          walk_at "dl_ev"
          refine s_of hp8 (by decide) (by decide) fun v M9 v0 v1 k5 hp9 => ?_
          walk_at "dl_ev"
          exact ite_K (hK2 _ _ hp9)
        · exact hK _ _ ⟨i + 1, ps ++ [l], by rw [List.map_append]; rfl, f2, h1, by rw [List.length_append, hl]; rfl, hps.add ⟨hl2, hlm⟩, hp8⟩
      · rintro acc M7 ⟨i, ps, rfl, f, hi, hl, hps, hp7⟩
        refine ⟨True.intro, ?_⟩
        walk_at "dl_ev"
        exact s_asked (many := 10) (m := 10) hp7 (by omega) hps (by omega) (by omega) (by omega) (by omega) fun M8 k8 hp8 => rfl

/-! ### the head -/
def names0 : List PySem.Str := ["__name__", "WatchError", "DataError", "CallError", "BadRule", "BadLot", "BadLosses", "BadLottery", "BadWishes", "BadNight", "is_integer", "is_number", "integer_within", "is_tuple", "lot_fault", "is_lot", "common_of", "check_wishes", "check_duties", "is_duty_night", "keeps_duties", "is_duty_rota", "room_for", "is_short_things", "_law_chest", "_law_of", "_law_one", "_law_posts", "_law_night", "_law_watched"]
def names1 : List PySem.Str := ["_law_worked", "_law_whole", "_law_is_rota", "_law_is_lot", "_law_beside", "_law_is_short", "_law_says", "_law_put", "_law_bent", "_law_asked", "_law_lots", "_law_refused", "_law_checked"]
def names : List PySem.Str := names0 ++ names1
abbrev Rw : PySem.W.OpenRow := PySem.W.OpenLaw.row PySem.Challenge.rw_watchedbylot_k20_duties_judged
abbrev hk : PySem.W.Hook := hookM 5 G ds cis
theorem run (w : World) : HandSHeadRun.RunEq Rw (PySem.W.view Rw.prog [48]) hk (obM 5 G ds cis) 4000 names w := by
  intro os
  kernel_rfl
end DL.Law
open PySem PySem.W PySem.Calls PyProof.Rows in
theorem PySem.Challenge.cw_watchedbylot_k20_duties_judged_holds : PySem.Challenge.rw_watchedbylot_k20_duties_judged.Holds := by
  w_on; o_law
  refine HandSHeadRun.head_any (r := OpenLaw.row PySem.Challenge.rw_watchedbylot_k20_duties_judged) (q := view (OpenLaw.row PySem.Challenge.rw_watchedbylot_k20_duties_judged).prog [48]) (H := DL.Law.hk) (ob := DL.obM 5 DL.Law.G DL.Law.ds DL.Law.cis) (M := 4000) (loose := DL.Law.names)
    (d := HandSHeadRun.topDef (OpenLaw.row PySem.Challenge.rw_watchedbylot_k20_duties_judged).prog 48) (kwd := []) (fun s => DL.obM_eq s) (by kernel_rfl) (fun s => by kernel_rfl) DL.Law.run (by kernel_rfl) (by kernel_rfl) (by kernel_rfl) (by rfl) (by first | assumption | decide +kernel) (by decide +kernel) ⟨rfl, rfl, rfl, rfl, rfl, by decide +kernel⟩ ?hw ?hc
  case hw => w_witness2
  case hc => exact DL.walk_M (k := 40) (i := 33) (x := "script") (e := DL.Law.d33) rfl (by kernel_rfl) ⟨rfl, by decide, by decide⟩ DL.Law.tab rfl (by kernel_rfl) rfl DL.Law.law_data

