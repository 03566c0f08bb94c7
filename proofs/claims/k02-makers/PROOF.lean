import PyProof.Rows.All
import HandS.ForMost
import HandS.Flow
import HandS.Zip
import HandS.TupAny
import HandS.Deep
import HandS.IsInst
import HandS.Wide
import HandS.WideBits
import HandS.WideMore
import HandS.Gcd
import HandS.SortInts
import HandS.DictTup
import HandS.Style
import HandS.TupLe
import HandS.HeadEnd
import HandS.HeadHook1
import HandS.HeadHook2
import HandS.EndBits
import HandS.Head0
import HandS.Head1
import HandS.Head2
import HandS.Head3
import HandS.Small
import HandS.Exc
import HandS.CallSlots
import HandS.WordsExc
import HandS.Zip0
import KE.DataMinMax
import KE.KTupSum
import HandS.Conv
import HandS.SetFor
import HandS.Iter
import HandS.RepeatKit
import PySem.Challenge.RW_watchedbylot_k02_makers_numbers
set_option Elab.async false
set_option linter.all false
set_option maxRecDepth 100000
set_option maxHeartbeats 4000000
/-! The data layer, part 1: pure values, the store, what represents them. -/
namespace DL
open PySem PySem.Spec PyProof.Rows L2

/-- a pure value; kup: a tuple that the module's top has made; rol: a list that nobody writes; ref n: the n-th cell of the store; fn i: the i-th def -/
inductive D where
  | non | bl (b : Bool) | int (i : Int) | str (z : Str) | tup (xs : List D) | kup (xs : List D) | rol (xs : List D) | ref (n : Nat) | fn (i : Nat)

/-- a mutable cell: a list, a dict -/
inductive Cell where
  | lst (xs : List D) | dK (kvs : List (Key × D)) | dT (kvs : List (List Key × D))

abbrev Env := List (Option D)
abbrev Mem := List Cell
abbrev Po := D → Mem → Prop
abbrev XP := Nat → List D → Mem → Prop
structure Ctx where
  call : Nat → XP → List D → Mem → Po → Prop
  ex : Env → XP
abbrev DE := Ctx → Env → Mem → Po → Prop
abbrev DT := Ctx → Env → Mem → (Bool → Mem → Prop) → Prop
abbrev DA := Ctx → Env → Mem → (List D → Mem → Prop) → Prop
structure DEnds where
  nx : Env → Mem → Prop
  rt : Po
  bk : Env → Mem → Prop := fun _ _ => False
  ct : Env → Mem → Prop := fun _ _ => False
abbrev DS := Ctx → DEnds → Env → Mem → Prop
abbrev DG := Ctx → D → Env → Mem → (Env → Mem → Prop) → Prop
/-- what a loop walks: the items, and what must stay true of the store meanwhile -/
abbrev DI := Ctx → Env → Mem → (List D → (Mem → Prop) → Mem → Prop) → Prop

/-! ### representation -/
/-- where the defs stand; the heap and the cells' addresses at the entry -/
structure Org where
  fn : Nat → Addr
  cls : Nat → Addr
  flds : Nat → List Str
  H0 : Hp
  α0 : List Addr
mutual
inductive Rp (K : PySem.W.Frag) (fa : Org) (α : List Addr) (H : Hp) : V → D → Prop
  | non : Rp K fa α H .non .non
  | bl (b : Bool) : Rp K fa α H (.bl b) (.bl b)
  | int (i : Int) : Rp K fa α H (.int i) (.int i)
  | str (z : Str) : Rp K fa α H (.str z) (.str z)
  | tup {a : Addr} {vs : List V} {ds : List D} (s : H a = some (.tup vs)) (l : vs.length ≤ sizeLine) (r : Rps K fa α H vs ds) : Rp K fa α H (.ref a) (.tup ds)
  | kup {a : Addr} {vs : List V} {ds : List D} (s : ∀ G : Hp, SqT K G a vs) (l : vs.length ≤ sizeLine) (r : Rps K fa α H vs ds) : Rp K fa α H (.ref a) (.kup ds)
  | rol {a : Addr} {vs : List V} {ds : List D} (s : (∃ o, H a = some (.frz o (.lst vs))) ∨ ∀ G : Hp, SqL K G a vs) (l : vs.length ≤ sizeLine) (r : Rps K fa α H vs ds) : Rp K fa α H (.ref a) (.rol ds)
  | ref {n : Nat} {a : Addr} (e : α[n]? = some a) : Rp K fa α H (.ref a) (.ref n)
  | fn (i : Nat) : Rp K fa α H (.ref (fa.fn i)) (.fn i)
inductive Rps (K : PySem.W.Frag) (fa : Org) (α : List Addr) (H : Hp) : List V → List D → Prop
  | nil : Rps K fa α H [] []
  | cons {v : V} {vs : List V} {d : D} {ds : List D} (h : Rp K fa α H v d) (t : Rps K fa α H vs ds) : Rps K fa α H (v :: vs) (d :: ds)
end

/-- what values lean on stays -/
structure Gr (K : PySem.W.Frag) (H H' : Hp) (α α' : List Addr) : Prop where
  tup : ∀ a vs, H a = some (.tup vs) → H' a = some (.tup vs)
  frz : ∀ a o vs, H a = some (.frz o (.lst vs)) → H' a = some (.frz o (.lst vs))
  pre : ∃ β, α' = α ++ β
/-- how the heap and the cells' addresses may go on -/
structure Ext (K : PySem.W.Frag) (H H' : Hp) (α α' : List Addr) : Prop extends Gr K H H' α α' where
  keep : ∀ a o, a ∉ α → H a = some o → H' a = some o
  there : ∀ a o, H a = some o → ∃ o', H' a = some o'
  fresh : ∀ b ∈ α', b ∈ α ∨ H b = none

section
variable {K : PySem.W.Frag} {fa : Org} {α α' α'' : List Addr} {H H' H'' : Hp} {v : V} {d : D} {vs : List V} {ds : List D}

theorem Ext.refl : Ext K H H α α := ⟨⟨fun _ _ h => h, fun _ _ _ h => h, ⟨[], by simp⟩⟩, fun _ _ _ h => h, fun _ o h => ⟨o, h⟩, fun _ h => .inl h⟩
theorem Ext.trans (a : Ext K H H' α α') (b : Ext K H' H'' α' α'') : Ext K H H'' α α'' where
  tup := fun x vs h => b.tup x vs (a.tup x vs h)
  frz := fun x o vs h => b.frz x o vs (a.frz x o vs h)
  pre := by
    obtain ⟨β, rfl⟩ := a.pre
    obtain ⟨γ, rfl⟩ := b.pre
    exact ⟨β ++ γ, by simp⟩
  keep := fun x o hx h => b.keep x o (fun z => (a.fresh x z).elim hx fun n => by rw [n] at h; cases h) (a.keep x o hx h)
  there := fun x o h => let ⟨o', h'⟩ := a.there x o h; b.there x o' h'
  fresh := fun x hx => (b.fresh x hx).elim (a.fresh x) fun n => by
    cases q : H x with
    | none => exact .inr rfl
    | some o =>
      obtain ⟨o', h'⟩ := a.there x o q
      rw [n] at h'; cases h'
theorem Gr.at (e : Gr K H H' α α') {n : Nat} {a : Addr} (h : α[n]? = some a) : α'[n]? = some a := by
  obtain ⟨β, rfl⟩ := e.pre
  rw [List.getElem?_append_left (List.getElem?_eq_some_iff.mp h).1]
  exact h
/-- a new object at p -/
theorem sqT_upd {p : Addr} {o : HO} {a : Addr} (hp : H p = none) (h : SqT K H a vs) : SqT K (upd H p o) a vs := by
  rcases h with (h | ⟨q, h⟩) | h
  · exact .inl (.inl (by rw [upd_ne (ne_of_none h hp)]; exact h))
  · exact .inl (.inr ⟨q, by rw [upd_ne (ne_of_none h hp)]; exact h⟩)
  · exact .inr h
theorem sqL_upd {p : Addr} {o : HO} {a : Addr} (hp : H p = none) (h : SqL K H a vs) : SqL K (upd H p o) a vs := by
  rcases h with (h | ⟨q, h⟩) | h
  · exact .inl (.inl (by rw [upd_ne (ne_of_none h hp)]; exact h))
  · exact .inl (.inr ⟨q, by rw [upd_ne (ne_of_none h hp)]; exact h⟩)
  · exact .inr h
theorem Ext.new {p : Addr} {o : HO} (hp : H p = none) : Ext K H (upd H p o) α α where
  tup := fun a vs h => by rw [upd_ne (ne_of_none h hp)]; exact h
  frz := fun a o vs h => by rw [upd_ne (ne_of_none h hp)]; exact h
  pre := ⟨[], by simp⟩
  keep := fun a u _ h => by rw [upd_ne (ne_of_none h hp)]; exact h
  there := fun a u h => ⟨u, by rw [upd_ne (ne_of_none h hp)]; exact h⟩
  fresh := fun _ h => .inl h
/-- a new cell at p -/
theorem Ext.cell {p : Addr} {o : HO} (hp : H p = none) : Ext K H (upd H p o) α (α ++ [p]) where
  tup := fun a vs h => by rw [upd_ne (ne_of_none h hp)]; exact h
  frz := fun a o vs h => by rw [upd_ne (ne_of_none h hp)]; exact h
  pre := ⟨[p], rfl⟩
  keep := fun a u _ h => by rw [upd_ne (ne_of_none h hp)]; exact h
  there := fun a u h => ⟨u, by rw [upd_ne (ne_of_none h hp)]; exact h⟩
  fresh := fun b hb => by
    rcases List.mem_append.mp hb with h | h
    · exact .inl h
    · have e : b = p := by simpa using h
      subst e
      exact .inr hp
/-- a cell that is no tuple is written -/
theorem Ext.write {p : Addr} {u o : HO} (hp : H p = some u) (ha : p ∈ α) (hu : Mut (some u)) : Ext K H (upd H p o) α α where
  tup := fun a vs h => by rw [upd_ne (ne_of h hp (fun z => by subst z; exact hu))]; exact h
  frz := fun a o vs h => by rw [upd_ne (ne_of h hp (fun z => by subst z; exact hu))]; exact h
  pre := ⟨[], by simp⟩
  keep := fun a w hn h => by
    have z : a ≠ p := fun z => by subst z; exact hn ha
    rw [upd_ne z]; exact h
  there := fun a w h => by
    by_cases z : a = p
    · subst z; exact ⟨o, upd_same⟩
    · exact ⟨w, by rw [upd_ne z]; exact h⟩
  fresh := fun _ h => .inl h

mutual
theorem Rp.grow (e : Gr K H H' α α') : ∀ {v : V} {d : D}, Rp K fa α H v d → Rp K fa α' H' v d
  | _, _, .non => .non
  | _, _, .bl b => .bl b
  | _, _, .int i => .int i
  | _, _, .str z => .str z
  | _, _, .tup s l r => .tup (e.tup _ _ s) l (Rps.grow e r)
  | _, _, .kup s l r => .kup s l (Rps.grow e r)
  | _, _, .rol s l r => .rol (s.imp (fun ⟨o, z⟩ => ⟨o, e.frz _ _ _ z⟩) id) l (Rps.grow e r)
  | _, _, .ref h => .ref (e.at h)
  | _, _, .fn i => .fn i
theorem Rps.grow (e : Gr K H H' α α') : ∀ {vs : List V} {ds : List D}, Rps K fa α H vs ds → Rps K fa α' H' vs ds
  | _, _, .nil => .nil
  | _, _, .cons h t => .cons (Rp.grow e h) (Rps.grow e t)
end
theorem Rp.mono (e : Ext K H H' α α') {v : V} {d : D} (h : Rp K fa α H v d) : Rp K fa α' H' v d := Rp.grow e.toGr h
theorem Rps.mono (e : Ext K H H' α α') {vs : List V} {ds : List D} (h : Rps K fa α H vs ds) : Rps K fa α' H' vs ds := Rps.grow e.toGr h
theorem Rps.length : ∀ {vs : List V} {ds : List D}, Rps K fa α H vs ds → vs.length = ds.length
  | _, _, .nil => rfl
  | _, _, .cons _ t => congrArg (· + 1) (Rps.length t)
theorem Rps.get : ∀ {vs : List V} {ds : List D} {i : Nat} {d : D}, Rps K fa α H vs ds → ds[i]? = some d → ∃ v, vs[i]? = some v ∧ Rp K fa α H v d
  | _, _, _, _, .nil, e => by simp at e
  | _, _, 0, _, .cons h _, e => by simp at e; subst e; exact ⟨_, rfl, h⟩
  | _, _, i + 1, d, .cons _ t, e => by
    obtain ⟨v, h1, h2⟩ := Rps.get (i := i) (d := d) t (by simpa using e)
    exact ⟨v, by simpa using h1, h2⟩
theorem Rps.getV : ∀ {vs : List V} {ds : List D} {i : Nat} {v : V}, Rps K fa α H vs ds → vs[i]? = some v → ∃ d, ds[i]? = some d ∧ Rp K fa α H v d
  | _, _, _, _, .nil, e => by simp at e
  | _, _, 0, _, .cons h _, e => by simp at e; subst e; exact ⟨_, rfl, h⟩
  | _, _, i + 1, d, .cons _ t, e => by
    obtain ⟨v, h1, h2⟩ := Rps.getV (i := i) (v := d) t (by simpa using e)
    exact ⟨v, by simpa using h1, h2⟩
theorem Rps.append : ∀ {vs ws : List V} {ds es : List D}, Rps K fa α H vs ds → Rps K fa α H ws es → Rps K fa α H (vs ++ ws) (ds ++ es)
  | _, _, _, _, .nil, s => s
  | _, _, _, _, .cons r t, s => .cons r (Rps.append t s)
theorem Rps.take : ∀ {vs : List V} {ds : List D} (n : Nat), Rps K fa α H vs ds → Rps K fa α H (vs.take n) (ds.take n)
  | _, _, 0, _ => .nil
  | _, _, _ + 1, .nil => .nil
  | _, _, n + 1, .cons r t => .cons r (Rps.take n t)
theorem Rps.drop : ∀ {vs : List V} {ds : List D} (n : Nat), Rps K fa α H vs ds → Rps K fa α H (vs.drop n) (ds.drop n)
  | _, _, 0, r => r
  | _, _, _ + 1, .nil => .nil
  | _, _, n + 1, .cons _ t => Rps.drop n t
theorem Rps.set {v : V} {d : D} (r : Rp K fa α H v d) : ∀ {vs : List V} {ds : List D} (i : Nat), Rps K fa α H vs ds → Rps K fa α H (vs.set i v) (ds.set i d)
  | _, _, _, .nil => .nil
  | _, _, 0, .cons _ t => .cons r t
  | _, _, i + 1, .cons q t => .cons q (Rps.set r i t)
theorem Rps.ints : ∀ (ns : List Int), Rps K fa α H (ns.map V.int) (ns.map D.int)
  | [] => .nil
  | n :: r => .cons (.int n) (Rps.ints r)
theorem Rps.rev {vs : List V} {ds : List D} (h : Rps K fa α H vs ds) : Rps K fa α H vs.reverse ds.reverse := by
  induction vs generalizing ds with
  | nil => cases h; exact .nil
  | cons v vs ih =>
    cases h with
    | cons h t =>
      rw [List.reverse_cons, List.reverse_cons]
      exact (ih t).append (.cons h .nil)
theorem Rps.rep {vs : List V} {ds : List D} (h : Rps K fa α H vs ds) : ∀ n : Nat, Rps K fa α H (List.replicate n vs).flatten (List.replicate n ds).flatten
  | 0 => .nil
  | n + 1 => by
    rw [List.replicate_succ, List.replicate_succ, List.flatten_cons, List.flatten_cons]
    exact h.append (Rps.rep h n)
theorem Rps.erase : ∀ {vs : List V} {ds : List D} (n : Nat), Rps K fa α H vs ds → Rps K fa α H (vs.eraseIdx n) (ds.eraseIdx n)
  | _, _, _, .nil => .nil
  | _, _, 0, .cons _ t => t
  | _, _, n + 1, .cons r t => .cons r (Rps.erase n t)
theorem Rps.dropLast {vs : List V} {ds : List D} (h : Rps K fa α H vs ds) : Rps K fa α H vs.dropLast ds.dropLast := by
  rw [List.dropLast_eq_take, List.dropLast_eq_take, h.length]
  exact h.take _
theorem Rps.snoc {vs : List V} {ds : List D} (h : Rps K fa α H vs ds) (r : Rp K fa α H v d) : Rps K fa α H (vs ++ [v]) (ds ++ [d]) := h.append (.cons r .nil)
end

/-! ### cells -/
abbrev KR (K : PySem.W.Frag) (fa : Org) (α : List Addr) (H : Hp) {κ : Type} (p : κ × V) (q : κ × D) : Prop := p.1 = q.1 ∧ Rp K fa α H p.2 q.2
def CellR (K : PySem.W.Frag) (fa : Org) (α : List Addr) (H : Hp) (a : Addr) : Cell → Prop
  | .lst xs => ∃ vs, H a = some (.lst vs) ∧ vs.length ≤ sizeLine ∧ Rps K fa α H vs xs
  | .dK kvs => ∃ ws, H a = some (.dK ws) ∧ Paired (KR K fa α H) ws kvs
  | .dT kvs => ∃ ws, H a = some (.dT ws) ∧ Paired (KR K fa α H) ws kvs
structure StR (K : PySem.W.Frag) (fa : Org) (α : List Addr) (H : Hp) (M : Mem) : Prop where
  len : α.length = M.length
  nod : α.Nodup
  cell : ∀ (n : Nat) (c : Cell) (a : Addr), M[n]? = some c → α[n]? = some a → CellR K fa α H a c
  org : Ext K fa.H0 H fa.α0 α
def EnvR (K : PySem.W.Frag) (fa : Org) (α : List Addr) (H : Hp) (σ : L2.St) (ρ : Env) : Prop :=
  σ.length = ρ.length ∧ ∀ (i : Nat) (d : D), ρ[i]? = some (some d) → ∃ v, σ[i]? = some (some v) ∧ Rp K fa α H v d

section
variable {K : PySem.W.Frag} {fa : Org} {α α' : List Addr} {H H' : Hp} {M : Mem} {σ : L2.St} {ρ : Env} {p : Addr} {o : HO}
theorem EnvR.mono (h : EnvR K fa α H σ ρ) (e : Ext K H H' α α') : EnvR K fa α' H' σ ρ :=
  ⟨h.1, fun i d q => let ⟨v, a, b⟩ := h.2 i d q; ⟨v, a, b.mono e⟩⟩
theorem EnvR.set {i : Nat} {v : V} {d : D} (h : EnvR K fa α H σ ρ) (r : Rp K fa α H v d) : EnvR K fa α H (σ.set i (some v)) (ρ.set i (some d)) := by
  refine ⟨by simpa using h.1, fun j e q => ?_⟩
  by_cases hj : i = j
  · subst hj
    have hl : i < ρ.length := by
      have := (List.getElem?_eq_some_iff.mp q).1
      simpa using this
    rw [List.getElem?_set_self hl] at q
    cases q
    exact ⟨v, by rw [List.getElem?_set_self (by rw [h.1]; exact hl)], r⟩
  · rw [List.getElem?_set_ne hj] at q
    obtain ⟨w, a, b⟩ := h.2 j e q
    exact ⟨w, by rw [List.getElem?_set_ne hj]; exact a, b⟩
theorem Paired.kg {κ : Type} (e : Gr K H H' α α') {ws : List (κ × V)} {kvs : List (κ × D)} (h : Paired (KR K fa α H) ws kvs) : Paired (KR K fa α' H') ws kvs :=
  Paired.mapP h fun _ _ z => ⟨z.1, z.2.grow e⟩
theorem Paired.kr {κ : Type} (e : Ext K H H' α α') {ws : List (κ × V)} {kvs : List (κ × D)} (h : Paired (KR K fa α H) ws kvs) : Paired (KR K fa α' H') ws kvs := Paired.kg e.toGr h
/-- a cell's own object is as it was -/
theorem CellR.grow {a : Addr} {c : Cell} (e : Gr K H H' α α') (hk : ∀ u, H a = some u → H' a = some u) (h : CellR K fa α H a c) : CellR K fa α' H' a c := by
  cases c with
  | lst xs => obtain ⟨vs, q, l, r⟩ := h; exact ⟨vs, hk _ q, l, r.grow e⟩
  | dK kvs => obtain ⟨ws, q, r⟩ := h; exact ⟨ws, hk _ q, Paired.kg e r⟩
  | dT kvs => obtain ⟨ws, q, r⟩ := h; exact ⟨ws, hk _ q, Paired.kg e r⟩
/-- an object that is no cell is new -/
theorem StR.new (s : StR K fa α H M) (hp : H p = none) : StR K fa α (upd H p o) M where
  len := s.len
  nod := s.nod
  cell := fun n c a e1 e2 => (s.cell n c a e1 e2).grow (Ext.new hp).toGr fun u h => by rw [upd_ne (ne_of_none h hp)]; exact h
  org := s.org.trans (Ext.new hp)
theorem CellR.there {a : Addr} {c : Cell} (h : CellR K fa α H a c) : ∃ u, H a = some u := by
  cases c with
  | lst xs => obtain ⟨vs, q, _⟩ := h; exact ⟨_, q⟩
  | dK kvs => obtain ⟨vs, q, _⟩ := h; exact ⟨_, q⟩
  | dT kvs => obtain ⟨vs, q, _⟩ := h; exact ⟨_, q⟩
theorem StR.there (s : StR K fa α H M) {a : Addr} (ha : a ∈ α) : ∃ u, H a = some u := by
  obtain ⟨n, hn, e⟩ := List.mem_iff_getElem.mp ha
  have hM : n < M.length := by rw [← s.len]; exact hn
  exact (s.cell n M[n] a (List.getElem?_eq_getElem hM) (by rw [List.getElem?_eq_getElem hn, e])).there
theorem StR.notin (s : StR K fa α H M) (hp : H p = none) : p ∉ α := fun z => by
  obtain ⟨u, h⟩ := s.there z
  rw [hp] at h; cases h
/-- a new cell -/
theorem StR.alloc (s : StR K fa α H M) (hp : H p = none) {c : Cell} (hc : CellR K fa (α ++ [p]) (upd H p o) p c) : StR K fa (α ++ [p]) (upd H p o) (M ++ [c]) where
  len := by rw [List.length_append, List.length_append, s.len]; rfl
  nod := by
    rw [List.nodup_append]
    refine ⟨s.nod, by simp, fun a ha b hb => ?_⟩
    have e : b = p := by simpa using hb
    subst e
    exact fun z => s.notin hp (by subst z; exact ha)
  cell := fun n c' a e1 e2 => by
    by_cases hn : n < M.length
    · rw [List.getElem?_append_left hn] at e1
      rw [List.getElem?_append_left (by rw [s.len]; exact hn)] at e2
      exact (s.cell n c' a e1 e2).grow (Ext.cell hp).toGr fun u h => by rw [upd_ne (ne_of_none h hp)]; exact h
    · have hn1 : n = M.length := by
        have := (List.getElem?_eq_some_iff.mp e1).1
        rw [List.length_append] at this
        have e : ([c] : List Cell).length = 1 := rfl
        omega
      subst hn1
      rw [List.getElem?_concat_length] at e1
      rw [← s.len, List.getElem?_concat_length] at e2
      cases e1; cases e2
      exact hc
  org := s.org.trans (Ext.cell hp)
/-- the n-th cell is written -/
theorem StR.write (s : StR K fa α H M) {n : Nat} {a : Addr} {u : HO} {c : Cell} (ea : α[n]? = some a) (hu : H a = some u) (nt : Mut (some u)) (hc : CellR K fa α (upd H a o) a c) : StR K fa α (upd H a o) (M.set n c) where
  len := by rw [List.length_set]; exact s.len
  nod := s.nod
  cell := fun m c' b e1 e2 => by
    by_cases hm : n = m
    · subst hm
      rw [ea] at e2; cases e2
      have hl : n < M.length := by rw [← s.len]; exact (List.getElem?_eq_some_iff.mp ea).1
      rw [List.getElem?_set_self hl] at e1
      cases e1
      exact hc
    · rw [List.getElem?_set_ne hm] at e1
      have hb : b ≠ a := by
        intro z
        subst z
        obtain ⟨h1, e1'⟩ := List.getElem?_eq_some_iff.mp ea
        obtain ⟨h2, e2'⟩ := List.getElem?_eq_some_iff.mp e2
        exact hm ((List.getElem_inj s.nod).mp (e1'.trans e2'.symm))
      exact (s.cell m c' b e1 e2).grow (Ext.write hu (List.mem_of_getElem? ea) nt).toGr fun w h => by rw [upd_ne hb]; exact h
  org := s.org.trans (Ext.write hu (List.mem_of_getElem? ea) nt)
/-- a list that stands apart becomes a cell -/
theorem StR.adopt (s : StR K fa α H M) {a : Addr} {vs : List V} {ds : List D} (ha : H a = some (.lst vs)) (na : a ∉ α) (l : vs.length ≤ sizeLine) (r : Rps K fa α H vs ds) (h0 : fa.H0 a = none) : StR K fa (α ++ [a]) H (M ++ [.lst ds]) where
  len := by rw [List.length_append, List.length_append, s.len]; rfl
  nod := by
    rw [List.nodup_append]
    refine ⟨s.nod, by simp, fun b hb c hc => ?_⟩
    have e : c = a := by simpa using hc
    subst e
    exact fun z => na (by subst z; exact hb)
  cell := fun n c' b e1 e2 => by
    have g : Gr K H H α (α ++ [a]) := ⟨fun _ _ h => h, fun _ _ _ h => h, ⟨[a], rfl⟩⟩
    by_cases hn : n < M.length
    · rw [List.getElem?_append_left hn] at e1
      rw [List.getElem?_append_left (by rw [s.len]; exact hn)] at e2
      exact (s.cell n c' b e1 e2).grow g fun u h => h
    · have hn1 : n = M.length := by
        have := (List.getElem?_eq_some_iff.mp e1).1
        rw [List.length_append] at this
        have e : ([Cell.lst ds] : List Cell).length = 1 := rfl
        omega
      subst hn1
      rw [List.getElem?_concat_length] at e1
      rw [← s.len, List.getElem?_concat_length] at e2
      cases e1; cases e2
      exact ⟨vs, ha, l, r.grow g⟩
  org := ⟨⟨s.org.tup, s.org.frz, by obtain ⟨β, hβ⟩ := s.org.pre; exact ⟨β ++ [a], by rw [hβ, List.append_assoc]⟩⟩, s.org.keep, s.org.there, fun b hb => by
    rcases List.mem_append.mp hb with z | z
    · exact s.org.fresh b z
    · have : b = a := by simpa using z
      subst this
      exact .inr h0⟩
theorem EnvR.wiped {vs : List Nat} (h : EnvR K fa α H σ ρ) : EnvR K fa α H (wipe σ vs) (vs.foldr (fun i (r : Env) => r.set i none) ρ) := by
  induction vs with
  | nil => exact h
  | cons v vs ih =>
    refine ⟨?_, fun i d q => ?_⟩
    · rw [wipe_length, List.foldr_cons, List.length_set, h.1]
      have : ∀ l : List Nat, (l.foldr (fun i (r : Env) => r.set i none) ρ).length = ρ.length := fun l => by
        induction l with
        | nil => rfl
        | cons x l ih => rw [List.foldr_cons, List.length_set, ih]
      rw [this]
    · rw [List.foldr_cons] at q
      by_cases hv : v = i
      · subst hv
        by_cases hl : v < (vs.foldr (fun i (r : Env) => r.set i none) ρ).length
        · rw [List.getElem?_set_self hl] at q; cases q
        · rw [List.getElem?_eq_none (by simpa using hl)] at q; cases q
      · rw [List.getElem?_set_ne hv] at q
        obtain ⟨w, a, b⟩ := ih.2 i d q
        refine ⟨w, ?_, b⟩
        show ((wipe σ vs).set v none)[i]? = _
        rw [List.getElem?_set_ne hv]
        exact a
/-- what is new is new from the entry on -/
theorem StR.h0 (s : StR K fa α H M) {a : Addr} (h : H a = none) : fa.H0 a = none := by
  cases q : fa.H0 a with
  | none => rfl
  | some u =>
    obtain ⟨u', h'⟩ := s.org.there _ _ q
    rw [h] at h'; cases h'
mutual
theorem Rp.org {fb : Org} (e : fb.fn = fa.fn) : ∀ {v : V} {d : D}, Rp K fa α H v d → Rp K fb α H v d
  | _, _, .non => .non
  | _, _, .bl b => .bl b
  | _, _, .int i => .int i
  | _, _, .str z => .str z
  | _, _, .tup s l r => .tup s l (Rps.org e r)
  | _, _, .kup s l r => .kup s l (Rps.org e r)
  | _, _, .rol s l r => .rol s l (Rps.org e r)
  | _, _, .ref h => .ref h
  | _, _, .fn i => by rw [← e]; exact .fn i
theorem Rps.org {fb : Org} (e : fb.fn = fa.fn) : ∀ {vs : List V} {ds : List D}, Rps K fa α H vs ds → Rps K fb α H vs ds
  | _, _, .nil => .nil
  | _, _, .cons h t => .cons (Rp.org e h) (Rps.org e t)
end
theorem CellR.org {fb : Org} (e : fb.fn = fa.fn) {a : Addr} {c : Cell} (h : CellR K fa α H a c) : CellR K fb α H a c := by
  cases c with
  | lst xs => obtain ⟨vs, q, l, r⟩ := h; exact ⟨vs, q, l, r.org e⟩
  | dK kvs => obtain ⟨ws, q, r⟩ := h; exact ⟨ws, q, Paired.mapP r fun _ _ z => ⟨z.1, z.2.org e⟩⟩
  | dT kvs => obtain ⟨ws, q, r⟩ := h; exact ⟨ws, q, Paired.mapP r fun _ _ z => ⟨z.1, z.2.org e⟩⟩
/-- the entry moved to here -/
theorem StR.start (s : StR K fa α H M) : StR K { fa with H0 := H, α0 := α } α H M := ⟨s.len, s.nod, fun n c a e1 e2 => CellR.org (fa := fa) (fb := { fa with H0 := H, α0 := α }) rfl (s.cell n c a e1 e2), Ext.refl⟩
theorem StR.back {H' : Hp} {α' : List Addr} {M' : Mem} (s : StR K fa α H M) (t : StR K { fa with H0 := H, α0 := α } α' H' M') : StR K fa α' H' M' := ⟨t.len, t.nod, fun n c a e1 e2 => CellR.org (fa := { fa with H0 := H, α0 := α }) (fb := fa) rfl (t.cell n c a e1 e2), s.org.trans t.org⟩
end
end DL
/-! The data layer, part 2: readings over data, and the rules of expressions. -/
namespace DL
open PySem PySem.Spec PyProof.Rows L2

/-- what a value's end wants, over the abstract heap -/
def Ans (K : PySem.W.Frag) (fa : Org) (α : List Addr) (H : Hp) (P : Po) (Q : VK) : Prop :=
  ∀ (v : V) (d : D) (H' : Hp) (α' : List Addr) (M' : Mem), Ext K H H' α α' → StR K fa α' H' M' → Rp K fa α' H' v d → P d M' → Q v H'
def LE (K : PySem.W.Frag) (fa : Org) (C : Ctx) (t : DE) : TE := fun σ H Q => ∃ (ρ : Env) (M : Mem) (α : List Addr) (P : Po), EnvR K fa α H σ ρ ∧ StR K fa α H M ∧ t C ρ M P ∧ Ans K fa α H P Q
def LT (K : PySem.W.Frag) (fa : Org) (C : Ctx) (t : DT) : TT := fun σ H Q => ∃ (ρ : Env) (M : Mem) (α : List Addr) (P : Bool → Mem → Prop), EnvR K fa α H σ ρ ∧ StR K fa α H M ∧ t C ρ M P ∧
  ∀ (b : Bool) (H' : Hp) (α' : List Addr) (M' : Mem), Ext K H H' α α' → StR K fa α' H' M' → P b M' → Q b H'
def LA (K : PySem.W.Frag) (fa : Org) (C : Ctx) (t : DA) : TA := fun σ H Q => ∃ (ρ : Env) (M : Mem) (α : List Addr) (P : List D → Mem → Prop), EnvR K fa α H σ ρ ∧ StR K fa α H M ∧ t C ρ M P ∧
  ∀ (vs : List V) (ds : List D) (H' : Hp) (α' : List Addr) (M' : Mem), Ext K H H' α α' → StR K fa α' H' M' → Rps K fa α' H' vs ds → P ds M' → Q vs H'
/-- a two-place operation by values -/
abbrev DOp := D → D → Mem → Po → Prop
def LO (K : PySem.W.Frag) (fa : Org) (op : DOp) : R2 := fun x y H Q => ∃ (M : Mem) (α : List Addr) (d e : D) (P : Po), StR K fa α H M ∧ Rp K fa α H x d ∧ Rp K fa α H y e ∧ op d e M P ∧ Ans K fa α H P Q
/-- a one-place one -/
abbrev DUn := D → Mem → Po → Prop
def LU (K : PySem.W.Frag) (fa : Org) (op : DUn) : V → Hp → VK → Prop := fun x H Q => ∃ (M : Mem) (α : List Addr) (d : D) (P : Po), StR K fa α H M ∧ Rp K fa α H x d ∧ op d M P ∧ Ans K fa α H P Q
/-- values to a value -/
abbrev DF := List D → Mem → Po → Prop
def LF (K : PySem.W.Frag) (fa : Org) (op : DF) : List V → Hp → VK → Prop := fun xs H Q => ∃ (M : Mem) (α : List Addr) (ds : List D) (P : Po), StR K fa α H M ∧ Rps K fa α H xs ds ∧ op ds M P ∧ Ans K fa α H P Q

section
variable {K : PySem.W.Frag} {fa : Org} {α α' : List Addr} {H H' : Hp} {M : Mem} {P : Po} {Q : VK} {v : V} {d : D}
theorem Ans.ext (a : Ans K fa α H P Q) (e : Ext K H H' α α') : Ans K fa α' H' P Q := fun v d H2 α2 M2 e2 s r p => a v d H2 α2 M2 (e.trans e2) s r p
theorem Ans.here (a : Ans K fa α H P Q) (s : StR K fa α H M) (r : Rp K fa α H v d) (p : P d M) : Q v H := a v d H α M Ext.refl s r p
/-- a new tuple as the answer -/
theorem Ans.tup {vs : List V} {ds : List D} {p : Addr} (a : Ans K fa α H P Q) (s : StR K fa α H M) (r : Rps K fa α H vs ds) (l : vs.length ≤ sizeLine) (hp : H p = none) (h : P (.tup ds) M) : Q (.ref p) (upd H p (.tup vs)) :=
  a _ _ _ _ _ (Ext.new hp) (s.new hp) (.tup upd_same l (r.mono (Ext.new hp))) h
/-- a new list cell as the answer -/
theorem Ans.lst {vs : List V} {ds : List D} {p : Addr} (a : Ans K fa α H P Q) (s : StR K fa α H M) (r : Rps K fa α H vs ds) (l : vs.length ≤ sizeLine) (hp : H p = none) (h : P (.ref M.length) (M ++ [.lst ds])) : Q (.ref p) (upd H p (.lst vs)) :=
  a _ _ _ _ _ (Ext.cell hp) (s.alloc (c := .lst ds) hp ⟨vs, upd_same, l, r.mono (Ext.cell hp)⟩) (.ref (by rw [← s.len, List.getElem?_concat_length])) h
end

end DL
namespace L2
open PySem PySem.Spec PyProof.Rows
theorem PE.imp {X : Cx} {e : Expr} {t t' : TE} (h : PE X e t) (i : ∀ σ H Q, t' σ H Q → t σ H Q) : PE X e t' := ⟨fun pins s σ H Q I q => h.run pins s σ H Q I (i σ H Q q)⟩
theorem PT.imp {X : Cx} {e : Expr} {t t' : TT} (h : PT X e t) (i : ∀ σ H Q, t' σ H Q → t σ H Q) : PT X e t' := ⟨fun pins s σ H Q I q => h.run pins s σ H Q I (i σ H Q q)⟩
theorem PW.imp {X : Cx} {e : Expr} {t t' : TT} (h : PW X e t) (i : ∀ σ H Q, t' σ H Q → t σ H Q) : PW X e t' := ⟨fun wh pins s σ H Q I q => h.run wh pins s σ H Q I (i σ H Q q)⟩
theorem PA.imp {X : Cx} {e : List Expr} {t t' : TA} (h : PA X e t) (i : ∀ σ H Q, t' σ H Q → t σ H Q) : PA X e t' := ⟨fun pos pins s σ H Q I q => h.run pos pins s σ H Q I (i σ H Q q)⟩
theorem OpR.imp {X : Cx} {f : Value → Value → Sem Value} {r r' : R2} (h : OpR X f r) (i : ∀ x y H Q, r' x y H Q → r x y H Q) : OpR X f r' := fun pins s σ H x y v u Q I rx ry q => h pins s σ H x y v u Q I rx ry (i x y H Q q)
theorem UnR.imp {X : Cx} {f : Value → Sem Value} {r r' : V → Hp → VK → Prop} (h : UnR X f r) (i : ∀ x H Q, r' x H Q → r x H Q) : UnR X f r' := fun pins s σ H x v Q I rx q => h pins s σ H x v Q I rx (i x H Q q)
theorem CallR.imp {X : Cx} {f : Value} {r r' : List V → Hp → VK → Prop} (h : CallR X f r) (i : ∀ x H Q, r' x H Q → r x H Q) : CallR X f r' := fun pins s σ H x v Q I rx q => h pins s σ H x v Q I rx (i x H Q q)
theorem IxR.imp {X : Cx} {r r' : R2} (h : IxR X r) (i : ∀ x y H Q, r' x y H Q → r x y H Q) : IxR X r' := fun va sl pins s σ H x y v u Q I rx ry q => h va sl pins s σ H x y v u Q I rx ry (i x y H Q q)
theorem MtR.imp {X : Cx} {id : String} {r r' : V → List V → Hp → VK → Prop} (h : MtR X id r) (i : ∀ x xs H Q, r' x xs H Q → r x xs H Q) : MtR X id r' := fun pins s σ H x xs v us Q I rx rs q => h pins s σ H x xs v us Q I rx rs (i x xs H Q q)

end L2
namespace DL
open PySem PySem.Spec PyProof.Rows L2
/-! ### meanings over data -/
def got (o : Option (Option D)) (k : D → Prop) : Prop := match o with
  | some (some d) => k d
  | _ => False
def eVar (i : Nat) : DE := fun _ ρ M P => got ρ[i]? fun d => P d M
def eK (d : D) : DE := fun _ _ M P => P d M
def eBin (op : DOp) (a b : DE) : DE := fun C ρ M P => a C ρ M fun x M1 => b C ρ M1 fun y M2 => op x y M2 P
def eUn (op : DUn) (a : DE) : DE := fun C ρ M P => a C ρ M fun x M1 => op x M1 P
/-- a comparison's answer as a test -/
def bl? (P : Bool → Mem → Prop) : Po := fun d M => match d with
  | .bl b => P b M
  | _ => False
def tOf (a : DE) : DT := fun C ρ M P => a C ρ M (bl? P)
/-- truth -/
def tru (d : D) (M : Mem) (k : Bool → Prop) : Prop := match d with
  | .non => k false
  | .bl b => k b
  | .int i => k (i != 0)
  | .str z => z.length ≤ sizeLine ∧ k ((z.length : Int) != 0)
  | .tup xs => k (!xs.isEmpty)
  | .kup xs => k (!xs.isEmpty)
  | .rol xs => k (!xs.isEmpty)
  | .ref n => (match M[n]? with
    | some (.lst xs) => k (!xs.isEmpty)
    | some (.dK kvs) => k (!kvs.isEmpty)
    | _ => False)
  | .fn _ => False
def tTru (a : DE) : DT := fun C ρ M P => a C ρ M fun d M1 => tru d M1 fun b => P b M1
def tAnd (a b : DT) : DT := fun C ρ M P => a C ρ M fun c M1 => if c = true then b C ρ M1 P else P false M1
def tOr (a b : DT) : DT := fun C ρ M P => a C ρ M fun c M1 => if c = true then P true M1 else b C ρ M1 P
def tNot (a : DT) : DT := fun C ρ M P => a C ρ M fun c M1 => P (!c) M1
def eAnd (a b : DE) : DE := fun C ρ M P => a C ρ M fun d M1 => tru d M1 fun c => if c = true then b C ρ M1 P else P d M1
def eOr (a b : DE) : DE := fun C ρ M P => a C ρ M fun d M1 => tru d M1 fun c => if c = true then P d M1 else b C ρ M1 P
def eNot (a : DE) : DE := fun C ρ M P => a C ρ M fun d M1 => tru d M1 fun c => P (.bl (!c)) M1
def eIf (c : DT) (a b : DE) : DE := fun C ρ M P => c C ρ M fun k M1 => if k = true then a C ρ M1 P else b C ρ M1 P
def aNil : DA := fun _ _ M P => P [] M
def aCons (a : DE) (r : DA) : DA := fun C ρ M P => a C ρ M fun d M1 => r C ρ M1 fun ds M2 => P (d :: ds) M2
def eTup (a : DA) : DE := fun C ρ M P => a C ρ M fun ds M1 => ds.length ≤ sizeLine ∧ P (.tup ds) M1
def eLst (a : DA) : DE := fun C ρ M P => a C ρ M fun ds M1 => ds.length ≤ sizeLine ∧ P (.ref M1.length) (M1 ++ [.lst ds])
def eF (f : DF) (a : DA) : DE := fun C ρ M P => a C ρ M fun ds M1 => f ds M1 P
def eCall (i : Nat) (a : DA) : DE := fun C ρ M P => a C ρ M fun ds M1 => C.call i (C.ex ρ) ds M1 P
def eChain (op op' : DOp) (a b c : DE) : DE := fun C ρ M P => a C ρ M fun x M1 => b C ρ M1 fun y M2 => op x y M2 fun z M3 => match z with
  | .bl k => if k = true then c C ρ M3 fun w M4 => op' y w M4 P else P (.bl false) M3
  | _ => False

section
variable {X : Cx} {fa : Org} {C : Ctx} {a b c e : Expr} {es rest : List Expr} {pos : Pos} {ta tb tc : DE} {ua ub : DT} {da : DA}

theorem d_var {i : Nat} {x : Str} (hN : X.N[i]? = some x) (hv : Vis X.env.scope x) (hd : (x == ("__debug__" : Str)) = false) (hcd : (x == ("__classdict__" : Str)) = false) : PE X (.Name x pos) (LE X.K fa C (eVar i)) :=
  (pe_var hN hv hd hcd).imp fun σ H Q ⟨ρ, M, α, P, er, st, h, an⟩ => by
    have h : got ρ[i]? fun d => P d M := h
    cases q : ρ[i]? with
    | none => rw [q] at h; exact h.elim
    | some o =>
      cases o with
      | none => rw [q] at h; exact h.elim
      | some d =>
        rw [q] at h
        obtain ⟨v, e1, r⟩ := er.2 i d q
        exact ⟨v, e1, an.here st r h⟩
theorem d_int {i j} : PE X (.Constant (.int i) j pos) (LE X.K fa C (eK (.int i))) := pe_int.imp fun σ H Q ⟨ρ, M, α, P, er, st, h, an⟩ => an.here st (.int i) h
theorem d_bl {b j} : PE X (.Constant (.bool b) j pos) (LE X.K fa C (eK (.bl b))) := pe_bl.imp fun σ H Q ⟨ρ, M, α, P, er, st, h, an⟩ => an.here st (.bl b) h
theorem d_non {j} : PE X (.Constant .none j pos) (LE X.K fa C (eK .non)) := pe_non.imp fun σ H Q ⟨ρ, M, α, P, er, st, h, an⟩ => an.here st .non h
theorem d_str {x j} : PE X (.Constant (.str x) j pos) (LE X.K fa C (eK (.str x))) := pe_str.imp fun σ H Q ⟨ρ, M, α, P, er, st, h, an⟩ => an.here st (.str x) h
/-- a module's constant -/
theorem d_glob {x : Str} {v : V} {u : Value} {d : D} (hg : Gl X x) (hm : X.mg x = some u) (r : RelV v u) (rp : ∀ α H, Rp X.K fa α H v d) (hd : (x == ("__debug__" : Str)) = false) : PE X (.Name x pos) (LE X.K fa C (eK d)) :=
  (pe_glob hg hm r hd).imp fun σ H Q ⟨ρ, M, α, P, er, st, h, an⟩ => an.here st (rp α H) h

theorem two {σ : L2.St} {H : Hp} {Q : VK} {op : DOp} (h : LE X.K fa C (eBin op ta tb) σ H Q) : LE X.K fa C ta σ H fun x H1 => LE X.K fa C tb σ H1 fun y H2 => LO X.K fa op x y H2 Q := by
  obtain ⟨ρ, M, α, P, er, st, h, an⟩ := h
  refine ⟨ρ, M, α, _, er, st, h, fun x d H1 α1 M1 e1 s1 r1 h1 => ?_⟩
  refine ⟨ρ, M1, α1, _, er.mono e1, s1, h1, fun y e H2 α2 M2 e2 s2 r2 h2 => ?_⟩
  exact ⟨M2, α2, d, e, P, s2, r1.mono e2, r2, h2, (an.ext e1).ext e2⟩
theorem d_bin {op : Operator} {o : DOp} (ho : OpR X (binaryOp op) (LO X.K fa o)) (ha : PE X a (LE X.K fa C ta)) (hb : PE X b (LE X.K fa C tb)) : PE X (.BinOp a op b pos) (LE X.K fa C (eBin o ta tb)) :=
  (pe_op ho ha hb).imp fun _ _ _ h => two h
theorem d_un {op : UnaryOp} {o : DUn} (ho : UnR X (unaryOp op) (LU X.K fa o)) (ha : PE X a (LE X.K fa C ta)) : PE X (.UnaryOp op a pos) (LE X.K fa C (eUn o ta)) :=
  (pe_un ho ha).imp fun σ H Q ⟨ρ, M, α, P, er, st, h, an⟩ => ⟨ρ, M, α, _, er, st, h, fun x d H1 α1 M1 e1 s1 r1 h1 => ⟨M1, α1, d, P, s1, r1, h1, an.ext e1⟩⟩
theorem d_cmp {op : CmpOp} {o : DOp} (ho : OpR X (compareOp op) (LO X.K fa o)) (ha : PE X a (LE X.K fa C ta)) (hb : PE X b (LE X.K fa C tb)) (hm : behindInMarks op b = false) : PE X (.Compare a [op] [b] pos) (LE X.K fa C (eBin o ta tb)) :=
  (pe_cmpR ho ha hb hm).imp fun _ _ _ h => two h
/-- an expression that gives a bool, as a test -/
theorem d_tOf {t : DE} (h : PT X e (fun σ H Q => LE X.K fa C t σ H fun x H1 => ∃ k, x = .bl k ∧ Q k H1)) : PT X e (LT X.K fa C (tOf t)) :=
  h.imp fun σ H Q ⟨ρ, M, α, P, er, st, h, an⟩ => ⟨ρ, M, α, _, er, st, h, fun v d H' α' M' e s r p => by
    cases d with
    | bl b => cases r; exact ⟨b, rfl, an b H' α' M' e s p⟩
    | _ => exact p.elim⟩
theorem t_cmp {op : CmpOp} {o : DOp} (ho : OpR X (compareOp op) (LO X.K fa o)) (ha : PE X a (LE X.K fa C ta)) (hb : PE X b (LE X.K fa C tb)) (hm : behindInMarks op b = false) : PT X (.Compare a [op] [b] pos) (LT X.K fa C (tOf (eBin o ta tb))) :=
  d_tOf ((pt_cmpR ho ha hb hm).imp fun _ _ _ h => two h)
theorem chain {σ : L2.St} {H : Hp} {Q : VK} {o o' : DOp} (h : LE X.K fa C (eChain o o' ta tb tc) σ H Q) : tChain (LO X.K fa o) (LO X.K fa o') (LE X.K fa C ta) (LE X.K fa C tb) (LE X.K fa C tc) σ H Q := by
  obtain ⟨ρ, M, α, P, er, st, h, an⟩ := h
  refine ⟨ρ, M, α, _, er, st, h, fun x d H1 α1 M1 e1 s1 r1 h1 => ?_⟩
  refine ⟨ρ, M1, α1, _, er.mono e1, s1, h1, fun y e H2 α2 M2 e2 s2 r2 h2 => ?_⟩
  refine ⟨M2, α2, d, e, _, s2, r1.mono e2, r2, h2, fun z f H3 α3 M3 e3 s3 r3 h3 => ?_⟩
  cases f with
  | bl k =>
    cases r3
    refine ⟨k, rfl, ?_⟩
    cases k with
    | true =>
      refine ⟨ρ, M3, α3, _, er.mono ((e1.trans e2).trans e3), s3, h3, fun w g H4 α4 M4 e4 s4 r4 h4 => ?_⟩
      exact ⟨M4, α4, e, g, P, s4, r2.mono (e3.trans e4), r4, h4, an.ext (((e1.trans e2).trans e3).trans e4)⟩
    | false => exact an _ _ _ _ _ ((e1.trans e2).trans e3) s3 (.bl false) h3
  | _ => exact h3.elim
theorem d_chain {op op' : CmpOp} {o o' : DOp} (ho : OpR X (compareOp op) (LO X.K fa o)) (ho' : OpR X (compareOp op') (LO X.K fa o')) (ha : PE X a (LE X.K fa C ta)) (hb : PE X b (LE X.K fa C tb)) (hc : PE X c (LE X.K fa C tc)) (hm : lastMarks [op, op'] [b, c] = false) :
    PE X (.Compare a [op, op'] [b, c] pos) (LE X.K fa C (eChain o o' ta tb tc)) := (pe_chain ho ho' ha hb hc hm).imp fun _ _ _ h => chain h
theorem t_chain {op op' : CmpOp} {o o' : DOp} (ho : OpR X (compareOp op) (LO X.K fa o)) (ho' : OpR X (compareOp op') (LO X.K fa o')) (ha : PE X a (LE X.K fa C ta)) (hb : PE X b (LE X.K fa C tb)) (hc : PE X c (LE X.K fa C tc)) (hm : lastMarks [op, op'] [b, c] = false) :
    PT X (.Compare a [op, op'] [b, c] pos) (LT X.K fa C (tOf (eChain o o' ta tb tc))) := d_tOf ((pt_chain ho ho' ha hb hc hm).imp fun _ _ _ h => chain h)

/-! ### truth -/
theorem tru_v {K : PySem.W.Frag} {α : List Addr} {H : Hp} {M : Mem} {v : V} {d : D} {k : Bool → Prop} (st : StR K fa α H M) (r : Rp K fa α H v d) (h : tru d M k) : ∃ b, TruV K v H b ∧ k b := by
  cases r with
  | non => exact ⟨false, rfl, h⟩
  | bl b => exact ⟨b, rfl, h⟩
  | int i => exact ⟨_, rfl, h⟩
  | str z => exact ⟨_, ⟨h.1, rfl⟩, h.2⟩
  | @tup a vs ds s l r => exact ⟨_, .inr (.inl ⟨vs, .inl (.inl s), by cases r <;> rfl⟩), h⟩
  | @kup a vs ds s l r => exact ⟨_, .inr (.inl ⟨vs, s H, by cases r <;> rfl⟩), h⟩
  | @rol a vs ds s l r => exact ⟨_, .inl ⟨vs, s.elim (fun z => .inl (.inr z)) fun z => z H, by cases r <;> rfl⟩, h⟩
  | @ref n a ea =>
    have h : (match M[n]? with
      | some (.lst xs) => k (!xs.isEmpty)
      | some (.dK kvs) => k (!kvs.isEmpty)
      | _ => False) := h
    cases q : M[n]? with
    | none => rw [q] at h; exact h.elim
    | some c =>
      rw [q] at h
      cases c with
      | lst xs =>
        obtain ⟨vs, hv, _, r⟩ := st.cell n _ a q ea
        exact ⟨_, .inl ⟨vs, .inl (.inl hv), by cases r <;> rfl⟩, h⟩
      | dK kvs =>
        obtain ⟨ws, hv, r⟩ := st.cell n _ a q ea
        exact ⟨_, .inr (.inr ⟨ws, hv, by cases r <;> rfl⟩), h⟩
      | dT kvs => exact h.elim
  | fn i => exact h.elim
theorem t_tru (ha : PE X a (LE X.K fa C ta)) (he : ∀ whole, isTrue a X.env whole = (do let v ← whole; standAt a.pos; holding [v] (truthy v))) : PT X a (LT X.K fa C (tTru ta)) :=
  (pt_truth ha he).imp fun σ H Q ⟨ρ, M, α, P, er, st, h, an⟩ => ⟨ρ, M, α, _, er, st, h, fun v d H' α' M' e s r p => let ⟨b, h1, h2⟩ := tru_v s r p; ⟨b, h1, an b H' α' M' e s h2⟩⟩
theorem t_and1 (ha : PT X a (LT X.K fa C ua)) : PW X (.BoolOp .And [a] pos) (LT X.K fa C ua) := pw_and1 ha
theorem t_or1 (ha : PT X a (LT X.K fa C ua)) : PW X (.BoolOp .Or [a] pos) (LT X.K fa C ua) := pw_or1 ha
theorem t_and (ha : PT X a (LT X.K fa C ua)) (hb : PW X (.BoolOp .And (b :: rest) pos) (LT X.K fa C ub)) : PW X (.BoolOp .And (a :: b :: rest) pos) (LT X.K fa C (tAnd ua ub)) :=
  (pw_and ha hb).imp fun σ H Q ⟨ρ, M, α, P, er, st, h, an⟩ => ⟨ρ, M, α, _, er, st, h, fun k H' α' M' e s p => by
    cases k with
    | true => exact ⟨ρ, M', α', P, er.mono e, s, p, fun k2 H2 α2 M2 e2 s2 p2 => an k2 H2 α2 M2 (e.trans e2) s2 p2⟩
    | false => exact an false H' α' M' e s p⟩
theorem t_or (ha : PT X a (LT X.K fa C ua)) (hb : PW X (.BoolOp .Or (b :: rest) pos) (LT X.K fa C ub)) : PW X (.BoolOp .Or (a :: b :: rest) pos) (LT X.K fa C (tOr ua ub)) :=
  (pw_or ha hb).imp fun σ H Q ⟨ρ, M, α, P, er, st, h, an⟩ => ⟨ρ, M, α, _, er, st, h, fun k H' α' M' e s p => by
    cases k with
    | false => exact ⟨ρ, M', α', P, er.mono e, s, p, fun k2 H2 α2 M2 e2 s2 p2 => an k2 H2 α2 M2 (e.trans e2) s2 p2⟩
    | true => exact an true H' α' M' e s p⟩
theorem t_not (ha : PT X a (LT X.K fa C ua)) : PT X (.UnaryOp .Not a pos) (LT X.K fa C (tNot ua)) :=
  (pt_not ha).imp fun σ H Q ⟨ρ, M, α, P, er, st, h, an⟩ => ⟨ρ, M, α, _, er, st, h, fun k H' α' M' e s p => an (!k) H' α' M' e s p⟩
theorem d_and (ha : PE X a (LE X.K fa C ta)) (hb : PE X (.BoolOp .And (b :: rest) pos) (LE X.K fa C tb)) : PE X (.BoolOp .And (a :: b :: rest) pos) (LE X.K fa C (eAnd ta tb)) :=
  (pe_andT ha hb).imp fun σ H Q ⟨ρ, M, α, P, er, st, h, an⟩ => ⟨ρ, M, α, _, er, st, h, fun v d H' α' M' e s r p => by
    obtain ⟨k, h1, h2⟩ := tru_v s r p
    refine ⟨k, h1, ?_⟩
    cases k with
    | true => exact ⟨ρ, M', α', P, er.mono e, s, h2, an.ext e⟩
    | false => exact an _ _ _ _ _ e s r h2⟩
theorem d_or (ha : PE X a (LE X.K fa C ta)) (hb : PE X (.BoolOp .Or (b :: rest) pos) (LE X.K fa C tb)) : PE X (.BoolOp .Or (a :: b :: rest) pos) (LE X.K fa C (eOr ta tb)) :=
  (pe_orT ha hb).imp fun σ H Q ⟨ρ, M, α, P, er, st, h, an⟩ => ⟨ρ, M, α, _, er, st, h, fun v d H' α' M' e s r p => by
    obtain ⟨k, h1, h2⟩ := tru_v s r p
    refine ⟨k, h1, ?_⟩
    cases k with
    | false => exact ⟨ρ, M', α', P, er.mono e, s, h2, an.ext e⟩
    | true => exact an _ _ _ _ _ e s r h2⟩
theorem d_one {op} (ha : PE X a (LE X.K fa C ta)) : PE X (.BoolOp op [a] pos) (LE X.K fa C ta) := pe_one ha
theorem d_not (ha : PE X a (LE X.K fa C ta)) : PE X (.UnaryOp .Not a pos) (LE X.K fa C (eNot ta)) :=
  (pe_notT ha).imp fun σ H Q ⟨ρ, M, α, P, er, st, h, an⟩ => ⟨ρ, M, α, _, er, st, h, fun v d H' α' M' e s r p => by
    obtain ⟨k, h1, h2⟩ := tru_v s r p
    exact ⟨k, h1, an _ _ _ _ _ e s (.bl _) h2⟩⟩
theorem d_if (hc : PT X c (LT X.K fa C ua)) (ha : PE X a (LE X.K fa C ta)) (hb : PE X b (LE X.K fa C tb)) : PE X (.IfExp c a b pos) (LE X.K fa C (eIf ua ta tb)) :=
  (pe_ifExp hc ha hb).imp fun σ H Q ⟨ρ, M, α, P, er, st, h, an⟩ => ⟨ρ, M, α, _, er, st, h, fun k H' α' M' e s p => by
    cases k with
    | true => exact ⟨ρ, M', α', P, er.mono e, s, p, an.ext e⟩
    | false => exact ⟨ρ, M', α', P, er.mono e, s, p, an.ext e⟩⟩

/-! ### arguments, displays, calls -/
theorem a_nil : PA X [] (LA X.K fa C aNil) := pa_nil.imp fun σ H Q ⟨ρ, M, α, P, er, st, h, an⟩ => an [] [] H α M Ext.refl st .nil h
theorem a_cons (ha : PE X a (LE X.K fa C ta)) (hr : PA X es (LA X.K fa C da)) (hs : starEach (a :: es) X.env = (false, eval a X.env) :: starEach es X.env) : PA X (a :: es) (LA X.K fa C (aCons ta da)) :=
  (pa_cons ha hr hs).imp fun σ H Q ⟨ρ, M, α, P, er, st, h, an⟩ => ⟨ρ, M, α, _, er, st, h, fun v d H' α' M' e s r p =>
    ⟨ρ, M', α', _, er.mono e, s, p, fun vs ds H2 α2 M2 e2 s2 r2 p2 => an _ _ _ _ _ (e.trans e2) s2 (.cons (r.mono e2) r2) p2⟩⟩
theorem d_tup {x1} (h : PA X es (LA X.K fa C da)) : PE X (.Tuple es x1 pos) (LE X.K fa C (eTup da)) :=
  (pe_tup h).imp fun σ H Q ⟨ρ, M, α, P, er, st, h, an⟩ => ⟨ρ, M, α, _, er, st, h, fun vs ds H' α' M' e s r p =>
    ⟨by rw [r.length]; exact p.1, fun q hq => (an.ext e).tup s r (by rw [r.length]; exact p.1) hq p.2⟩⟩
theorem d_lst (h : PA X es (LA X.K fa C da)) : PE X (.List es pos) (LE X.K fa C (eLst da)) :=
  (pe_lst h).imp fun σ H Q ⟨ρ, M, α, P, er, st, h, an⟩ => ⟨ρ, M, α, _, er, st, h, fun vs ds H' α' M' e s r p =>
    ⟨by rw [r.length]; exact p.1, fun q hq => (an.ext e).lst s r (by rw [r.length]; exact p.1) hq p.2⟩⟩
theorem ff {σ : L2.St} {H : Hp} {Q : VK} {f : DF} (h : LE X.K fa C (eF f da) σ H Q) : LA X.K fa C da σ H fun vs H1 => LF X.K fa f vs H1 Q := by
  obtain ⟨ρ, M, α, P, er, st, h, an⟩ := h
  exact ⟨ρ, M, α, _, er, st, h, fun vs ds H' α' M' e s r p => ⟨M', α', ds, P, s, r, p, an.ext e⟩⟩
theorem d_callB {x : Str} {p : Pos} {id : String} {f : DF} (hc : CallR X (.builtin id) (LF X.K fa f)) (hg : Gl X x) (hm : X.mg x = none) (hv : bootBuiltins x = some (.builtin id)) (ha : PA X (e :: es) (LA X.K fa C da)) (hn : x ≠ "__name__") (hdb : (x == ("__debug__" : Str)) = false)
    (he : starEach (e :: es) X.env = (false, eval e X.env) :: starEach es X.env) (hpl : (backTo pos (starEach es X.env)).any (·.1) = false) : PE X (.Call (.Name x p) (e :: es) [] pos) (LE X.K fa C (eF f da)) :=
  (pe_callB hc hg hm hv ha hn hdb he hpl).imp fun _ _ _ h => ff h
theorem d_callTy {x : Str} {p : Pos} {T : String} {f : DF} (hc : CallR X (.type T) (LF X.K fa f)) (hg : Gl X x) (hm : X.mg x = none) (hv : bootBuiltins x = some (.type T)) (ha : PA X (e :: es) (LA X.K fa C da)) (hn : x ≠ "__name__") (hdb : (x == ("__debug__" : Str)) = false)
    (he : starEach (e :: es) X.env = (false, eval e X.env) :: starEach es X.env) (hpl : (backTo pos (starEach es X.env)).any (·.1) = false) : PE X (.Call (.Name x p) (e :: es) [] pos) (LE X.K fa C (eF f da)) :=
  (pe_callTy hc hg hm hv ha hn hdb he hpl).imp fun _ _ _ h => ff h
theorem d_callBfun {x : Str} {p : Pos} {id : String} {f : DF} (hc : CallR X (.builtin id) (LF X.K fa f)) (hg : Gl X x) (hm : X.mg x = some (.builtin id)) (ha : PA X (e :: es) (LA X.K fa C da)) (hdb : (x == ("__debug__" : Str)) = false)
    (he : starEach (e :: es) X.env = (false, eval e X.env) :: starEach es X.env) (hpl : (backTo pos (starEach es X.env)).any (·.1) = false) : PE X (.Call (.Name x p) (e :: es) [] pos) (LE X.K fa C (eF f da)) :=
  (pe_callBfun hc hg hm ha hdb he hpl).imp fun _ _ _ h => ff h
end
end DL
/-! The data layer, part 3: operators, comparisons, subscripts by values. -/
namespace DL
open PySem PySem.Spec PyProof.Rows L2

/-! ### data for the library's == -/
mutual
def toPy : D → PyData
  | .non => .none
  | .bl b => .bool b
  | .int i => .int i
  | .str z => .str z
  | .tup xs => .tuple (toPys xs)
  | .kup xs => .tuple (toPys xs)
  | .rol xs => .list (toPys xs)
  | .ref _ => .none
  | .fn _ => .none
def toPys : List D → List PyData
  | [] => []
  | x :: xs => toPy x :: toPys xs
end
mutual
/-- no cell, no def within -/
def pure? : D → Bool
  | .tup xs => pures? xs
  | .kup xs => pures? xs
  | .rol xs => pures? xs
  | .ref _ => false
  | .fn _ => false
  | _ => true
def pures? : List D → Bool
  | [] => true
  | x :: xs => pure? x && pures? xs
end
/-- as data, a list's cell opened -/
def pyM (M : Mem) (d : D) : Option PyData := match d with
  | .ref n => (match M[n]? with
    | some (.lst xs) => if pures? xs = true then some (.list (toPys xs)) else none
    | _ => none)
  | d => if pure? d = true then some (toPy d) else none
section
variable {K : PySem.W.Frag} {fa : Org} {α : List Addr} {H : Hp} {M : Mem}
mutual
theorem Rp.dp : ∀ {v : V} {d : D}, Rp K fa α H v d → pure? d = true → Dp K H v (toPy d)
  | _, _, .non, _ => .non
  | _, _, .bl b, _ => .bl b
  | _, _, .int i, _ => .int i
  | _, _, .str z, _ => .str z
  | _, _, .tup s l r, h => .tup (.inl (.inl s)) (Rps.dp r h)
  | _, _, .kup s l r, h => .tup (s H) (Rps.dp r h)
  | _, _, .rol s l r, h => .lst (s.elim (fun z => .inl (.inr z)) fun z => z H) (Rps.dp r h)
  | _, _, .ref _, h => nomatch h
  | _, _, .fn _, h => nomatch h
theorem Rps.dp : ∀ {vs : List V} {ds : List D}, Rps K fa α H vs ds → pures? ds = true → DpAll K H vs (toPys ds)
  | _, _, .nil, _ => .nil
  | _, _, .cons h t, q => .cons (Rp.dp h (Bool.and_eq_true_iff.mp q).1) (Rps.dp t (Bool.and_eq_true_iff.mp q).2)
end
theorem pyM_dp {v : V} {d : D} {p : PyData} (st : StR K fa α H M) (r : Rp K fa α H v d) (h : pyM M d = some p) : Dp K H v p := by
  cases r with
  | @ref n a ea =>
    have h : (match M[n]? with
      | some (.lst xs) => if pures? xs = true then some (PyData.list (toPys xs)) else none
      | _ => none) = some p := h
    cases q : M[n]? with
    | none => rw [q] at h; cases h
    | some c =>
      rw [q] at h
      cases c with
      | lst xs =>
        obtain ⟨vs, hv, _, r⟩ := st.cell n _ a q ea
        have h : (if pures? xs = true then some (PyData.list (toPys xs)) else none) = some p := h
        by_cases g : pures? xs = true
        · rw [if_pos g] at h
          cases h
          exact .lst (.inl (.inl hv)) (r.dp g)
        · rw [if_neg g] at h; cases h
      | dK _ => cases h
      | dT _ => cases h
  | fn i => exact nomatch h
  | non => cases h; exact .non
  | bl b => cases h; exact .bl b
  | int i => cases h; exact .int i
  | str z => cases h; exact .str z
  | @tup a vs ds s l r =>
    have h : (if pures? ds = true then some (toPy (.tup ds)) else none) = some p := h
    by_cases g : pures? ds = true
    · rw [if_pos g] at h; cases h; exact Rp.dp (.tup s l r) g
    · rw [if_neg g] at h; cases h
  | @kup a vs ds s l r =>
    have h : (if pures? ds = true then some (toPy (.kup ds)) else none) = some p := h
    by_cases g : pures? ds = true
    · rw [if_pos g] at h; cases h; exact Rp.dp (.kup s l r) g
    · rw [if_neg g] at h; cases h
  | @rol a vs ds s l r =>
    have h : (if pures? ds = true then some (toPy (.rol ds)) else none) = some p := h
    by_cases g : pures? ds = true
    · rw [if_pos g] at h; cases h; exact Rp.dp (.rol s l r) g
    · rw [if_neg g] at h; cases h
end

/-! ### the operations' meanings -/
def opAdd : DOp := fun d e M P => match d, e with
  | .int i, .int j => P (.int (i + j)) M
  | .str a, .str b => a.length + b.length ≤ sizeLine ∧ P (.str (a ++ b)) M
  | .tup xs, .tup ys => xs.length + ys.length ≤ sizeLine ∧ P (.tup (xs ++ ys)) M
  | .ref m, .ref n => (match M[m]?, M[n]? with
    | some (.lst xs), some (.lst ys) => xs.length + ys.length ≤ sizeLine ∧ P (.ref M.length) (M ++ [.lst (xs ++ ys)])
    | _, _ => False)
  | _, _ => False
def opSub : DOp := fun d e M P => match d, e with
  | .int i, .int j => P (.int (i - j)) M
  | _, _ => False
def opMul : DOp := fun d e M P => match d, e with
  | .int i, .int j => IntMulOk i j ∧ P (.int (i * j)) M
  | .ref m, .int k => (match M[m]? with
    | some (.lst xs) => (-(2 ^ 63) ≤ k ∧ k < 2 ^ 63 ∧ xs.length * k.toNat ≤ sizeLine) ∧ P (.ref M.length) (M ++ [.lst (List.replicate k.toNat xs).flatten])
    | _ => False)
  | _, _ => False
def opDiv : DOp := fun d e M P => match d, e with
  | .int i, .int j => (0 < j ∧ j.natAbs.log2 < 9000) ∧ P (.int (i / j)) M
  | _, _ => False
def opMod : DOp := fun d e M P => match d, e with
  | .int i, .int j => 0 < j ∧ P (.int (i % j)) M
  | _, _ => False
def opPow : DOp := fun d e M P => match d, e with
  | .int i, .int j => (0 ≤ j ∧ j ≤ 1000000 ∧ i.natAbs < 2 ^ 64) ∧ P (.int (i ^ j.toNat)) M
  | _, _ => False
def opShl : DOp := fun d e M P => match d, e with
  | .int i, .int j => (0 ≤ j ∧ j ≤ 1000000 ∧ i.natAbs < 2 ^ 64) ∧ P (.int (i * 2 ^ j.toNat)) M
  | _, _ => False
def opShr : DOp := fun d e M P => match d, e with
  | .int i, .int j => 0 ≤ j ∧ P (.int (i / 2 ^ j.toNat)) M
  | _, _ => False
def opAnd : DOp := fun d e M P => match d, e with
  | .int i, .int j => P (.int (Builtin.bitAnd i j)) M
  | _, _ => False
def opOr : DOp := fun d e M P => match d, e with
  | .int i, .int j => P (.int (Builtin.bitOr i j)) M
  | _, _ => False
def opXor : DOp := fun d e M P => match d, e with
  | .int i, .int j => P (.int (Builtin.bitXor i j)) M
  | _, _ => False
def opNeg : DUn := fun d M P => match d with
  | .int i => P (.int (-i)) M
  | _ => False
/-- < of two ints, texts -/
def opLt : DOp := fun d e M P => match d, e with
  | .int i, .int j => P (.bl (decide (i < j))) M
  | .str a, .str b => P (.bl (decide (a.cps.toList < b.cps.toList))) M
  | _, _ => False
def opLe : DOp := fun d e M P => match d, e with
  | .int i, .int j => P (.bl (decide (i ≤ j))) M
  | _, _ => False
def opGt : DOp := fun d e M P => match d, e with
  | .int i, .int j => P (.bl (decide (j < i))) M
  | _, _ => False
def opGe : DOp := fun d e M P => match d, e with
  | .int i, .int j => P (.bl (decide (j ≤ i))) M
  | _, _ => False
def opEq : DOp := fun d e M P => match pyM M d, pyM M e with
  | some p, some q => (SeqAt.shaped p = true ∧ SeqAt.shaped q = true) ∧ P (.bl (PyData.eqv p q)) M
  | _, _ => False
def opNe : DOp := fun d e M P => match pyM M d, pyM M e with
  | some p, some q => (SeqAt.shaped p = true ∧ SeqAt.shaped q = true) ∧ P (.bl (!PyData.eqv p q)) M
  | _, _ => False
def isNon : D → Bool
  | .non => true
  | _ => false
def opIs : DOp := fun d e M P => match e with
  | .non => P (.bl (isNon d)) M
  | .bl c => (match d with
    | .bl b => P (.bl (decide (b = c))) M
    | _ => False)
  | _ => False
def opIsNot : DOp := fun d e M P => match e with
  | .non => P (.bl (!isNon d)) M
  | .bl c => (match d with
    | .bl b => P (.bl (!decide (b = c))) M
    | _ => False)
  | _ => False
/-- the items of a list or tuple -/
def seqOf (M : Mem) : D → Option (List D)
  | .tup xs => some xs
  | .kup xs => some xs
  | .rol xs => some xs
  | .ref n => (match M[n]? with
    | some (.lst xs) => some xs
    | _ => none)
  | _ => none
def flat? : D → Bool
  | .non => true
  | .bl _ => true
  | .int _ => true
  | .str _ => true
  | _ => false
def isList (M : Mem) : D → Bool
  | .rol _ => true
  | .ref _ => true
  | _ => false
def keyK : D → Option Key
  | .int i => some (.inl i)
  | .str z => some (.inr z)
  | _ => none
def keysK : List D → Option (List Key)
  | [] => some []
  | d :: ds => (keyK d).bind fun k => (keysK ds).map fun ks => k :: ks
def keyT : D → Option (List Key)
  | .tup xs => keysK xs
  | _ => none
section
variable {κ : Type} [DecidableEq κ]
def valD (kvs : List (κ × D)) (k : κ) : Option D := (kvs.find? fun kv => decide (kv.1 = k)).map (·.2)
def putD (kvs : List (κ × D)) (k : κ) (v : D) : List (κ × D) :=
  if (kvs.any fun kv => decide (kv.1 = k)) = true then kvs.map (fun kv => if kv.1 = k then (kv.1, v) else kv) else kvs ++ [(k, v)]
end
/-- what a dict has at a key -/
def dgetD (M : Mem) (n : Nat) (k : D) : Option (Option D) := match M[n]? with
  | some (.dK kvs) => (keyK k).map (valD kvs)
  | some (.dT kvs) => (keyT k).map (valD kvs)
  | _ => none
def inD (neg : Bool) : DOp := fun x y M P => match seqOf M y with
  | some ys => ((flat? x = true ∧ ys.all flat? = true) ∨ (isList M y = true ∧ pure? x = true ∧ pures? ys = true ∧ SeqAt.shaped (toPy x) = true ∧ SeqAt.shaped (.list (toPys ys)) = true)) ∧
    P (.bl (if neg = true then !(toPys ys).any (fun z => PyData.eqv z (toPy x)) else (toPys ys).any fun z => PyData.eqv z (toPy x))) M
  | none => (match y with
    | .ref n => (match dgetD M n x with
      | some o => P (.bl (if neg = true then !o.isSome else o.isSome)) M
      | none => False)
    | _ => False)
def opIx : DOp := fun x y M P => match x with
  | .str z => (match y with
    | .int i => z.length ≤ sizeLine ∧ (match atI z.cps.toList i with
      | some c => P (.str ⟨#[c]⟩) M
      | none => False)
    | _ => False)
  | x => (match seqOf M x with
    | some xs => (match y with
      | .int i => (match atI xs i with
        | some d => P d M
        | none => False)
      | _ => False)
    | none => (match x with
      | .ref n => (match dgetD M n y with
        | some (some d) => P d M
        | _ => False)
      | _ => False))

section
variable {X : Cx} {fa : Org}
theorem o_add : OpR X (binaryOp .Add) (LO X.K fa opAdd) := ((op_add.or op_add_str).or (op_catA.or op_cat)).imp fun x y H Q ⟨M, α, d, e, P, st, rx, ry, h, an⟩ => by
  unfold opAdd at h
  split at h
  · cases rx; cases ry; exact .inl (.inl ⟨_, _, rfl, rfl, an.here st (.int _) h⟩)
  · cases rx; cases ry; exact .inl (.inr ⟨_, _, rfl, rfl, h.1, an.here st (.str _) h.2⟩)
  · cases rx with
    | @tup a vs _ s l r =>
      cases ry with
      | @tup b ws _ s2 l2 r2 =>
        have hl : vs.length + ws.length ≤ sizeLine := by rw [r.length, r2.length]; exact h.1
        refine .inr (.inl ⟨a, b, vs, ws, rfl, rfl, .inl (.inl s), .inl (.inl s2), hl, fun e => ?_, fun _ e => ?_, fun _ _ p hp => ?_⟩)
        · subst e; cases r
          exact an.here st (.tup s2 l2 r2) h.2
        · subst e; cases r2
          have h2 := h.2
          rw [List.append_nil] at h2
          exact an.here st (.tup s l r) h2
        · exact an.tup st (r.append r2) (by rw [List.length_append]; exact hl) hp h.2
  · cases rx with
    | @ref m a ea =>
      cases ry with
      | @ref n b eb =>
        split at h
        · rename_i xs ys q1 q2
          obtain ⟨vs, hv, _, r⟩ := st.cell _ _ a q1 ea
          obtain ⟨ws, hw, _, r2⟩ := st.cell _ _ b q2 eb
          exact .inr (.inr ⟨a, b, vs, ws, rfl, rfl, hv, hw, by rw [r.length, r2.length]; exact h.1, fun p hp => an.lst st (r.append r2) (by rw [List.length_append, r.length, r2.length]; exact h.1) hp h.2⟩)
        · exact h.elim
  · exact h.elim
theorem o_sub : OpR X (binaryOp .Sub) (LO X.K fa opSub) := op_sub.imp fun x y H Q ⟨M, α, d, e, P, st, rx, ry, h, an⟩ => by
  unfold opSub at h
  split at h
  · cases rx; cases ry; exact ⟨_, _, rfl, rfl, an.here st (.int _) h⟩
  · exact h.elim
theorem rep_len {α : Type} (xs : List α) : ∀ n : Nat, (List.replicate n xs).flatten.length = n * xs.length
  | 0 => by simp
  | n + 1 => by rw [List.replicate_succ, List.flatten_cons, List.length_append, rep_len xs n, Nat.succ_mul, Nat.add_comm]
theorem op_mulG : OpR X (binaryOp .Mult) (rI IntMulOk fun i j => .int (i * j)) := opI fun _ _ _ _ _ _ _ hc q => mul_int q hc
theorem o_mul : OpR X (binaryOp .Mult) (LO X.K fa opMul) := (op_mulG.or op_rep).imp fun x y H Q ⟨M, α, d, e, P, st, rx, ry, h, an⟩ => by
  unfold opMul at h
  split at h
  · cases rx; cases ry; exact .inl ⟨_, _, rfl, rfl, h.1, an.here st (.int _) h.2⟩
  · cases rx with
    | @ref m a ea =>
      cases ry
      split at h
      · rename_i xs q1
        obtain ⟨vs, hv, _, r⟩ := st.cell _ _ a q1 ea
        exact .inr ⟨a, _, vs, rfl, rfl, hv, h.1.1, h.1.2.1, by rw [r.length]; exact h.1.2.2, fun p hp => an.lst st (r.rep _) (by rw [rep_len, r.length, Nat.mul_comm]; exact h.1.2.2) hp h.2⟩
      · exact h.elim
  · exact h.elim
theorem o_div : OpR X (binaryOp .FloorDiv) (LO X.K fa opDiv) := op_fdivW.imp fun x y H Q ⟨M, α, d, e, P, st, rx, ry, h, an⟩ => by
  unfold opDiv at h
  split at h
  · cases rx; cases ry; exact ⟨_, _, rfl, rfl, h.1, an.here st (.int _) h.2⟩
  · exact h.elim
theorem o_mod : OpR X (binaryOp .Mod) (LO X.K fa opMod) := op_mod.imp fun x y H Q ⟨M, α, d, e, P, st, rx, ry, h, an⟩ => by
  unfold opMod at h
  split at h
  · cases rx; cases ry; exact ⟨_, _, rfl, rfl, h.1, an.here st (.int _) h.2⟩
  · exact h.elim
theorem o_pow : OpR X (binaryOp .Pow) (LO X.K fa opPow) := op_pow.imp fun x y H Q ⟨M, α, d, e, P, st, rx, ry, h, an⟩ => by
  unfold opPow at h
  split at h
  · cases rx; cases ry; exact ⟨_, _, rfl, rfl, h.1, an.here st (.int _) h.2⟩
  · exact h.elim
theorem o_shl : OpR X (binaryOp .LShift) (LO X.K fa opShl) := op_shl.imp fun x y H Q ⟨M, α, d, e, P, st, rx, ry, h, an⟩ => by
  unfold opShl at h
  split at h
  · cases rx; cases ry; exact ⟨_, _, rfl, rfl, h.1, an.here st (.int _) h.2⟩
  · exact h.elim
theorem o_shr : OpR X (binaryOp .RShift) (LO X.K fa opShr) := op_shr.imp fun x y H Q ⟨M, α, d, e, P, st, rx, ry, h, an⟩ => by
  unfold opShr at h
  split at h
  · cases rx; cases ry; exact ⟨_, _, rfl, rfl, h.1, an.here st (.int _) h.2⟩
  · exact h.elim
theorem o_and : OpR X (binaryOp .BitAnd) (LO X.K fa opAnd) := op_and.imp fun x y H Q ⟨M, α, d, e, P, st, rx, ry, h, an⟩ => by
  unfold opAnd at h
  split at h
  · cases rx; cases ry; exact ⟨_, _, rfl, rfl, an.here st (.int _) h⟩
  · exact h.elim
theorem o_or : OpR X (binaryOp .BitOr) (LO X.K fa opOr) := op_or.imp fun x y H Q ⟨M, α, d, e, P, st, rx, ry, h, an⟩ => by
  unfold opOr at h
  split at h
  · cases rx; cases ry; exact ⟨_, _, rfl, rfl, an.here st (.int _) h⟩
  · exact h.elim
theorem o_xor : OpR X (binaryOp .BitXor) (LO X.K fa opXor) := op_xor.imp fun x y H Q ⟨M, α, d, e, P, st, rx, ry, h, an⟩ => by
  unfold opXor at h
  split at h
  · cases rx; cases ry; exact ⟨_, _, rfl, rfl, an.here st (.int _) h⟩
  · exact h.elim
theorem o_neg : UnR X (unaryOp .USub) (LU X.K fa opNeg) := un_neg.imp fun x H Q ⟨M, α, d, P, st, rx, h, an⟩ => by
  unfold opNeg at h
  split at h
  · cases rx; exact ⟨_, rfl, an.here st (.int _) h⟩
  · exact h.elim
theorem o_lt : OpR X (compareOp .Lt) (LO X.K fa opLt) := (op_lt.or op_lt_str).imp fun x y H Q ⟨M, α, d, e, P, st, rx, ry, h, an⟩ => by
  unfold opLt at h
  split at h
  · cases rx; cases ry; exact .inl ⟨_, _, rfl, rfl, an.here st (.bl _) h⟩
  · cases rx; cases ry; exact .inr ⟨_, _, rfl, rfl, an.here st (.bl _) h⟩
  · exact h.elim
theorem o_le : OpR X (compareOp .LtE) (LO X.K fa opLe) := op_le.imp fun x y H Q ⟨M, α, d, e, P, st, rx, ry, h, an⟩ => by
  unfold opLe at h
  split at h
  · cases rx; cases ry; exact ⟨_, _, rfl, rfl, an.here st (.bl _) h⟩
  · exact h.elim
theorem o_gt : OpR X (compareOp .Gt) (LO X.K fa opGt) := op_gt.imp fun x y H Q ⟨M, α, d, e, P, st, rx, ry, h, an⟩ => by
  unfold opGt at h
  split at h
  · cases rx; cases ry; exact ⟨_, _, rfl, rfl, an.here st (.bl _) h⟩
  · exact h.elim
theorem o_ge : OpR X (compareOp .GtE) (LO X.K fa opGe) := op_ge.imp fun x y H Q ⟨M, α, d, e, P, st, rx, ry, h, an⟩ => by
  unfold opGe at h
  split at h
  · cases rx; cases ry; exact ⟨_, _, rfl, rfl, an.here st (.bl _) h⟩
  · exact h.elim
theorem o_eq (hu : X.A.units + 64 < cLine) : OpR X (compareOp .Eq) (LO X.K fa opEq) := (op_eqD hu).imp fun x y H Q ⟨M, α, d, e, P, st, rx, ry, h, an⟩ => by
  unfold opEq at h
  split at h
  · rename_i p q h1 h2
    exact ⟨p, q, pyM_dp st rx h1, pyM_dp st ry h2, h.1.1, h.1.2, an.here st (.bl _) h.2⟩
  · exact h.elim
theorem o_ne (hu : X.A.units + 64 < cLine) : OpR X (compareOp .NotEq) (LO X.K fa opNe) := (op_neD hu).imp fun x y H Q ⟨M, α, d, e, P, st, rx, ry, h, an⟩ => by
  unfold opNe at h
  split at h
  · rename_i p q h1 h2
    exact ⟨p, q, pyM_dp st rx h1, pyM_dp st ry h2, h.1.1, h.1.2, an.here st (.bl _) h.2⟩
  · exact h.elim
theorem isNon_v {K : PySem.W.Frag} {α : List Addr} {H : Hp} {v : V} {d : D} (r : Rp K fa α H v d) : decide (v = .non) = isNon d := by
  cases r <;> rfl
theorem o_is : OpR X (compareOp .Is) (LO X.K fa opIs) := (op_isN.or op_is_bl).imp fun x y H Q ⟨M, α, d, e, P, st, rx, ry, h, an⟩ => by
  unfold opIs at h
  split at h
  · cases ry
    rw [← isNon_v rx] at h
    exact .inl ⟨rfl, an.here st (.bl _) h⟩
  · cases ry
    split at h
    · cases rx; exact .inr ⟨_, _, rfl, rfl, an.here st (.bl _) h⟩
    · exact h.elim
  · exact h.elim
theorem o_isnot : OpR X (compareOp .IsNot) (LO X.K fa opIsNot) := (op_notN.or op_isnot_bl).imp fun x y H Q ⟨M, α, d, e, P, st, rx, ry, h, an⟩ => by
  unfold opIsNot at h
  split at h
  · cases ry
    rw [← isNon_v rx] at h
    exact .inl ⟨rfl, an.here st (.bl _) h⟩
  · cases ry
    split at h
    · cases rx; exact .inr ⟨_, _, rfl, rfl, an.here st (.bl _) h⟩
    · exact h.elim
  · exact h.elim
end

/-! ### lists and tuples as they are read -/
section
variable {K : PySem.W.Frag} {fa : Org} {α : List Addr} {H : Hp} {M : Mem}
theorem seq_v {v : V} {d : D} {xs : List D} (st : StR K fa α H M) (r : Rp K fa α H v d) (h : seqOf M d = some xs) :
    ∃ a vs, v = .ref a ∧ (SqL K H a vs ∨ SqT K H a vs) ∧ Rps K fa α H vs xs := by
  cases r with
  | @tup a vs ds s l r => cases h; exact ⟨a, vs, rfl, .inr (.inl (.inl s)), r⟩
  | @kup a vs ds s l r => cases h; exact ⟨a, vs, rfl, .inr (s H), r⟩
  | @rol a vs ds s l r => cases h; exact ⟨a, vs, rfl, .inl (s.elim (fun z => .inl (.inr z)) fun z => z H), r⟩
  | @ref n a ea =>
    have h : (match M[n]? with
      | some (.lst xs) => some xs
      | _ => none) = some xs := h
    cases q : M[n]? with
    | none => rw [q] at h; cases h
    | some c =>
      rw [q] at h
      cases c with
      | lst ys =>
        cases h
        obtain ⟨vs, hv, _, r⟩ := st.cell n _ a q ea
        exact ⟨a, vs, rfl, .inl (.inl (.inl hv)), r⟩
      | dK _ => cases h
      | dT _ => cases h
  | _ => cases h
theorem Rp.flat {v : V} {d : D} (r : Rp K fa α H v d) (h : flat? d = true) : flatV v = true := by
  cases r <;> first | rfl | cases h
theorem eqV_py {v w : V} {d e : D} (r : Rp K fa α H v d) (s : Rp K fa α H w e) (h1 : flat? d = true) (h2 : flat? e = true) : eqV v w = PyData.eqv (toPy d) (toPy e) := by
  cases r <;> first
    | (cases h1; done)
    | (cases s <;> first | (cases h2; done) | rfl | (simp [eqV, toPy, PyData.eqv]))
theorem Rps.flat : ∀ {vs : List V} {ds : List D}, Rps K fa α H vs ds → ds.all flat? = true → vs.all flatV = true
  | _, _, .nil, _ => rfl
  | _, _, .cons h t, q => by
    rw [List.all_cons, Bool.and_eq_true] at q ⊢
    exact ⟨h.flat q.1, Rps.flat t q.2⟩
theorem inV_py {x : V} {d : D} (r : Rp K fa α H x d) (h1 : flat? d = true) : ∀ {vs : List V} {ds : List D}, Rps K fa α H vs ds → ds.all flat? = true → inV x vs = (toPys ds).any fun z => PyData.eqv z (toPy d)
  | _, _, .nil, _ => rfl
  | _, _, .cons h t, q => by
    rw [List.all_cons, Bool.and_eq_true] at q
    show (eqV _ x || _) = (PyData.eqv _ _ || _)
    rw [eqV_py h r q.1 h1]
    exact congrArg _ (inV_py r h1 t q.2)
theorem Rps.at {vs : List V} {ds : List D} {i : Int} {d : D} (r : Rps K fa α H vs ds) (h : atI ds i = some d) : ∃ v, atI vs i = some v ∧ Rp K fa α H v d := by
  unfold atI at h ⊢
  rw [r.length]
  cases q : ixN ds.length i with
  | none => rw [q] at h; cases h
  | some j =>
    rw [q] at h
    exact r.get (i := j) h
theorem Rp.keyK {v : V} {d : D} {k : Key} (r : Rp K fa α H v d) (h : keyK d = some k) : v = kV k := by
  cases r <;> first | (cases h; rfl) | cases h
theorem Rps.keysK : ∀ {vs : List V} {ds : List D} {ks : List Key}, Rps K fa α H vs ds → DL.keysK ds = some ks → vs = ks.map kV
  | _, _, _, .nil, h => by cases h; rfl
  | _, _, ks, .cons r t, h => by
    obtain ⟨k, h1, h2⟩ := Option.bind_eq_some_iff.mp h
    obtain ⟨l, h3, h4⟩ := Option.map_eq_some_iff.mp h2
    subst h4
    rw [r.keyK h1, Rps.keysK t h3]
    rfl
section
variable {κ : Type} [DecidableEq κ]
theorem val_v {k : κ} : ∀ {ws : List (κ × V)} {kvs : List (κ × D)}, Paired (KR K fa α H) ws kvs → (∀ d, valD kvs k = some d → ∃ v, valV ws k = some v ∧ Rp K fa α H v d) ∧ (valD kvs k).isSome = (valV ws k).isSome
  | _, _, .nil => ⟨fun _ h => (by cases h), rfl⟩
  | (k1, v) :: ws, (k2, d) :: kvs, .cons ⟨e, r⟩ t => by
    have e : k1 = k2 := e
    subst e
    have ih := val_v (k := k) t
    by_cases hk : k1 = k
    · subst hk
      have e1 : valD ((k1, d) :: kvs) k1 = some d := by simp [valD, List.find?_cons]
      have e2 : valV ((k1, v) :: ws) k1 = some v := valV_pos rfl
      rw [e1, e2]
      exact ⟨fun x h => by cases h; exact ⟨v, rfl, r⟩, rfl⟩
    · have e1 : valD ((k1, d) :: kvs) k = valD kvs k := by simp [valD, List.find?_cons, hk]
      have e2 : valV ((k1, v) :: ws) k = valV ws k := valV_neg hk
      rw [e1, e2]
      exact ih
theorem any_v {k : κ} : ∀ {ws : List (κ × V)} {kvs : List (κ × D)}, Paired (KR K fa α H) ws kvs → (ws.any fun kv => decide (kv.1 = k)) = kvs.any fun kv => decide (kv.1 = k)
  | _, _, .nil => rfl
  | (k1, v) :: ws, (k2, d) :: kvs, .cons ⟨e, r⟩ t => by
    have e : k1 = k2 := e
    subst e
    rw [List.any_cons, List.any_cons, any_v t]
theorem put_v {k : κ} {v : V} {d : D} (r : Rp K fa α H v d) {ws : List (κ × V)} {kvs : List (κ × D)} (h : Paired (KR K fa α H) ws kvs) : Paired (KR K fa α H) (putK ws k v) (putD kvs k d) := by
  unfold putK putD
  rw [any_v h]
  split
  · have go : ∀ {ws : List (κ × V)} {kvs : List (κ × D)}, Paired (KR K fa α H) ws kvs → Paired (KR K fa α H) (ws.map fun kv => if kv.1 = k then (kv.1, v) else kv) (kvs.map fun kv => if kv.1 = k then (kv.1, d) else kv) := by
      intro ws kvs h
      induction h with
      | nil => exact .nil
      | @cons a b as bs hab t ih =>
        obtain ⟨k1, v1⟩ := a
        obtain ⟨k2, d2⟩ := b
        obtain ⟨e, r2⟩ := hab
        have e : k1 = k2 := e
        subst e
        refine .cons ?_ ih
        by_cases hk : k1 = k
        · simp only [hk, if_true]; exact ⟨rfl, r⟩
        · simp only [hk, if_false]; exact ⟨rfl, r2⟩
    exact go h
  · have go : ∀ {ws : List (κ × V)} {kvs : List (κ × D)}, Paired (KR K fa α H) ws kvs → Paired (KR K fa α H) (ws ++ [(k, v)]) (kvs ++ [(k, d)]) := by
      intro ws kvs h
      induction h with
      | nil => exact .cons ⟨rfl, r⟩ .nil
      | cons hab t ih => exact .cons hab ih
    exact go h
end
theorem dget_v {v : V} {n : Nat} {a : Addr} {k : D} {o : Option D} (st : StR K fa α H M) (ea : α[n]? = some a) (r : Rp K fa α H v k) (h : dgetD M n k = some o) :
    ∃ ov, DGet H a v ov ∧ o.isSome = ov.isSome ∧ ∀ d, o = some d → ∃ w, ov = some w ∧ Rp K fa α H w d := by
  unfold dgetD at h
  split at h
  · rename_i kvs q
    obtain ⟨ws, hw, p⟩ := st.cell n _ a q ea
    obtain ⟨key, h1, h2⟩ := Option.map_eq_some_iff.mp h
    subst h2
    obtain ⟨f1, f2⟩ := val_v (k := key) p
    refine ⟨valV ws key, ?_, f2, fun d e => f1 d e⟩
    rw [r.keyK h1]
    exact DGet.k hw
  · rename_i kvs q
    obtain ⟨ws, hw, p⟩ := st.cell n _ a q ea
    obtain ⟨key, h1, h2⟩ := Option.map_eq_some_iff.mp h
    subst h2
    obtain ⟨f1, f2⟩ := val_v (k := key) p
    cases r with
    | @tup b vs ds s l r =>
      refine ⟨valV ws key, ?_, f2, fun d e => f1 d e⟩
      have e : vs = key.map kV := r.keysK h1
      subst e
      exact DGet.t hw s
    | _ => cases h1
  · cases h
end

section
variable {X : Cx} {fa : Org}
def rDIn (neg : Bool) : R2 := fun y x H Q => ∃ a o, x = .ref a ∧ DGet H a y o ∧ Q (.bl (if neg = true then !o.isSome else o.isSome)) H
theorem op_din (hu : X.A.units + 1 < cLine) : OpR X (compareOp .In) (rDIn false) := fun pins s σ H y x u v Q I ry rx ⟨a, o, e, g, q⟩ => by
  subst e
  obtain rfl : v = Value.ref a := rx
  exact d_in hu I g ry fun s3 I3 => ⟨.bl o.isSome, H, I3, rfl, q⟩
theorem op_dnotin (hu : X.A.units + 1 < cLine) : OpR X (compareOp .NotIn) (rDIn true) := fun pins s σ H y x u v Q I ry rx ⟨a, o, e, g, q⟩ => by
  subst e
  obtain rfl : v = Value.ref a := rx
  exact d_notIn hu I g ry fun s3 I3 => ⟨.bl (!o.isSome), H, I3, rfl, q⟩
theorem in_go {neg : Bool} {x y : V} {H : Hp} {Q : VK} (h : LO X.K fa (inD neg) x y H Q) : rIn X.K neg x y H Q ∨ (∃ d ds, Dp X.K H x d ∧ Dp X.K H y (.list ds) ∧ SeqAt.shaped d = true ∧ SeqAt.shaped (.list ds) = true ∧ Q (.bl (if neg = true then !ds.any (fun z => PyData.eqv z d) else ds.any fun z => PyData.eqv z d)) H) ∨ rDIn neg x y H Q := by
  obtain ⟨M, α, d, e, P, st, rx, ry, h, an⟩ := h
  unfold inD at h
  split at h
  · rename_i ys hs
    obtain ⟨h1, h⟩ := h
    rcases h1 with ⟨f1, f2⟩ | ⟨l1, p1, p2, z1, z2⟩
    · obtain ⟨a, vs, e, hq, r⟩ := seq_v st ry hs
      rw [← inV_py rx f1 r f2] at h
      exact .inl ⟨a, vs, e, hq, rx.flat f1, r.flat f2, an.here st (.bl _) h⟩
    · refine .inr (.inl ⟨toPy d, toPys ys, rx.dp p1, ?_, z1, z2, an.here st (.bl _) h⟩)
      cases ry with
      | @rol a vs ds s l r => cases hs; exact .lst (s.elim (fun z => .inl (.inr z)) fun z => z H) (r.dp p2)
      | @ref n a ea =>
        obtain ⟨b, vs, e, hq, r⟩ := seq_v st (.ref ea) hs
        cases e
        have hs : (match M[n]? with
          | some (.lst xs) => some xs
          | _ => none) = some ys := hs
        cases q : M[n]? with
        | none => rw [q] at hs; cases hs
        | some c =>
          rw [q] at hs
          cases c with
          | lst zs =>
            cases hs
            obtain ⟨vs, hv, _, r⟩ := st.cell n _ a q ea
            exact .lst (.inl (.inl hv)) (r.dp p2)
          | dK _ => cases hs
          | dT _ => cases hs
      | _ => cases l1
  · split at h
    · split at h
      · rename_i o hd
        cases ry with
        | ref ea =>
          obtain ⟨ov, g, f1, f2⟩ := dget_v st ea rx hd
          rw [f1] at h
          exact .inr (.inr ⟨_, ov, rfl, g, an.here st (.bl _) h⟩)
      · exact h.elim
    · exact h.elim
theorem o_in (hu : X.A.units + 65 < cLine) : OpR X (compareOp .In) (LO X.K fa (inD false)) := (op_in_seq.or ((op_inD hu).or (op_din (by omega)))).imp fun x y H Q h => in_go h
theorem o_notin (hu : X.A.units + 65 < cLine) : OpR X (compareOp .NotIn) (LO X.K fa (inD true)) := (op_notIn_seq.or ((op_notInD hu).or (op_dnotin (by omega)))).imp fun x y H Q h => in_go h
def rIxDc : R2 := fun x y H Q => ∃ a v, x = .ref a ∧ DGet H a y (some v) ∧ Q v H
theorem ix_dict (hu : X.A.units + 1 < cLine) : IxR X rIxDc := fun value slice pins s σ H x y v u Q I rx ry ⟨a, w, e, g, q⟩ hs => by
  subst e
  obtain rfl : v = Value.ref a := rx
  unfold subscriptTail
  refine wpAny_bind ?_
  rw [getitemInPython_of_ne (dict_typeIs I g).not_modules]
  refine wpAny_bind (wpAny_specialOf (dict_typeIs I g) PySem.F.slot_dict_getitem.lookup ?_)
  have fin : wpAny (model X.prog X.w) X.A (subscripted slice false (.ref a) u) (fun r s₃ => wpAny (model X.prog X.w) X.A (letTemporaryGo value (.ref a) r >>= fun _ => pure r) (EP X pins σ Q) X.xe s₃) X.xe s := by
    rw [hs]
    exact wpAny_operating (d_getItem hu I g ry fun w' s3 I3 rw' => wpAny_bind (wpAny_letTemporaryGo (wpAny_pure ⟨w, H, I3, rw', q⟩)))
  first
    | exact wpAny_pure (wpAny_bind fin)
    | exact wpAny_bind (wpAny_pure (wpAny_bind fin))
    | exact wpAny_bind fin
theorem ix_go {x y : V} {H : Hp} {Q : VK} (h : LO X.K fa opIx x y H Q) : rIx X.K x y H Q ∨ rIxDc x y H Q := by
  obtain ⟨M, α, d, e, P, st, rx, ry, h, an⟩ := h
  unfold opIx at h
  split at h
  · split at h
    · obtain ⟨hl, h⟩ := h
      split at h
      · rename_i c hc
        cases rx; cases ry
        exact .inl (.inr (.inr ⟨_, _, c, rfl, rfl, hl, hc, an.here st (.str _) h⟩))
      · exact h.elim
    · exact h.elim
  · split at h
    · rename_i xs hs
      split at h
      · split at h
        · rename_i g hg
          cases ry
          obtain ⟨a, vs, e, hq, r⟩ := seq_v st rx hs
          obtain ⟨v, hv, rv⟩ := r.at hg
          rcases hq with hq | hq
          · exact .inl (.inl ⟨a, vs, _, v, e, rfl, hq, hv, an.here st rv h⟩)
          · exact .inl (.inr (.inl ⟨a, vs, _, v, e, rfl, hq, hv, an.here st rv h⟩))
        · exact h.elim
      · exact h.elim
    · split at h
      · split at h
        · rename_i g hg
          cases rx with
          | ref ea =>
            obtain ⟨ov, hd, _, f2⟩ := dget_v st ea ry hg
            obtain ⟨w, e, rw'⟩ := f2 _ rfl
            subst e
            exact .inr ⟨_, w, rfl, hd, an.here st rw' h⟩
        · exact h.elim
      · exact h.elim
theorem i_ix (hu : X.A.units + 1 < cLine) : IxR X (LO X.K fa opIx) := (ix_seq.or (ix_dict hu)).imp fun x y H Q h => ix_go h
end
end DL
/-! The data layer, part 4: statements, targets, loops, comprehensions. -/
namespace L2
open PySem PySem.Spec PyProof.Rows
theorem PS.imp {X : Cx} {e : Stmt} {t t' : TS} (h : PS X e t) (i : ∀ D σ H, t' D σ H → t D σ H) : PS X e t' := ⟨fun pins s σ H D I q => h.run pins s σ H D I (i D σ H q)⟩
theorem PSs.imp {X : Cx} {e : List Stmt} {t t' : TS} (h : PSs X e t) (i : ∀ D σ H, t' D σ H → t D σ H) : PSs X e t' := ⟨fun pins s σ H D I q => h.run pins s σ H D I (i D σ H q)⟩
theorem PG.imp {X : Cx} {e : Expr} {t t' : TG} (h : PG X e t) (i : ∀ v σ H Q, t' v σ H Q → t v σ H Q) : PG X e t' := ⟨fun pins s σ H v u Q I r q => h.run pins s σ H v u Q I r (i v σ H Q q)⟩
theorem PGs.imp {X : Cx} {e : List Expr} {t t' : TGs} (h : PGs X e t) (i : ∀ v σ H Q, t' v σ H Q → t v σ H Q) : PGs X e t' := ⟨fun pins s σ H v u Q I r q => h.run pins s σ H v u Q I r (i v σ H Q q)⟩
theorem PI.imp {X : Cx} {tg e : Expr} {t t' : TI} (h : PI X tg e t) (i : ∀ σ H R, t' σ H R → t σ H R) : PI X tg e t' := ⟨fun pins s σ H R I q => h.run pins s σ H R I (i σ H R q)⟩
theorem PTs.imp {X : Cx} {e : List Expr} {t t' : TT} (h : PTs X e t) (i : ∀ σ H Q, t' σ H Q → t σ H Q) : PTs X e t' := ⟨fun pins s σ H Q I q => h.run pins s σ H Q I (i σ H Q q)⟩
theorem PSet.or {X : Cx} {t u : TSet} (h : PSet X t) (g : PSet X u) : PSet X (fun o i v H Q => t o i v H Q ∨ u o i v H Q) := fun pins s σ H o i v ov iv w Q I ro ri rv q => q.elim (h pins s σ H o i v ov iv w Q I ro ri rv) (g pins s σ H o i v ov iv w Q I ro ri rv)
theorem PSet.imp {X : Cx} {t t' : TSet} (h : PSet X t) (g : ∀ o i v H Q, t' o i v H Q → t o i v H Q) : PSet X t' := fun pins s σ H o i v ov iv w Q I ro ri rv q => h pins s σ H o i v ov iv w Q I ro ri rv (g o i v H Q q)
/-- a list or a tuple, walked -/
def iSq (K : PySem.W.Frag) (tl : TE) : TI := fun σ H R => tl σ H fun x H1 => ∃ a, x = .ref a ∧ (((∃ xs, SqL K H1 a xs) ∧ R (Itl K a) H1) ∨ ((∃ xs, SqT K H1 a xs) ∧ R (Itt K a) H1))
theorem pi_sq {X : Cx} {tg l : Expr} {tl : TE} (hl : PE X l tl) : PI X tg l (iSq X.K tl) := by
  refine ⟨fun pins s σ H R I h => ?_⟩
  refine thn (hl.run pins s σ H _ I h) fun v s1 ⟨x, H1, I1, r1, q1⟩ => ?_
  obtain ⟨a, e, q⟩ := q1
  subst e
  cases r1
  rcases q with ⟨⟨xs, hq⟩, q⟩ | ⟨⟨xs, hq⟩, q⟩
  · obtain ⟨its, rv, p, hz⟩ := I1.list hq
    refine wpAny_pyIter_list p.isList ?_
    refine ⟨s1.heap.objs.size, [s1.heap.objs.size], _, _, H1, rfl, I1.kept (t' := s1.toks) fun b o e => Heap.get?_push_of_some _ e, turn_list a _, ⟨_, Heap.get?_push_size _ rfl, rfl, rfl⟩, fun b hb => ?_, q⟩
    have e : b = s1.heap.objs.size := by simpa using hb
    subst e
    exact I1.fpOk (Nat.le_refl _) (I1.hok.fresh (Nat.le_refl _))
  · obtain ⟨its, rv, p, hz⟩ := I1.tuple hq
    refine wpAny_pyIter_tuple (show s1.heap.IsTuple a its.toArray from p) ?_
    refine ⟨s1.heap.objs.size, [s1.heap.objs.size], _, _, H1, rfl, I1.kept (t' := s1.toks) fun b o e => Heap.get?_push_of_some _ e, turn_tuple a _, ⟨_, Heap.get?_push_size _ rfl, rfl, rfl⟩, fun b hb => ?_, q⟩
    have e : b = s1.heap.objs.size := by simpa using hb
    subst e
    exact I1.fpOk (Nat.le_refl _) (I1.hok.fresh (Nat.le_refl _))
end L2
namespace DL
open PySem PySem.Spec PyProof.Rows L2

structure EndsR (K : PySem.W.Frag) (fa : Org) (α : List Addr) (H : Hp) (E : DEnds) (D : Ends) : Prop where
  nx : ∀ (σ' : L2.St) (ρ' : Env) (H' : Hp) (α' : List Addr) (M' : Mem), Ext K H H' α α' → EnvR K fa α' H' σ' ρ' → StR K fa α' H' M' → E.nx ρ' M' → D.nx σ' H'
  rt : Ans K fa α H E.rt D.rt
  bk : ∀ (σ' : L2.St) (ρ' : Env) (H' : Hp) (α' : List Addr) (M' : Mem), Ext K H H' α α' → EnvR K fa α' H' σ' ρ' → StR K fa α' H' M' → E.bk ρ' M' → D.bk σ' H'
  ct : ∀ (σ' : L2.St) (ρ' : Env) (H' : Hp) (α' : List Addr) (M' : Mem), Ext K H H' α α' → EnvR K fa α' H' σ' ρ' → StR K fa α' H' M' → E.ct ρ' M' → D.ct σ' H'
theorem EndsR.ext {K : PySem.W.Frag} {fa : Org} {α α' : List Addr} {H H' : Hp} {E : DEnds} {D : Ends} (h : EndsR K fa α H E D) (e : Ext K H H' α α') : EndsR K fa α' H' E D :=
  ⟨fun σ2 ρ2 H2 α2 M2 e2 => h.nx σ2 ρ2 H2 α2 M2 (e.trans e2), h.rt.ext e, fun σ2 ρ2 H2 α2 M2 e2 => h.bk σ2 ρ2 H2 α2 M2 (e.trans e2), fun σ2 ρ2 H2 α2 M2 e2 => h.ct σ2 ρ2 H2 α2 M2 (e.trans e2)⟩
def LS (K : PySem.W.Frag) (fa : Org) (C : Ctx) (t : DS) : TS := fun D σ H => ∃ (ρ : Env) (M : Mem) (α : List Addr) (E : DEnds), EnvR K fa α H σ ρ ∧ StR K fa α H M ∧ t C E ρ M ∧ EndsR K fa α H E D
/-- a target; ws: the names it may store -/
def LG (K : PySem.W.Frag) (fa : Org) (C : Ctx) (ws : List Nat) (g : DG) : TG := fun v σ H Q => ∃ (ρ : Env) (M : Mem) (α : List Addr) (d : D) (P : Env → Mem → Prop), EnvR K fa α H σ ρ ∧ StR K fa α H M ∧ Rp K fa α H v d ∧ g C d ρ M P ∧
  ∀ (σ' : L2.St) (ρ' : Env) (H' : Hp) (α' : List Addr) (M' : Mem), Ext K H H' α α' → EnvR K fa α' H' σ' ρ' → StR K fa α' H' M' → (∀ vs : List Nat, (∀ i ∈ ws, i ∈ vs) → wipe σ' vs = wipe σ vs) → P ρ' M' → Q σ' H'
abbrev DGs := Ctx → List D → Env → Mem → (Env → Mem → Prop) → Prop
def LGs (K : PySem.W.Frag) (fa : Org) (C : Ctx) (ws : List Nat) (g : DGs) : TGs := fun xs σ H Q => ∃ (ρ : Env) (M : Mem) (α : List Addr) (ds : List D) (P : Env → Mem → Prop), EnvR K fa α H σ ρ ∧ StR K fa α H M ∧ Rps K fa α H xs ds ∧ g C ds ρ M P ∧
  ∀ (σ' : L2.St) (ρ' : Env) (H' : Hp) (α' : List Addr) (M' : Mem), Ext K H H' α α' → EnvR K fa α' H' σ' ρ' → StR K fa α' H' M' → (∀ vs : List Nat, (∀ i ∈ ws, i ∈ vs) → wipe σ' vs = wipe σ vs) → P ρ' M' → Q σ' H'

/-! ### meanings -/
def sNext : DS := fun _ E ρ M => E.nx ρ M
def sSeq (t u : DS) : DS := fun C E ρ M => t C { E with nx := fun ρ' M' => u C E ρ' M' } ρ M
def sBreak : DS := fun _ E ρ M => E.bk ρ M
def sCont : DS := fun _ E ρ M => E.ct ρ M
def sDrop (e : DE) : DS := fun C E ρ M => e C ρ M fun _ M1 => E.nx ρ M1
def sRet (e : DE) : DS := fun C E ρ M => e C ρ M E.rt
def sRetN : DS := fun _ E _ M => E.rt .non M
def sIf (c : DT) (t u : DS) : DS := fun C E ρ M => c C ρ M fun b M1 => if b = true then t C E ρ M1 else u C E ρ M1
def sNever : DS := fun _ _ _ _ => False
def sAsg (e : DE) (g : DG) : DS := fun C E ρ M => e C ρ M fun d M1 => g C d ρ M1 E.nx
def gName (i : Nat) : DG := fun _ d ρ M P => P (ρ.set i (some d)) M
def gNil : DGs := fun _ ds ρ M P => ds = [] ∧ P ρ M
def gCons (g : DG) (gs : DGs) : DGs := fun C ds ρ M P => match ds with
  | d :: ds => g C d ρ M fun ρ' M' => gs C ds ρ' M' P
  | [] => False
def gTup (n : Nat) (gs : DGs) : DG := fun C d ρ M P => match d with
  | .tup xs => xs.length = n ∧ gs C xs ρ M P
  | .kup xs => xs.length = n ∧ gs C xs ρ M P
  | _ => False
def opSet : D → D → D → Mem → (Mem → Prop) → Prop := fun x y d M P => match x with
  | .ref n => (match M[n]? with
    | some (.lst xs) => (match y with
      | .int k => (match ixN xs.length k with
        | some j => P (M.set n (.lst (xs.set j d)))
        | none => False)
      | _ => False)
    | some (.dK kvs) => (match keyK y with
      | some k => kvs.length < sizeLine ∧ P (M.set n (.dK (putD kvs k d)))
      | none => False)
    | some (.dT kvs) => (match keyT y with
      | some k => kvs.length < sizeLine ∧ P (M.set n (.dT (putD kvs k d)))
      | none => False)
    | _ => False)
  | _ => False
def gSub (o i : DE) : DG := fun C d ρ M P => o C ρ M fun x M1 => i C ρ M1 fun y M2 => opSet x y d M2 fun M3 => P ρ M3
def sAug (i : Nat) (e : DE) (op : DOp) : DS := fun C E ρ M => got ρ[i]? fun x => e C ρ M fun y M1 => op x y M1 fun z M2 => E.nx (ρ.set i (some z)) M2
def sPar (i j : Nat) (a : DA) : DS := fun C E ρ M => a C ρ M fun ds M1 => match ds with
  | [x, y] => E.nx ((ρ.set i (some x)).set j (some y)) M1
  | _ => False
def wloop (c : Env → Mem → (Bool → Mem → Prop) → Prop) (b : DEnds → Env → Mem → Prop) (E : DEnds) : Nat → Env → Mem → Prop
  | 0, _, _ => False
  | n + 1, ρ, M => c ρ M fun k M1 => if k = true then b { E with nx := wloop c b E n, ct := wloop c b E n, bk := E.nx } ρ M1 else E.nx ρ M1
def sWhile (c : DT) (b : DS) : DS := fun C E ρ M => ∃ n, wloop (c C) (b C) E n ρ M
def floop (g : D → Env → Mem → (Env → Mem → Prop) → Prop) (b : DEnds → Env → Mem → Prop) (E : DEnds) (grd : Mem → Prop) : List D → Env → Mem → Prop
  | [], ρ, M => grd M ∧ E.nx ρ M
  | x :: xs, ρ, M => grd M ∧ g x ρ M fun ρ' M' => b { E with nx := floop g b E grd xs, ct := floop g b E grd xs, bk := E.nx } ρ' M'
def sFor (it : DI) (g : DG) (b : DS) : DS := fun C E ρ M => it C ρ M fun xs grd M1 => floop (g C) (b C) E grd xs ρ M1
/-- items: what a loop walks -/
def grdOf (d : D) (xs : List D) : Mem → Prop := match d with
  | .ref n => fun M => M[n]? = some (.lst xs)
  | _ => fun _ => True
def iSeq (e : DE) : DI := fun C ρ M P => e C ρ M fun d M1 => match seqOf M1 d with
  | some xs => P xs (grdOf d xs) M1
  | none => False
def rngI (lo : Int) (n : Nat) : List D := (List.range n).map fun (k : Nat) => D.int (lo + (k : Int))
def iRng1 (a : DE) : DI := fun C ρ M P => a C ρ M fun d M1 => match d with
  | .int j => (-(2 ^ 62) ≤ j ∧ j.toNat ≤ sizeLine) ∧ P (rngI 0 j.toNat) (fun _ => True) M1
  | _ => False
def iRng2 (a b : DE) : DI := fun C ρ M P => a C ρ M fun d M1 => b C ρ M1 fun e M2 => match d, e with
  | .int i, .int j => ((j - i).toNat ≤ sizeLine ∧ -(2 ^ 62) ≤ i ∧ i < 2 ^ 62 ∧ -(2 ^ 62) ≤ j ∧ j < 2 ^ 62) ∧ P (rngI i (j - i).toNat) (fun _ => True) M2
  | _, _ => False
/-- range(i, j, c), c below 0 -/
def rngC (lo c : Int) (n : Nat) : List D := (List.range n).map fun (k : Nat) => D.int (lo + (k : Int) * c)
def iRng3 (a b c : DE) : DI := fun C ρ M P => a C ρ M fun d M1 => b C ρ M1 fun e M2 => c C ρ M2 fun f M3 => match d, e, f with
  | .int i, .int j, .int c => ∃ n : Nat, (n ≤ sizeLine ∧ RgC i j c n) ∧ P (rngC i c n) (fun _ => True) M3
  | _, _, _ => False

/-! ### soundness: small statements -/
section
variable {X : Cx} {fa : Org} {C : Ctx} {a b c e : Expr} {es rest : List Expr} {pos : Pos} {ta tb tc te : DE} {ua ub uc : DT} {da : DA} {st : Stmt} {sts p q : List Stmt} {t u : DS} {ws ws' : List Nat}
theorem s_nil : PSs X [] (LS X.K fa C sNext) := pss_nil.imp fun D σ H ⟨ρ, M, α, E, er, sr, h, en⟩ => en.nx σ ρ H α M Ext.refl er sr h
theorem s_cons (h1 : PS X st (LS X.K fa C t)) (h2 : PSs X sts (LS X.K fa C u)) : PSs X (st :: sts) (LS X.K fa C (sSeq t u)) :=
  (pss_cons h1 h2).imp fun D σ H ⟨ρ, M, α, E, er, sr, h, en⟩ => ⟨ρ, M, α, _, er, sr, h, ⟨fun σ' ρ' H' α' M' e' er' sr' h' => ⟨ρ', M', α', E, er', sr', h', en.ext e'⟩, en.rt, en.bk, en.ct⟩⟩
theorem s_one (h1 : PS X st (LS X.K fa C t)) : PSs X [st] (LS X.K fa C t) := pss_one h1
theorem s_pass : PS X (.Pass pos) (LS X.K fa C sNext) := ps_pass.imp fun D σ H ⟨ρ, M, α, E, er, sr, h, en⟩ => en.nx σ ρ H α M Ext.refl er sr h
theorem s_break : PS X (.Break pos) (LS X.K fa C sBreak) := ps_break.imp fun D σ H ⟨ρ, M, α, E, er, sr, h, en⟩ => en.bk σ ρ H α M Ext.refl er sr h
theorem s_cont : PS X (.Continue pos) (LS X.K fa C sCont) := ps_continue.imp fun D σ H ⟨ρ, M, α, E, er, sr, h, en⟩ => en.ct σ ρ H α M Ext.refl er sr h
theorem s_doc {x j pos'} : PS X (.Expr (.Constant (.str x) j pos) pos') (LS X.K fa C sNext) := ps_doc.imp fun D σ H ⟨ρ, M, α, E, er, sr, h, en⟩ => en.nx σ ρ H α M Ext.refl er sr h
theorem s_drop (he : PE X e (LE X.K fa C te)) (hs : swapsWith e none pos.line X.env = pure false) : PS X (.Expr e pos) (LS X.K fa C (sDrop te)) :=
  (ps_expr he hs).imp fun D σ H ⟨ρ, M, α, E, er, sr, h, en⟩ => ⟨ρ, M, α, _, er, sr, h, fun v d H' α' M' e s r p => en.nx σ ρ H' α' M' e (er.mono e) s p⟩
theorem s_ret (he : PE X e (LE X.K fa C te)) : PS X (.Return (some e) pos) (LS X.K fa C (sRet te)) :=
  (ps_ret he).imp fun D σ H ⟨ρ, M, α, E, er, sr, h, en⟩ => ⟨ρ, M, α, _, er, sr, h, en.rt⟩
theorem s_retN : PS X (.Return none pos) (LS X.K fa C sRetN) := ps_retN.imp fun D σ H ⟨ρ, M, α, E, er, sr, h, en⟩ => en.rt.here sr .non h
theorem s_if (hc : PT X c (LT X.K fa C uc)) (ha : PSs X p (LS X.K fa C t)) (hb : PSs X q (LS X.K fa C u)) : PS X (.If c p q pos) (LS X.K fa C (sIf uc t u)) :=
  (ps_if hc ha hb).imp fun D σ H ⟨ρ, M, α, E, er, sr, h, en⟩ => ⟨ρ, M, α, _, er, sr, h, fun k H' α' M' e s pk => by
    cases k with
    | true => exact ⟨ρ, M', α', E, er.mono e, s, pk, en.ext e⟩
    | false => exact ⟨ρ, M', α', E, er.mono e, s, pk, en.ext e⟩⟩
theorem s_never : PS X st (LS X.K fa C sNever) := ps_never.imp fun D σ H ⟨ρ, M, α, E, er, sr, h, en⟩ => h.elim
theorem d_never : PE X e (LE X.K fa C fun _ _ _ _ => False) := ⟨fun _ _ _ _ _ _ ⟨_, _, _, _, _, _, h, _⟩ => h.elim⟩
theorem s_asg {tg : Expr} {g : DG} (he : PE X e (LE X.K fa C te)) (hg : PG X tg (LG X.K fa C ws g)) (hs : swapsWithSole [tg] e pos.line X.env = pure false) (hw : swappedStores [tg] e X.env = pure none)
    (h1 : (assignEach [tg] X.env).map (·.2) = [assign tg X.env]) : PS X (.Assign [tg] e pos) (LS X.K fa C (sAsg te g)) :=
  (ps_asg he hg hs hw h1).imp fun D σ H ⟨ρ, M, α, E, er, sr, h, en⟩ => ⟨ρ, M, α, _, er, sr, h, fun v d H' α' M' e s r p => ⟨ρ, M', α', d, _, er.mono e, s, r, p, fun σ' ρ' H2 α2 M2 e2 er2 sr2 _ p2 => en.nx σ' ρ' H2 α2 M2 (e.trans e2) er2 sr2 p2⟩⟩
theorem s_set {i : Nat} {x : Str} {pos' : Pos} (hN : X.N.Nodup) (hi : X.N[i]? = some x) (hx : Loc X.env.scope x) (he : PE X e (LE X.K fa C te)) (hs : swapsWith e (some (.Name x pos')) pos.line X.env = pure false) (hf : X.fn x = true ∨ X.env.scope.names.lookup x = some .local) :
    PS X (.Assign [.Name x pos'] e pos) (LS X.K fa C (sAsg te (gName i))) :=
  (ps_set hN hi hx he hs hf).imp fun D σ H ⟨ρ, M, α, E, er, sr, h, en⟩ => ⟨ρ, M, α, _, er, sr, h, fun v d H' α' M' e s r p => en.nx _ _ H' α' M' e ((er.mono e).set r) s p⟩

/-! ### targets -/
theorem wipe_get {σ : L2.St} {j : Nat} : ∀ {vs : List Nat}, (wipe σ vs)[j]? = if j ∈ vs then (if j < σ.length then some none else none) else σ[j]?
  | [] => by simp [wipe]
  | v :: vs => by
    show ((wipe σ vs).set v none)[j]? = _
    by_cases hv : v = j
    · subst hv
      rw [if_pos List.mem_cons_self]
      by_cases hl : v < σ.length
      · rw [List.getElem?_set_self (by rw [wipe_length]; exact hl), if_pos hl]
      · rw [List.getElem?_eq_none (by rw [List.length_set, wipe_length]; omega), if_neg hl]
    · rw [List.getElem?_set_ne hv, wipe_get]
      have : (j ∈ v :: vs) ↔ j ∈ vs := by
        rw [List.mem_cons]
        exact ⟨fun h => h.elim (fun e => absurd e.symm hv) id, .inr⟩
      by_cases hj : j ∈ vs
      · rw [if_pos hj, if_pos (this.mpr hj)]
      · rw [if_neg hj, if_neg (fun z => hj (this.mp z))]
theorem wipe_set {σ : L2.St} {i : Nat} {x : Option V} {vs : List Nat} (h : i ∈ vs) : wipe (σ.set i x) vs = wipe σ vs := by
  apply List.ext_getElem?
  intro j
  rw [wipe_get, wipe_get, List.length_set]
  by_cases hj : j ∈ vs
  · rw [if_pos hj, if_pos hj]
  · rw [if_neg hj, if_neg hj, List.getElem?_set_ne (fun e => by subst e; exact hj h)]
theorem g_name {i : Nat} {x : Str} (hN : X.N.Nodup) (hi : X.N[i]? = some x) (hx : Loc X.env.scope x) (hf : X.fn x = true ∨ X.env.scope.names.lookup x = some .local) : PG X (.Name x pos) (LG X.K fa C [i] (gName i)) :=
  (pg_name hN hi hx hf).imp fun v σ H Q ⟨ρ, M, α, d, P, er, sr, r, h, k⟩ => k _ _ H α M Ext.refl (er.set r) sr (fun vs hv => wipe_set (hv i List.mem_cons_self)) h
theorem gs_nil : PGs X [] (LGs X.K fa C [] gNil) := pgs_nil.imp fun vs σ H Q ⟨ρ, M, α, ds, P, er, sr, r, h, k⟩ => by
  obtain ⟨e, h2⟩ := (show ds = [] ∧ P ρ M from h)
  subst e
  cases r
  exact ⟨rfl, k σ ρ H α M Ext.refl er sr (fun _ _ => rfl) h2⟩
theorem gs_cons {g : DG} {gs : DGs} (h1 : PG X e (LG X.K fa C ws g)) (h2 : PGs X es (LGs X.K fa C ws' gs)) (hs : (assignEach (e :: es) X.env).map (·.2) = assign e X.env :: (assignEach es X.env).map (·.2)) : PGs X (e :: es) (LGs X.K fa C (ws ++ ws') (gCons g gs)) :=
  (pgs_cons h1 h2 hs).imp fun vs σ H Q ⟨ρ, M, α, ds, P, er, sr, r, h, k⟩ => by
    cases r with
    | nil => exact (show False from h).elim
    | @cons v vs d ds r t =>
      refine ⟨v, vs, rfl, ρ, M, α, d, _, er, sr, r, h, fun σ' ρ' H' α' M' e er' sr' hw p => ?_⟩
      refine ⟨ρ', M', α', ds, P, er', sr', t.mono e, p, fun σ2 ρ2 H2 α2 M2 e2 er2 sr2 hw2 p2 => ?_⟩
      exact k σ2 ρ2 H2 α2 M2 (e.trans e2) er2 sr2 (fun vs hv => (hw2 vs fun i hi => hv i (List.mem_append_right _ hi)).trans (hw vs fun i hi => hv i (List.mem_append_left _ hi))) p2
theorem g_tup {gs : DGs} {k n : Nat} (hc : X.calm = true) (h : PGs X es (LGs X.K fa C ws gs)) (hn : (assignEach es X.env).length = n) (hst : (assignEach es X.env).findIdx? (·.1) = none) : PG X (.Tuple es k pos) (LG X.K fa C ws (gTup n gs)) :=
  (pg_tup hc h hn hst).imp fun v σ H Q ⟨ρ, M, α, d, P, er, sr, r, h, k⟩ => by
    cases r with
    | @tup a vs ds s l r =>
      obtain ⟨hl, h⟩ := (show ds.length = n ∧ gs C ds ρ M P from h)
      exact ⟨a, vs, rfl, .inl (.inl s), r.length.trans hl, ρ, M, α, ds, P, er, sr, r, h, k⟩
    | @kup a vs ds s l r =>
      obtain ⟨hl, h⟩ := (show ds.length = n ∧ gs C ds ρ M P from h)
      exact ⟨a, vs, rfl, s H, r.length.trans hl, ρ, M, α, ds, P, er, sr, r, h, k⟩
    | _ => exact (show False from h).elim
/-- a store by values -/
def LSet (K : PySem.W.Frag) (fa : Org) : TSet := fun o i v H Q => ∃ (M : Mem) (α : List Addr) (x y d : D) (P : Mem → Prop), StR K fa α H M ∧ Rp K fa α H o x ∧ Rp K fa α H i y ∧ Rp K fa α H v d ∧ opSet x y d M P ∧
  ∀ (H' : Hp) (M' : Mem), Ext K H H' α α → StR K fa α H' M' → P M' → Q H'
theorem p_set (hu : X.A.units + 1 < cLine) : PSet X (LSet X.K fa) := ((set_list (X := X)).or (set_dict hu)).imp fun o i v H Q ⟨M, α, x, y, d, P, sr, ro, ri, rv, h, k⟩ => by
  unfold opSet at h
  split at h
  · cases ro with
    | @ref n a ea =>
      split at h
      · rename_i xs hM
        obtain ⟨vs, hv, l, r⟩ := sr.cell _ _ _ hM ea
        split at h
        · split at h
          · rename_i j hj
            cases ri
            have ex : Ext X.K H (upd H a (.lst (vs.set j v))) α α := Ext.write hv (List.mem_of_getElem? ea) True.intro
            refine .inl ⟨a, vs, _, j, rfl, rfl, hv, by rw [r.length]; exact hj, k _ _ ex (sr.write ea hv True.intro ?_) h⟩
            exact ⟨_, upd_same, by rw [List.length_set]; exact l, (Rps.set rv j r).mono ex⟩
          · exact h.elim
        · exact h.elim
      · rename_i kvs hM
        obtain ⟨ws, hw, r⟩ := sr.cell _ _ _ hM ea
        split at h
        · rename_i key hk
          have ex : Ext X.K H (upd H a (.dK (putK ws key v))) α α := Ext.write hw (List.mem_of_getElem? ea) True.intro
          have hl : ws.length < sizeLine := by rw [Paired.length r]; exact h.1
          refine .inr ⟨a, _, rfl, by rw [ri.keyK hk]; exact DPut.k hw hl, k _ _ ex (sr.write ea hw True.intro ?_) h.2⟩
          exact ⟨_, upd_same, Paired.kr ex (put_v rv r)⟩
        · exact h.elim
      · rename_i kvs hM
        obtain ⟨ws, hw, r⟩ := sr.cell _ _ _ hM ea
        split at h
        · rename_i key hk
          have hl : ws.length < sizeLine := by rw [Paired.length r]; exact h.1
          cases ri with
          | @tup b vs ds s l rs =>
            have e : vs = key.map kV := rs.keysK hk
            subst e
            have ex : Ext X.K H (upd H a (.dT (putK ws key v))) α α := Ext.write hw (List.mem_of_getElem? ea) True.intro
            refine .inr ⟨a, _, rfl, DPut.t hw s hl, k _ _ ex (sr.write ea hw True.intro ?_) h.2⟩
            exact ⟨_, upd_same, Paired.kr ex (put_v rv r)⟩
          | _ => cases hk
        · exact h.elim
      · exact h.elim
  · exact h.elim
theorem g_sub {o i : Expr} {eo ei : DE} (hu : X.A.units + 1 < cLine) (ho : PE X o (LE X.K fa C eo)) (hi : PE X i (LE X.K fa C ei))
    (ha : ∀ v, assign (.Subscript o i pos) X.env v = (do
      let ov ← holding [v] (eval o X.env)
      let iv ← holding [v, ov] (eval i X.env)
      standAt pos
      holding [v, ov, iv] (setItem ov iv v)
      release [v, ov, iv] [])) : PG X (.Subscript o i pos) (LG X.K fa C [] (gSub eo ei)) :=
  (pg_sub ho hi (p_set (fa := fa) hu) ha).imp fun v σ H Q ⟨ρ, M, α, d, P, er, sr, r, h, k⟩ =>
    ⟨ρ, M, α, _, er, sr, h, fun x dx H1 α1 M1 e1 s1 r1 p1 => ⟨ρ, M1, α1, _, er.mono e1, s1, p1, fun y dy H2 α2 M2 e2 s2 r2 p2 =>
      ⟨M2, α2, dx, dy, d, _, s2, r1.mono e2, r2, r.mono (e1.trans e2), p2, fun H3 M3 e3 s3 p3 => k σ ρ H3 α2 M3 ((e1.trans e2).trans e3) (er.mono ((e1.trans e2).trans e3)) s3 (fun _ _ => rfl) p3⟩⟩⟩
/-- name op= e -/
def LIp (K : PySem.W.Frag) (fa : Org) (op : DOp) : TIp := LO K fa op
theorem s_aug {i : Nat} {x : Str} {op : Operator} {o : DOp} {pos' : Pos} (hN : X.N.Nodup) (hi : X.N[i]? = some x) (hx : Loc X.env.scope x) (he : PE X e (LE X.K fa C te)) (ho : PIp X op (LIp X.K fa o)) (hf : X.fn x = true ∨ X.env.scope.names.lookup x = some .local) :
    PS X (.AugAssign (.Name x pos') op e pos) (LS X.K fa C (sAug i te o)) :=
  (ps_aug hN hi hx he ho hf).imp fun D σ H ⟨ρ, M, α, E, er, sr, h, en⟩ => by
    have h : got ρ[i]? fun x => te C ρ M fun y M1 => o x y M1 fun z M2 => E.nx (ρ.set i (some z)) M2 := h
    cases q : ρ[i]? with
    | none => rw [q] at h; exact h.elim
    | some od =>
      cases od with
      | none => rw [q] at h; exact h.elim
      | some d =>
        rw [q] at h
        obtain ⟨v, e1, r⟩ := er.2 i d q
        refine ⟨v, e1, ρ, M, α, _, er, sr, h, fun y dy H1 α1 M1 e1 s1 r1 p1 => ⟨M1, α1, d, dy, _, s1, r.mono e1, r1, p1, fun z dz H2 α2 M2 e2 s2 r2 p2 => ?_⟩⟩
        exact en.nx _ _ H2 α2 M2 (e1.trans e2) ((er.mono (e1.trans e2)).set r2) s2 p2
theorem s_par {i j : Nat} {x y : Str} {px py pt : Pos} {kt k2 pt2} (hc : X.calm = true) (hN : X.N.Nodup) (hi : X.N[i]? = some x) (hj : X.N[j]? = some y) (hij : i ≠ j)
    (hx : X.env.scope.names.lookup x = some .local) (hy : X.env.scope.names.lookup y = some .local) (ha : PA X [a, b] (LA X.K fa C da))
    (hw : swappedStores [.Tuple [.Name x px, .Name y py] kt pt] (.Tuple [a, b] k2 pt2) X.env = pure (some [x, y]))
    (hs : swapsWithSole [.Tuple [.Name x px, .Name y py] kt pt] (.Tuple [a, b] k2 pt2) pos.line X.env = pure false) :
    PS X (.Assign [.Tuple [.Name x px, .Name y py] kt pt] (.Tuple [a, b] k2 pt2) pos) (LS X.K fa C (sPar i j da)) :=
  (ps_par hc hN hi hj hij hx hy ha hw hs).imp fun D σ H ⟨ρ, M, α, E, er, sr, h, en⟩ => ⟨ρ, M, α, _, er, sr, h, fun vs ds H1 α1 M1 e1 s1 r1 p1 => by
    rcases r1 with _ | ⟨ra, _ | ⟨rb, _ | _⟩⟩
    · exact p1.elim
    · exact p1.elim
    · exact ⟨_, _, rfl, en.nx _ _ H1 α1 M1 e1 (((er.mono e1).set ra).set rb) s1 p1⟩
    · exact p1.elim⟩

/-! ### while -/
theorem s_while (hp : PassesOwn (model X.prog X.w) X.A X.env X.xe) (hc : PT X c (LT X.K fa C uc)) (hb : PSs X p (LS X.K fa C t)) : PS X (.While c p [] pos) (LS X.K fa C (sWhile uc t)) :=
  (ps_while hp hc hb).imp fun D σ H ⟨ρ, M, α, E, er, sr, ⟨n, h⟩, en⟩ => by
    refine ⟨fun m σ1 H1 => ∃ ρ1 M1 α1, Ext X.K H H1 α α1 ∧ EnvR X.K fa α1 H1 σ1 ρ1 ∧ StR X.K fa α1 H1 M1 ∧ wloop (uc C) (t C) E m ρ1 M1, ⟨n, ρ, M, α, Ext.refl, er, sr, h⟩, ?_⟩
    rintro m σ1 H1 ⟨ρ1, M1, α1, e1, er1, sr1, h1⟩
    cases m with
    | zero => exact h1.elim
    | succ m =>
      refine ⟨ρ1, M1, α1, _, er1, sr1, h1, fun k H2 α2 M2 e2 s2 p2 => ?_⟩
      cases k with
      | false => exact en.nx σ1 ρ1 H2 α2 M2 (e1.trans e2) (er1.mono e2) s2 p2
      | true =>
        refine ⟨fun σ' H' => ∃ ρ1 M1 α1, Ext X.K H H' α α1 ∧ EnvR X.K fa α1 H' σ' ρ1 ∧ StR X.K fa α1 H' M1 ∧ wloop (uc C) (t C) E m ρ1 M1, fun σ' H' z => ⟨m, Nat.lt_succ_self m, z⟩, ?_⟩
        refine ⟨ρ1, M2, α2, _, er1.mono e2, s2, p2, ⟨fun σ' ρ' H' α' M' e' er' sr' w => ⟨ρ', M', α', (e1.trans e2).trans e', er', sr', w⟩, en.rt.ext (e1.trans e2), fun σ' ρ' H' α' M' e' er' sr' w => en.nx σ' ρ' H' α' M' ((e1.trans e2).trans e') er' sr' w, fun σ' ρ' H' α' M' e' er' sr' w => ⟨ρ', M', α', (e1.trans e2).trans e', er', sr', w⟩⟩⟩
end

/-! ### what is walked -/
/-- from here on J yields the items xs, as long as grd holds -/
structure ItOk (K : PySem.W.Frag) (fa : Org) (J : It) (α : List Addr) (H : Hp) (xs : List D) (grd : Mem → Prop) : Prop where
  len : xs.length ≤ sizeLine
  go : ∀ (H' : Hp) (α' : List Addr) (M' : Mem), Ext K H H' α α' → StR K fa α' H' M' → grd M' → ∀ i : Nat, (i = xs.length → J.stop i H') ∧ (i < xs.length → J.go i H') ∧
    ∀ (x : D) (v : V) (H2 : Hp), xs[i]? = some x → J.yld i H' v H2 → Ext K H' H2 α' α' ∧ StR K fa α' H2 M' ∧ Rp K fa α' H2 v x
def LI (K : PySem.W.Frag) (fa : Org) (C : Ctx) (t : DI) : TI := fun σ H R => ∃ (ρ : Env) (M : Mem) (α : List Addr) (P : List D → (Mem → Prop) → Mem → Prop), EnvR K fa α H σ ρ ∧ StR K fa α H M ∧ t C ρ M P ∧
  ∀ (J : It) (H' : Hp) (α' : List Addr) (M' : Mem) (xs : List D) (grd : Mem → Prop), Ext K H H' α α' → StR K fa α' H' M' → ItOk K fa J α' H' xs grd → P xs grd M' → R J H'
section
variable {K : PySem.W.Frag} {fa : Org} {α : List Addr} {H : Hp} {M : Mem}
end
section
variable {X : Cx} {fa : Org} {C : Ctx} {tg e : Expr} {es : List Expr} {pos : Pos} {te : DE} {da : DA}
theorem i_seq (he : PE X e (LE X.K fa C te)) : PI X tg e (LI X.K fa C (iSeq te)) :=
  (pi_sq he).imp fun σ H R ⟨ρ, M, α, P, er, sr, h, k⟩ => by
    refine ⟨ρ, M, α, _, er, sr, h, fun v d H1 α1 M1 e1 s1 r1 p1 => ?_⟩
    cases r1 with
    | @tup a vs ds s l r =>
      refine ⟨a, rfl, .inr ⟨⟨vs, .inl (.inl s)⟩, k _ H1 α1 M1 ds _ e1 s1 ?_ p1⟩⟩
      refine ⟨by rw [← r.length]; exact l, fun H' α' M' e sr _ i => ⟨fun hi => ⟨vs, .inl (.inl (e.tup _ _ s)), by rw [r.length]; omega⟩, fun hi => ?_, fun x v H2 hx hy => ?_⟩⟩
      · obtain ⟨v, hv, _⟩ := r.get (List.getElem?_eq_getElem hi)
        exact ⟨vs, v, .inl (.inl (e.tup _ _ s)), hv⟩
      · obtain ⟨e2, hy⟩ := hy
        subst e2
        obtain ⟨w, hw, rw'⟩ := r.get hx
        have : v = w := Option.some.inj ((hy vs (.inl (.inl (e.tup _ _ s)))).symm.trans hw)
        subst this
        exact ⟨Ext.refl, sr, rw'.mono e⟩
    | @kup a vs ds s l r =>
      refine ⟨a, rfl, .inr ⟨⟨vs, s H1⟩, k _ H1 α1 M1 ds _ e1 s1 ?_ p1⟩⟩
      refine ⟨by rw [← r.length]; exact l, fun H' α' M' e sr _ i => ⟨fun hi => ⟨vs, s H', by rw [r.length]; omega⟩, fun hi => ?_, fun x v H2 hx hy => ?_⟩⟩
      · obtain ⟨v, hv, _⟩ := r.get (List.getElem?_eq_getElem hi)
        exact ⟨vs, v, s H', hv⟩
      · obtain ⟨e2, hy⟩ := hy
        subst e2
        obtain ⟨w, hw, rw'⟩ := r.get hx
        have : v = w := Option.some.inj ((hy vs (s H2)).symm.trans hw)
        subst this
        exact ⟨Ext.refl, sr, rw'.mono e⟩
    | @rol a vs ds s l r =>
      have sq : ∀ H' α', Ext X.K H1 H' α1 α' → SqL X.K H' a vs := fun H' α' e => s.elim (fun ⟨o, z⟩ => .inl (.inr ⟨o, e.frz _ _ _ z⟩)) fun z => z H'
      refine ⟨a, rfl, .inl ⟨⟨vs, sq H1 α1 Ext.refl⟩, k _ H1 α1 M1 ds _ e1 s1 ?_ p1⟩⟩
      refine ⟨by rw [← r.length]; exact l, fun H' α' M' e sr _ i => ⟨fun hi => ⟨vs, sq _ _ e, by rw [r.length]; omega⟩, fun hi => ?_, fun x v H2 hx hy => ?_⟩⟩
      · obtain ⟨v, hv, _⟩ := r.get (List.getElem?_eq_getElem hi)
        exact ⟨vs, v, sq _ _ e, hv⟩
      · obtain ⟨e2, hy⟩ := hy
        subst e2
        obtain ⟨w, hw, rw'⟩ := r.get hx
        have : v = w := Option.some.inj ((hy vs (sq _ _ e)).symm.trans hw)
        subst this
        exact ⟨Ext.refl, sr, rw'.mono e⟩
    | @ref n a ea =>
      have p1 : (match seqOf M1 (.ref n) with
        | some xs => P xs (grdOf (.ref n) xs) M1
        | none => False) := p1
      cases q : M1[n]? with
      | none => simp only [seqOf, q] at p1
      | some c =>
        cases c with
        | dK _ => simp only [seqOf, q] at p1
        | dT _ => simp only [seqOf, q] at p1
        | lst ds =>
          simp only [seqOf, q] at p1
          obtain ⟨vs, hv, l, r⟩ := s1.cell n _ a q ea
          refine ⟨a, rfl, .inl ⟨⟨vs, .inl (.inl hv)⟩, k _ H1 α1 M1 ds _ e1 s1 ?_ p1⟩⟩
          refine ⟨by rw [← r.length]; exact l, fun H' α' M' e sr hg i => ?_⟩
          obtain ⟨ws, hw, _, r2⟩ := sr.cell n _ a hg (e.at ea)
          refine ⟨fun hi => ⟨ws, .inl (.inl hw), by rw [r2.length]; omega⟩, fun hi => ?_, fun x v H2 hx hy => ?_⟩
          · obtain ⟨v, hv, _⟩ := r2.get (List.getElem?_eq_getElem hi)
            exact ⟨ws, v, .inl (.inl hw), hv⟩
          · obtain ⟨e2, hy⟩ := hy
            subst e2
            obtain ⟨w, hw', rw'⟩ := r2.get hx
            have : v = w := Option.some.inj ((hy ws (.inl (.inl hw))).symm.trans hw')
            subst this
            exact ⟨Ext.refl, sr, rw'⟩
    | _ => exact (show False from p1).elim
theorem rngI_get {lo : Int} {n i : Nat} {x : D} (h : (rngI lo n)[i]? = some x) : x = .int (lo + i) := by
  unfold rngI at h
  rw [List.getElem?_map] at h
  obtain ⟨k, h1, h2⟩ := Option.map_eq_some_iff.mp h
  have := (List.getElem?_eq_some_iff.mp h1)
  obtain ⟨hl, e⟩ := this
  rw [List.getElem_range] at e
  subst e
  exact h2.symm
theorem rngI_len {lo : Int} {n : Nat} : (rngI lo n).length = n := by unfold rngI; simp
theorem itok_r {K : PySem.W.Frag} {α : List Addr} {H : Hp} {lo : Int} {n : Nat} (h : n ≤ sizeLine) : ItOk K fa (Itr lo n) α H (rngI lo n) fun _ => True := by
  refine ⟨by rw [rngI_len]; exact h, fun H' α' M' e sr _ i => ⟨fun hi => ?_, fun hi => ?_, fun x v H2 hx hy => ?_⟩⟩
  · rw [rngI_len] at hi; exact Nat.le_of_eq hi.symm
  · rw [rngI_len] at hi; exact hi
  · obtain ⟨e2, e3⟩ := hy
    subst e2 e3
    rw [rngI_get hx]
    exact ⟨Ext.refl, sr, .int _⟩
theorem small62 {j : Int} (h : j.toNat ≤ sizeLine) : j < 2 ^ 62 := by
  have e : sizeLine = 16777216 := by decide
  omega
theorem i_rng1 {a : Expr} {p : Pos} {ta : DE} (hg : Gl X "range") (hm : X.mg "range" = none) (ha : PE X a (LE X.K fa C ta)) (hs : starEach [a] X.env = [(false, eval a X.env)]) : PI X tg (.Call (.Name "range" p) [a] [] pos) (LI X.K fa C (iRng1 ta)) :=
  (pi_range1 hg hm (pa_cons ha pa_nil hs) hs).imp fun σ H R ⟨ρ, M, α, P, er, sr, h, k⟩ => ⟨ρ, M, α, _, er, sr, h, fun v d H1 α1 M1 e1 s1 r1 p1 => by
    cases r1 <;> first | exact (show False from p1).elim | skip
    obtain ⟨⟨z1, z2⟩, p2⟩ := p1
    exact ⟨_, rfl, z1, small62 z2, k _ H1 α1 M1 _ _ e1 s1 (itok_r z2) p2⟩⟩
theorem i_rng2 {a b : Expr} {p : Pos} {ta tb : DE} (hg : Gl X "range") (hm : X.mg "range" = none) (ha : PE X a (LE X.K fa C ta)) (hb : PE X b (LE X.K fa C tb)) (hs : starEach [a, b] X.env = [(false, eval a X.env), (false, eval b X.env)]) (hs2 : starEach [b] X.env = [(false, eval b X.env)]) : PI X tg (.Call (.Name "range" p) [a, b] [] pos) (LI X.K fa C (iRng2 ta tb)) :=
  (pi_range2 hg hm (pa_cons ha (pa_cons hb pa_nil hs2) (by rw [hs, hs2])) hs hs2).imp fun σ H R ⟨ρ, M, α, P, er, sr, h, k⟩ => ⟨ρ, M, α, _, er, sr, h, fun v d H1 α1 M1 e1 s1 r1 p1 => ⟨ρ, M1, α1, _, er.mono e1, s1, p1, fun w e H2 α2 M2 e2 s2 r2 p2 => by
    cases r1 <;> cases r2 <;> first | exact (show False from p2).elim | skip
    obtain ⟨⟨z1, z2⟩, p3⟩ := p2
    exact ⟨_, _, rfl, z2, k _ H2 α2 M2 _ _ (e1.trans e2) s2 (itok_r z1) p3⟩⟩⟩
theorem rngC_get {lo c : Int} {n i : Nat} {x : D} (h : (rngC lo c n)[i]? = some x) : x = .int (lo + (i : Nat) * c) := by
  unfold rngC at h
  rw [List.getElem?_map] at h
  obtain ⟨k, h1, h2⟩ := Option.map_eq_some_iff.mp h
  obtain ⟨hl, e⟩ := (List.getElem?_eq_some_iff.mp h1)
  rw [List.getElem_range] at e
  subst e
  exact h2.symm
theorem rngC_len {lo c : Int} {n : Nat} : (rngC lo c n).length = n := by unfold rngC; simp
theorem itok_c {K : PySem.W.Frag} {α : List Addr} {H : Hp} {lo c : Int} {n : Nat} (h : n ≤ sizeLine) : ItOk K fa (Itc lo c n) α H (rngC lo c n) fun _ => True := by
  refine ⟨by rw [rngC_len]; exact h, fun H' α' M' e sr _ i => ⟨fun hi => ?_, fun hi => ?_, fun x v H2 hx hy => ?_⟩⟩
  · rw [rngC_len] at hi; exact Nat.le_of_eq hi.symm
  · rw [rngC_len] at hi; exact hi
  · obtain ⟨e2, e3⟩ := hy
    subst e2 e3
    rw [rngC_get hx]
    exact ⟨Ext.refl, sr, .int _⟩
theorem i_rng3 {a b c : Expr} {p : Pos} {ta tb tc : DE} (hg : Gl X "range") (hm : X.mg "range" = none) (ha : PE X a (LE X.K fa C ta)) (hb : PE X b (LE X.K fa C tb)) (hc : PE X c (LE X.K fa C tc))
    (hs : starEach [a, b, c] X.env = (false, eval a X.env) :: starEach [b, c] X.env) (hs2 : starEach [b, c] X.env = (false, eval b X.env) :: starEach [c] X.env) (hs3 : starEach [c] X.env = (false, eval c X.env) :: starEach [] X.env) (hpl : (backTo pos (starEach [b, c] X.env)).any (·.1) = false) : PI X tg (.Call (.Name "range" p) [a, b, c] [] pos) (LI X.K fa C (iRng3 ta tb tc)) :=
  (pi_range3 hg hm (pa_cons ha (pa_cons hb (pa_cons hc pa_nil hs3) hs2) hs) hs hpl).imp fun σ H R ⟨ρ, M, α, P, er, sr, h, k⟩ => ⟨ρ, M, α, _, er, sr, h, fun v d H1 α1 M1 e1 s1 r1 p1 => ⟨ρ, M1, α1, _, er.mono e1, s1, p1, fun w e H2 α2 M2 e2 s2 r2 p2 =>
    ⟨ρ, M2, α2, _, er.mono (e1.trans e2), s2, p2, fun u f H3 α3 M3 e3 s3 r3 p3 => by
    cases d <;> cases e <;> cases f <;> first | exact (show False from p3).elim | skip
    cases r1; cases r2; cases r3
    obtain ⟨n, ⟨hn, hc⟩, p4⟩ := (show ∃ n : Nat, (n ≤ sizeLine ∧ RgC _ _ _ n) ∧ P _ _ M3 from p3)
    exact ⟨_, _, _, n, rfl, hc, k _ H3 α3 M3 _ _ ((e1.trans e2).trans e3) s3 (itok_c hn) p4⟩⟩⟩⟩

/-! ### for -/
theorem s_for {it : Expr} {p : List Stmt} {ws : List Nat} {w : DI} {g : DG} {t : DS} (hp : PassesOwn (model X.prog X.w) X.A X.env X.xe) (hc : X.calm = true) (hi : PI X tg it (LI X.K fa C w)) (hg : PG X tg (LG X.K fa C ws g)) (hb : PSs X p (LS X.K fa C t))
    (hs : ∀ x, foldedSetIterable it X.env x = pure x) : PS X (.For tg it p [] pos) (LS X.K fa C (sFor w g t)) :=
  (ps_for hp hc hi hg hb hs).imp fun D σ H ⟨ρ, M, α, E, er, sr, h, en⟩ => ⟨ρ, M, α, _, er, sr, h, fun J H1 α1 M1 xs grd e1 s1 ok p1 => by
    refine ⟨fun i m σ2 H2 => ∃ ρ2 M2 α2, i + m = xs.length ∧ Ext X.K H1 H2 α1 α2 ∧ EnvR X.K fa α2 H2 σ2 ρ2 ∧ StR X.K fa α2 H2 M2 ∧ floop (g C) (t C) E grd (xs.drop i) ρ2 M2, ⟨xs.length, ρ, M1, α1, by omega, Ext.refl, er.mono e1, s1, p1⟩, ?_⟩
    rintro i m σ2 H2 ⟨ρ2, M2, α2, em, e2, er2, s2, p2⟩
    cases m with
    | zero =>
      have hd : xs.drop i = [] := List.drop_eq_nil_of_le (by omega)
      rw [hd] at p2
      exact .inl ⟨((ok.go H2 α2 M2 e2 s2 p2.1 i).1 (by omega)), en.nx σ2 ρ2 H2 α2 M2 (e1.trans e2) er2 s2 p2.2⟩
    | succ m =>
      have hi : i < xs.length := by omega
      have hd : xs.drop i = xs[i] :: xs.drop (i + 1) := List.drop_eq_getElem_cons hi
      rw [hd] at p2
      obtain ⟨hg2, p2⟩ := p2
      obtain ⟨_, go, yl⟩ := ok.go H2 α2 M2 e2 s2 hg2 i
      refine .inr ⟨go hi, fun σ' H' => ∃ ρ2 M2 α2, Ext X.K H1 H' α1 α2 ∧ EnvR X.K fa α2 H' σ' ρ2 ∧ StR X.K fa α2 H' M2 ∧ floop (g C) (t C) E grd (xs.drop (i + 1)) ρ2 M2,
        fun σ' H' ⟨ρ3, M3, α3, a1, a2, a3, a4⟩ => ⟨m, Nat.lt_succ_self m, ρ3, M3, α3, by omega, a1, a2, a3, a4⟩, fun v H3 hy => ?_⟩
      obtain ⟨e3, s3, r3⟩ := yl _ v H3 (List.getElem?_eq_getElem hi) hy
      refine ⟨ρ2, M2, α2, xs[i], _, er2.mono e3, s3, r3, p2, fun σ4 ρ4 H4 α4 M4 e4 er4 s4 _ p4 => ?_⟩
      have ee : Ext X.K H1 H4 α1 α4 := (e2.trans e3).trans e4
      exact ⟨ρ4, M4, α4, _, er4, s4, p4, ⟨fun σ' ρ' H' α' M' e' er' sr' w => ⟨ρ', M', α', ee.trans e', er', sr', w⟩, en.rt.ext (e1.trans ee), fun σ' ρ' H' α' M' e' er' sr' w => en.nx σ' ρ' H' α' M' ((e1.trans ee).trans e') er' sr' w,
        fun σ' ρ' H' α' M' e' er' sr' w => ⟨ρ', M', α', ee.trans e', er', sr', w⟩⟩⟩⟩
end
end DL
/-! The data layer, part 5: lists made on the way, comprehensions, built-ins, methods. -/
namespace DL
open PySem PySem.Spec PyProof.Rows L2

/-! ### a new list that stands apart -/
abbrev DLs := Ctx → Env → Mem → (List D → Mem → Prop) → Prop
def LL (K : PySem.W.Frag) (fa : Org) (C : Ctx) (t : DLs) : TE := fun σ H Q => ∃ (ρ : Env) (M : Mem) (α : List Addr) (P : List D → Mem → Prop), EnvR K fa α H σ ρ ∧ StR K fa α H M ∧ t C ρ M P ∧
  ∀ (a : Addr) (vs : List V) (ds : List D) (H' : Hp) (α' : List Addr) (M' : Mem), Ext K H H' α α' → StR K fa α' H' M' → H' a = some (.lst vs) → H a = none → a ∉ α' → vs.length ≤ sizeLine → Rps K fa α' H' vs ds → P ds M' → Q (.ref a) H'
def eNew (l : DLs) : DE := fun C ρ M P => l C ρ M fun ds M1 => P (.ref M1.length) (M1 ++ [.lst ds])
def eTupL (l : DLs) : DE := fun C ρ M P => l C ρ M fun ds M1 => P (.tup ds) M1
def eqL (neg : Bool) (l r : DLs) : DE := fun C ρ M P => l C ρ M fun ds M1 => r C ρ M1 fun es M2 => (pures? ds = true ∧ pures? es = true ∧ SeqAt.shaped (.list (toPys ds)) = true ∧ SeqAt.shaped (.list (toPys es)) = true) ∧
  P (.bl (if neg = true then !PyData.eqvAll (toPys ds) (toPys es) else PyData.eqvAll (toPys ds) (toPys es))) M2
/-- what looks at a list's items alone -/
abbrev DC := List D → (D → Prop) → Prop
def eFL (c : DC) (l : DLs) : DE := fun C ρ M P => l C ρ M fun ds M1 => c ds fun r => P r M1
def fC (c : DC) (tup : Bool) : DF := fun ds M P => match ds with
  | [d] => (match seqOf M d with
    | some xs => (tup = true ∨ isList M d = true) ∧ c xs fun r => P r M
    | none => False)
  | _ => False
def LC (K : PySem.W.Frag) (fa : Org) (c : DC) : List V → Hp → VK → Prop := fun vs H Q => ∃ (a : Addr) (ws : List V) (α : List Addr) (ds : List D) (k : D → Prop), vs = [.ref a] ∧ SqL K H a ws ∧ Rps K fa α H ws ds ∧ c ds k ∧ ∀ v d, Rp K fa α H v d → k d → Q v H
def LCt (K : PySem.W.Frag) (fa : Org) (c : DC) : List V → Hp → VK → Prop := fun vs H Q => ∃ (a : Addr) (ws : List V) (α : List Addr) (ds : List D) (k : D → Prop), vs = [.ref a] ∧ SqT K H a ws ∧ Rps K fa α H ws ds ∧ c ds k ∧ ∀ v d, Rp K fa α H v d → k d → Q v H

section
variable {X : Cx} {fa : Org} {C : Ctx} {a b c e : Expr} {es rest : List Expr} {pos : Pos} {l r : DLs} {da : DA} {ta tb : DE}
theorem d_new (h : PE X e (LL X.K fa C l)) : PE X e (LE X.K fa C (eNew l)) := h.imp fun σ H Q ⟨ρ, M, α, P, er, sr, h, an⟩ =>
  ⟨ρ, M, α, _, er, sr, h, fun a vs ds H' α' M' e s ha hn na l r p => an _ _ _ (α' ++ [a]) _ ⟨⟨e.tup, e.frz, by obtain ⟨β, hβ⟩ := e.pre; exact ⟨β ++ [a], by rw [hβ, List.append_assoc]⟩⟩, e.keep, e.there, fun b hb => by
    rcases List.mem_append.mp hb with z | z
    · exact e.fresh b z
    · have : b = a := by simpa using z
      subst this
      exact .inr hn⟩ (s.adopt ha na l r (sr.h0 hn)) (.ref (by rw [← s.len, List.getElem?_concat_length])) p⟩
theorem l_disp (h : PA X es (LA X.K fa C da)) (hl : es.length ≤ 1000) : PE X (.List es pos) (LE X.K fa C (eLst da)) := d_lst h
theorem d_tupL {p : Pos} (hg : Gl X "tuple") (hm : X.mg "tuple" = none) (h : PE X e (LL X.K fa C l)) (he : starEach [e] X.env = (false, eval e X.env) :: starEach [] X.env) (hpl : (backTo pos (starEach [] X.env)).any (·.1) = false) :
    PE X (.Call (.Name "tuple" p) [e] [] pos) (LE X.K fa C (eTupL l)) :=
  (pe_callTy call_tuple_of hg hm (by decide +kernel) (pa_cons h pa_nil he) (by decide) (by decide) he hpl).imp fun σ H Q ⟨ρ, M, α, P, er, sr, h, an⟩ =>
    ⟨ρ, M, α, _, er, sr, h, fun a vs ds H' α' M' e s ha hn na l r p => ⟨a, vs, rfl, .inl ⟨.inl (.inl ha), fun q hq => (an.ext e).tup s r l hq p⟩⟩⟩
theorem d_callBL {x : Str} {p : Pos} {id : String} {cc : DC} (hc : CallR X (.builtin id) (LC X.K fa cc)) (hg : Gl X x) (hm : X.mg x = none) (hv : bootBuiltins x = some (.builtin id)) (h : PE X e (LL X.K fa C l)) (hn : x ≠ "__name__") (hdb : (x == ("__debug__" : Str)) = false)
    (he : starEach [e] X.env = (false, eval e X.env) :: starEach [] X.env) (hpl : (backTo pos (starEach [] X.env)).any (·.1) = false) : PE X (.Call (.Name x p) [e] [] pos) (LE X.K fa C (eFL cc l)) :=
  (pe_callB hc hg hm hv (pa_cons h pa_nil he) hn hdb he hpl).imp fun σ H Q ⟨ρ, M, α, P, er, sr, h, an⟩ =>
    ⟨ρ, M, α, _, er, sr, h, fun a vs ds H' α' M' e s ha hn na l r p => ⟨a, vs, α', ds, _, rfl, .inl (.inl ha), r, p, fun v d rv pd => an v d H' α' M' e s rv pd⟩⟩
theorem fc_l {f : Value} {cc : DC} (hc : CallR X f (LC X.K fa cc)) : CallR X f (LF X.K fa (fC cc false)) := hc.imp fun vs H Q ⟨M, α, ds, P, sr, rs, h, an⟩ => by
  unfold fC at h
  split at h
  · split at h
    · rename_i xs hs
      rcases rs with _ | ⟨r, _ | _⟩
      obtain ⟨h1, h⟩ := h
      have h2 := h1.elim (fun z => by cases z) id
      cases r with
      | @rol a ws ds s l r => cases hs; exact ⟨a, ws, α, _, _, rfl, s.elim (fun z => .inl (.inr z)) fun z => z H, r, h, fun v d rv pd => an.here sr rv pd⟩
      | @ref n a ea =>
        obtain ⟨b, ws, e, hq, r⟩ := seq_v sr (.ref ea) hs
        cases e
        have hs : (match M[n]? with
          | some (.lst xs) => some xs
          | _ => none) = some xs := hs
        cases q : M[n]? with
        | none => rw [q] at hs; cases hs
        | some c =>
          rw [q] at hs
          cases c with
          | lst zs =>
            cases hs
            obtain ⟨vs, hv, _, r⟩ := sr.cell n _ a q ea
            exact ⟨a, vs, α, _, _, rfl, .inl (.inl hv), r, h, fun v d rv pd => an.here sr rv pd⟩
          | dK _ => cases hs
          | dT _ => cases hs
      | _ => cases h2
    · exact h.elim
  · exact h.elim
theorem fc_t {f : Value} {cc : DC} (hc : CallR X f (LC X.K fa cc)) (ht : CallR X f (LCt X.K fa cc)) : CallR X f (LF X.K fa (fC cc true)) := (hc.or ht).imp fun vs H Q ⟨M, α, ds, P, sr, rs, h, an⟩ => by
  unfold fC at h
  split at h
  · split at h
    · rename_i xs hs
      rcases rs with _ | ⟨r, _ | _⟩
      obtain ⟨h1, h⟩ := h
      obtain ⟨a, ws, e, hq, rs⟩ := seq_v sr r hs
      subst e
      rcases hq with hq | hq
      · exact .inl ⟨a, ws, α, _, _, rfl, hq, rs, h, fun v d rv pd => an.here sr rv pd⟩
      · exact .inr ⟨a, ws, α, _, _, rfl, hq, rs, h, fun v d rv pd => an.here sr rv pd⟩
    · exact h.elim
  · exact h.elim

/-! ### consumers -/
def intsOf : List D → Option (List Int)
  | [] => some []
  | .int i :: r => (intsOf r).map (i :: ·)
  | _ :: _ => none
def boolsOf : List D → Option (List Bool)
  | [] => some []
  | .bl i :: r => (boolsOf r).map (i :: ·)
  | _ :: _ => none
theorem ints_v {K : PySem.W.Frag} {α : List Addr} {H : Hp} : ∀ {ds : List D} {vs : List V} {ns : List Int}, Rps K fa α H vs ds → intsOf ds = some ns → vs = ns.map V.int
  | _, _, _, .nil, h => by cases h; rfl
  | _, _, ns, .cons (d := d) r t, h => by
    cases d <;> first | cases h | skip
    obtain ⟨l, h1, h2⟩ := Option.map_eq_some_iff.mp h
    subst h2
    cases r
    rw [ints_v t h1]
    rfl
theorem bools_v {K : PySem.W.Frag} {α : List Addr} {H : Hp} : ∀ {ds : List D} {vs : List V} {ns : List Bool}, Rps K fa α H vs ds → boolsOf ds = some ns → vs = ns.map V.bl
  | _, _, _, .nil, h => by cases h; rfl
  | _, _, ns, .cons (d := d) r t, h => by
    cases d <;> first | cases h | skip
    obtain ⟨l, h1, h2⟩ := Option.map_eq_some_iff.mp h
    subst h2
    cases r
    rw [bools_v t h1]
    rfl
def cSum : DC := fun ds k => match intsOf ds with
  | some ns => k (.int ns.sum)
  | none => False
def cAny : DC := fun ds k => match boolsOf ds with
  | some bs => k (.bl (bs.any id))
  | none => False
def cAll : DC := fun ds k => match boolsOf ds with
  | some bs => k (.bl (bs.all id))
  | none => False
def cLen : DC := fun ds k => k (.int ds.length)
def maxL : List Int → Int
  | [] => 0
  | [x] => x
  | x :: r => max x (maxL r)
def minL : List Int → Int
  | [] => 0
  | [x] => x
  | x :: r => min x (minL r)
theorem maxL_mem : ∀ {l : List Int}, 0 < l.length → maxL l ∈ l ∧ ∀ y ∈ l, y ≤ maxL l
  | [x], _ => ⟨List.mem_singleton.mpr rfl, fun y hy => by rw [List.mem_singleton.mp hy]; exact Int.le_refl _⟩
  | x :: z :: r, _ => by
    obtain ⟨h1, h2⟩ := maxL_mem (l := z :: r) (by simp)
    show max x (maxL (z :: r)) ∈ _ ∧ ∀ y ∈ _, y ≤ max x (maxL (z :: r))
    refine ⟨?_, fun y hy => ?_⟩
    · by_cases h : x ≤ maxL (z :: r)
      · rw [Int.max_eq_right h]; exact List.mem_cons_of_mem _ h1
      · rw [Int.max_eq_left (by omega)]; exact List.mem_cons_self
    · rcases List.mem_cons.mp hy with e | hy
      · rw [e]; exact Int.le_max_left _ _
      · exact Int.le_trans (h2 y hy) (Int.le_max_right _ _)
theorem minL_mem : ∀ {l : List Int}, 0 < l.length → minL l ∈ l ∧ ∀ y ∈ l, minL l ≤ y
  | [x], _ => ⟨List.mem_singleton.mpr rfl, fun y hy => by rw [List.mem_singleton.mp hy]; exact Int.le_refl _⟩
  | x :: z :: r, _ => by
    obtain ⟨h1, h2⟩ := minL_mem (l := z :: r) (by simp)
    show min x (minL (z :: r)) ∈ _ ∧ ∀ y ∈ _, min x (minL (z :: r)) ≤ y
    refine ⟨?_, fun y hy => ?_⟩
    · by_cases h : x ≤ minL (z :: r)
      · rw [Int.min_eq_left h]; exact List.mem_cons_self
      · rw [Int.min_eq_right (by omega)]; exact List.mem_cons_of_mem _ h1
    · rcases List.mem_cons.mp hy with e | hy
      · rw [e]; exact Int.min_le_left _ _
      · exact Int.le_trans (Int.min_le_right _ _) (h2 y hy)
def cMax : DC := fun ds k => match intsOf ds with
  | some ns => 0 < ns.length ∧ k (.int (maxL ns))
  | none => False
def cMin : DC := fun ds k => match intsOf ds with
  | some ns => 0 < ns.length ∧ k (.int (minL ns))
  | none => False
theorem c_sum (hc : X.calm = true) : CallR X (.builtin "sum") (LC X.K fa cSum) := (cr_sum hc).imp fun vs H Q ⟨a, ws, α, ds, k, e, hq, r, h, an⟩ => by
  unfold cSum at h
  split at h
  · rename_i ns hn
    have := ints_v r hn
    subst this
    exact ⟨a, ns, e, hq, an _ _ (.int _) h⟩
  · exact h.elim
theorem c_any (hc : X.calm = true) : CallR X (.builtin "any") (LC X.K fa cAny) := (cr_any hc).imp fun vs H Q ⟨a, ws, α, ds, k, e, hq, r, h, an⟩ => by
  unfold cAny at h
  split at h
  · rename_i ns hn
    have := bools_v r hn
    subst this
    exact ⟨a, ns, e, hq, an _ _ (.bl _) h⟩
  · exact h.elim
theorem c_all (hc : X.calm = true) : CallR X (.builtin "all") (LC X.K fa cAll) := (cr_all hc).imp fun vs H Q ⟨a, ws, α, ds, k, e, hq, r, h, an⟩ => by
  unfold cAll at h
  split at h
  · rename_i ns hn
    have := bools_v r hn
    subst this
    exact ⟨a, ns, e, hq, an _ _ (.bl _) h⟩
  · exact h.elim
theorem c_max (hc : X.calm = true) : CallR X (.builtin "max") (LC X.K fa cMax) := (cr_max hc).imp fun vs H Q ⟨a, ws, α, ds, k, e, hq, r, h, an⟩ => by
  unfold cMax at h
  split at h
  · rename_i ns hn
    have := ints_v r hn
    subst this
    obtain ⟨m1, m2⟩ := maxL_mem h.1
    refine ⟨a, ns, e, hq, h.1, fun m hm hle => ?_⟩
    have : m = maxL ns := Int.le_antisymm (m2 m hm) (hle _ m1)
    rw [this]
    exact an _ _ (.int _) h.2
  · exact h.elim
theorem c_min (hc : X.calm = true) : CallR X (.builtin "min") (LC X.K fa cMin) := (cr_min hc).imp fun vs H Q ⟨a, ws, α, ds, k, e, hq, r, h, an⟩ => by
  unfold cMin at h
  split at h
  · rename_i ns hn
    have := ints_v r hn
    subst this
    obtain ⟨m1, m2⟩ := minL_mem h.1
    refine ⟨a, ns, e, hq, h.1, fun m hm hle => ?_⟩
    have : m = minL ns := Int.le_antisymm (hle _ m1) (m2 m hm)
    rw [this]
    exact an _ _ (.int _) h.2
  · exact h.elim
theorem c_len : CallR X (.builtin "len") (LC X.K fa cLen) := call_len_seq.imp fun vs H Q ⟨a, ws, α, ds, k, e, hq, r, h, an⟩ => ⟨a, ws, e, .inl hq, by rw [r.length]; exact an _ _ (.int _) h⟩
theorem c_lenT : CallR X (.builtin "len") (LCt X.K fa cLen) := call_len_seq.imp fun vs H Q ⟨a, ws, α, ds, k, e, hq, r, h, an⟩ => ⟨a, ws, e, .inr hq, by rw [r.length]; exact an _ _ (.int _) h⟩

/-! ### built-ins by values -/
def fLen : DF := fun ds M P => match ds with
  | [.str z] => z.length ≤ sizeLine ∧ P (.int z.length) M
  | [d] => (match seqOf M d with
    | some xs => P (.int xs.length) M
    | none => (match d with
      | .ref n => (match M[n]? with
        | some (.dK kvs) => P (.int kvs.length) M
        | _ => False)
      | _ => False))
  | _ => False
def fAbs : DF := fun ds M P => match ds with
  | [.int i] => P (.int (if i < 0 then -i else i)) M
  | _ => False
def fInt : DF := fun ds M P => match ds with
  | [.int i] => P (.int i) M
  | [.bl k] => P (.int (if k then 1 else 0)) M
  | _ => False
def fBool : DF := fun ds M P => match ds with
  | [.int i] => P (.bl (i != 0)) M
  | [.bl k] => P (.bl k) M
  | _ => False
def fMax2 : DF := fun ds M P => match ds with
  | [.int i, .int j] => P (.int (if j > i then j else i)) M
  | _ => False
def fMin2 : DF := fun ds M P => match ds with
  | [.int i, .int j] => P (.int (if j < i then j else i)) M
  | _ => False
def fGcd : DF := fun ds M P => match ds with
  | [.int i, .int j] => P (.int ((Nat.gcd i.natAbs j.natAbs : Nat) : Int)) M
  | _ => False
/-- tuple(x) of a list, of a tuple -/
def fTuple : DF := fun ds M P => match ds with
  | [.tup xs] => P (.tup xs) M
  | [.kup xs] => P (.kup xs) M
  | [d] => (match seqOf M d with
    | some xs => P (.tup xs) M
    | none => False)
  | _ => False
/-- list(x): a new cell -/
def fList : DF := fun ds M P => match ds with
  | [d] => (match seqOf M d with
    | some xs => P (.ref M.length) (M ++ [.lst xs])
    | none => False)
  | _ => False
theorem seq_len {K : PySem.W.Frag} {α : List Addr} {H : Hp} {M : Mem} {v : V} {d : D} {xs : List D} (st : StR K fa α H M) (r : Rp K fa α H v d) (h : seqOf M d = some xs) : xs.length ≤ sizeLine := by
  cases r with
  | tup s l r => cases h; rw [← r.length]; exact l
  | kup s l r => cases h; rw [← r.length]; exact l
  | rol s l r => cases h; rw [← r.length]; exact l
  | @ref n a ea =>
    have h : (match M[n]? with
      | some (.lst xs) => some xs
      | _ => none) = some xs := h
    cases q : M[n]? with
    | none => rw [q] at h; cases h
    | some c =>
      rw [q] at h
      cases c with
      | lst ys =>
        cases h
        obtain ⟨vs, hv, l, r⟩ := st.cell n _ a q ea
        rw [← r.length]; exact l
      | dK _ => cases h
      | dT _ => cases h
  | _ => cases h
theorem f_len : CallR X (.builtin "len") (LF X.K fa fLen) := (call_len_seq.or (call_len_str.or call_lenD)).imp fun vs H Q ⟨M, α, ds, P, sr, rs, h, an⟩ => by
  unfold fLen at h
  split at h
  · rcases rs with _ | ⟨r, _ | _⟩
    cases r
    exact .inr (.inl ⟨_, rfl, h.1, an.here sr (.int _) h.2⟩)
  · rcases rs with _ | ⟨r, _ | _⟩
    split at h
    · rename_i xs hs
      obtain ⟨a, ws, e, hq, rs⟩ := seq_v sr r hs
      subst e
      exact .inl ⟨a, ws, rfl, hq, by rw [rs.length]; exact an.here sr (.int _) h⟩
    · split at h
      · split at h
        · rename_i kvs hM
          cases r with
          | ref ea =>
            obtain ⟨ws, hw, p⟩ := sr.cell _ _ _ hM ea
            exact .inr (.inr ⟨_, ws, rfl, hw, by rw [Paired.length p]; exact an.here sr (.int _) h⟩)
        · exact h.elim
      · exact h.elim
  · exact h.elim
theorem f_abs : CallR X (.builtin "abs") (LF X.K fa fAbs) := call_abs.imp fun vs H Q ⟨M, α, ds, P, sr, rs, h, an⟩ => by
  unfold fAbs at h
  split at h
  · rcases rs with _ | ⟨r, _ | _⟩
    cases r
    exact ⟨_, rfl, an.here sr (.int _) h⟩
  · exact h.elim
theorem f_int : CallR X (.type "int") (LF X.K fa fInt) := call_int1.imp fun vs H Q ⟨M, α, ds, P, sr, rs, h, an⟩ => by
  unfold fInt at h
  split at h
  · rcases rs with _ | ⟨r, _ | _⟩
    cases r
    exact .inl ⟨_, rfl, an.here sr (.int _) h⟩
  · rcases rs with _ | ⟨r, _ | _⟩
    cases r
    exact .inr ⟨_, rfl, an.here sr (.int _) h⟩
  · exact h.elim
theorem f_bool : CallR X (.type "bool") (LF X.K fa fBool) := call_bool1.imp fun vs H Q ⟨M, α, ds, P, sr, rs, h, an⟩ => by
  unfold fBool at h
  split at h
  · rcases rs with _ | ⟨r, _ | _⟩
    cases r
    exact .inl ⟨_, rfl, an.here sr (.bl _) h⟩
  · rcases rs with _ | ⟨r, _ | _⟩
    cases r
    exact .inr ⟨_, rfl, an.here sr (.bl _) h⟩
  · exact h.elim
theorem f_max2 (hc : X.calm = true) : CallR X (.builtin "max") (LF X.K fa fMax2) := (call_max2 hc).imp fun vs H Q ⟨M, α, ds, P, sr, rs, h, an⟩ => by
  unfold fMax2 at h
  split at h
  · rcases rs with _ | ⟨r, _ | ⟨r2, _ | _⟩⟩
    cases r; cases r2
    exact ⟨_, _, rfl, an.here sr (.int _) h⟩
  · exact h.elim
theorem f_min2 (hc : X.calm = true) : CallR X (.builtin "min") (LF X.K fa fMin2) := (call_min2 hc).imp fun vs H Q ⟨M, α, ds, P, sr, rs, h, an⟩ => by
  unfold fMin2 at h
  split at h
  · rcases rs with _ | ⟨r, _ | ⟨r2, _ | _⟩⟩
    cases r; cases r2
    exact ⟨_, _, rfl, an.here sr (.int _) h⟩
  · exact h.elim
theorem f_gcd : CallR X (.builtin "math.gcd") (LF X.K fa fGcd) := cr_gcd.imp fun vs H Q ⟨M, α, ds, P, sr, rs, h, an⟩ => by
  unfold fGcd at h
  split at h
  · rcases rs with _ | ⟨r, _ | ⟨r2, _ | _⟩⟩
    cases r; cases r2
    exact ⟨_, _, rfl, an.here sr (.int _) h⟩
  · exact h.elim
theorem f_tuple : CallR X (.type "tuple") (LF X.K fa fTuple) := call_tuple_of.imp fun vs H Q ⟨M, α, ds, P, sr, rs, h, an⟩ => by
  unfold fTuple at h
  split at h
  · rcases rs with _ | ⟨r, _ | _⟩
    cases r with
    | @tup a ws _ s l r => exact ⟨a, ws, rfl, .inr ⟨.inl (.inl s), an.here sr (.tup s l r) h⟩⟩
  · rcases rs with _ | ⟨r, _ | _⟩
    cases r with
    | @kup a ws _ s l r => exact ⟨a, ws, rfl, .inr ⟨s H, an.here sr (.kup s l r) h⟩⟩
  · rename_i d h1 h2
    rcases rs with _ | ⟨r, _ | _⟩
    split at h
    · rename_i xs hs
      obtain ⟨a, ws, e, hq, rs⟩ := seq_v sr r hs
      subst e
      have hl := seq_len sr r hs
      rcases hq with hq | hq
      · exact ⟨a, ws, rfl, .inl ⟨hq, fun q hp => an.tup sr rs (by rw [rs.length]; exact hl) hp h⟩⟩
      · cases r with
        | @rol _ ws2 _ s l r =>
          cases hs
          have hq2 : SqL X.K H a ws2 := s.elim (fun z => .inl (.inr z)) fun z => z H
          exact ⟨a, ws2, rfl, .inl ⟨hq2, fun q hp => an.tup sr r l hp h⟩⟩
        | @ref n _ ea =>
          have hs : (match M[n]? with
            | some (.lst xs) => some xs
            | _ => none) = some xs := hs
          cases q : M[n]? with
          | none => rw [q] at hs; cases hs
          | some c =>
            rw [q] at hs
            cases c with
            | lst zs =>
              cases hs
              obtain ⟨us, hv, l, r⟩ := sr.cell n _ a q ea
              exact ⟨a, us, rfl, .inl ⟨.inl (.inl hv), fun q hp => an.tup sr r l hp h⟩⟩
            | dK _ => cases hs
            | dT _ => cases hs
        | tup s l r => exact (h1 _ rfl).elim
        | kup s l r => exact (h2 _ rfl).elim
        | _ => cases hs
    · exact h.elim
  · exact h.elim
theorem f_list : CallR X (.type "list") (LF X.K fa fList) := call_list_of.imp fun vs H Q ⟨M, α, ds, P, sr, rs, h, an⟩ => by
  unfold fList at h
  split at h
  · rcases rs with _ | ⟨r, _ | _⟩
    split at h
    · rename_i xs hs
      obtain ⟨a, ws, e, hq, rs⟩ := seq_v sr r hs
      subst e
      have hl := seq_len sr r hs
      exact ⟨a, ws, rfl, hq, fun q hp => an.lst sr rs (by rw [rs.length]; exact hl) hp h⟩
    · exact h.elim
  · exact h.elim
/-- isinstance(x, T) -/
def tyOf (M : Mem) : D → Option String
  | .non => some "NoneType"
  | .bl _ => some "bool"
  | .int _ => some "int"
  | .str _ => some "str"
  | .tup _ => some "tuple"
  | .kup _ => some "tuple"
  | .rol _ => some "list"
  | .ref n => (match M[n]? with
    | some (.lst _) => some "list"
    | some (.dK _) => some "dict"
    | some (.dT _) => some "dict"
    | none => none)
  | .fn _ => none
def eIsi (T : String) (a : DE) : DE := fun C ρ M P => a C ρ M fun d M1 => match tyOf M1 d with
  | some t => (match kitB t T with
    | some b => P (.bl b) M1
    | none => False)
  | none => False
theorem tyX_v {K : PySem.W.Frag} {α : List Addr} {H : Hp} {M : Mem} {v : V} {d : D} {t : String} (st : StR K fa α H M) (r : Rp K fa α H v d) (h : tyOf M d = some t) : TyX K H v (.type t) := by
  cases r with
  | non => cases h; exact .base .non
  | bl b => cases h; exact .base (.bl b)
  | int i => cases h; exact .base (.int i)
  | str z => cases h; exact .base (.str z)
  | tup s l r => cases h; exact .base (.tup s)
  | @kup a vs ds s l r =>
    cases h
    rcases s (fun _ => none) with (q | ⟨o, q⟩) | ⟨o, its, n, e, c, _⟩
    · cases q
    · cases q
    · exact .kTuple e c
  | @rol a vs ds s l r =>
    cases h
    rcases s with ⟨o, s⟩ | s
    · exact .base (.frz s)
    · rcases s (fun _ => none) with (q | ⟨o, q⟩) | ⟨o, its, n, e, c, _⟩
      · cases q
      · cases q
      · exact .kList e c
  | @ref n a ea =>
    have h : (match M[n]? with
      | some (.lst _) => some "list"
      | some (.dK _) => some "dict"
      | some (.dT _) => some "dict"
      | none => none) = some t := h
    cases q : M[n]? with
    | none => rw [q] at h; cases h
    | some c =>
      rw [q] at h
      cases c with
      | lst ys => cases h; obtain ⟨vs, hv, _⟩ := st.cell n _ a q ea; exact .base (.lst hv)
      | dK ys => cases h; obtain ⟨vs, hv, _⟩ := st.cell n _ a q ea; exact .base (.dK hv)
      | dT ys => cases h; obtain ⟨vs, hv, _⟩ := st.cell n _ a q ea; exact .base (.dT hv)
  | fn i => cases h
theorem d_isi {x : Str} {T : String} {p p2 : Pos} (hg : Gl X "isinstance") (hm : X.mg "isinstance" = none) (hg2 : Gl X x) (hm2 : X.mg x = none) (hv2 : bootBuiltins x = some (.type T)) (hn2 : x ≠ "__name__") (hdb2 : (x == ("__debug__" : Str)) = false) (ha : PE X a (LE X.K fa C ta))
    (he : starEach [a, .Name x p2] X.env = (false, eval a X.env) :: starEach [.Name x p2] X.env) (he2 : starEach [.Name x p2] X.env = (false, eval (.Name x p2) X.env) :: starEach [] X.env) (hpl : (backTo pos (starEach [.Name x p2] X.env)).any (·.1) = false) :
    PE X (.Call (.Name "isinstance" p) [a, .Name x p2] [] pos) (LE X.K fa C (eIsi T ta)) :=
  (pe_callB call_isi hg hm (by decide +kernel) (pa_cons ha (pa_cons (pe_bltn (v := .ty T) hg2 hm2 hv2 rfl hn2 hdb2) pa_nil he2) he) (by decide) (by decide) he hpl).imp fun σ H Q ⟨ρ, M, α, P, er, sr, h, an⟩ =>
    ⟨ρ, M, α, _, er, sr, h, fun v d H' α' M' e s r p => by
      have p : (match tyOf M' d with
        | some t => (match kitB t T with
          | some b => P (.bl b) M'
          | none => False)
        | none => False) := p
      cases q : tyOf M' d with
      | none => rw [q] at p; exact p.elim
      | some t =>
        rw [q] at p
        cases q2 : kitB t T with
        | none => simp only [q2] at p
        | some b =>
          simp only [q2] at p
          exact ⟨v, .ty T, _, _, b, rfl, .ty T, tyX_v s r q, kit_ty q2, an _ _ _ _ _ e s (.bl b) p⟩⟩
end
end DL
/-! The data layer, part 6: comprehensions, methods, slices, enumerate, zip. -/
namespace DL
open PySem PySem.Spec PyProof.Rows L2

/-! ### comprehensions -/
def cloop (g : D → Env → Mem → (Env → Mem → Prop) → Prop) (tt : Env → Mem → (Bool → Mem → Prop) → Prop) (e : Env → Mem → (D → Mem → Prop) → Prop) (grd : Mem → Prop) (ρ : Env) (P : List D → Mem → Prop) : List D → List D → Mem → Prop
  | [], acc, M => grd M ∧ P acc M
  | x :: xs, acc, M => grd M ∧ g x ρ M fun ρ2 M2 => tt ρ2 M2 fun b M3 => if b = true then e ρ2 M3 fun d M4 => cloop g tt e grd ρ P xs (acc ++ [d]) M4 else cloop g tt e grd ρ P xs acc M3
def Ctx.calm (C : Ctx) : Ctx := { C with ex := fun _ _ _ _ => False }
def wiped (ρ : Env) (vs : List Nat) : Env := vs.foldr (fun i (r : Env) => r.set i none) ρ
def lcomp (w : DI) (g : DG) (tt : DT) (e : DE) (vs : List Nat) : DLs := fun C ρ M P => w C ρ M fun xs grd M1 => cloop (g C.calm) (tt C.calm) (e C.calm) grd (wiped ρ vs) P xs [] M1
def tYesD : DT := fun _ _ M P => P true M

section
variable {K : PySem.W.Frag} {fa : Org} {α α' : List Addr} {H H' : Hp} {M : Mem}
/-- an object of ours that is no cell is written -/
theorem Ext.priv {p : Addr} {o : HO} (e : Ext K H H' α α') (hp : H p = none) : Ext K H (upd H' p o) α α' where
  tup := fun a vs h => by rw [upd_ne (ne_of_none h hp)]; exact e.tup a vs h
  frz := fun a o vs h => by rw [upd_ne (ne_of_none h hp)]; exact e.frz a o vs h
  pre := e.pre
  keep := fun a u n h => by rw [upd_ne (ne_of_none h hp)]; exact e.keep a u n h
  there := fun a u h => by
    obtain ⟨u', h'⟩ := e.there a u h
    exact ⟨u', by rw [upd_ne (ne_of_none h hp)]; exact h'⟩
  fresh := e.fresh
theorem StR.priv {p : Addr} {u o : HO} (s : StR K fa α H M) (hp : H p = some u) (hm : Mut (some u)) (na : p ∉ α) (h0 : fa.H0 p = none) : StR K fa α (upd H p o) M where
  len := s.len
  nod := s.nod
  cell := fun n c a e1 e2 => by
    have g : Gr K H (upd H p o) α α := ⟨fun a vs h => by rw [upd_ne (ne_of h hp (fun z => by subst z; exact hm))]; exact h, fun a o vs h => by rw [upd_ne (ne_of h hp (fun z => by subst z; exact hm))]; exact h, ⟨[], by simp⟩⟩
    refine (s.cell n c a e1 e2).grow g fun w h => ?_
    have hne : a ≠ p := fun z => by
      subst z
      exact na (List.mem_of_getElem? e2)
    rw [upd_ne hne]; exact h
  org := s.org.priv h0
theorem Gr.priv {p : Addr} {u o : HO} (hp : H p = some u) (hm : Mut (some u)) : Gr K H (upd H p o) α α :=
  ⟨fun a vs h => by rw [upd_ne (ne_of h hp (fun z => by subst z; exact hm))]; exact h, fun a o vs h => by rw [upd_ne (ne_of h hp (fun z => by subst z; exact hm))]; exact h, ⟨[], by simp⟩⟩
end

section
variable {X : Cx} {fa : Org} {C : Ctx} {a b c e elt tg iter : Expr} {es rest ifs : List Expr} {pos : Pos} {l r : DLs} {da : DA} {ta tb te : DE} {w : DI} {g : DG} {tt : DT} {ws : List Nat} {scope : Scope} {own : List (Str × Nat)}
theorem comp_go {vs : List Nat} (hw : ∀ i ∈ ws, i ∈ vs) {σ : L2.St} {H : Hp} {Q : VK} (h : LL X.K fa C (lcomp w g tt te vs) σ H Q) : tLc (LI X.K fa C w) (LG X.K fa C.calm ws g) (LT X.K fa C.calm tt) (LE X.K fa C.calm te) vs σ H Q := by
  obtain ⟨ρ, M, α, P, er, sr, h, an⟩ := h
  refine ⟨ρ, M, α, _, er, sr, h, fun J H1 α1 M1 xs grd e1 s1 ok p1 => ?_⟩
  intro Dn hD
  have hD0 : H Dn = none := by
    cases q : H Dn with
    | none => rfl
    | some u =>
      obtain ⟨u', h'⟩ := e1.there _ _ q
      rw [hD] at h'; cases h'
  have erw := EnvR.wiped (vs := vs) (er.mono e1)
  refine ⟨fun i m H2 => ∃ (M2 : Mem) (α2 : List Addr) (acc : List D) (us : List V), i + m = xs.length ∧ Ext X.K H1 H2 α1 α2 ∧ StR X.K fa α2 H2 M2 ∧ H2 Dn = some (.lst us) ∧ Dn ∉ α2 ∧ us.length ≤ i ∧ Rps X.K fa α2 H2 us acc ∧
    cloop (g C.calm) (tt C.calm) (te C.calm) grd (wiped ρ vs) P (xs.drop i) acc M2, ⟨xs.length, M1, α1, [], [], by omega, Ext.refl.priv hD, ?_, upd_same, s1.notin hD, Nat.le_refl _, .nil, p1⟩, ?_⟩
  · exact s1.new hD
  · rintro i m H2 ⟨M2, α2, acc, us, em, e2, s2, h2, n2, l2, r2, p2⟩
    cases m with
    | zero =>
      have hd : xs.drop i = [] := List.drop_eq_nil_of_le (by omega)
      rw [hd] at p2
      refine .inl ⟨(ok.go H2 α2 M2 e2 s2 p2.1 i).1 (by omega), ?_⟩
      exact an Dn us acc H2 α2 M2 (e1.trans e2) s2 h2 hD0 n2 (by have := ok.len; omega) r2 p2.2
    | succ m =>
      have hi : i < xs.length := by omega
      have hd : xs.drop i = xs[i] :: xs.drop (i + 1) := List.drop_eq_getElem_cons hi
      rw [hd] at p2
      obtain ⟨hg2, p2⟩ := p2
      obtain ⟨_, go, yl⟩ := ok.go H2 α2 M2 e2 s2 hg2 i
      refine .inr ⟨go hi, fun H3 => ∃ (M2 : Mem) (α2 : List Addr) (acc : List D) (us : List V), Ext X.K H1 H3 α1 α2 ∧ StR X.K fa α2 H3 M2 ∧ H3 Dn = some (.lst us) ∧ Dn ∉ α2 ∧ us.length ≤ i + 1 ∧ Rps X.K fa α2 H3 us acc ∧
        cloop (g C.calm) (tt C.calm) (te C.calm) grd (wiped ρ vs) P (xs.drop (i + 1)) acc M2,
        fun H3 ⟨M3, α3, acc3, us3, a1, a2, a3, a4, a5, a6, a7⟩ => ⟨m, Nat.lt_succ_self m, M3, α3, acc3, us3, by omega, a1, a2, a3, a4, a5, a6, a7⟩, fun v H3 hy => ?_⟩
      obtain ⟨e3, s3, r3⟩ := yl _ v H3 (List.getElem?_eq_getElem hi) hy
      have k3 : H3 Dn = some (.lst us) := e3.keep _ _ n2 h2
      refine ⟨wiped ρ vs, M2, α2, xs[i], _, erw.mono (e2.trans e3), s3, r3, p2, fun σ4 ρ4 H4 α4 M4 e4 er4 s4 hw4 p4 => ?_⟩
      refine ⟨by rw [hw4 vs hw, wipe_wipe], ρ4, M4, α4, _, er4, s4, p4, fun k H5 α5 M5 e5 s5 p5 => ?_⟩
      have n4 : Dn ∉ α4 := fun z => (e4.fresh _ z).elim n2 fun q => by rw [k3] at q; cases q
      have k4 : H4 Dn = some (.lst us) := e4.keep _ _ n2 k3
      have n5 : Dn ∉ α5 := fun z => (e5.fresh _ z).elim n4 fun q => by rw [k4] at q; cases q
      have k5 : H5 Dn = some (.lst us) := e5.keep _ _ n4 k4
      cases k with
      | false => exact ⟨M5, α5, acc, us, ((e2.trans e3).trans e4).trans e5, s5, k5, n5, by omega, r2.mono ((e3.trans e4).trans e5), p5⟩
      | true =>
        refine ⟨ρ4, M5, α5, _, er4.mono e5, s5, p5, fun y d H6 α6 M6 e6 s6 r6 p6 => ?_⟩
        have n6 : Dn ∉ α6 := fun z => (e6.fresh _ z).elim n5 fun q => by rw [k5] at q; cases q
        have k6 : H6 Dn = some (.lst us) := e6.keep _ _ n5 k5
        have ee := (((e2.trans e3).trans e4).trans e5).trans e6
        refine ⟨us, k6, by have := ok.len; omega, M6, α6, acc ++ [d], us ++ [y], ee.priv hD, s6.priv k6 True.intro n6 (sr.h0 hD0), upd_same, n6, by rw [List.length_append]; show us.length + 1 ≤ i + 1; omega, ?_, p6⟩
        exact ((r2.mono (((e3.trans e4).trans e5).trans e6)).append (.cons r6 .nil)).grow (Gr.priv k6 True.intro)
where
  wipe_wipe {σ : L2.St} {vs : List Nat} : wipe (wipe σ vs) vs = wipe σ vs := by
    apply List.ext_getElem?
    intro j
    rw [wipe_get, wipe_length, wipe_get]
    by_cases h : j ∈ vs
    · rw [if_pos h, if_pos h]
    · rw [if_neg h, if_neg h]
theorem l_comp (hc : X.calm = true) (hN : X.N.Nodup) (hi : PI X tg iter (LI X.K fa C w)) (ok : BlkOk X.N X.env.scope scope own) (hws : ∀ i ∈ ws, i ∈ own.map (·.2))
    (hg : ∀ (s : Shared) (H : Hp) (Ca : Addr) (cl : List (Str × Addr)) (fp : List Addr), PG (X.blk s H scope (compEnvC scope cl Ca X.env) fp) tg (LG X.K fa C.calm ws g)) (ht : ∀ (s : Shared) (H : Hp) (Ca : Addr) (cl : List (Str × Addr)) (fp : List Addr), PTs (X.blk s H scope (compEnvC scope cl Ca X.env) fp) ifs (LT X.K fa C.calm tt))
    (he : ∀ (s : Shared) (H : Hp) (Ca : Addr) (cl : List (Str × Addr)) (fp : List Addr), PE (X.blk s H scope (compEnvC scope cl Ca X.env) fp) elt (LE X.K fa C.calm te)) (hs : ∀ x, foldedSetIterable iter X.env x = pure x) :
    PE X (.ListComp elt [⟨tg, iter, ifs, 0⟩] scope pos) (LL X.K fa C (lcomp w g tt te (own.map (·.2)))) := (pe_lc hc hN hi ok hg ht he hs).imp fun _ _ _ h => comp_go hws h
theorem s_setLc {i : Nat} {y : Str} {py spos : Pos} (hc : X.calm = true) (hN : X.N.Nodup) (hy : X.N[i]? = some y) (hyl : X.env.scope.names.lookup y = some .local)
    (hsw : swapsWith (.ListComp elt [⟨tg, iter, ifs, 0⟩] scope pos) (some (.Name y py)) spos.line X.env = pure true) (hi : PI X tg iter (LI X.K fa C w)) (ok : BlkOk X.N X.env.scope scope own) (hws : ∀ i ∈ ws, i ∈ own.map (·.2))
    (hg : ∀ (s : Shared) (H : Hp) (Ca : Addr) (cl : List (Str × Addr)) (fp : List Addr), PG (X.blk s H scope (compEnvC scope cl Ca X.env) fp) tg (LG X.K fa C.calm ws g)) (ht : ∀ (s : Shared) (H : Hp) (Ca : Addr) (cl : List (Str × Addr)) (fp : List Addr), PTs (X.blk s H scope (compEnvC scope cl Ca X.env) fp) ifs (LT X.K fa C.calm tt))
    (he : ∀ (s : Shared) (H : Hp) (Ca : Addr) (cl : List (Str × Addr)) (fp : List Addr), PE (X.blk s H scope (compEnvC scope cl Ca X.env) fp) elt (LE X.K fa C.calm te)) (hs : ∀ x, foldedSetIterable iter X.env x = pure x) :
    PS X (.Assign [.Name y py] (.ListComp elt [⟨tg, iter, ifs, 0⟩] scope pos) spos) (LS X.K fa C (sAsg (eNew (lcomp w g tt te (own.map (·.2)))) (gName i))) :=
  (ps_setLc hc hN hy hyl hsw hi ok hg ht he hs).imp fun D σ H ⟨ρ, M, α, E, er, sr, h, en⟩ => by
    have q : LE X.K fa C (eNew (lcomp w g tt te (own.map (·.2)))) σ H (fun x H1 => D.nx (σ.set i (some x)) H1) :=
      ⟨ρ, M, α, _, er, sr, h, fun v d H' α' M' e s r p => en.nx _ _ H' α' M' e ((er.mono e).set r) s p⟩
    obtain ⟨ρ, M, α, P, er, sr, h, an⟩ := q
    refine comp_go hws ⟨ρ, M, α, _, er, sr, h, fun a vs ds H' α' M' e s ha hn na l r p => an _ _ _ (α' ++ [a]) _ ⟨⟨e.tup, e.frz, by obtain ⟨β, hβ⟩ := e.pre; exact ⟨β ++ [a], by rw [hβ, List.append_assoc]⟩⟩, e.keep, e.there, fun b hb => ?_⟩ (s.adopt ha na l r (sr.h0 hn)) (.ref (by rw [← s.len, List.getElem?_concat_length])) p⟩
    rcases List.mem_append.mp hb with z | z
    · exact e.fresh b z
    · have : b = a := by simpa using z
      subst this
      exact .inr hn
theorem ts_nil : PTs X [] (LT X.K fa C tYesD) := pts_nil.imp fun σ H Q ⟨ρ, M, α, P, er, sr, h, an⟩ => an true H α M Ext.refl sr h
theorem ts_one (h : PT X c (LT X.K fa C tt)) : PTs X [c] (LT X.K fa C tt) := pts_one h
end

/-! ### methods -/
abbrev DM := D → List D → Mem → Po → Prop
def LM (K : PySem.W.Frag) (fa : Org) (m : DM) : V → List V → Hp → VK → Prop := fun x xs H Q => ∃ (M : Mem) (α : List Addr) (d : D) (ds : List D) (P : Po), StR K fa α H M ∧ Rp K fa α H x d ∧ Rps K fa α H xs ds ∧ m d ds M P ∧ Ans K fa α H P Q
def tyIs (T : String) (M : Mem) : D → Prop
  | .str _ => T = "str"
  | .int _ => T = "int"
  | .rol _ => T = "list"
  | .ref n => (match M[n]? with
    | some (.lst _) => T = "list"
    | some (.dK _) => T = "dict"
    | some (.dT _) => T = "dict"
    | none => False)
  | _ => False
def eM (T : String) (m : DM) (o : DE) (a : DA) : DE := fun C ρ M P => o C ρ M fun d M1 => tyIs T M1 d ∧ a C ρ M1 fun ds M2 => m d ds M2 P
theorem ty_v {K : PySem.W.Frag} {fa : Org} {α : List Addr} {H : Hp} {M : Mem} {v : V} {d : D} {T : String} (st : StR K fa α H M) (r : Rp K fa α H v d) (h : tyIs T M d) : tyV K T v H := by
  cases r with
  | str z => exact h
  | int z => exact h
  | @rol a vs ds s l r => exact .inl ⟨h, vs, s.elim (fun z => .inl (.inr z)) fun z => z H⟩
  | @ref n a ea =>
    have h : (match M[n]? with
      | some (.lst _) => T = "list"
      | some (.dK _) => T = "dict"
      | some (.dT _) => T = "dict"
      | none => False) := h
    cases q : M[n]? with
    | none => rw [q] at h; exact h.elim
    | some c =>
      rw [q] at h
      cases c with
      | lst ys => obtain ⟨vs, hv, _⟩ := st.cell n _ a q ea; exact .inl ⟨h, vs, .inl (.inl hv)⟩
      | dK ys => obtain ⟨vs, hv, _⟩ := st.cell n _ a q ea; exact .inr (.inr (.inl ⟨h, .inl ⟨vs, hv⟩⟩))
      | dT ys => obtain ⟨vs, hv, _⟩ := st.cell n _ a q ea; exact .inr (.inr (.inl ⟨h, .inr ⟨vs, hv⟩⟩))
  | _ => exact (show False from h).elim
section
variable {X : Cx} {fa : Org} {C : Ctx} {o e : Expr} {es : List Expr} {da : DA} {to : DE} {m : DM}
theorem d_meth {name : Str} {apos cpos : Pos} {T id : String} (pa : PlainAttrs T) (slot : Slot T name id) (hty : typeOf (.builtin id) = pure (.type "method_descriptor")) (hm : MtR X id (LM X.K fa m)) (ho : PE X o (LE X.K fa C to)) (ha : PA X (e :: es) (LA X.K fa C da))
    (h1 : attributeBase o name X.env (eval o X.env) = eval o X.env)
    (h2 : (((((backTo cpos (starEach (e :: es) X.env)).all fun x => !x.fst) && (backToKw cpos (keywordEach [] X.env)).all fun x => x.fst.isSome) && decide (((e :: es).length + ([] : List Keyword).length + if ([] : List Keyword).isEmpty = true then 0 else 1) < 30)) = true))
    (h3 : (apos.endLine == cpos.line) = true) (h4 : starEach (e :: es) X.env = (false, eval e X.env) :: starEach es X.env) (h5 : ((backTo cpos (starEach es X.env)).any fun x => x.fst) = false) :
    PE X (.Call (.Attribute o name apos) (e :: es) [] cpos) (LE X.K fa C (eM T m to da)) :=
  (pe_bm pa slot hty hm ho ha h1 h2 h3 h4 h5).imp fun σ H Q ⟨ρ, M, α, P, er, sr, h, an⟩ => ⟨ρ, M, α, _, er, sr, h, fun v d H' α' M' e s r p => ⟨ty_v s r p.1, ρ, M', α', _, er.mono e, s, p.2, fun vs ds H2 α2 M2 e2 s2 r2 p2 =>
    ⟨M2, α2, d, ds, P, s2, r.mono e2, r2, p2, an.ext (e.trans e2)⟩⟩⟩
end
def mAppend : DM := fun d ds M P => match d, ds with
  | .ref n, [x] => (match M[n]? with
    | some (.lst xs) => xs.length < sizeLine ∧ P .non (M.set n (.lst (xs ++ [x])))
    | _ => False)
  | _, _ => False
def mExtend : DM := fun d ds M P => match d, ds with
  | .ref n, [.ref k] => (match M[n]?, M[k]? with
    | some (.lst xs), some (.lst ys) => xs.length + ys.length ≤ sizeLine ∧ P .non (M.set n (.lst (xs ++ ys)))
    | _, _ => False)
  | _, _ => False
def mPop : DM := fun d ds M P => match d, ds with
  | .ref n, [] => (match M[n]? with
    | some (.lst xs) => (match xs[xs.length - 1]? with
      | some y => P y (M.set n (.lst xs.dropLast))
      | none => False)
    | _ => False)
  | .ref n, [.int i] => (match M[n]? with
    | some (.lst xs) => (-(2 ^ 63) ≤ i ∧ i < 2 ^ 63) ∧ (match seqIndex? i xs.length with
      | some k => (match xs[k]? with
        | some y => P y (M.set n (.lst (xs.eraseIdx k)))
        | none => False)
      | none => False)
    | _ => False)
  | _, _ => False
def mReverse : DM := fun d ds M P => match d, ds with
  | .ref n, [] => (match M[n]? with
    | some (.lst xs) => P .non (M.set n (.lst xs.reverse))
    | _ => False)
  | _, _ => False
section
variable {X : Cx} {fa : Org}
theorem cell_l {K : PySem.W.Frag} {α : List Addr} {H : Hp} {M : Mem} {n : Nat} {a : Addr} {xs : List D} (st : StR K fa α H M) (ea : α[n]? = some a) (q : M[n]? = some (.lst xs)) : ∃ vs, H a = some (.lst vs) ∧ vs.length ≤ sizeLine ∧ Rps K fa α H vs xs := st.cell n _ a q ea
/-- a list's cell is written, the answer a flat value -/
theorem Ans.wr {K : PySem.W.Frag} {α : List Addr} {H : Hp} {M : Mem} {P : Po} {Q : VK} {n : Nat} {a : Addr} {vs ws : List V} {ds : List D} {v : V} {d : D} (an : Ans K fa α H P Q) (st : StR K fa α H M) (ea : α[n]? = some a) (hv : H a = some (.lst vs)) (l : ws.length ≤ sizeLine) (r : Rps K fa α H ws ds) (rv : Rp K fa α H v d) (h : P d (M.set n (.lst ds))) : Q v (upd H a (.lst ws)) := by
  have ex : Ext K H (upd H a (.lst ws)) α α := Ext.write hv (List.mem_of_getElem? ea) True.intro
  exact an v d _ α _ ex (st.write (c := .lst ds) ea hv True.intro ⟨ws, upd_same, l, r.mono ex⟩) (rv.mono ex) h
theorem m_append : MtR X "list.append" (LM X.K fa mAppend) := (show MtR X "list.append" rAppend from mt_append).imp fun x xs H Q ⟨M, α, d, ds, P, sr, r, rs, h, an⟩ => by
  unfold mAppend at h
  split at h
  · rcases rs with _ | ⟨ry, _ | _⟩
    split at h
    · rename_i zs hM
      cases r with
      | @ref n a ea =>
        obtain ⟨vs, hv, l, rz⟩ := cell_l sr ea hM
        have hl : vs.length < sizeLine := by rw [rz.length]; exact h.1
        exact ⟨a, vs, _, rfl, rfl, hv, hl, an.wr sr ea hv (by rw [List.length_append]; exact hl) (rz.snoc ry) .non h.2⟩
    · exact h.elim
  · exact h.elim
theorem m_extend : MtR X "list.extend" (LM X.K fa mExtend) := (show MtR X "list.extend" rExtend from mt_extend).imp fun x xs H Q ⟨M, α, d, ds, P, sr, r, rs, h, an⟩ => by
  unfold mExtend at h
  split at h
  · rcases rs with _ | ⟨ry, _ | _⟩
    split at h
    · rename_i zs ys hM hM2
      cases r with
      | @ref n a ea =>
        cases ry with
        | @ref k b eb =>
          obtain ⟨vs, hv, l, rz⟩ := cell_l sr ea hM
          obtain ⟨us, hu, l2, rz2⟩ := cell_l sr eb hM2
          have hl : vs.length + us.length ≤ sizeLine := by rw [rz.length, rz2.length]; exact h.1
          exact ⟨a, b, vs, us, rfl, rfl, hv, hu, hl, an.wr sr ea hv (by rw [List.length_append]; exact hl) (rz.append rz2) .non h.2⟩
    · exact h.elim
  · exact h.elim
theorem m_pop : MtR X "list.pop" (LM X.K fa mPop) := ((show MtR X "list.pop" rPop from mt_pop).or (show MtR X "list.pop" rPopAt from mt_popAt)).imp fun x xs H Q ⟨M, α, d, ds, P, sr, r, rs, h, an⟩ => by
  unfold mPop at h
  split at h
  · rcases rs with _ | _
    split at h
    · rename_i zs hM
      split at h
      · rename_i y hy
        cases r with
        | @ref n a ea =>
          obtain ⟨vs, hv, l, rz⟩ := cell_l sr ea hM
          obtain ⟨v, e1, rv⟩ := rz.get hy
          rw [← rz.length] at e1
          exact .inl ⟨a, vs, v, rfl, rfl, hv, e1, an.wr sr ea hv (by rw [List.length_dropLast]; omega) rz.dropLast rv h⟩
      · exact h.elim
    · exact h.elim
  · rcases rs with _ | ⟨ry, _ | _⟩
    cases ry
    split at h
    · rename_i zs hM
      obtain ⟨hb, h⟩ := h
      split at h
      · rename_i k hk
        split at h
        · rename_i y hy
          cases r with
          | @ref n a ea =>
            obtain ⟨vs, hv, l, rz⟩ := cell_l sr ea hM
            obtain ⟨v, e1, rv⟩ := rz.get hy
            exact .inr ⟨a, vs, _, k, v, rfl, rfl, hv, hb.1, hb.2, by rw [rz.length]; exact hk, e1, an.wr sr ea hv (Nat.le_trans (List.length_eraseIdx_le _ _) l) (rz.erase k) rv h⟩
        · exact h.elim
      · exact h.elim
    · exact h.elim
  · exact h.elim
theorem m_reverse : MtR X "list.reverse" (LM X.K fa mReverse) := (show MtR X "list.reverse" rReverse from mt_reverse).imp fun x xs H Q ⟨M, α, d, ds, P, sr, r, rs, h, an⟩ => by
  unfold mReverse at h
  split at h
  · rcases rs with _ | _
    split at h
    · rename_i zs hM
      cases r with
      | @ref n a ea =>
        obtain ⟨vs, hv, l, rz⟩ := cell_l sr ea hM
        exact ⟨a, vs, rfl, rfl, hv, an.wr sr ea hv (by rw [List.length_reverse]; exact l) rz.rev .non h⟩
    · exact h.elim
  · exact h.elim
end

/-! ### slices -/
abbrev DO := Ctx → Env → Mem → (Option Int → Mem → Prop) → Prop
def oNone : DO := fun _ _ M P => P none M
def oSome (a : DE) : DO := fun C ρ M P => a C ρ M fun d M1 => match d with
  | .int i => P (some i) M1
  | _ => False
def cutD (xs : List D) (lo hi : Option Int) : List D := (xs.drop (HT.sIx xs.length 0 lo)).take (HT.sIx xs.length xs.length hi - HT.sIx xs.length 0 lo)
theorem Rps.cut {K : PySem.W.Frag} {fa : Org} {α : List Addr} {H : Hp} {vs : List V} {ds : List D} (r : Rps K fa α H vs ds) (lo hi : Option Int) : Rps K fa α H (cutV vs lo hi) (cutD ds lo hi) := by
  unfold cutV cutD
  rw [r.length]
  exact (r.drop _).take _
/-- x[lo:hi]: a tuple, a text; a list gives a new cell -/
def opCut (d : D) (lo hi : Option Int) (M : Mem) (P : Po) : Prop := match d with
  | .tup xs => P (.tup (cutD xs lo hi)) M
  | .str z => z.length ≤ sizeLine ∧ P (.str (cutS z lo hi)) M
  | .rol xs => P (.ref M.length) (M ++ [.lst (cutD xs lo hi)])
  | .ref n => (match M[n]? with
    | some (.lst xs) => P (.ref M.length) (M ++ [.lst (cutD xs lo hi)])
    | _ => False)
  | _ => False
def eCut (a : DE) (lo hi : DO) : DE := fun C ρ M P => a C ρ M fun d M1 => lo C ρ M1 fun x M2 => hi C ρ M2 fun y M3 => opCut d x y M3 P
def LOp (K : PySem.W.Frag) (fa : Org) (C : Ctx) (t : DO) : TO := fun σ H Q => ∃ (ρ : Env) (M : Mem) (α : List Addr) (P : Option Int → Mem → Prop), EnvR K fa α H σ ρ ∧ StR K fa α H M ∧ t C ρ M P ∧
  ∀ (o : Option Int) (H' : Hp) (α' : List Addr) (M' : Mem), Ext K H H' α α' → StR K fa α' H' M' → P o M' → Q o H'
section
variable {X : Cx} {fa : Org} {C : Ctx} {e : Expr} {ta te : DE} {tl th : DO} {lo hi : Option Expr} {pos p2 : Pos}
theorem o_none : PO X none (LOp X.K fa C oNone) := ⟨fun pins s σ H Q I ⟨ρ, M, α, P, er, sr, h, an⟩ => po_none.run pins s σ H Q I (an none H α M Ext.refl sr h)⟩
theorem o_some (he : PE X e (LE X.K fa C te)) : PO X (some e) (LOp X.K fa C (oSome te)) := ⟨fun pins s σ H Q I ⟨ρ, M, α, P, er, sr, h, an⟩ => (po_some he).run pins s σ H Q I ⟨ρ, M, α, _, er, sr, h, fun v d H' α' M' e s r p => by
  cases d with
  | int i => cases r; exact ⟨i, rfl, an _ H' α' M' e s p⟩
  | _ => exact (show False from p).elim⟩⟩
theorem d_cut (ha : PE X e (LE X.K fa C ta)) (hl : PO X lo (LOp X.K fa C tl)) (hh : PO X hi (LOp X.K fa C th)) : PE X (.Subscript e (.Slice lo hi none p2) pos) (LE X.K fa C (eCut ta tl th)) :=
  (pe_slice (sl_list.or (sl_tupA.or sl_str)) ha hl hh).imp fun σ H Q ⟨ρ, M, α, P, er, sr, h, an⟩ => ⟨ρ, M, α, _, er, sr, h, fun v d H1 α1 M1 e1 s1 r1 p1 => ⟨ρ, M1, α1, _, er.mono e1, s1, p1, fun x H2 α2 M2 e2 s2 p2 => ⟨ρ, M2, α2, _, er.mono (e1.trans e2), s2, p2, fun y H3 α3 M3 e3 s3 p3 => by
    have an3 := an.ext ((e1.trans e2).trans e3)
    have r3 := r1.mono (e2.trans e3)
    cases r3 with
    | @tup a vs ds s l r =>
      refine .inr (.inl ⟨a, vs, rfl, .inl (.inl s), fun hz => ?_, fun hz q hq => ?_⟩)
      · have e : cutD ds x y = ds := by
          unfold cutD
          rw [← r.length, hz.1, hz.2, List.drop_zero, Nat.sub_zero, r.length, List.take_length]
        have p3 : P (.tup (cutD ds x y)) M3 := p3
        rw [e] at p3
        exact an3.here s3 (.tup s l r) p3
      · exact an3.tup s3 (r.cut x y) (Nat.le_trans (cutV_length _ _ _) l) hq p3
    | @rol a vs ds s l r =>
      exact .inl ⟨a, vs, rfl, s.elim (fun z => .inl (.inr z)) fun z => z _, fun q hq => an3.lst s3 (r.cut x y) (Nat.le_trans (cutV_length _ _ _) l) hq p3⟩
    | @str z => exact .inr (.inr ⟨z, rfl, p3.1, an3.here s3 (.str _) p3.2⟩)
    | @ref n a ea =>
      have p3 : (match M3[n]? with
        | some (.lst xs) => P (.ref M3.length) (M3 ++ [.lst (cutD xs x y)])
        | _ => False) := p3
      cases q : M3[n]? with
      | none => rw [q] at p3; exact p3.elim
      | some c =>
        rw [q] at p3
        cases c with
        | lst xs =>
          obtain ⟨vs, hv, l, r⟩ := cell_l s3 ea q
          exact .inl ⟨a, vs, rfl, .inl (.inl hv), fun q hq => an3.lst s3 (r.cut x y) (Nat.le_trans (cutV_length _ _ _) l) hq p3⟩
        | _ => exact p3.elim
    | _ => exact (show False from p3).elim⟩⟩⟩
end
end DL
/-! The data layer, part 7: calls of the text's own defs; a whole program's meaning. -/
namespace DL
open PySem PySem.Spec PyProof.Rows L2

section
variable {X : Cx} {fa : Org} {C : Ctx} {o e : Expr} {es : List Expr} {da : DA} {to : DE} {m : DM}
theorem d_meth0 {name : Str} {apos cpos : Pos} {T id : String} (pa : PlainAttrs T) (slot : Slot T name id) (hty : typeOf (.builtin id) = pure (.type "method_descriptor")) (hm : MtR X id (LM X.K fa m)) (ho : PE X o (LE X.K fa C to))
    (h1 : attributeBase o name X.env (eval o X.env) = eval o X.env) (h3 : (apos.endLine == cpos.line) = true) :
    PE X (.Call (.Attribute o name apos) [] [] cpos) (LE X.K fa C (eM T m to aNil)) :=
  (pe_bm0 pa slot hty hm ho h1 h3).imp fun σ H Q ⟨ρ, M, α, P, er, sr, h, an⟩ => ⟨ρ, M, α, _, er, sr, h, fun v d H' α' M' e s r p => ⟨ty_v s r p.1, M', α', d, [], P, s, r, .nil, p.2, an.ext e⟩⟩
def mBits : DM := fun d ds M P => match d, ds with
  | .int i, [] => P (.int (Builtin.Int.intBits i : Nat)) M
  | _, _ => False
theorem d_bits {apos cpos : Pos} (ho : PE X o (LE X.K fa C to)) (h1 : attributeBase o "bit_length" X.env (eval o X.env) = eval o X.env) (h3 : (apos.endLine == cpos.line) = true) :
    PE X (.Call (.Attribute o "bit_length" apos) [] [] cpos) (LE X.K fa C (eM "int" mBits to aNil)) :=
  (pe_bits ho h1 h3).imp fun σ H Q ⟨ρ, M, α, P, er, sr, h, an⟩ => ⟨ρ, M, α, _, er, sr, h, fun v d H' α' M' e s r p => by
    cases d with
    | int i => cases r; exact ⟨i, rfl, an.ext e |>.here s (.int _) p.2⟩
    | _ => exact (show False from p.2).elim⟩
end

/-! ### what a def promises, over data -/
/-- an exception's end -/
def XA (K : PySem.W.Frag) (fa : Org) (α : List Addr) (H : Hp) (ex : XP) (E : XK) : Prop :=
  ∀ (c : Nat) (fs : List D) (vs : List V) (dx : Addr) (H' : Hp) (α' : List Addr) (M' : Mem), Ext K H H' α α' → StR K fa α' H' M' → Rps K fa α' H' vs fs → H' dx = some (.xd ((fa.flds c).zip vs)) → dx ∉ α' → ex c fs M' → E (.ref (fa.cls c)) (some dx) H'
abbrev DSp := XP → List D → Mem → Po → Prop
def LSp (K : PySem.W.Frag) (fa : Org) (sp : DSp) : Sp := fun vs H Q E => ∃ (ds : List D) (M : Mem) (α : List Addr) (P : Po) (ex : XP), Rps K fa α H vs ds ∧ StR K { fa with H0 := H, α0 := α } α H M ∧ sp ex ds M P ∧ Ans K { fa with H0 := H, α0 := α } α H P Q ∧ XA K { fa with H0 := H, α0 := α } α H ex E
/-- how the meaning's exceptions lie in the wish -/
structure XS (X : Cx) (fa : Org) (C : Ctx) : Prop where
  ex : ∃ W : WX, Takes X W ∧ ∀ (σ : L2.St) (ρ : Env) (α : List Addr) (H : Hp) (M : Mem) (c : Nat) (fs : List D) (vs : List V) (dx : Addr), EnvR X.K fa α H σ ρ → StR X.K fa α H M → Rps X.K fa α H vs fs → H dx = some (.xd ((fa.flds c).zip vs)) → dx ∉ α → C.ex ρ c fs M → W (.ref (fa.cls c)) (some dx) σ H
theorem XS.calm {X : Cx} {fa : Org} {C : Ctx} : XS X fa C.calm := ⟨⟨fun _ _ _ _ => False, takes0, fun _ _ _ _ _ _ _ _ _ _ _ _ _ _ h => h⟩⟩
/-- what the module has -/
structure Glb where
  fns : List (Str × List Str)
  free : List Str
  bfn : List (Str × String)
  nums : List (Str × Int)
  tups : List (Str × List D)
  btys : List (Str × String)
structure Mo (G : Glb) (X : Cx) (fa : Org) (call : Nat → DSp) : Prop where
  hu : X.A.units + 65 < cLine
  free : ∀ x ∈ G.free, X.mg x = none
  bfn : ∀ p ∈ G.bfn, X.mg p.1 = some (.builtin p.2)
  nums : ∀ p ∈ G.nums, ∃ t, X.mg p.1 = some (.int p.2 t)
  btys : ∀ p ∈ G.btys, X.mg p.1 = some (.type p.2)
  tups : ∀ p ∈ G.tups, ∃ a, X.mg p.1 = some (.ref a) ∧ ∀ α H, Rp X.K fa α H (.ref a) (.kup p.2)
  fn : ∀ (i : Nat) (x : Str) (ps : List Str), G.fns[i]? = some (x, ps) → X.mg x = some (.ref (fa.fn i)) ∧ PySem.W.keepIn X.K (.ref (fa.fn i)) = true ∧
    ∃ k fd, FnOk X.prog X.w X.K X.mg X.base (L2.CX X.prog X.w) k (fa.fn i) fd ps (LSp X.K fa (call i)) ∧ Room k X.A ∧ Binds X.K fd ps []
section
variable {X : Cx} {fa : Org} {C : Ctx} {G : Glb} {e : Expr} {es : List Expr} {pos p : Pos} {da : DA} {x : Str} {i : Nat} {ps : List Str}
theorem call_go (xs : XS X fa C) : ∃ W : WX, Takes X W ∧ ∀ {σ : L2.St} {H : Hp} {Q : VK}, LE X.K fa C (eCall i da) σ H Q → tCallS (LSp X.K fa (C.call i)) (WE W) (LA X.K fa C da) σ H Q := by
  obtain ⟨W, tk, hw⟩ := xs.ex
  refine ⟨W, tk, fun {σ H Q} ⟨ρ, M, α, P, er, sr, h, an⟩ => ⟨ρ, M, α, _, er, sr, h, fun vs ds H1 α1 M1 e1 s1 r1 p1 => ?_⟩⟩
  refine ⟨ds, M1, α1, P, C.ex ρ, r1, s1.start, p1, fun v d H' α' M' e s r p => ?_, fun c fs vs dx H' α' M' e s r hd nd p => ?_⟩
  · exact an v d H' α' M' (e1.trans e) (s1.back s) (Rp.org (fa := { fa with H0 := H1, α0 := α1 }) (fb := fa) rfl r) p
  · exact hw σ ρ α' H' M' c fs vs dx (er.mono (e1.trans e)) (s1.back s) (Rps.org (fa := { fa with H0 := H1, α0 := α1 }) (fb := fa) rfl r) hd nd p
theorem d_call (xs : XS X fa C) (mo : Mo G X fa C.call) (hi : G.fns[i]? = some (x, ps)) (hg : Gl X x) (ha : PA X (e :: es) (LA X.K fa C da)) (hdb : (x == ("__debug__" : Str)) = false)
    (he : starEach (e :: es) X.env = (false, eval e X.env) :: starEach es X.env) (hpl : (backTo pos (starEach es X.env)).any (·.1) = false) : PE X (.Call (.Name x p) (e :: es) [] pos) (LE X.K fa C (eCall i da)) := by
  obtain ⟨W, tk, hw⟩ := call_go (i := i) (da := da) xs
  obtain ⟨hm, hk, k, fd, F, hr, hb⟩ := mo.fn i x ps hi
  exact (pe_callS F hr hg hm hk hb (fun σ => passAt tk σ) ha hdb he hpl).imp fun _ _ _ h => hw h
end
end DL
/-! The data layer, part 8: from the text's syntax to its meaning, with the proof beside it. -/
namespace DL
open PySem PySem.Spec PyProof.Rows L2

structure Cp where
  N : List Str
  sc : Scope
  fnb : Str → Bool
structure Hy (G : Glb) (c : Cp) (X : Cx) (fa : Org) (C : Ctx) : Prop where
  N : X.N = c.N
  nd : X.N.Nodup
  sc : X.env.scope = c.sc
  fn : X.fn = c.fnb
  calm : X.calm = true
  mo : Mo G X fa C.call
  xs : XS X fa C
structure HyS (G : Glb) (c : Cp) (X : Cx) (fa : Org) (C : Ctx) : Prop extends Hy G c X fa C where
  pa : PassesOwn (model X.prog X.w) X.A X.env X.xe
section
variable (G : Glb) (c : Cp)
def CE (e : Expr) := { t : DE // ∀ X fa C, Hy G c X fa C → PE X e (LE X.K fa C t) }
def CT (e : Expr) := { t : DT // ∀ X fa C, Hy G c X fa C → PT X e (LT X.K fa C t) }
def CW (op : BoolOp) (es : List Expr) := { t : DT // ∀ X fa C pos, Hy G c X fa C → PW X (.BoolOp op es pos) (LT X.K fa C t) }
def CV (op : BoolOp) (es : List Expr) := { t : DE // ∀ X fa C pos, Hy G c X fa C → PE X (.BoolOp op es pos) (LE X.K fa C t) }
def CA (es : List Expr) := { t : DA // ∀ X fa C, Hy G c X fa C → PA X es (LA X.K fa C t) }
def CL (e : Expr) := { t : DLs // ∀ X fa C, Hy G c X fa C → PE X e (LL X.K fa C t) }
def CI (tg e : Expr) := { t : DI // ∀ X fa C, Hy G c X fa C → PI X tg e (LI X.K fa C t) }
def CO (e : Option Expr) := { t : DO // ∀ X fa C, Hy G c X fa C → PO X e (LOp X.K fa C t) }
structure CG (e : Expr) where
  g : DG
  ws : List Nat
  ok : ∀ X fa C, Hy G c X fa C → PG X e (LG X.K fa C ws g)
structure CGs (es : List Expr) where
  g : DGs
  ws : List Nat
  ok : ∀ X fa C, Hy G c X fa C → PGs X es (LGs X.K fa C ws g)
def CTs (es : List Expr) := { t : DT // ∀ X fa C, Hy G c X fa C → PTs X es (LT X.K fa C t) }
def CS (s : Stmt) := { t : DS // ∀ X fa C, HyS G c X fa C → PS X s (LS X.K fa C t) }
def CSs (s : List Stmt) := { t : DS // ∀ X fa C, HyS G c X fa C → PSs X s (LS X.K fa C t) }
end

/-! ### side conditions -/
def plainE : Expr → Bool
  | .Starred .. => false
  | .ListComp .. => false
  | .SetComp .. => false
  | .DictComp .. => false
  | .Set .. => false
  | .Slice .. => false
  | _ => true
def notStar : Expr → Bool
  | .Starred .. => false
  | _ => true
def notSet : Expr → Bool
  | .Set .. => false
  | _ => true
def notSlice : Expr → Bool
  | .Slice .. => false
  | _ => true
def notComp : Expr → Bool
  | .ListComp .. => false
  | .SetComp .. => false
  | .DictComp .. => false
  | _ => true
def notCall : Expr → Bool
  | .Call .. => false
  | _ => true
theorem star_ok {e : Expr} {es : List Expr} {env : PySem.Env} (h : notStar e = true) : starEach (e :: es) env = (false, eval e env) :: starEach es env := by
  cases e <;> first | rfl | cases h
theorem stars_ok {pos : Pos} {env : PySem.Env} : ∀ {es : List Expr}, es.all notStar = true → (backTo pos (starEach es env)).any (·.1) = false
  | [], _ => rfl
  | e :: es, h => by
    rw [List.all_cons, Bool.and_eq_true] at h
    rw [star_ok h.1]
    show (false || (backTo pos (starEach es env)).any (·.1)) = false
    rw [stars_ok h.2]
    rfl
theorem stars_len {env : PySem.Env} : ∀ {es : List Expr}, es.all notStar = true → (starEach es env).length = es.length
  | [], _ => rfl
  | e :: es, h => by
    rw [List.all_cons, Bool.and_eq_true] at h
    rw [star_ok h.1]
    exact congrArg (· + 1) (stars_len h.2)
theorem few_ok {pos : Pos} {env : PySem.Env} {es : List Expr} (h : es.all notStar = true) (hl : es.length < 20) :
    (((((backTo pos (starEach es env)).all fun x => !x.fst) && (backToKw pos (keywordEach [] env)).all fun x => x.fst.isSome) && decide ((es.length + ([] : List Keyword).length + if ([] : List Keyword).isEmpty = true then 0 else 1) < 30)) = true) := by
  have h1 : ∀ {es : List Expr}, es.all notStar = true → ((backTo pos (starEach es env)).all fun x => !x.fst) = true := fun {es} h => by
    induction es with
    | nil => rfl
    | cons e es ih =>
      rw [List.all_cons, Bool.and_eq_true] at h
      rw [star_ok h.1]
      exact ih h.2
  rw [h1 h]
  show decide _ = true
  refine decide_eq_true ?_
  show es.length + 0 + 0 < 30
  omega
theorem swap_ok {e : Expr} {tg : Option Expr} {l : Nat} {env : PySem.Env} (h : notComp e = true) : swapsWith e tg l env = pure false := by
  cases e <;> first | rfl | cases h
theorem sole_ok {e tg : Expr} {l : Nat} {env : PySem.Env} (h : notComp e = true) : swapsWithSole [tg] e l env = pure false := swap_ok h
theorem base_ok {o : Expr} {n : Str} {env : PySem.Env} (h : notCall o = true) : attributeBase o n env (eval o env) = eval o env := by
  cases o <;> first | rfl | cases h
theorem ix_ok {b : Expr} (h : notSlice b = true) : PlainIx b := fun o i => by
  cases b <;> first | rfl | cases h
theorem mark_ok {op : CmpOp} {e : Expr} (h : notSet e = true) : behindInMarks op e = false := by
  cases e <;> first | rfl | cases h
theorem fold_ok {e : Expr} {env : PySem.Env} (h : notSet e = true) (x : Value) : foldedSetIterable e env x = pure x := by
  cases e <;> first | rfl | cases h
/-- as a test an expression is taken by its value -/
def byValue : Expr → Bool
  | .UnaryOp .Not _ _ => false
  | .BoolOp .. => false
  | .IfExp .. => false
  | .Compare .. => false
  | _ => true
theorem true_ok {e : Expr} {env : PySem.Env} (h : byValue e = true) (whole : Sem Value) : isTrue e env whole = (do let v ← whole; standAt e.pos; holding [v] (truthy v)) := by
  cases e with
  | UnaryOp op a p => cases op <;> first | rfl | cases h
  | _ => first | rfl | cases h
def glB (sc : Scope) (x : Str) : Bool := match sc.names.lookup x with
  | some .globalImplicit => true
  | _ => false
def visB (sc : Scope) (x : Str) : Bool := match sc.names.lookup x with
  | some .local => true
  | some .cell => true
  | some .free => true
  | _ => false
/-- a name that may be stored -/
def locB (c : Cp) (x : Str) : Bool := match c.sc.names.lookup x with
  | some .local => true
  | some .cell => c.fnb x
  | _ => false
def plainName (x : Str) : Bool := !(x == ("__debug__" : Str)) && !(x == ("__classdict__" : Str)) && !(x == ("__name__" : Str))
section
variable {G : Glb} {c : Cp} {X : Cx} {fa : Org} {C : Ctx} {x : Str}
theorem gl_ok (hy : Hy G c X fa C) (h : glB c.sc x = true) : Gl X x := by
  unfold glB at h
  rw [← hy.sc] at h
  show X.env.scope.names.lookup x = _
  split at h
  · assumption
  · cases h
theorem vis_ok (hy : Hy G c X fa C) (h : visB c.sc x = true) : Vis X.env.scope x := by
  unfold visB at h
  rw [← hy.sc] at h
  split at h
  · exact .inl (by assumption)
  · exact .inr (.inl (by assumption))
  · exact .inr (.inr (by assumption))
  · cases h
theorem loc_ok (hy : Hy G c X fa C) (h : locB c x = true) : Loc X.env.scope x ∧ (X.fn x = true ∨ X.env.scope.names.lookup x = some .local) := by
  unfold locB at h
  rw [← hy.sc, ← hy.fn] at h
  split at h
  · rename_i h1; exact ⟨.inl h1, .inr h1⟩
  · rename_i h1; exact ⟨.inr h1, .inl h⟩
  · cases h
theorem pn_ok (h : plainName x = true) : (x == ("__debug__" : Str)) = false ∧ (x == ("__classdict__" : Str)) = false ∧ x ≠ ("__name__" : Str) := by
  unfold plainName at h
  rw [Bool.and_eq_true, Bool.and_eq_true] at h
  refine ⟨by simpa using h.1.1, by simpa using h.1.2, fun e => ?_⟩
  have := h.2
  rw [e] at this
  simp at this
end
/-- the built-in nm, under its own name -/
def bi (G : Glb) (c : Cp) (f nm : Str) : Bool := decide (f = nm) && (glB c.sc nm && decide (nm ∈ G.free))
theorem bi_ok {G : Glb} {c : Cp} {f nm : Str} (h : bi G c f nm = true) : f = nm ∧ ∀ {X : Cx} {fa : Org} {C : Ctx}, Hy G c X fa C → Gl X nm ∧ X.mg nm = none := by
  unfold bi at h
  rw [Bool.and_eq_true, Bool.and_eq_true] at h
  exact ⟨of_decide_eq_true h.1, fun hy => ⟨gl_ok hy h.2.1, hy.mo.free nm (of_decide_eq_true h.2.2)⟩⟩

/-! ### the steps -/
structure Comp (G : Glb) where
  E : (c : Cp) → (e : Expr) → Option (CE G c e)
  T : (c : Cp) → (e : Expr) → Option (CT G c e)
  W : (c : Cp) → (op : BoolOp) → (es : List Expr) → Option (CW G c op es)
  V : (c : Cp) → (op : BoolOp) → (es : List Expr) → Option (CV G c op es)
  A : (c : Cp) → (es : List Expr) → Option (CA G c es)
  L : (c : Cp) → (e : Expr) → Option (CL G c e)
  I : (c : Cp) → (tg e : Expr) → Option (CI G c tg e)
  O : (c : Cp) → (e : Option Expr) → Option (CO G c e)
  Gt : (c : Cp) → (e : Expr) → Option (CG G c e)
  Gs : (c : Cp) → (es : List Expr) → Option (CGs G c es)
  S : (c : Cp) → (s : Stmt) → Option (CS G c s)
  Ss : (c : Cp) → (s : List Stmt) → Option (CSs G c s)
def binD : Operator → Option DOp
  | .Add => some opAdd
  | .Sub => some opSub
  | .Mult => some opMul
  | .FloorDiv => some opDiv
  | .Mod => some opMod
  | .Pow => some opPow
  | .LShift => some opShl
  | .RShift => some opShr
  | .BitAnd => some opAnd
  | .BitOr => some opOr
  | .BitXor => some opXor
  | _ => none
theorem binD_ok {X : Cx} {fa : Org} {op : Operator} {o : DOp} (h : binD op = some o) : OpR X (binaryOp op) (LO X.K fa o) := by
  cases op <;> first | (cases h; done) | skip
  all_goals
    cases h
    first | exact o_add | exact o_sub | exact o_mul | exact o_div | exact o_mod | exact o_pow | exact o_shl | exact o_shr | exact o_and | exact o_or | exact o_xor
def cmpD : CmpOp → Option DOp
  | .Lt => some opLt
  | .LtE => some opLe
  | .Gt => some opGt
  | .GtE => some opGe
  | .Eq => some opEq
  | .NotEq => some opNe
  | .Is => some opIs
  | .IsNot => some opIsNot
  | .In => some (inD false)
  | .NotIn => some (inD true)
theorem cmpD_ok {X : Cx} {fa : Org} {op : CmpOp} {o : DOp} (hu : X.A.units + 65 < cLine) (h : cmpD op = some o) : OpR X (compareOp op) (LO X.K fa o) := by
  cases op <;> cases h
  · exact o_eq (by omega)
  · exact o_ne (by omega)
  · exact o_lt
  · exact o_le
  · exact o_gt
  · exact o_ge
  · exact o_is
  · exact o_isnot
  · exact o_in hu
  · exact o_notin hu

theorem Mo.blk {G : Glb} {X : Cx} {fa : Org} {call : Nat → DSp} (m : Mo G X fa call) {s : Shared} {H : Hp} {scope : Scope} {cenv : PySem.Env} {fp : List Addr} : Mo G (X.blk s H scope cenv fp) fa call := ⟨m.hu, m.free, m.bfn, m.nums, m.btys, m.tups, m.fn⟩
/-- the block of a comprehension -/
def blkCp (c : Cp) (scope : Scope) : Cp := { c with sc := relS scope c.sc, fnb := fun x => scope.names.lookup x == some .cell }
theorem Hy.blk {G : Glb} {c : Cp} {X : Cx} {fa : Org} {C : Ctx} (hy : Hy G c X fa C) {scope : Scope} (s : Shared) (H : Hp) (Ca : Addr) (cl : List (Str × Addr)) (fp : List Addr) : Hy G (blkCp c scope) (X.blk s H scope (compEnvC scope cl Ca X.env) fp) fa C.calm where
  N := hy.N
  nd := hy.nd
  sc := by
    show relabel scope X.env = relS scope c.sc
    rw [← hy.sc]
    rfl
  fn := rfl
  calm := hy.calm
  mo := hy.mo.blk
  xs := XS.calm

/-! ### expressions -/
section
variable {G : Glb} (p : Comp G) (c : Cp)
/-- a name: a slot; a def; a module's constant -/
def stepName (x : Str) (pos : Pos) : Option (CE G c (.Name x pos)) :=
  if hp : plainName x = true then
    if hv : visB c.sc x = true then
      match hi : c.N.findIdx? (fun y => decide (y = x)) with
      | some i => (match hN : c.N[i]? with
        | some y => if hy : y = x then some ⟨eVar i, fun X fa C h => d_var (by rw [h.N, hN, hy]) (vis_ok h hv) (pn_ok hp).1 (pn_ok hp).2.1⟩ else none
        | none => none)
      | none => none
    else if hg : glB c.sc x = true then
      match hn : G.nums.find? (fun q => decide (q.1 = x)) with
      | some q => if hx : q.1 = x ∧ q ∈ G.nums then some ⟨eK (.int q.2), fun X fa C h => by
          obtain ⟨t, e⟩ := h.mo.nums q hx.2
          rw [hx.1] at e
          exact d_glob (gl_ok h hg) e (v := .int q.2) ⟨t, rfl⟩ (fun _ _ => .int _) (pn_ok hp).1⟩ else none
      | none => (match ht : G.tups.find? (fun q => decide (q.1 = x)) with
        | some q => if hx : q.1 = x then some ⟨eK (.kup q.2), fun X fa C h => by
            obtain ⟨a, e, r⟩ := h.mo.tups q (List.mem_of_find?_eq_some ht)
            rw [hx] at e
            exact d_glob (gl_ok h hg) e (v := .ref a) rfl r (pn_ok hp).1⟩ else none
        | none => (match hf : G.fns.findIdx? (fun q => decide (q.1 = x)) with
          | some i => (match hq : G.fns[i]? with
            | some q => if hx : q.1 = x then some ⟨eK (.fn i), fun X fa C h => by
                obtain ⟨y, ps⟩ := q
                obtain ⟨e, _⟩ := h.mo.fn i y ps hq
                have hx : y = x := hx
                subst hx
                exact d_glob (gl_ok h hg) e (v := .ref (fa.fn i)) rfl (fun _ _ => .fn i) (pn_ok hp).1⟩ else none
            | none => none)
          | none => none))
    else none
  else none
/-- f(a) -/
def stepCall1 (f : Str) (pf : Pos) (a : Expr) (pos : Pos) : Option (CE G c (.Call (.Name f pf) [a] [] pos)) :=
  if hs : notStar a = true then
    if hb : bi G c f "len" = true then (match p.L c a with
      | some ta => some ⟨eFL cLen ta.1, fun X fa C h => by
          obtain ⟨e, k⟩ := bi_ok hb
          subst e
          exact d_callBL c_len (k h).1 (k h).2 PySem.boot_len (ta.2 X fa C h) (by decide) (by decide) (star_ok hs) rfl⟩
      | none => (p.A c [a]).map fun ta => ⟨eF fLen ta.1, fun X fa C h => by
          obtain ⟨e, k⟩ := bi_ok hb
          subst e
          exact d_callB f_len (k h).1 (k h).2 PySem.boot_len (ta.2 X fa C h) (by decide) (by decide) (star_ok hs) rfl⟩)
    else if hb : bi G c f "tuple" = true then (match p.L c a with
      | some ta => some ⟨eTupL ta.1, fun X fa C h => by
          obtain ⟨e, k⟩ := bi_ok hb
          subst e
          exact d_tupL (k h).1 (k h).2 (ta.2 X fa C h) (star_ok hs) rfl⟩
      | none => (p.A c [a]).map fun ta => ⟨eF fTuple ta.1, fun X fa C h => by
          obtain ⟨e, k⟩ := bi_ok hb
          subst e
          exact d_callTy f_tuple (k h).1 (k h).2 (by decide +kernel) (ta.2 X fa C h) (by decide) (by decide) (star_ok hs) rfl⟩)
    else if hb : bi G c f "list" = true then (p.A c [a]).map fun ta => ⟨eF fList ta.1, fun X fa C h => by
          obtain ⟨e, k⟩ := bi_ok hb
          subst e
          exact d_callTy f_list (k h).1 (k h).2 (by decide +kernel) (ta.2 X fa C h) (by decide) (by decide) (star_ok hs) rfl⟩
    else if hb : bi G c f "int" = true then (p.A c [a]).map fun ta => ⟨eF fInt ta.1, fun X fa C h => by
          obtain ⟨e, k⟩ := bi_ok hb
          subst e
          exact d_callTy f_int (k h).1 (k h).2 (by decide +kernel) (ta.2 X fa C h) (by decide) (by decide) (star_ok hs) rfl⟩
    else if hb : bi G c f "bool" = true then (p.A c [a]).map fun ta => ⟨eF fBool ta.1, fun X fa C h => by
          obtain ⟨e, k⟩ := bi_ok hb
          subst e
          exact d_callTy f_bool (k h).1 (k h).2 (by decide +kernel) (ta.2 X fa C h) (by decide) (by decide) (star_ok hs) rfl⟩
    else if hb : bi G c f "abs" = true then (p.A c [a]).map fun ta => ⟨eF fAbs ta.1, fun X fa C h => by
          obtain ⟨e, k⟩ := bi_ok hb
          subst e
          exact d_callB f_abs (k h).1 (k h).2 (by decide +kernel) (ta.2 X fa C h) (by decide) (by decide) (star_ok hs) rfl⟩
    else if hb : bi G c f "sum" = true then (match p.L c a with
      | some ta => some ⟨eFL cSum ta.1, fun X fa C h => by
          obtain ⟨e, k⟩ := bi_ok hb
          subst e
          exact d_callBL (c_sum h.calm) (k h).1 (k h).2 (by decide +kernel) (ta.2 X fa C h) (by decide) (by decide) (star_ok hs) rfl⟩
      | none => (p.A c [a]).map fun ta => ⟨eF (fC cSum false) ta.1, fun X fa C h => by
          obtain ⟨e, k⟩ := bi_ok hb
          subst e
          exact d_callB (fc_l (c_sum h.calm)) (k h).1 (k h).2 (by decide +kernel) (ta.2 X fa C h) (by decide) (by decide) (star_ok hs) rfl⟩)
    else if hb : bi G c f "any" = true then (match p.L c a with
      | some ta => some ⟨eFL cAny ta.1, fun X fa C h => by
          obtain ⟨e, k⟩ := bi_ok hb
          subst e
          exact d_callBL (c_any h.calm) (k h).1 (k h).2 (by decide +kernel) (ta.2 X fa C h) (by decide) (by decide) (star_ok hs) rfl⟩
      | none => none)
    else if hb : bi G c f "all" = true then (match p.L c a with
      | some ta => some ⟨eFL cAll ta.1, fun X fa C h => by
          obtain ⟨e, k⟩ := bi_ok hb
          subst e
          exact d_callBL (c_all h.calm) (k h).1 (k h).2 (by decide +kernel) (ta.2 X fa C h) (by decide) (by decide) (star_ok hs) rfl⟩
      | none => none)
    else if hb : bi G c f "max" = true then (match p.L c a with
      | some ta => some ⟨eFL cMax ta.1, fun X fa C h => by
          obtain ⟨e, k⟩ := bi_ok hb
          subst e
          exact d_callBL (c_max h.calm) (k h).1 (k h).2 (by decide +kernel) (ta.2 X fa C h) (by decide) (by decide) (star_ok hs) rfl⟩
      | none => (p.A c [a]).map fun ta => ⟨eF (fC cMax false) ta.1, fun X fa C h => by
          obtain ⟨e, k⟩ := bi_ok hb
          subst e
          exact d_callB (fc_l (c_max h.calm)) (k h).1 (k h).2 (by decide +kernel) (ta.2 X fa C h) (by decide) (by decide) (star_ok hs) rfl⟩)
    else if hb : bi G c f "min" = true then (match p.L c a with
      | some ta => some ⟨eFL cMin ta.1, fun X fa C h => by
          obtain ⟨e, k⟩ := bi_ok hb
          subst e
          exact d_callBL (c_min h.calm) (k h).1 (k h).2 (by decide +kernel) (ta.2 X fa C h) (by decide) (by decide) (star_ok hs) rfl⟩
      | none => (p.A c [a]).map fun ta => ⟨eF (fC cMin false) ta.1, fun X fa C h => by
          obtain ⟨e, k⟩ := bi_ok hb
          subst e
          exact d_callB (fc_l (c_min h.calm)) (k h).1 (k h).2 (by decide +kernel) (ta.2 X fa C h) (by decide) (by decide) (star_ok hs) rfl⟩)
    else none
  else none
/-- f(a, b), built in -/
def stepCall2 (f : Str) (pf : Pos) (a b : Expr) (pos : Pos) : Option (CE G c (.Call (.Name f pf) [a, b] [] pos)) :=
  if hs : notStar a = true ∧ notStar b = true then
    if hb : bi G c f "isinstance" = true then (match b with
      | .Name x p2 => (match p.E c a with
        | some ta => (match (["int", "bool", "str", "tuple", "list", "dict"] : List String).find? (fun T => decide (x = (Str.ofString T))) with
          | some T => if hT : x = Str.ofString T ∧ glB c.sc x = true ∧ x ∈ G.free ∧ plainName x = true ∧ bootBuiltins x = some (.type T) then some ⟨eIsi T ta.1, fun X fa C h => by
              obtain ⟨e, k⟩ := bi_ok hb
              subst e
              exact d_isi (k h).1 (k h).2 (gl_ok h hT.2.1) (h.mo.free x hT.2.2.1) hT.2.2.2.2 (pn_ok hT.2.2.2.1).2.2 (pn_ok hT.2.2.2.1).1 (ta.2 X fa C h) (star_ok hs.1) rfl rfl⟩ else none
          | none => none)
        | none => none)
      | _ => none)
    else if hb : bi G c f "max" = true then (p.A c [a, b]).map fun ta => ⟨eF fMax2 ta.1, fun X fa C h => by
          obtain ⟨e, k⟩ := bi_ok hb
          subst e
          exact d_callB (f_max2 h.calm) (k h).1 (k h).2 (by decide +kernel) (ta.2 X fa C h) (by decide) (by decide) (star_ok hs.1) (stars_ok (by simp [hs.2]))⟩
    else if hb : bi G c f "min" = true then (p.A c [a, b]).map fun ta => ⟨eF fMin2 ta.1, fun X fa C h => by
          obtain ⟨e, k⟩ := bi_ok hb
          subst e
          exact d_callB (f_min2 h.calm) (k h).1 (k h).2 (by decide +kernel) (ta.2 X fa C h) (by decide) (by decide) (star_ok hs.1) (stars_ok (by simp [hs.2]))⟩
    else if hb : decide ((f, "math.gcd") ∈ G.bfn) = true ∧ glB c.sc f = true ∧ plainName f = true then (p.A c [a, b]).map fun ta => ⟨eF fGcd ta.1, fun X fa C h =>
          d_callBfun f_gcd (gl_ok h hb.2.1) (h.mo.bfn _ (of_decide_eq_true hb.1)) (ta.2 X fa C h) (pn_ok hb.2.2).1 (star_ok hs.1) (stars_ok (by simp [hs.2]))⟩
    else none
  else none
/-- f(..), a def of the text -/
def stepOwn (f : Str) (pf : Pos) (a : Expr) (as : List Expr) (pos : Pos) : Option (CE G c (.Call (.Name f pf) (a :: as) [] pos)) :=
  if hg : glB c.sc f = true ∧ plainName f = true ∧ notStar a = true ∧ as.all notStar = true then
    match hf : G.fns.findIdx? (fun q => decide (q.1 = f)) with
    | some i => (match hq : G.fns[i]? with
      | some q => if hx : q.1 = f then (p.A c (a :: as)).map fun ta => ⟨eCall i ta.1, fun X fa C h => by
          obtain ⟨y, ps⟩ := q
          have hx : y = f := hx
          subst hx
          exact d_call h.xs h.mo hq (gl_ok h hg.1) (ta.2 X fa C h) (pn_ok hg.2.1).1 (star_ok hg.2.2.1) (stars_ok hg.2.2.2)⟩ else none
      | none => none)
    | none => none
  else none
def stepMeth (o : Expr) (m : Str) (apos : Pos) (as : List Expr) (pos : Pos) : Option (CE G c (.Call (.Attribute o m apos) as [] pos)) :=
  if hb : notCall o = true ∧ (apos.endLine == pos.line) = true ∧ as.all notStar = true ∧ as.length < 20 then
    match p.E c o with
    | some to => (match as with
      | [] => if hm : m = "pop" then some ⟨eM "list" mPop to.1 aNil, fun X fa C h => by
            subst hm
            exact d_meth0 PySem.F.plainAttrs_list PySem.F.slot_list_pop PySem.F.type_list_pop m_pop (to.2 X fa C h) (base_ok hb.1) hb.2.1⟩
          else if hm : m = "reverse" then some ⟨eM "list" mReverse to.1 aNil, fun X fa C h => by
            subst hm
            exact d_meth0 PySem.F.plainAttrs_list PySem.F.slot_list_reverse PySem.F.type_list_reverse m_reverse (to.2 X fa C h) (base_ok hb.1) hb.2.1⟩
          else if hm : m = "bit_length" then some ⟨eM "int" mBits to.1 aNil, fun X fa C h => by
            subst hm
            exact d_bits (to.2 X fa C h) (base_ok hb.1) hb.2.1⟩
          else none
      | a :: as => (match p.A c (a :: as) with
        | some ta => if hm : m = "append" then some ⟨eM "list" mAppend to.1 ta.1, fun X fa C h => by
            subst hm
            have hs : notStar a = true ∧ as.all notStar = true := by simpa using hb.2.2.1
            exact d_meth PySem.F.plainAttrs_list PySem.F.slot_list_append PySem.F.type_list_append m_append (to.2 X fa C h) (ta.2 X fa C h) (base_ok hb.1) (few_ok hb.2.2.1 hb.2.2.2) hb.2.1 (star_ok hs.1) (stars_ok hs.2)⟩
          else if hm : m = "extend" then some ⟨eM "list" mExtend to.1 ta.1, fun X fa C h => by
            subst hm
            have hs : notStar a = true ∧ as.all notStar = true := by simpa using hb.2.2.1
            exact d_meth PySem.F.plainAttrs_list PySem.F.slot_list_extend PySem.F.type_list_extend m_extend (to.2 X fa C h) (ta.2 X fa C h) (base_ok hb.1) (few_ok hb.2.2.1 hb.2.2.2) hb.2.1 (star_ok hs.1) (stars_ok hs.2)⟩
          else if hm : m = "pop" then some ⟨eM "list" mPop to.1 ta.1, fun X fa C h => by
            subst hm
            have hs : notStar a = true ∧ as.all notStar = true := by simpa using hb.2.2.1
            exact d_meth PySem.F.plainAttrs_list PySem.F.slot_list_pop PySem.F.type_list_pop m_pop (to.2 X fa C h) (ta.2 X fa C h) (base_ok hb.1) (few_ok hb.2.2.1 hb.2.2.2) hb.2.1 (star_ok hs.1) (stars_ok hs.2)⟩
          else none
        | none => none))
    | none => none
  else none
def stepE (e : Expr) : Option (CE G c e) := match e with
  | .Name x pos => stepName c x pos
  | .Constant (.int i) _ _ => some ⟨eK (.int i), fun X fa C h => d_int⟩
  | .Constant (.bool b) _ _ => some ⟨eK (.bl b), fun X fa C h => d_bl⟩
  | .Constant .none _ _ => some ⟨eK .non, fun X fa C h => d_non⟩
  | .Constant (.str s) _ _ => some ⟨eK (.str s), fun X fa C h => d_str⟩
  | .BinOp a op b pos => (match p.E c a, p.E c b, ho : binD op with
    | some ta, some tb, some o => some ⟨eBin o ta.1 tb.1, fun X fa C h => d_bin (binD_ok ho) (ta.2 X fa C h) (tb.2 X fa C h)⟩
    | _, _, _ => none)
  | .UnaryOp .USub a pos => (p.E c a).map fun ta => ⟨eUn opNeg ta.1, fun X fa C h => d_un o_neg (ta.2 X fa C h)⟩
  | .UnaryOp .Not a pos => (p.E c a).map fun ta => ⟨eNot ta.1, fun X fa C h => d_not (ta.2 X fa C h)⟩
  | .BoolOp op es pos => (p.V c op es).map fun ta => ⟨ta.1, fun X fa C h => ta.2 X fa C pos h⟩
  | .Compare a [op] [b] pos => if hm : notSet b = true then (match p.E c a, p.E c b, ho : cmpD op with
    | some ta, some tb, some o => some ⟨eBin o ta.1 tb.1, fun X fa C h => d_cmp (cmpD_ok h.mo.hu ho) (ta.2 X fa C h) (tb.2 X fa C h) (mark_ok hm)⟩
    | _, _, _ => none) else none
  | .Compare a [op, op'] [b, d] pos => if hm : notSet d = true then (match p.E c a, p.E c b, p.E c d, ho : cmpD op, ho' : cmpD op' with
    | some ta, some tb, some td, some o, some o' => some ⟨eChain o o' ta.1 tb.1 td.1, fun X fa C h => d_chain (cmpD_ok h.mo.hu ho) (cmpD_ok h.mo.hu ho') (ta.2 X fa C h) (tb.2 X fa C h) (td.2 X fa C h) (mark_ok (op := op') hm)⟩
    | _, _, _, _, _ => none) else none
  | .IfExp t a b pos => (match p.T c t, p.E c a, p.E c b with
    | some tt, some ta, some tb => some ⟨eIf tt.1 ta.1 tb.1, fun X fa C h => d_if (tt.2 X fa C h) (ta.2 X fa C h) (tb.2 X fa C h)⟩
    | _, _, _ => none)
  | .Tuple es _ pos => (p.A c es).map fun ta => ⟨eTup ta.1, fun X fa C h => d_tup (ta.2 X fa C h)⟩
  | .List es pos => (p.A c es).map fun ta => ⟨eLst ta.1, fun X fa C h => d_lst (ta.2 X fa C h)⟩
  | .Subscript a (.Slice lo hi none p2) pos => (match p.E c a, p.O c lo, p.O c hi with
    | some ta, some tl, some th => some ⟨eCut ta.1 tl.1 th.1, fun X fa C h => d_cut (ta.2 X fa C h) (tl.2 X fa C h) (th.2 X fa C h)⟩
    | _, _, _ => none)
  | .Subscript a b pos => if hb : notSlice b = true then (match p.E c a, p.E c b with
    | some ta, some tb => some ⟨eBin opIx ta.1 tb.1, fun X fa C h => (pe_ix (i_ix (by have := h.mo.hu; omega)) (ta.2 X fa C h) (tb.2 X fa C h) (ix_ok hb)).imp fun _ _ _ q => two q⟩
    | _, _ => none) else none
  | .Call (.Name f pf) [a] [] pos => (match stepOwn p c f pf a [] pos with
    | some t => some t
    | none => stepCall1 p c f pf a pos)
  | .Call (.Name f pf) [a, b] [] pos => (match stepOwn p c f pf a [b] pos with
    | some t => some t
    | none => stepCall2 p c f pf a b pos)
  | .Call (.Name f pf) (a :: as) [] pos => stepOwn p c f pf a as pos
  | .Call (.Attribute o m apos) as [] pos => stepMeth p c o m apos as pos
  | .ListComp elt gs scope pos => (p.L c (.ListComp elt gs scope pos)).map fun ta => ⟨eNew ta.1, fun X fa C h => d_new (ta.2 X fa C h)⟩
  | _ => none
def stepT (e : Expr) : Option (CT G c e) := match e with
  | .BoolOp op es pos => (p.W c op es).map fun ta => ⟨ta.1, fun X fa C h => (ta.2 X fa C pos h).pt⟩
  | .UnaryOp .Not a pos => (p.T c a).map fun ta => ⟨tNot ta.1, fun X fa C h => t_not (ta.2 X fa C h)⟩
  | .Compare a [op] [b] pos => if hm : notSet b = true then (match p.E c a, p.E c b, ho : cmpD op with
    | some ta, some tb, some o => some ⟨tOf (eBin o ta.1 tb.1), fun X fa C h => t_cmp (cmpD_ok h.mo.hu ho) (ta.2 X fa C h) (tb.2 X fa C h) (mark_ok hm)⟩
    | _, _, _ => none) else none
  | .Compare a [op, op'] [b, d] pos => if hm : notSet d = true then (match p.E c a, p.E c b, p.E c d, ho : cmpD op, ho' : cmpD op' with
    | some ta, some tb, some td, some o, some o' => some ⟨tOf (eChain o o' ta.1 tb.1 td.1), fun X fa C h => t_chain (cmpD_ok h.mo.hu ho) (cmpD_ok h.mo.hu ho') (ta.2 X fa C h) (tb.2 X fa C h) (td.2 X fa C h) (mark_ok (op := op') hm)⟩
    | _, _, _, _, _ => none) else none
  | e => if hv : byValue e = true then (p.E c e).map fun ta => ⟨tTru ta.1, fun X fa C h => t_tru (ta.2 X fa C h) (true_ok hv)⟩ else none
def stepW (op : BoolOp) (es : List Expr) : Option (CW G c op es) := match op, es with
  | .And, [a] => (p.T c a).map fun ta => ⟨ta.1, fun X fa C pos h => t_and1 (ta.2 X fa C h)⟩
  | .Or, [a] => (p.T c a).map fun ta => ⟨ta.1, fun X fa C pos h => t_or1 (ta.2 X fa C h)⟩
  | .And, a :: b :: es => (match p.T c a, p.W c .And (b :: es) with
    | some ta, some tb => some ⟨tAnd ta.1 tb.1, fun X fa C pos h => t_and (ta.2 X fa C h) (tb.2 X fa C pos h)⟩
    | _, _ => none)
  | .Or, a :: b :: es => (match p.T c a, p.W c .Or (b :: es) with
    | some ta, some tb => some ⟨tOr ta.1 tb.1, fun X fa C pos h => t_or (ta.2 X fa C h) (tb.2 X fa C pos h)⟩
    | _, _ => none)
  | _, _ => none
def stepV (op : BoolOp) (es : List Expr) : Option (CV G c op es) := match op, es with
  | op, [a] => (p.E c a).map fun ta => ⟨ta.1, fun X fa C pos h => d_one (ta.2 X fa C h)⟩
  | .And, a :: b :: es => (match p.E c a, p.V c .And (b :: es) with
    | some ta, some tb => some ⟨eAnd ta.1 tb.1, fun X fa C pos h => d_and (ta.2 X fa C h) (tb.2 X fa C pos h)⟩
    | _, _ => none)
  | .Or, a :: b :: es => (match p.E c a, p.V c .Or (b :: es) with
    | some ta, some tb => some ⟨eOr ta.1 tb.1, fun X fa C pos h => d_or (ta.2 X fa C h) (tb.2 X fa C pos h)⟩
    | _, _ => none)
  | _, _ => none
def stepA (es : List Expr) : Option (CA G c es) := match es with
  | [] => some ⟨aNil, fun X fa C h => a_nil⟩
  | e :: es => if hs : notStar e = true then (match p.E c e, p.A c es with
    | some te, some ta => some ⟨aCons te.1 ta.1, fun X fa C h => a_cons (te.2 X fa C h) (ta.2 X fa C h) (star_ok hs)⟩
    | _, _ => none) else none
def stepO (e : Option Expr) : Option (CO G c e) := match e with
  | none => some ⟨oNone, fun X fa C h => o_none⟩
  | some e => (p.E c e).map fun ta => ⟨oSome ta.1, fun X fa C h => o_some (ta.2 X fa C h)⟩
def stepTs (es : List Expr) : Option (CTs G c es) := match es with
  | [] => some ⟨tYesD, fun X fa C h => ts_nil⟩
  | [e] => (p.T c e).map fun ta => ⟨ta.1, fun X fa C h => ts_one (ta.2 X fa C h)⟩
  | _ => none
/-- the block's own names with their places -/
def ownOf (N : List Str) (scope : Scope) : List (Str × Nat) := scope.names.filterMap fun y => match y.2 with
  | .local => (N.findIdx? (fun z => decide (z = y.1))).map fun i => (y.1, i)
  | .cell => (N.findIdx? (fun z => decide (z = y.1))).map fun i => (y.1, i)
  | _ => none
def stepL (e : Expr) : Option (CL G c e) := match e with
  | .ListComp elt [⟨tg, iter, ifs, 0⟩] scope pos =>
    if hb : blkC c.N c.sc scope (ownOf c.N scope) = true ∧ notSet iter = true then
      (match p.I c tg iter, p.Gt (blkCp c scope) tg, stepTs p (blkCp c scope) ifs, p.E (blkCp c scope) elt with
      | some ti, some tg, some tt, some te => if hw : (tg.ws.all fun i => decide (i ∈ (ownOf c.N scope).map (·.2))) = true then
          some ⟨lcomp ti.1 tg.g tt.1 te.1 ((ownOf c.N scope).map (·.2)), fun X fa C h =>
            l_comp h.calm h.nd (ti.2 X fa C h) (blkOk_by (by rw [h.N, h.sc]; exact hb.1)) (fun i hi => of_decide_eq_true (List.all_eq_true.mp hw i hi)) (fun s H Ca cl fp => tg.ok _ fa _ (h.blk s H Ca cl fp)) (fun s H Ca cl fp => tt.2 _ fa _ (h.blk s H Ca cl fp))
              (fun s H Ca cl fp => te.2 _ fa _ (h.blk s H Ca cl fp)) (fold_ok hb.2)⟩ else none
      | _, _, _, _ => none)
    else none
  | _ => none
def stepI (tg e : Expr) : Option (CI G c tg e) := match e with
  | .Call (.Name f pf) [a] [] pos => if hb : bi G c f "range" = true ∧ notStar a = true then (p.E c a).map fun ta => ⟨iRng1 ta.1, fun X fa C h => by
        obtain ⟨e, k⟩ := bi_ok hb.1
        subst e
        exact i_rng1 (k h).1 (k h).2 (ta.2 X fa C h) (star_ok hb.2)⟩
      else (p.E c (.Call (.Name f pf) [a] [] pos)).map fun ta => ⟨iSeq ta.1, fun X fa C h => i_seq (ta.2 X fa C h)⟩
  | .Call (.Name f pf) [a, b] [] pos => if hb : bi G c f "range" = true ∧ notStar a = true ∧ notStar b = true then (match p.E c a, p.E c b with
      | some ta, some tb => some ⟨iRng2 ta.1 tb.1, fun X fa C h => by
        obtain ⟨e, k⟩ := bi_ok hb.1
        subst e
        exact i_rng2 (k h).1 (k h).2 (ta.2 X fa C h) (tb.2 X fa C h) (by rw [star_ok hb.2.1, star_ok hb.2.2]; rfl) (star_ok hb.2.2)⟩
      | _, _ => none)
      else (p.E c (.Call (.Name f pf) [a, b] [] pos)).map fun ta => ⟨iSeq ta.1, fun X fa C h => i_seq (ta.2 X fa C h)⟩
  | .Call (.Name f pf) [a, b, d] [] pos => if hb : bi G c f "range" = true ∧ notStar a = true ∧ notStar b = true ∧ notStar d = true then (match p.E c a, p.E c b, p.E c d with
      | some ta, some tb, some td => some ⟨iRng3 ta.1 tb.1 td.1, fun X fa C h => by
        obtain ⟨e, k⟩ := bi_ok hb.1
        subst e
        exact i_rng3 (k h).1 (k h).2 (ta.2 X fa C h) (tb.2 X fa C h) (td.2 X fa C h) (star_ok hb.2.1) (star_ok hb.2.2.1) (star_ok hb.2.2.2) (stars_ok (by simp [hb.2.2]))⟩
      | _, _, _ => none)
      else (p.E c (.Call (.Name f pf) [a, b, d] [] pos)).map fun ta => ⟨iSeq ta.1, fun X fa C h => i_seq (ta.2 X fa C h)⟩
  | e => (p.E c e).map fun ta => ⟨iSeq ta.1, fun X fa C h => i_seq (ta.2 X fa C h)⟩
def stepG (e : Expr) : Option (CG G c e) := match e with
  | .Name x pos => if hl : locB c x = true then
      match hi : c.N.findIdx? (fun y => decide (y = x)) with
      | some i => if hN : c.N[i]? = some x then some ⟨gName i, [i], fun X fa C h => g_name h.nd (by rw [h.N]; exact hN) (loc_ok h hl).1 (loc_ok h hl).2⟩ else none
      | none => none
      else none
  | .Tuple es k pos => if hs : es.all notStar = true then (p.Gs c es).map fun gs => ⟨gTup es.length gs.g, gs.ws, fun X fa C h => g_tup h.calm (gs.ok X fa C h) (asg_len hs) (asg_idx hs)⟩ else none
  | .Subscript o i pos => if hb : notSlice i = true then (match p.E c o, p.E c i with
    | some to, some ti => some ⟨gSub to.1 ti.1, [], fun X fa C h => g_sub (by have := h.mo.hu; omega) (to.2 X fa C h) (ti.2 X fa C h) (fun v => asg_sub hb v)⟩
    | _, _ => none) else none
  | _ => none
where
  asg_len {env : PySem.Env} : ∀ {es : List Expr}, es.all notStar = true → (assignEach es env).length = es.length
    | [], _ => rfl
    | e :: es, h => by
      rw [List.all_cons, Bool.and_eq_true] at h
      have : assignEach (e :: es) env = (false, assign e env) :: assignEach es env := by
        obtain ⟨h1, _⟩ := h
        cases e <;> first | rfl | cases h1
      rw [this]
      exact congrArg (· + 1) (asg_len h.2)
  asg_idx {env : PySem.Env} : ∀ {es : List Expr}, es.all notStar = true → (assignEach es env).findIdx? (·.1) = none
    | [], _ => rfl
    | e :: es, h => by
      rw [List.all_cons, Bool.and_eq_true] at h
      have : assignEach (e :: es) env = (false, assign e env) :: assignEach es env := by
        obtain ⟨h1, _⟩ := h
        cases e <;> first | rfl | cases h1
      rw [this, List.findIdx?_cons, asg_idx h.2]
      rfl
  asg_sub {o i : Expr} {pos : Pos} {env : PySem.Env} (h : notSlice i = true) (v : Value) : assign (.Subscript o i pos) env v = (do
      let ov ← holding [v] (eval o env)
      let iv ← holding [v, ov] (eval i env)
      standAt pos
      holding [v, ov, iv] (setItem ov iv v)
      release [v, ov, iv] []) := by
    cases i <;> first | rfl | cases h
def stepGs (es : List Expr) : Option (CGs G c es) := match es with
  | [] => some ⟨gNil, [], fun X fa C h => gs_nil⟩
  | e :: es => if hs : notStar e = true then (match p.Gt c e, p.Gs c es with
    | some g, some gs => some ⟨gCons g.g gs.g, g.ws ++ gs.ws, fun X fa C h => gs_cons (g.ok X fa C h) (gs.ok X fa C h) (by cases e <;> first | rfl | cases hs)⟩
    | _, _ => none) else none
end
end DL
/-! The data layer, part 9: statements, compiled. -/
namespace DL
open PySem PySem.Spec PyProof.Rows L2

/-! ### x op= e -/
def iaAdd : DOp := fun d e M P => match d, e with
  | .int i, .int j => P (.int (i + j)) M
  | .str a, .str b => a.length + b.length ≤ sizeLine ∧ P (.str (a ++ b)) M
  | .ref m, .ref n => (match M[m]?, M[n]? with
    | some (.lst xs), some (.lst ys) => xs.length + ys.length ≤ sizeLine ∧ P (.ref m) (M.set m (.lst (xs ++ ys)))
    | _, _ => False)
  | _, _ => False
def iaMul : DOp := fun d e M P => match d, e with
  | .int i, .int j => IntMulOk i j ∧ P (.int (i * j)) M
  | _, _ => False
section
variable {X : Cx} {fa : Org}
theorem io_add : OpR X (inplaceOp .Add) (LO X.K fa iaAdd) := ((iop_add.or iop_add_str).or iop_ext).imp fun x y H Q ⟨M, α, d, e, P, st, rx, ry, h, an⟩ => by
  unfold iaAdd at h
  split at h
  · cases rx; cases ry; exact .inl (.inl ⟨_, _, rfl, rfl, an.here st (.int _) h⟩)
  · cases rx; cases ry; exact .inl (.inr ⟨_, _, rfl, rfl, h.1, an.here st (.str _) h.2⟩)
  · cases rx with
    | @ref m a ea =>
      cases ry with
      | @ref n b eb =>
        split at h
        · rename_i xs ys q1 q2
          obtain ⟨vs, hv, l, r⟩ := cell_l st ea q1
          obtain ⟨ws, hw, l2, r2⟩ := cell_l st eb q2
          have hl : vs.length + ws.length ≤ sizeLine := by rw [r.length, r2.length]; exact h.1
          exact .inr ⟨a, b, vs, ws, rfl, rfl, hv, hw, hl, an.wr st ea hv (by rw [List.length_append]; exact hl) (r.append r2) (.ref ea) h.2⟩
        · exact h.elim
  · exact h.elim
theorem io_sub : OpR X (inplaceOp .Sub) (LO X.K fa opSub) := iop_sub.imp fun x y H Q ⟨M, α, d, e, P, st, rx, ry, h, an⟩ => by
  unfold opSub at h
  split at h
  · cases rx; cases ry; exact ⟨_, _, rfl, rfl, an.here st (.int _) h⟩
  · exact h.elim
theorem iop_mulG : OpR X (inplaceOp .Mult) (rI IntMulOk fun i j => .int (i * j)) := opI fun _ _ _ _ _ _ _ hc q => imul_int q hc
theorem io_mul : OpR X (inplaceOp .Mult) (LO X.K fa iaMul) := iop_mulG.imp fun x y H Q ⟨M, α, d, e, P, st, rx, ry, h, an⟩ => by
  unfold iaMul at h
  split at h
  · cases rx; cases ry; exact ⟨_, _, rfl, rfl, h.1, an.here st (.int _) h.2⟩
  · exact h.elim
theorem io_div : OpR X (inplaceOp .FloorDiv) (LO X.K fa opDiv) := iop_fdivW.imp fun x y H Q ⟨M, α, d, e, P, st, rx, ry, h, an⟩ => by
  unfold opDiv at h
  split at h
  · cases rx; cases ry; exact ⟨_, _, rfl, rfl, h.1, an.here st (.int _) h.2⟩
  · exact h.elim
theorem io_mod : OpR X (inplaceOp .Mod) (LO X.K fa opMod) := iop_mod.imp fun x y H Q ⟨M, α, d, e, P, st, rx, ry, h, an⟩ => by
  unfold opMod at h
  split at h
  · cases rx; cases ry; exact ⟨_, _, rfl, rfl, h.1, an.here st (.int _) h.2⟩
  · exact h.elim
theorem io_shr : OpR X (inplaceOp .RShift) (LO X.K fa opShr) := iop_shr.imp fun x y H Q ⟨M, α, d, e, P, st, rx, ry, h, an⟩ => by
  unfold opShr at h
  split at h
  · cases rx; cases ry; exact ⟨_, _, rfl, rfl, h.1, an.here st (.int _) h.2⟩
  · exact h.elim
theorem io_shl : OpR X (inplaceOp .LShift) (LO X.K fa opShl) := iop_shl.imp fun x y H Q ⟨M, α, d, e, P, st, rx, ry, h, an⟩ => by
  unfold opShl at h
  split at h
  · cases rx; cases ry; exact ⟨_, _, rfl, rfl, h.1, an.here st (.int _) h.2⟩
  · exact h.elim
theorem io_and : OpR X (inplaceOp .BitAnd) (LO X.K fa opAnd) := iop_and.imp fun x y H Q ⟨M, α, d, e, P, st, rx, ry, h, an⟩ => by
  unfold opAnd at h
  split at h
  · cases rx; cases ry; exact ⟨_, _, rfl, rfl, an.here st (.int _) h⟩
  · exact h.elim
theorem io_or : OpR X (inplaceOp .BitOr) (LO X.K fa opOr) := iop_or.imp fun x y H Q ⟨M, α, d, e, P, st, rx, ry, h, an⟩ => by
  unfold opOr at h
  split at h
  · cases rx; cases ry; exact ⟨_, _, rfl, rfl, an.here st (.int _) h⟩
  · exact h.elim
theorem io_xor : OpR X (inplaceOp .BitXor) (LO X.K fa opXor) := iop_xor.imp fun x y H Q ⟨M, α, d, e, P, st, rx, ry, h, an⟩ => by
  unfold opXor at h
  split at h
  · cases rx; cases ry; exact ⟨_, _, rfl, rfl, an.here st (.int _) h⟩
  · exact h.elim
end
def augD : Operator → Option DOp
  | .Add => some iaAdd
  | .Sub => some opSub
  | .Mult => some iaMul
  | .FloorDiv => some opDiv
  | .Mod => some opMod
  | .LShift => some opShl
  | .RShift => some opShr
  | .BitAnd => some opAnd
  | .BitOr => some opOr
  | .BitXor => some opXor
  | _ => none
theorem augD_ok {X : Cx} {fa : Org} {op : Operator} {o : DOp} (h : augD op = some o) : OpR X (inplaceOp op) (LO X.K fa o) := by
  cases op <;> first | (cases h; done) | skip
  all_goals
    cases h
    first | exact io_add | exact io_sub | exact io_mul | exact io_div | exact io_mod | exact io_shl | exact io_shr | exact io_and | exact io_or | exact io_xor

/-! ### o[i] op= e, o a list -/
def opGetL : D → D → Mem → Po → Prop := fun x y M P => match x, y with
  | .ref n, .int i => (match M[n]? with
    | some (.lst xs) => (match atI xs i with
      | some d => P d M
      | none => False)
    | _ => False)
  | _, _ => False
def sAugS (o i : DE) (e : DE) (op : DOp) : DS := fun C E ρ M => o C ρ M fun x M1 => i C ρ M1 fun y M2 => opGetL x y M2 fun z M3 => e C ρ M3 fun w M4 => op z w M4 fun u M5 => opSet x y u M5 fun M6 => E.nx ρ M6
section
variable {X : Cx} {fa : Org} {C : Ctx}
theorem get_list : PGet X (LO X.K fa opGetL) := by
  intro pins s σ H x y v u Q I rx ry ⟨M, α, d, e, P, st, rd, re, h, an⟩
  unfold opGetL at h
  split at h
  · rename_i n i
    split at h
    · rename_i xs hM
      split at h
      · rename_i z hz
        cases rd with
        | @ref _ a ea =>
          cases re
          cases rx
          obtain ⟨t, rfl⟩ := ry
          obtain ⟨vs, hv, l, r⟩ := cell_l st ea hM
          obtain ⟨j, h1, h2, h3, h4, h5⟩ := atI_get hz
          obtain ⟨z', hz', rz⟩ := r.get h2
          obtain ⟨its, ri, pl, hzz⟩ := I.list (show SqL X.K H a vs from .inl (.inl hv))
          obtain ⟨w, ew, rw'⟩ := ri.get hz'
          have hl := ri.length
          have hl2 := r.length
          have hn := line63
          have fin : EP X pins σ Q w s := ⟨z', H, I, rw', an.here st rz h⟩
          by_cases h0 : 0 ≤ i
          · have hj : i.toNat = j := by
              rw [seqIndex_of h0 h5] at h1
              exact Option.some.inj h1
            exact wpAny_getItem_list pl.isList h0 (by omega) (by rw [hj]; simpa using ew) fin
          · have hj : (i + (its.toArray.size : Int)).toNat = j := by
              rw [seqIndex_neg (by omega) h4] at h1
              rw [List.size_toArray, ← hl, hl2]
              exact Option.some.inj h1
            exact wpAny_getItem_list_neg pl.isList (by omega) (by rw [List.size_toArray] <;> omega) (by omega) (by rw [hj]; simpa using ew) fin
      · exact h.elim
    · exact h.elim
  · exact h.elim
theorem s_augS {o i e : Expr} {to ti te : DE} {op : Operator} {d : DOp} {tpos pos : Pos} (hu : X.A.units + 1 < cLine) (ho : PE X o (LE X.K fa C to)) (hi : PE X i (LE X.K fa C ti)) (he : PE X e (LE X.K fa C te)) (hp : OpR X (inplaceOp op) (LO X.K fa d))
    (ha : ∀ ov iv new, augStore i ov iv new = (do holding [new, ov, iv] (setItem ov iv new); release [new, ov, iv] []; pure .next)) : PS X (.AugAssign (.Subscript o i tpos) op e pos) (LS X.K fa C (sAugS to ti te d)) :=
  (ps_augS ho hi (get_list (fa := fa)) he hp (p_set (fa := fa) hu) ha).imp fun D σ H ⟨ρ, M, α, E, er, sr, h, en⟩ =>
    ⟨ρ, M, α, _, er, sr, h, fun x dx H1 α1 M1 e1 s1 r1 p1 => ⟨ρ, M1, α1, _, er.mono e1, s1, p1, fun y dy H2 α2 M2 e2 s2 r2 p2 =>
      ⟨M2, α2, dx, dy, _, s2, r1.mono e2, r2, p2, fun z dz H3 α3 M3 e3 s3 r3 p3 => ⟨ρ, M3, α3, _, er.mono ((e1.trans e2).trans e3), s3, p3, fun w dw H4 α4 M4 e4 s4 r4 p4 =>
        ⟨M4, α4, dz, dw, _, s4, r3.mono e4, r4, p4, fun u du H5 α5 M5 e5 s5 r5 p5 => ⟨M5, α5, dx, dy, du, _, s5, r1.mono (((e2.trans e3).trans e4).trans e5), r2.mono ((e3.trans e4).trans e5), r5, p5, fun H6 M6 e6 s6 p6 =>
          en.nx σ ρ H6 α5 M6 (((((e1.trans e2).trans e3).trans e4).trans e5).trans e6) (er.mono (((((e1.trans e2).trans e3).trans e4).trans e5).trans e6)) s6 p6⟩⟩⟩⟩⟩⟩
end

/-! ### side conditions of stores -/
theorem sw_false {elt : Expr} {gs : List Comprehension} {scope : Scope} {pos py : Pos} {y : Str} {l : Nat} {env : PySem.Env} (hy : (env.scope.names.lookup y == some .local) = false) : swapsWith (.ListComp elt gs scope pos) (some (.Name y py)) l env = pure false := by
  have ky : (env.kindOf y == some .local) = false := hy
  unfold swapsWith
  simp only [ky, Bool.and_false, Bool.false_and]
def isTup : Expr → Bool
  | .Tuple .. => true
  | _ => false
def isName : Expr → Bool
  | .Name .. => true
  | _ => false
theorem stores_none {tg e : Expr} {env : PySem.Env} (h : isTup e = false) : swappedStores [tg] e env = pure none := by
  cases e <;> first | cases h | skip
  all_goals
    cases tg <;> rfl
theorem stores_none2 {tg e : Expr} {env : PySem.Env} (h : isTup tg = false ∧ (match tg with | .List .. => true | _ => false) = false) : swappedStores [tg] e env = pure none := by
  cases tg <;> first | (cases h.1; done) | (cases h.2; done) | (cases e <;> rfl)
/-- the names among the targets that may be swapped -/
def swNames (sc : Scope) (line : Nat) (ts : List Expr) : List Str := ts.filterMap fun
  | .Name id pos => if sc.names.lookup id == some .local && pos.line == line then some id else none
  | _ => none
def swSafe (sc : Scope) (ts vs : List Expr) : Bool := vs.length != ts.length || !(ts.length == 2 || ts.length == 3) || (vs.all notStar && (swNames sc ((ts.head?.map (·.pos.line)).getD 0) ts).length != ts.length)
theorem any_star {vs : List Expr} (h : vs.all notStar = true) : (vs.any fun | .Starred .. => true | _ => false) = false := by
  induction vs with
  | nil => rfl
  | cons v vs ih =>
    rw [List.all_cons, Bool.and_eq_true] at h
    rw [List.any_cons, ih h.2]
    have := h.1
    cases v <;> first | rfl | cases this
theorem stores_none3 {ts vs : List Expr} {k k2} {pt pt2 : Pos} {env : PySem.Env} (h : swSafe env.scope ts vs = true) : swappedStores [.Tuple ts k pt] (.Tuple vs k2 pt2) env = pure none := by
  unfold swappedStores
  simp only [pure_bind]
  by_cases h1 : (!(ts.length == 2 || ts.length == 3) || vs.length != ts.length || env.blockKind != .function) = true
  · exact if_pos h1
  · rw [if_neg h1]
    have h1 : (!(ts.length == 2 || ts.length == 3)) = false ∧ (vs.length != ts.length) = false := by
      simp only [Bool.or_eq_true, not_or, Bool.not_eq_true] at h1
      exact h1.1
    unfold swSafe at h
    rw [h1.2, h1.1, Bool.false_or, Bool.false_or, Bool.and_eq_true] at h
    refine (if_neg ?_).trans ?_
    · exact fun z => Bool.false_ne_true ((any_star h.1).symm.trans z)
    have h2 : ((swNames env.scope ((ts.head?.map (·.pos.line)).getD 0) ts).length != ts.length) = true := h.2
    have h3 : ∀ b : Bool, ((swNames env.scope ((ts.head?.map (·.pos.line)).getD 0) ts).length != ts.length || b) = true := fun b => by rw [h2]; rfl
    exact if_pos (h3 _)
theorem stores_two {x y : Str} {px py pt pt2 : Pos} {a b : Expr} {k k2} {env : PySem.Env} (hk : env.scope.kind = .function) (hx : env.scope.names.lookup x = some .local) (hy : env.scope.names.lookup y = some .local) (hl : (py.line == px.line) = true) (hne : (y == x) = false)
    (ha : notStar a = true ∧ notStar b = true) (h1 : [a, b].all (foldedForSure 8) = false) (h2 : [a, b].all (constantsAlone 8) = false) : swappedStores [.Tuple [.Name x px, .Name y py] k pt] (.Tuple [a, b] k2 pt2) env = pure (some [x, y]) := by
  have kx : env.kindOf x = some .local := hx
  have ky : env.kindOf y = some .local := hy
  have hb : env.blockKind = .function := by unfold Env.blockKind; rw [hk]; rfl
  have hl2 : (py.line == (Expr.Name x px).pos.line) = true := hl
  have hl3 : (px.line == (Expr.Name x px).pos.line) = true := by show (px.line == px.line) = true; exact beq_self_eq_true _
  have ed : [x, y].eraseDups = [x, y] := by simp [List.eraseDups_cons, hne]
  unfold swappedStores
  simp only [pure_bind]
  rw [if_neg (by rw [hb]; exact Bool.false_ne_true)]
  refine (if_neg ?_).trans ?_
  · exact fun z => Bool.false_ne_true ((any_star (vs := [a, b]) (by simp [ha.1, ha.2])).symm.trans z)
  simp only [List.filterMap_cons, List.filterMap_nil, kx, ky, List.head?_cons, Option.map_some, Option.getD_some, hl2, hl3, beq_self_eq_true, Bool.true_and, if_true, ed]
  rw [if_neg (by exact Bool.false_ne_true), if_neg (by rw [h1]; exact Bool.false_ne_true), if_neg (by rw [h2]; exact Bool.false_ne_true)]

/-! ### the steps -/
section
variable {G : Glb} (p : Comp G) (c : Cp)
def stepSetLc (y : Str) (py : Pos) (elt tg iter : Expr) (ifs : List Expr) (scope : Scope) (pos spos : Pos) : Option (CS G c (.Assign [.Name y py] (.ListComp elt [⟨tg, iter, ifs, 0⟩] scope pos) spos)) :=
  if hb : c.sc.kind = .function ∧ c.sc.names.lookup y = some .local ∧ (py.line == pos.line) = true ∧ (scope.names.any fun (n, k) => n == y && (k == .local || k == .cell)) = false ∧ blkC c.N c.sc scope (ownOf c.N scope) = true ∧ notSet iter = true then
    (match hi : c.N.findIdx? (fun z => decide (z = y)) with
    | some i => if hN : c.N[i]? = some y then
        (match p.I c tg iter, p.Gt (blkCp c scope) tg, stepTs p (blkCp c scope) ifs, p.E (blkCp c scope) elt with
        | some ti, some tg, some tt, some te => if hw : (tg.ws.all fun i => decide (i ∈ (ownOf c.N scope).map (·.2))) = true then
            some ⟨sAsg (eNew (lcomp ti.1 tg.g tt.1 te.1 ((ownOf c.N scope).map (·.2)))) (gName i), fun X fa C h =>
              s_setLc h.calm h.nd (by rw [h.N]; exact hN) (by rw [h.sc]; exact hb.2.1) (sw_true (by rw [h.sc]; exact hb.1) (by rw [h.sc]; exact hb.2.1) hb.2.2.1 hb.2.2.2.1) (ti.2 X fa C h.toHy) (blkOk_by (by rw [h.N, h.sc]; exact hb.2.2.2.2.1)) (fun i hi => of_decide_eq_true (List.all_eq_true.mp hw i hi))
                (fun s H Ca cl fp => tg.ok _ fa _ (h.toHy.blk s H Ca cl fp)) (fun s H Ca cl fp => tt.2 _ fa _ (h.toHy.blk s H Ca cl fp)) (fun s H Ca cl fp => te.2 _ fa _ (h.toHy.blk s H Ca cl fp)) (fold_ok hb.2.2.2.2.2)⟩ else none
        | _, _, _, _ => none) else none
    | none => none)
  else none
def stepSetLf (y : Str) (py : Pos) (elt : Expr) (gs : List Comprehension) (scope : Scope) (pos spos : Pos) : Option (CS G c (.Assign [.Name y py] (.ListComp elt gs scope pos) spos)) :=
  if hb : (c.sc.names.lookup y == some .local) = false ∧ locB c y = true then
    (match hi : c.N.findIdx? (fun z => decide (z = y)) with
    | some i => if hN : c.N[i]? = some y then
        (match p.L c (.ListComp elt gs scope pos) with
        | some tl => some ⟨sAsg (eNew tl.1) (gName i), fun X fa C h => s_set h.nd (by rw [h.N]; exact hN) (loc_ok h.toHy hb.2).1 (d_new (tl.2 X fa C h.toHy)) (sw_false (by rw [h.sc]; exact hb.1)) (loc_ok h.toHy hb.2).2⟩
        | none => none) else none
    | none => none)
  else none
def stepPar (x y : Str) (px py pt pt2 pos : Pos) (a b : Expr) (k k2) : Option (CS G c (.Assign [.Tuple [.Name x px, .Name y py] k pt] (.Tuple [a, b] k2 pt2) pos)) :=
  if hb : c.sc.kind = .function ∧ c.sc.names.lookup x = some .local ∧ c.sc.names.lookup y = some .local ∧ (py.line == px.line) = true ∧ (y == x) = false ∧ (notStar a = true ∧ notStar b = true) ∧ [a, b].all (foldedForSure 8) = false ∧ [a, b].all (constantsAlone 8) = false then
    (match hi : c.N.findIdx? (fun z => decide (z = x)), hj : c.N.findIdx? (fun z => decide (z = y)) with
    | some i, some j => if hN : c.N[i]? = some x ∧ c.N[j]? = some y ∧ i ≠ j then
        (match p.A c [a, b] with
        | some ta => some ⟨sPar i j ta.1, fun X fa C h => s_par h.calm h.nd (by rw [h.N]; exact hN.1) (by rw [h.N]; exact hN.2.1) hN.2.2 (by rw [h.sc]; exact hb.2.1) (by rw [h.sc]; exact hb.2.2.1) (ta.2 X fa C h.toHy)
            (stores_two (by rw [h.sc]; exact hb.1) (by rw [h.sc]; exact hb.2.1) (by rw [h.sc]; exact hb.2.2.1) hb.2.2.2.1 hb.2.2.2.2.1 hb.2.2.2.2.2.1 hb.2.2.2.2.2.2.1 hb.2.2.2.2.2.2.2) rfl⟩
        | none => none) else none
    | _, _ => none)
  else none
def notStarLike : Expr → Bool
  | .Starred .. => false
  | .List .. => false
  | _ => true
theorem asg_one {tg : Expr} {env : PySem.Env} (h : notStar tg = true) : (assignEach [tg] env).map (·.2) = [assign tg env] := by
  cases tg <;> first | rfl | cases h
/-- a store by its target -/
def stepAsg (tg e : Expr) (pos : Pos) : Option (CS G c (.Assign [tg] e pos)) :=
  if hb : notComp e = true ∧ notStarLike tg = true then
    if hq : isTup e = false ∨ isTup tg = false then
      (match p.E c e, p.Gt c tg with
      | some te, some g => some ⟨sAsg te.1 g.g, fun X fa C h => s_asg (te.2 X fa C h.toHy) (g.ok X fa C h.toHy) (sole_ok hb.1) (hq.elim stores_none fun q => stores_none2 ⟨q, by revert hb; cases tg <;> intro hb <;> first | rfl | cases hb.2⟩)
          (asg_one (by revert hb; cases tg <;> intro hb <;> first | rfl | cases hb.2))⟩
      | _, _ => none)
    else (match tg, e with
      | .Tuple ts k pt, .Tuple vs k2 pt2 => if hs : swSafe c.sc ts vs = true then
          (match p.E c (.Tuple vs k2 pt2), p.Gt c (.Tuple ts k pt) with
          | some te, some g => some ⟨sAsg te.1 g.g, fun X fa C h => s_asg (te.2 X fa C h.toHy) (g.ok X fa C h.toHy) (sole_ok rfl) (stores_none3 (by rw [h.sc]; exact hs)) (asg_one rfl)⟩
          | _, _ => none) else none
      | _, _ => none)
  else none
theorem aug_store {i : Expr} (h : notSlice i = true) (ov iv new : Value) : augStore i ov iv new = (do holding [new, ov, iv] (setItem ov iv new); release [new, ov, iv] []; pure .next) := by
  cases i <;> first | rfl | cases h
def stepS (s : Stmt) : Option (CS G c s) := match s with
  | .Pass pos => some ⟨sNext, fun X fa C h => s_pass⟩
  | .Break pos => some ⟨sBreak, fun X fa C h => s_break⟩
  | .Continue pos => some ⟨sCont, fun X fa C h => s_cont⟩
  | .Expr (.Constant (.str x) j pos) pos' => some ⟨sNext, fun X fa C h => s_doc⟩
  | .Expr e pos => if hn : notComp e = true then (p.E c e).map fun te => ⟨sDrop te.1, fun X fa C h => s_drop (te.2 X fa C h.toHy) (swap_ok hn)⟩ else none
  | .Return (some e) pos => (p.E c e).map fun te => ⟨sRet te.1, fun X fa C h => s_ret (te.2 X fa C h.toHy)⟩
  | .Return none pos => some ⟨sRetN, fun X fa C h => s_retN⟩
  | .If t a b pos => (match p.T c t, p.Ss c a, p.Ss c b with
    | some tt, some ta, some tb => some ⟨sIf tt.1 ta.1 tb.1, fun X fa C h => s_if (tt.2 X fa C h.toHy) (ta.2 X fa C h) (tb.2 X fa C h)⟩
    | _, _, _ => none)
  | .While t a [] pos => (match p.T c t, p.Ss c a with
    | some tt, some ta => some ⟨sWhile tt.1 ta.1, fun X fa C h => s_while h.pa (tt.2 X fa C h.toHy) (ta.2 X fa C h)⟩
    | _, _ => none)
  | .For tg it a [] pos => if hs : notSet it = true then (match p.I c tg it, p.Gt c tg, p.Ss c a with
    | some ti, some g, some ta => some ⟨sFor ti.1 g.g ta.1, fun X fa C h => s_for h.pa h.calm (ti.2 X fa C h.toHy) (g.ok X fa C h.toHy) (ta.2 X fa C h) (fold_ok hs)⟩
    | _, _, _ => none) else none
  | .Assign [.Name y py] (.ListComp elt [⟨tg, iter, ifs, 0⟩] scope pos) spos => (match stepSetLc p c y py elt tg iter ifs scope pos spos with
    | some t => some t
    | none => stepSetLf p c y py elt [⟨tg, iter, ifs, 0⟩] scope pos spos)
  | .Assign [.Tuple [.Name x px, .Name y py] k pt] (.Tuple [a, b] k2 pt2) pos => (match stepPar p c x y px py pt pt2 pos a b k k2 with
    | some t => some t
    | none => stepAsg p c (.Tuple [.Name x px, .Name y py] k pt) (.Tuple [a, b] k2 pt2) pos)
  | .Assign [tg] e pos => stepAsg p c tg e pos
  | .AugAssign (.Name y py) op e pos => if hl : locB c y = true then (match hi : c.N.findIdx? (fun z => decide (z = y)) with
    | some i => if hN : c.N[i]? = some y then (match p.E c e, ho : augD op with
      | some te, some o => some ⟨sAug i te.1 o, fun X fa C h => s_aug h.nd (by rw [h.N]; exact hN) (loc_ok h.toHy hl).1 (te.2 X fa C h.toHy) (augD_ok ho) (loc_ok h.toHy hl).2⟩
      | _, _ => none) else none
    | none => none) else none
  | .AugAssign (.Subscript o i tpos) op e pos => if hs : notSlice i = true then (match p.E c o, p.E c i, p.E c e, ho : augD op with
    | some to, some ti, some te, some d => some ⟨sAugS to.1 ti.1 te.1 d, fun X fa C h => s_augS (by have := h.mo.hu; omega) (to.2 X fa C h.toHy) (ti.2 X fa C h.toHy) (te.2 X fa C h.toHy) (augD_ok ho) (aug_store hs)⟩
    | _, _, _, _ => none) else none
  | _ => none
/-- what is not covered never runs -/
def stepSs (ss : List Stmt) : Option (CSs G c ss) := match ss with
  | [] => some ⟨sNext, fun X fa C h => s_nil⟩
  | [s] => (match p.S c s with
    | some t => some ⟨t.1, fun X fa C h => s_one (t.2 X fa C h)⟩
    | none => some ⟨sNever, fun X fa C h => s_one s_never⟩)
  | s :: ss => (match p.S c s, p.Ss c ss with
    | some t, some u => some ⟨sSeq t.1 u.1, fun X fa C h => s_cons (t.2 X fa C h) (u.2 X fa C h)⟩
    | none, some u => some ⟨sSeq sNever u.1, fun X fa C h => s_cons s_never (u.2 X fa C h)⟩
    | _, none => none)
end
end DL
/-! The data layer: zip and enumerate over lists and tuples alike, whatever the target. -/
namespace DL
open PySem PySem.Spec PyProof.Rows L2
open Sem (wp)

/-! ### an iterator of a list (false), of a tuple (true) -/
def ItAt (t : Bool) (h : Heap) (i l : Addr) (k : Nat) : Prop := if t = true then h.IsTupleIter i l k else h.IsListIter i l k
def SqAt (t : Bool) (h : Heap) (l : Addr) (xs : Array Value) : Prop := if t = true then h.IsTuple l xs else h.IsList l xs
section
variable {prog : Program} {w : World} {A : Around} {E : Value → Shared → Prop} {s : Shared} {h h' : Heap} {t : Bool} {i l a : Addr} {k : Nat} {xs : Array Value} {x : Value}
theorem ItAt.at (p : ItAt t h i l k) (e : ∀ o, h.get? i = some o → h'.get? i = some o) : ItAt t h' i l k := by
  cases t with
  | false => exact Heap.IsListIter.at p e
  | true => exact Heap.IsTupleIter.at p e
theorem SqAt.at (p : SqAt t h l xs) (e : ∀ o, h.get? l = some o → h'.get? l = some o) : SqAt t h' l xs := by
  cases t with
  | false => obtain ⟨o, q, r⟩ := (show h.IsList l xs from p); exact ⟨o, e o q, r⟩
  | true => obtain ⟨o, q, r⟩ := (show h.IsTuple l xs from p); exact ⟨o, e o q, r⟩
theorem ItAt.there (p : ItAt t h i l k) : ∃ o, h.get? i = some o ∧ ∀ v, o.data ≠ .cell v := by
  cases t with
  | false => obtain ⟨o, q, _, d⟩ := (show h.IsListIter i l k from p); exact ⟨o, q, fun v z => by rw [d] at z; cases z⟩
  | true => obtain ⟨o, q, _, d⟩ := (show h.IsTupleIter i l k from p); exact ⟨o, q, fun v z => by rw [d] at z; cases z⟩
theorem draw_item {Q : Value → Shared → Prop} (p : ItAt t s.heap i l k) (q : SqAt t s.heap l xs) (hx : xs[k]? = some x) (go : ∀ h', ItAt t h' i l (k + 1) → Heap.ExtBut i s.heap h' → h'.objs.size = s.heap.objs.size → Q x { s with heap := h' }) :
    wpAny (model prog w) A (Builtin.SmallTypes.nextOf (.ref i)) Q E s := by
  cases t with
  | false => exact wpAny_nextOf_list_item (show s.heap.IsListIter i l k from p) q hx fun h' a b => go h' a b.extBut b.1
  | true => exact RZ.nextOf_tuple_item (show s.heap.IsTupleIter i l k from p) q hx fun h' a b => go h' a b.extBut b.1
theorem draw_end {Q : Value → Shared → Prop} (hh : A.handled = none) (p : ItAt t s.heap i l k) (q : SqAt t s.heap l xs) (hx : xs[k]? = none) (go : ∀ h' e, Heap.ExtBut i s.heap h' → (∃ o, h'.get? e = some o ∧ o.cls = .type "StopIteration") → E (.ref e) { s with heap := h' }) :
    wpAny (model prog w) A (Builtin.SmallTypes.nextOf (.ref i)) Q E s := by
  cases t with
  | false => exact wpAny_nextOf_list_end hh (show s.heap.IsListIter i l k from p) q hx go
  | true => exact RZ.nextOf_tuple_end hh (show s.heap.IsTupleIter i l k from p) q hx go

/-! ### zip -/
def zO (f0 f1 : Value) (TI TO : Addr) : Obj := { cls := .type "zip", dict := none, data := .fields #[f0, f1, .bool false, .ref TI, .ref TO], slots := #[] }
/-- f0: what was handed out last, if it must be thought of -/
def ZN (h : Heap) (z TI TO : Addr) : Prop := ∃ f0 f1 : Value, (f0 = .none ∨ ∃ T : Nat, f0 = rawInt (T : Int)) ∧ h.get? z = some (zO f0 f1 TI TO)
def Pr (h : Heap) (T : Addr) : Prop := ∃ a b, IsPair h T a b
theorem eb {a c : Addr} {h h' : Heap} {o : Obj} (e : Heap.ExtBut a h h') (hc : c ≠ a) (q : h.get? c = some o) : h'.get? c = some o := e c o hc q
/-- is the own tuple free? both may be; the zip object stays what it is -/
theorem zn_free {z TI TO : Addr} {Q : Bool → Shared → Prop} (hz : ZN s.heap z TI TO) (go : ∀ b h', ZN h' z TI TO → Heap.ExtBut z s.heap h' → h'.objs.size = s.heap.objs.size → Q b { s with heap := h' }) :
    wpAny (model prog w) A (Builtin.SmallTypes.ownedTupleIsFree (.ref z)) Q E s := by
  obtain ⟨f0, f1, hf, hz⟩ := hz
  unfold Builtin.SmallTypes.ownedTupleIsFree
  refine wpAny_bind (wpAny_field (vs := #[f0, f1, .bool false, .ref TI, .ref TO]) hz rfl (i := 0) (x := f0) rfl ?_)
  have same : Heap.ExtBut z s.heap s.heap := fun _ _ _ e => e
  rcases hf with e | ⟨T, e⟩
  · subst e
    exact wpAny_pure (go true s.heap ⟨_, _, .inl rfl, hz⟩ same rfl)
  · subst e
    show wpAny _ _ (loadIfAlive ((T : Int).toNat) >>= _) _ _ _
    rw [Int.toNat_natCast]
    have cut : ∀ {k : Option Obj → Sem Bool}, wpAny (model prog w) A (k (s.heap.get? T)) Q E s → wpAny (model prog w) A (loadIfAlive T >>= k) Q E s := fun {k} hk => wpAny_bind (m := loadIfAlive T) (show wpAny (model prog w) A (loadIfAlive T) (fun r s' => wpAny (model prog w) A (k r) Q E s') E s from fun _ _ _ => hk)
    refine cut ?_
    cases hT : s.heap.get? T with
    | none => exact wpAny_pure (go true s.heap ⟨_, _, .inr ⟨T, rfl⟩, hz⟩ same rfl)
    | some oT =>
      simp only [Option.isNone_some, Bool.false_eq_true, if_false]
      refine wpAny_bind (wpAny_field (vs := #[rawInt (T : Int), f1, .bool false, .ref TI, .ref TO]) hz rfl (i := 1) (x := f1) rfl ?_)
      by_cases hf1 : (f1 != .bool true) = true
      · rw [if_pos hf1]
        exact wpAny_bind (wpAny_setField_rec hz (by simp) fun h₁ hz₁ hs₁ => wpAny_pure (go false h₁ ⟨_, _, .inr ⟨T, rfl⟩, hz₁⟩ hs₁.extBut hs₁.1))
      · rw [if_neg hf1]
        exact wpAny_pure (go false s.heap ⟨_, _, .inr ⟨T, rfl⟩, hz⟩ same rfl)

variable {t1 t2 : Bool} {z TI TO i1 i2 l1 l2 : Addr} {k1 k2 : Nat} {ys : Array Value} {y : Value}
/-- what is there but the zip's own objects -/
abbrev Rest (h h' : Heap) (z TO i1 i2 : Addr) : Prop := ∀ c o, c ≠ z → c ≠ TO → c ≠ i1 → c ≠ i2 → h.get? c = some o → h'.get? c = some o
theorem zn_item {Q : Value → Shared → Prop} (D : ZipApart z TI TO i1 i2 l1 l2) (hz : ZN s.heap z TI TO) (hTI : IsPair s.heap TI (.ref i1) (.ref i2)) (hTO : Pr s.heap TO) (p1 : ItAt t1 s.heap i1 l1 k1) (p2 : ItAt t2 s.heap i2 l2 k2) (q1 : SqAt t1 s.heap l1 xs) (q2 : SqAt t2 s.heap l2 ys)
    (hx : xs[k1]? = some x) (hy : ys[k2]? = some y)
    (go : ∀ h', ZN h' z TI TO → Pr h' TO → ItAt t1 h' i1 l1 (k1 + 1) → ItAt t2 h' i2 l2 (k2 + 1) → IsPair h' s.heap.objs.size x y → h'.objs.size = s.heap.objs.size + 1 → Rest s.heap h' z TO i1 i2 → Q (.ref s.heap.objs.size) { s with heap := h' }) :
    wpAny (model prog w) A (Builtin.«zip.__next__» ⟨[.ref z], []⟩) (fun fin s' => ∃ v, fin = .done (.ret v) ∧ Q v s') E s := by
  have hz' := hz
  obtain ⟨f0, f1, hf, ho⟩ := hz
  show wpAny _ _ (field (.ref z) 2 >>= _) _ _ _
  refine wpAny_bind (wpAny_field (vs := #[f0, f1, .bool false, .ref TI, .ref TO]) ho rfl (x := .bool false) rfl ?_)
  show wpAny _ _ (field (.ref z) 3 >>= _) _ _ _
  refine wpAny_bind (wpAny_field (vs := #[f0, f1, .bool false, .ref TI, .ref TO]) ho rfl (x := .ref TI) rfl (wpAny_bind (wpAny_seqItems hTI rfl ?_)))
  show wpAny _ _ (Builtin.SmallTypes.ownedTupleIsFree (.ref z) >>= _) _ _ _
  refine wpAny_bind (zn_free hz' fun b h₁ hz₁ e₁ n₁ => ?_)
  have p1₁ := p1.at fun o q => eb e₁ D.i1z q
  have p2₁ := p2.at fun o q => eb e₁ D.i2z q
  have q1₁ := q1.at fun o q => eb e₁ D.l1z q
  have q2₁ := q2.at fun o q => eb e₁ D.l2z q
  obtain ⟨a, b', hTO⟩ := hTO
  have hTO₁ : IsPair h₁ TO a b' := eb e₁ D.TOz hTO
  cases b with
  | false =>
    simp only [Bool.false_eq_true, if_false]
    refine wpAny_bind ?_
    rw [← Array.forIn_toList]
    simp only [List.forIn_cons, List.forIn_nil]
    refine wpAny_bind (wpAny_bind (wpAny_holding ?_))
    show wpAny _ _ (Builtin.SmallTypes.nextOf (.ref i1) >>= _) _ _ _
    refine wpAny_bind (draw_item (s := { s with heap := h₁ }) p1₁ q1₁ hx fun h₂ p1₂ e₂ n₂ => wpAny_pure (wpAny_pure ?_))
    refine wpAny_bind (wpAny_bind (wpAny_holding ?_))
    show wpAny _ _ (Builtin.SmallTypes.nextOf (.ref i2) >>= _) _ _ _
    refine wpAny_bind (draw_item (s := { s with heap := h₂ }) (p2₁.at fun o q => eb e₂ D.i12.symm q) (q2₁.at fun o q => eb e₂ D.l2i1 q) hy fun h₃ p2₃ e₃ n₃ => wpAny_pure (wpAny_pure (wpAny_pure ?_)))
    show wpAny _ _ (newTuple [x, y] >>= _) _ _ _
    refine wpAny_bind (wpAny_newTuple (wpAny_pure ⟨_, rfl, ?_⟩))
    have n : h₃.objs.size = s.heap.objs.size := n₃.trans (n₂.trans n₁)
    obtain ⟨g0, g1, hg, hz₁⟩ := hz₁
    have hp : IsPair (h₃.push { cls := .type "tuple", data := .seq #[x, y] }) h₃.objs.size x y := Heap.get?_push_size _ rfl
    have up : ∀ c o, h₃.get? c = some o → (h₃.push { cls := .type "tuple", data := .seq #[x, y] }).get? c = some o := fun c o q => Heap.get?_push_of_some _ q
    have hn : (h₃.push { cls := .type "tuple", data := .seq #[x, y] }).objs.size = h₃.objs.size + 1 := Heap.size_push ..
    show Q (.ref h₃.objs.size) _
    rw [n] at hp hn ⊢
    exact go _ ⟨g0, g1, hg, up _ _ (eb e₃ D.i2z.symm (eb e₂ D.i1z.symm hz₁))⟩ ⟨a, b', up _ _ (eb e₃ D.TOi2 (eb e₂ D.TOi1 hTO₁))⟩ (p1₂.at fun o q => up _ _ (eb e₃ D.i12 q)) (p2₃.at fun o q => up _ _ q) hp hn
      fun c o c1 _ c3 c4 q => up _ _ (eb e₃ c4 (eb e₂ c3 (eb e₁ c1 q)))
  | true =>
    simp only [if_true]
    obtain ⟨g0, g1, hg, hz₁⟩ := hz₁
    refine wpAny_bind (wpAny_rule (wpAny_bind (wpAny_field (vs := #[g0, g1, .bool false, .ref TI, .ref TO]) hz₁ rfl (x := .ref TO) rfl ?_)))
    refine wpAny_bind (wpAny_setField_rec hz₁ (by simp) fun h₂ hz₂ s₂ => ?_)
    have hz₂ : h₂.get? z = some (zO .ellipsis g1 TI TO) := hz₂
    have e₂ := s₂.extBut
    refine wpAny_bind ?_
    simp only [List.zipIdx_cons, List.zipIdx_nil, List.forIn_cons, List.forIn_nil]
    refine wpAny_bind (wpAny_bind (wpAny_onRaise ?_))
    show wpAny _ _ (Builtin.SmallTypes.nextOf (.ref i1) >>= _) _ _ _
    refine wpAny_bind (draw_item (s := { s with heap := h₂ }) (p1₁.at fun o q => eb e₂ D.i1z q) (q1₁.at fun o q => eb e₂ D.l1z q) hx fun h₃ p1₃ e₃ n₃ => wpAny_pure ?_)
    have hTO₃ : IsPair h₃ TO a b' := eb e₃ D.TOi1 (eb e₂ D.TOz hTO₁)
    refine wpAny_bind (wpAny_seqItems hTO₃ rfl (wpAny_bind (wpAny_updateSeq_pair hTO₃ fun h₄ hTO₄ s₄ => wpAny_bind (wpAny_letGo (wpAny_pure ?_)))))
    have hTO₄ : IsPair h₄ TO x b' := hTO₄
    have e₄ := s₄.extBut
    refine wpAny_bind (wpAny_bind (wpAny_onRaise ?_))
    show wpAny _ _ (Builtin.SmallTypes.nextOf (.ref i2) >>= _) _ _ _
    refine wpAny_bind (draw_item (s := { s with heap := h₄ }) (p2₁.at fun o q => eb e₄ D.TOi2.symm (eb e₃ D.i12.symm (eb e₂ D.i2z q))) (q2₁.at fun o q => eb e₄ D.l2TO (eb e₃ D.l2i1 (eb e₂ D.l2z q))) hy fun h₅ p2₅ e₅ n₅ => wpAny_pure ?_)
    have hTO₅ : IsPair h₅ TO x b' := eb e₅ D.TOi2 hTO₄
    refine wpAny_bind (wpAny_seqItems hTO₅ rfl (wpAny_bind (wpAny_updateSeq_pair hTO₅ fun h₆ hTO₆ s₆ => wpAny_bind (wpAny_letGo (wpAny_pure (wpAny_pure ?_))))))
    have hTO₆ : IsPair h₆ TO x y := hTO₆
    have e₆ := s₆.extBut
    refine wpAny_bind (wpAny_seqItems hTO₆ rfl (wpAny_bind (wpAny_newTuple ?_)))
    have n : h₆.objs.size = s.heap.objs.size := s₆.1.trans (n₅.trans (s₄.1.trans (n₃.trans (s₂.1.trans n₁))))
    have hz₆ : h₆.get? z = some (zO .ellipsis g1 TI TO) := eb e₆ D.TOz.symm (eb e₅ D.i2z.symm (eb e₄ D.TOz.symm (eb e₃ D.i1z.symm hz₂)))
    have p1₆ : ItAt t1 h₆ i1 l1 (k1 + 1) := p1₃.at fun o q => eb e₆ D.TOi1.symm (eb e₅ D.i12 (eb e₄ D.TOi1.symm q))
    have p2₆ : ItAt t2 h₆ i2 l2 (k2 + 1) := p2₅.at fun o q => eb e₆ D.TOi2.symm q
    have r₆ : Rest s.heap h₆ z TO i1 i2 := fun c o c1 c2 c3 c4 q => eb e₆ c2 (eb e₅ c4 (eb e₄ c2 (eb e₃ c3 (eb e₂ c1 (eb e₁ c1 q)))))
    have zl : z < h₆.objs.size := Heap.lt_size hz₆
    show wpAny _ _ (Builtin.SmallTypes.ownedTupleHandOut (.ref z) (.ref h₆.objs.size) >>= _) _ _ _
    refine wpAny_bind ?_
    unfold Builtin.SmallTypes.ownedTupleHandOut
    have hz₇ : (h₆.push { cls := .type "tuple", data := .seq #[x, y] }).get? z = some (zO .ellipsis g1 TI TO) := Heap.get?_push_of_some _ hz₆
    refine wpAny_bind (wpAny_setField_rec hz₇ (by simp) fun h₈ hz₈ s₈ => ?_)
    have hz₈ : h₈.get? z = some (zO (rawInt (h₆.objs.size : Nat)) g1 TI TO) := hz₈
    refine wpAny_setField_rec hz₈ (by simp) fun h₉ hz₉ s₉ => wpAny_pure ⟨_, rfl, ?_⟩
    have hz₉ : h₉.get? z = some (zO (rawInt (h₆.objs.size : Nat)) (.bool false) TI TO) := hz₉
    have up : ∀ c o, c ≠ z → h₆.get? c = some o → h₉.get? c = some o := fun c o cz q => eb s₉.extBut cz (eb s₈.extBut cz (Heap.get?_push_of_some _ q))
    have hp : IsPair h₉ h₆.objs.size x y := eb s₉.extBut (Nat.ne_of_gt zl) (eb s₈.extBut (Nat.ne_of_gt zl) (Heap.get?_push_size _ rfl))
    have hn : h₉.objs.size = h₆.objs.size + 1 := s₉.1.trans (s₈.1.trans (Heap.size_push ..))
    show Q (.ref h₆.objs.size) _
    rw [n] at hp hn ⊢
    exact go h₉ ⟨_, _, .inr ⟨_, rfl⟩, hz₉⟩ ⟨x, y, up _ _ D.TOz hTO₆⟩ (p1₆.at fun o q => up _ _ D.i1z q) (p2₆.at fun o q => up _ _ D.i2z q) hp hn fun c o c1 c2 c3 c4 q => up c o c1 (r₆ c o c1 c2 c3 c4 q)
theorem zn_end {Q : Fin → Shared → Prop} (hh : A.handled = none) (D : ZipApart z TI TO i1 i2 l1 l2) (hz : ZN s.heap z TI TO) (hTI : IsPair s.heap TI (.ref i1) (.ref i2)) (hTO : Pr s.heap TO) (p1 : ItAt t1 s.heap i1 l1 k1) (p2 : ItAt t2 s.heap i2 l2 k2) (q1 : SqAt t1 s.heap l1 xs) (q2 : SqAt t2 s.heap l2 ys)
    (hend : xs[k1]? = none ∨ ys[k2]? = none) (go : ∀ h' e, Rest s.heap h' z TO i1 i2 → (∃ o, h'.get? e = some o ∧ o.cls = .type "StopIteration") → E (.ref e) { s with heap := h' }) :
    wpAny (model prog w) A (Builtin.«zip.__next__» ⟨[.ref z], []⟩) Q E s := by
  have hz' := hz
  obtain ⟨f0, f1, hf, ho⟩ := hz
  show wpAny _ _ (field (.ref z) 2 >>= _) _ _ _
  refine wpAny_bind (wpAny_field (vs := #[f0, f1, .bool false, .ref TI, .ref TO]) ho rfl (x := .bool false) rfl ?_)
  show wpAny _ _ (field (.ref z) 3 >>= _) _ _ _
  refine wpAny_bind (wpAny_field (vs := #[f0, f1, .bool false, .ref TI, .ref TO]) ho rfl (x := .ref TI) rfl (wpAny_bind (wpAny_seqItems hTI rfl ?_)))
  show wpAny _ _ (Builtin.SmallTypes.ownedTupleIsFree (.ref z) >>= _) _ _ _
  refine wpAny_bind (zn_free hz' fun b h₁ hz₁ e₁ n₁ => ?_)
  have p1₁ := p1.at fun o q => eb e₁ D.i1z q
  have p2₁ := p2.at fun o q => eb e₁ D.i2z q
  have q1₁ := q1.at fun o q => eb e₁ D.l1z q
  have q2₁ := q2.at fun o q => eb e₁ D.l2z q
  obtain ⟨a, b', hTO⟩ := hTO
  have hTO₁ : IsPair h₁ TO a b' := eb e₁ D.TOz hTO
  cases b with
  | false =>
    simp only [Bool.false_eq_true, if_false]
    refine wpAny_bind ?_
    rw [← Array.forIn_toList]
    simp only [List.forIn_cons, List.forIn_nil]
    refine wpAny_bind (wpAny_bind (wpAny_holding ?_))
    show wpAny _ _ (Builtin.SmallTypes.nextOf (.ref i1) >>= _) _ _ _
    cases hx : xs[k1]? with
    | none => exact wpAny_bind (draw_end (s := { s with heap := h₁ }) hh p1₁ q1₁ hx fun h₂ e e₂ he => go h₂ e (fun c o c1 _ c3 _ q => eb e₂ c3 (eb e₁ c1 q)) he)
    | some x =>
      have hy : ys[k2]? = none := hend.elim (fun z => by rw [hx] at z; cases z) id
      refine wpAny_bind (draw_item (s := { s with heap := h₁ }) p1₁ q1₁ hx fun h₂ p1₂ e₂ n₂ => wpAny_pure (wpAny_pure ?_))
      refine wpAny_bind (wpAny_bind (wpAny_holding ?_))
      show wpAny _ _ (Builtin.SmallTypes.nextOf (.ref i2) >>= _) _ _ _
      exact wpAny_bind (draw_end (s := { s with heap := h₂ }) hh (p2₁.at fun o q => eb e₂ D.i12.symm q) (q2₁.at fun o q => eb e₂ D.l2i1 q) hy fun h₃ e e₃ he => go h₃ e (fun c o c1 _ c3 c4 q => eb e₃ c4 (eb e₂ c3 (eb e₁ c1 q))) he)
  | true =>
    simp only [if_true]
    obtain ⟨g0, g1, hg, hz₁⟩ := hz₁
    refine wpAny_bind (wpAny_rule (wpAny_bind (wpAny_field (vs := #[g0, g1, .bool false, .ref TI, .ref TO]) hz₁ rfl (x := .ref TO) rfl ?_)))
    refine wpAny_bind (wpAny_setField_rec hz₁ (by simp) fun h₂ hz₂ s₂ => ?_)
    have hz₂ : h₂.get? z = some (zO .ellipsis g1 TI TO) := hz₂
    have e₂ := s₂.extBut
    refine wpAny_bind ?_
    simp only [List.zipIdx_cons, List.zipIdx_nil, List.forIn_cons, List.forIn_nil]
    refine wpAny_bind (wpAny_bind (wpAny_onRaise ?_))
    show wpAny _ _ (Builtin.SmallTypes.nextOf (.ref i1) >>= _) _ _ _
    have p1₂ := p1₁.at fun o q => eb e₂ D.i1z q
    have q1₂ := q1₁.at fun o q => eb e₂ D.l1z q
    cases hx : xs[k1]? with
    | none =>
      refine wpAny_bind (draw_end (s := { s with heap := h₂ }) hh p1₂ q1₂ hx fun h₃ e e₃ ⟨oe, he, ce⟩ => ?_)
      have hz₃ : h₃.get? z = some (zO .ellipsis g1 TI TO) := eb e₃ D.i1z.symm hz₂
      have ne : e ≠ z := fun q => by subst q; rw [hz₃] at he; cases he; simp [zO] at ce
      exact wpAny_setField_rec hz₃ (by simp) fun h₄ _ s₄ => go h₄ e (fun c o c1 _ c3 _ q => eb s₄.extBut c1 (eb e₃ c3 (eb e₂ c1 (eb e₁ c1 q)))) ⟨oe, eb s₄.extBut ne he, ce⟩
    | some x =>
      have hy : ys[k2]? = none := hend.elim (fun z => by rw [hx] at z; cases z) id
      refine wpAny_bind (draw_item (s := { s with heap := h₂ }) p1₂ q1₂ hx fun h₃ p1₃ e₃ n₃ => wpAny_pure ?_)
      have hTO₃ : IsPair h₃ TO a b' := eb e₃ D.TOi1 (eb e₂ D.TOz hTO₁)
      refine wpAny_bind (wpAny_seqItems hTO₃ rfl (wpAny_bind (wpAny_updateSeq_pair hTO₃ fun h₄ hTO₄ s₄ => wpAny_bind (wpAny_letGo (wpAny_pure ?_)))))
      have e₄ := s₄.extBut
      refine wpAny_bind (wpAny_bind (wpAny_onRaise ?_))
      show wpAny _ _ (Builtin.SmallTypes.nextOf (.ref i2) >>= _) _ _ _
      refine wpAny_bind (draw_end (s := { s with heap := h₄ }) hh (p2₁.at fun o q => eb e₄ D.TOi2.symm (eb e₃ D.i12.symm (eb e₂ D.i2z q))) (q2₁.at fun o q => eb e₄ D.l2TO (eb e₃ D.l2i1 (eb e₂ D.l2z q))) hy fun h₅ e e₅ ⟨oe, he, ce⟩ => ?_)
      have hz₅ : h₅.get? z = some (zO .ellipsis g1 TI TO) := eb e₅ D.i2z.symm (eb e₄ D.TOz.symm (eb e₃ D.i1z.symm hz₂))
      have ne : e ≠ z := fun q => by subst q; rw [hz₅] at he; cases he; simp [zO] at ce
      exact wpAny_setField_rec hz₅ (by simp) fun h₆ _ s₆ => go h₆ e (fun c o c1 c2 c3 c4 q => eb s₆.extBut c1 (eb e₅ c4 (eb e₄ c2 (eb e₃ c3 (eb e₂ c1 (eb e₁ c1 q)))))) ⟨oe, eb s₆.extBut ne he, ce⟩

/-- the step ahead of the store: the zip may forget what it handed out -/
theorem own_go {tg : Expr} {r : Addr} {v : Value} {o : Obj} {n : String} {vs : Array Value} {Q : Unit → Shared → Prop} (ho : s.heap.get? r = some o) (hc : o.cls = .type n) (hd : o.data = .fields vs) (hv : ∃ a, v = .ref a)
    (same : Q () s) (forget : wpAny (model prog w) A (updateField r 0 .none) Q E s) : wpAny (model prog w) A (letOwnedTupleGo tg (.ref r) v) Q E s := by
  obtain ⟨a, rfl⟩ := hv
  unfold letOwnedTupleGo
  cases tg <;> first
    | exact wpAny_pure same
    | (refine wpAny_bind (wpAny_load ho ?_)
       rw [hc, hd]
       dsimp only
       split
       · exact wpAny_bind (wpAny_rule forget)
       · exact wpAny_pure same)
theorem zn_own {tg : Expr} {z TI TO a : Addr} {Q : Unit → Shared → Prop} (hz : ZN s.heap z TI TO) (go : ∀ h', ZN h' z TI TO → Heap.ExtBut z s.heap h' → Q () { s with heap := h' }) : wpAny (model prog w) A (letOwnedTupleGo tg (.ref z) (.ref a)) Q E s := by
  obtain ⟨f0, f1, hf, hz'⟩ := hz
  refine own_go hz' rfl rfl ⟨a, rfl⟩ (go s.heap ⟨f0, f1, hf, hz'⟩ fun _ _ _ e => e) ?_
  show wpAny _ _ (setField (.ref z) 0 .none) Q E s
  exact wpAny_setField_rec hz' (by simp) fun h₁ hz₁ s₁ => go h₁ ⟨_, _, .inl rfl, hz₁⟩ s₁.extBut
theorem zn_pyNext {Q : Option Value → Shared → Prop} (D : ZipApart z TI TO i1 i2 l1 l2) (hz : ZN s.heap z TI TO) (hTI : IsPair s.heap TI (.ref i1) (.ref i2)) (hTO : Pr s.heap TO) (p1 : ItAt t1 s.heap i1 l1 k1) (p2 : ItAt t2 s.heap i2 l2 k2) (q1 : SqAt t1 s.heap l1 xs) (q2 : SqAt t2 s.heap l2 ys)
    (hx : xs[k1]? = some x) (hy : ys[k2]? = some y)
    (go : ∀ h', ZN h' z TI TO → Pr h' TO → ItAt t1 h' i1 l1 (k1 + 1) → ItAt t2 h' i2 l2 (k2 + 1) → IsPair h' s.heap.objs.size x y → h'.objs.size = s.heap.objs.size + 1 → Rest s.heap h' z TO i1 i2 → Q (some (.ref s.heap.objs.size)) { s with heap := h' }) :
    wpAny (model prog w) A (pyNext (.ref z)) Q E s := by
  have ty : s.TypeIs (.ref z) "zip" := by obtain ⟨f0, f1, _, h⟩ := hz; exact ⟨_, h, rfl⟩
  unfold pyNext
  exact wpAny_bind (wpAny_attempt (wpAny_callSpecial?_slot (name := Str.ofString "__next__") ty F.slot_zip_next (wpAny_call_entry F.slot_zip_next ty F.entry_zip_next
    (zn_item D hz hTI hTO p1 p2 q1 q2 hx hy fun h' a b c d e f g => wpAny_pure (go h' a b c d e f g)) (F.args_zip_next_1 _))))
theorem zn_pyStop {Q : Option Value → Shared → Prop} (hh : A.handled = none) (D : ZipApart z TI TO i1 i2 l1 l2) (hz : ZN s.heap z TI TO) (hTI : IsPair s.heap TI (.ref i1) (.ref i2)) (hTO : Pr s.heap TO) (p1 : ItAt t1 s.heap i1 l1 k1) (p2 : ItAt t2 s.heap i2 l2 k2) (q1 : SqAt t1 s.heap l1 xs) (q2 : SqAt t2 s.heap l2 ys)
    (hend : xs[k1]? = none ∨ ys[k2]? = none) (go : ∀ h', Rest s.heap h' z TO i1 i2 → Q none { s with heap := h' }) : wpAny (model prog w) A (pyNext (.ref z)) Q E s := by
  have ty : s.TypeIs (.ref z) "zip" := by obtain ⟨f0, f1, _, h⟩ := hz; exact ⟨_, h, rfl⟩
  unfold pyNext
  refine wpAny_bind (wpAny_attempt (wpAny_callSpecial?_slot (name := Str.ofString "__next__") ty F.slot_zip_next (wpAny_call_entry F.slot_zip_next ty F.entry_zip_next
    (zn_end hh D hz hTI hTO p1 p2 q1 q2 hend fun h' e r he => ?_) (F.args_zip_next_1 _))))
  obtain ⟨o, ho, hc⟩ := he
  exact wpAny_bind (wpAny_isInstance (T := "StopIteration") (b := true) ⟨o, ho, hc⟩ isSubtype_stop (wpAny_pure (go h' r)))
theorem zn_pyIter {Q : Value → Shared → Prop} (hz : ZN s.heap z TI TO) (h : Q (.ref z) s) : wpAny (model prog w) A (pyIter (.ref z)) Q E s := by
  have ty : s.TypeIs (.ref z) "zip" := by obtain ⟨f0, f1, _, h⟩ := hz; exact ⟨_, h, rfl⟩
  refine wpAny_pyIter_slot ty F.slot_zip_iter (wpAny_call_entry F.slot_zip_iter ty F.entry_zip_iter ?_ (F.args_zip_iter_1 _))
  show wpAny _ _ (ret (.ref z)) _ _ s
  exact wpAny_pure ⟨_, rfl, "zip", _, ty, F.slot_zip_next.lookup, h⟩
end

/-! ### a zip is made -/
def itO (t : Bool) (l : Addr) : Obj := { cls := .type (if t = true then "tuple_iterator" else "list_iterator"), data := .fields #[.ref l, .int 0 0] }
def zH1 (t : Bool) (h : Heap) (l : Addr) : Heap := h.push (itO t l)
def zH3 (t1 t2 : Bool) (h : Heap) (l1 l2 : Addr) : Heap := (zH1 t2 (zH1 t1 h l1) l2).push { cls := .type "tuple", data := .seq #[.ref h.objs.size, .ref (zH1 t1 h l1).objs.size] }
def zH4 (t1 t2 : Bool) (h : Heap) (l1 l2 : Addr) : Heap := (zH3 t1 t2 h l1 l2).push { cls := .type "tuple", data := .seq #[.none, .none] }
def zH5 (t1 t2 : Bool) (h : Heap) (l1 l2 : Addr) : Heap := (zH4 t1 t2 h l1 l2).push (zO .none (.bool false) (zH1 t2 (zH1 t1 h l1) l2).objs.size (zH3 t1 t2 h l1 l2).objs.size)
theorem zn_meets (t1 t2 : Bool) (l1 l2 : Addr) (xs ys : Array Value) : Meets (Builtin.«zip.__new__» ⟨[.type "zip", .ref l1, .ref l2], []⟩) (fun _ R s => SqAt t1 s.heap l1 xs ∧ SqAt t2 s.heap l2 ys ∧
    R (.ok (.ret (.ref (zH4 t1 t2 s.heap l1 l2).objs.size))) { s with heap := zH5 t1 t2 s.heap l1 l2 }) := by
  cases t1 <;> cases t2
  · exact meets_zip_new l1 l2 xs ys
  · refine .of_wp fun prog w A R s h => ?_
    obtain ⟨hp, g, d, tk, os⟩ := s
    obtain ⟨h1, h2, h⟩ := h
    have sb := sub_zip
    have b1 : Heap.IsList (Shared.heap ⟨hp, g, d, tk, os⟩) l1 xs := h1
    have b2 : Heap.IsTuple (Shared.heap ⟨hp.push { cls := .type "list_iterator", data := .fields #[.ref l1, .int 0 0] }, g, d, tk, os⟩) l2 ys := (show SqAt true hp l2 ys from h2).at fun o q => Heap.get?_push_of_some _ q
    wp_walk using wpAny_pyIter_list b1, wpAny_pyIter_tuple b2
    exact ⟨_, rfl, h⟩
  · refine .of_wp fun prog w A R s h => ?_
    obtain ⟨hp, g, d, tk, os⟩ := s
    obtain ⟨h1, h2, h⟩ := h
    have sb := sub_zip
    have b1 : Heap.IsTuple (Shared.heap ⟨hp, g, d, tk, os⟩) l1 xs := h1
    have b2 : Heap.IsList (Shared.heap ⟨hp.push { cls := .type "tuple_iterator", data := .fields #[.ref l1, .int 0 0] }, g, d, tk, os⟩) l2 ys := (show SqAt false hp l2 ys from h2).at fun o q => Heap.get?_push_of_some _ q
    wp_walk using wpAny_pyIter_tuple b1, wpAny_pyIter_list b2
    exact ⟨_, rfl, h⟩
  · exact RZ.meets_zipT_new l1 l2 xs ys
section
variable {prog : Program} {w : World} {A : Around} {E : Value → Shared → Prop} {s : Shared} {t1 t2 : Bool} {l1 l2 : Addr} {xs ys : Array Value}
theorem it_new {t : Bool} {h : Heap} {i l : Addr} (e : h.get? i = some (itO t l)) : ItAt t h i l 0 := by
  cases t with
  | false => exact ⟨_, e, rfl, rfl⟩
  | true => exact ⟨_, e, rfl, rfl⟩
theorem zn_call {Q : Value → Shared → Prop} (q1 : SqAt t1 s.heap l1 xs) (q2 : SqAt t2 s.heap l2 ys)
    (go : ∀ h', ZN h' (s.heap.objs.size + 4) (s.heap.objs.size + 2) (s.heap.objs.size + 3) → IsPair h' (s.heap.objs.size + 2) (.ref s.heap.objs.size) (.ref (s.heap.objs.size + 1)) → Pr h' (s.heap.objs.size + 3) → ItAt t1 h' s.heap.objs.size l1 0 → ItAt t2 h' (s.heap.objs.size + 1) l2 0 →
      (∀ c o, s.heap.get? c = some o → h'.get? c = some o) → Q (.ref (s.heap.objs.size + 4)) { s with heap := h' }) : wpAny (model prog w) A (call (.type "zip") [.ref l1, .ref l2]) Q E s := by
  refine callType_new F.called_zip (by decide) (F.typeCall_zip_2 _ _) (F.newCall_zip_2 _ _) (fun obj => F.args_object_init_3 obj _ _) F.entry_zip_new (zn_meets t1 t2 l1 l2 xs ys) ⟨q1, q2, ?_⟩
  have n1 : (zH1 t1 s.heap l1).objs.size = s.heap.objs.size + 1 := Heap.size_push ..
  have n2 : (zH1 t2 (zH1 t1 s.heap l1) l2).objs.size = s.heap.objs.size + 2 := (Heap.size_push ..).trans (by rw [n1])
  have n3 : (zH3 t1 t2 s.heap l1 l2).objs.size = s.heap.objs.size + 3 := (Heap.size_push ..).trans (by rw [n2])
  have n4 : (zH4 t1 t2 s.heap l1 l2).objs.size = s.heap.objs.size + 4 := (Heap.size_push ..).trans (by rw [n3])
  have u5 : ∀ c o, (zH4 t1 t2 s.heap l1 l2).get? c = some o → (zH5 t1 t2 s.heap l1 l2).get? c = some o := fun c o q => Heap.get?_push_of_some _ q
  have u4 : ∀ c o, (zH3 t1 t2 s.heap l1 l2).get? c = some o → (zH5 t1 t2 s.heap l1 l2).get? c = some o := fun c o q => u5 c o (Heap.get?_push_of_some _ q)
  have u3 : ∀ c o, (zH1 t2 (zH1 t1 s.heap l1) l2).get? c = some o → (zH5 t1 t2 s.heap l1 l2).get? c = some o := fun c o q => u4 c o (Heap.get?_push_of_some _ q)
  have u2 : ∀ c o, (zH1 t1 s.heap l1).get? c = some o → (zH5 t1 t2 s.heap l1 l2).get? c = some o := fun c o q => u3 c o (Heap.get?_push_of_some _ q)
  have g5 : (zH5 t1 t2 s.heap l1 l2).get? (zH4 t1 t2 s.heap l1 l2).objs.size = some (zO .none (.bool false) (zH1 t2 (zH1 t1 s.heap l1) l2).objs.size (zH3 t1 t2 s.heap l1 l2).objs.size) := Heap.get?_push_size _ rfl
  have g4 : IsPair (zH5 t1 t2 s.heap l1 l2) (zH3 t1 t2 s.heap l1 l2).objs.size .none .none := u5 _ _ (Heap.get?_push_size _ rfl)
  have g3 : IsPair (zH5 t1 t2 s.heap l1 l2) (zH1 t2 (zH1 t1 s.heap l1) l2).objs.size (.ref s.heap.objs.size) (.ref (zH1 t1 s.heap l1).objs.size) := u4 _ _ (Heap.get?_push_size _ rfl)
  have g2 : (zH5 t1 t2 s.heap l1 l2).get? (zH1 t1 s.heap l1).objs.size = some (itO t2 l2) := u3 _ _ (Heap.get?_push_size _ rfl)
  have g1 : (zH5 t1 t2 s.heap l1 l2).get? s.heap.objs.size = some (itO t1 l1) := u2 _ _ (Heap.get?_push_size _ rfl)
  rw [n1] at g2 g3
  rw [n2] at g3
  rw [n3] at g4
  rw [n4, n2, n3] at g5
  show _ ∧ _
  rw [n4]
  exact ⟨⟨_, g5, rfl⟩, go _ ⟨_, _, .inl rfl, g5⟩ g3 ⟨_, _, g4⟩ (it_new g1) (it_new g2) fun c o q => u2 c o (Heap.get?_push_of_some _ q)⟩
end
end DL
/-! The data layer: zip and enumerate as what a loop walks. -/
namespace DL
open PySem PySem.Spec PyProof.Rows L2

def SqB (t : Bool) (K : PySem.W.Frag) (H : Hp) (a : Addr) (xs : List V) : Prop := if t = true then SqT K H a xs else SqL K H a xs
section
variable {X : Cx} {pins : List (Addr × Obj)} {σ : L2.St} {H : Hp} {s : Shared} {t t1 t2 : Bool} {a b : Addr} {xs ys : List V}
theorem sq_in (I : Inv X pins σ H s) (h : SqB t X.K H a xs) : ∃ its : List Value, Vals xs its ∧ SqAt t s.heap a its.toArray := by
  cases t with
  | false => obtain ⟨its, r, p, _⟩ := I.list h; exact ⟨its, r, p.isList⟩
  | true => obtain ⟨its, r, p, _⟩ := I.tuple h; exact ⟨its, r, p⟩
theorem sq_one (I : Inv X pins σ H s) (h : SqB t X.K H a xs) (g : SqB t X.K H a ys) : xs = ys := by
  cases t with
  | false => exact I.list_inj h g
  | true => exact I.tuple_inj h g
theorem SqAt.lt {h : Heap} {its : Array Value} (p : SqAt t h a its) : a < h.objs.size := by
  cases t with
  | false => obtain ⟨o, e, _⟩ := (show h.IsList a its from p); exact Heap.lt_size e
  | true => obtain ⟨o, e, _⟩ := (show h.IsTuple a its from p); exact Heap.lt_size e
/-- the sequences at a and b as they stand at each turn, the items in new pairs -/
def ItZ (t1 t2 : Bool) (K : PySem.W.Frag) (a b : Addr) : It where
  go := fun i H => ∃ (xs ys : List V) (x y : V), SqB t1 K H a xs ∧ SqB t2 K H b ys ∧ xs[i]? = some x ∧ ys[i]? = some y
  yld := fun i H v H' => ∃ T x y, v = .ref T ∧ H T = none ∧ H' = upd H T (.tup [x, y]) ∧ (∀ xs, SqB t1 K H a xs → xs[i]? = some x) ∧ ∀ ys, SqB t2 K H b ys → ys[i]? = some y
  stop := fun i H => ∃ xs ys : List V, SqB t1 K H a xs ∧ SqB t2 K H b ys ∧ (xs.length ≤ i ∨ ys.length ≤ i)
theorem turn_Z {P : Program} {w : World} {K : PySem.W.Frag} {tg : Expr} {z TI TO i1 i2 : Addr} (D : ZipApart z TI TO i1 i2 a b) :
    Turn P w K tg (ItZ t1 t2 K a b) [z, TI, TO, i1, i2] z (fun i h => ZN h z TI TO ∧ IsPair h TI (.ref i1) (.ref i2) ∧ Pr h TO ∧ ItAt t1 h i1 a i ∧ ItAt t2 h i2 b i) where
  mem := List.mem_cons_self
  obj := fun i h ⟨⟨f0, f1, _, hz⟩, hTI, ⟨x, y, hTO⟩, p1, p2⟩ c hc => by
    rcases (show c = z ∨ c = TI ∨ c = TO ∨ c = i1 ∨ c = i2 by simpa using hc) with rfl | rfl | rfl | rfl | rfl
    · exact ⟨_, hz, fun _ q => nomatch q⟩
    · exact ⟨_, hTI, fun _ q => nomatch q⟩
    · exact ⟨_, hTO, fun _ q => nomatch q⟩
    · exact p1.there
    · exact p2.there
  keep := fun i h h' ⟨⟨f0, f1, hf, hz⟩, hTI, ⟨x, y, hTO⟩, p1, p2⟩ k => ⟨⟨f0, f1, hf, k _ (by simp) _ hz⟩, k _ (by simp) _ hTI, ⟨x, y, k _ (by simp) _ hTO⟩, p1.at fun o q => k _ (by simp) o q, p2.at fun o q => k _ (by simp) o q⟩
  item := by
    rintro X rfl rfl rfl hc i pins s σ H E I hf ⟨hz, hTI, hTO, p1, p2⟩ ⟨xs, ys, x, y, sx, sy, hx, hy⟩
    obtain ⟨us, ru, qu⟩ := sq_in I sx
    obtain ⟨vs, rv, qv⟩ := sq_in I sy
    obtain ⟨u, hu, r1⟩ := ru.get hx
    obtain ⟨v, hv, r2⟩ := rv.get hy
    refine zn_pyNext D hz hTI hTO p1 p2 qu qv (x := u) (y := v) (by simpa using hu) (by simpa using hv) fun h₁ hz₁ hTO₁ p1₁ p2₁ hT n rest => ⟨_, rfl, zn_own (s := { s with heap := h₁ }) hz₁ fun h₂ hz₂ e₂ => ?_⟩
    have lz : z < s.heap.objs.size := by obtain ⟨_, _, _, q⟩ := hz; exact Heap.lt_size q
    have hT₂ : IsPair h₂ s.heap.objs.size u v := eb e₂ (Nat.ne_of_gt lz) hT
    have keep : ∀ c o, c ∉ [z, TI, TO, i1, i2] → s.heap.get? c = some o → h₂.get? c = some o := fun c o hn q => by
      simp only [List.mem_cons, List.not_mem_nil, or_false, not_or] at hn
      exact eb e₂ hn.1 (rest c o hn.1 hn.2.2.1 hn.2.2.2.1 hn.2.2.2.2 q)
    have new : ObjOk X.prog X.w (upd H s.heap.objs.size (.tup [x, y])) h₂ s.heap.objs.size (.tup [x, y]) := ⟨by show 2 ≤ sizeLine; decide, [u, v], .cons r1 (.cons r2 .nil), ⟨_, hT₂, rfl, _, rfl⟩⟩
    have I₂ : Inv X pins σ (upd H s.heap.objs.size (.tup [x, y])) { s with heap := h₂ } := I.turnedNew (t' := s.toks) (ch := [z, TI, TO, i1, i2]) keep hf (Nat.le_refl _) new
    have hTI₁ : IsPair h₁ TI (.ref i1) (.ref i2) := rest _ _ D.TIz D.TITO D.TIi1 D.TIi2 hTI
    obtain ⟨g, g', hTO₁⟩ := hTO₁
    refine ⟨.ref s.heap.objs.size, _, I₂, rfl, ⟨_, x, y, rfl, I.hok.fresh (Nat.le_refl _), rfl, fun l hl => by rw [sq_one I hl sx]; exact hx, fun l hl => by rw [sq_one I hl sy]; exact hy⟩, ⟨hz₂, eb e₂ D.TIz hTI₁, ⟨g, g', eb e₂ D.TOz hTO₁⟩, p1₁.at fun o q => eb e₂ D.i1z q, p2₁.at fun o q => eb e₂ D.i2z q⟩, fun c hcm => ?_⟩
    have lc : c < s.heap.objs.size := by
      rcases (show c = z ∨ c = TI ∨ c = TO ∨ c = i1 ∨ c = i2 by simpa using hcm) with rfl | rfl | rfl | rfl | rfl
      · exact lz
      · exact Heap.lt_size hTI
      · obtain ⟨_, _, q⟩ := hTO; exact Heap.lt_size q
      · obtain ⟨_, q, _⟩ := p1.there; exact Heap.lt_size q
      · obtain ⟨_, q, _⟩ := p2.there; exact Heap.lt_size q
    rw [upd_ne (Nat.ne_of_lt lc)]
    exact (hf c hcm).1
  done := by
    rintro X rfl rfl rfl hc i pins s σ H E I hf ⟨hz, hTI, hTO, p1, p2⟩ ⟨xs, ys, sx, sy, hend⟩
    obtain ⟨us, ru, qu⟩ := sq_in I sx
    obtain ⟨vs, rv, qv⟩ := sq_in I sy
    have lu := ru.length
    have lv := rv.length
    have he : us.toArray[i]? = none ∨ vs.toArray[i]? = none := hend.imp (fun q => by simp; omega) fun q => by simp; omega
    refine zn_pyStop (I.ok.hd hc) D hz hTI hTO p1 p2 qu qv he fun h₁ rest => ⟨rfl, I.turnedL (t' := s.toks) (ch := [z, TI, TO, i1, i2]) (fun c o hn q => ?_) hf⟩
    simp only [List.mem_cons, List.not_mem_nil, or_false, not_or] at hn
    exact rest c o hn.1 hn.2.2.1 hn.2.2.2.1 hn.2.2.2.2 q
  self := fun A i s Q E ⟨hz, _⟩ h => zn_pyIter hz h
end
def iZ (K : PySem.W.Frag) (ta : TA) : TI := fun σ H R => ta σ H fun vs H1 => ∃ (t1 t2 : Bool) (a b : Addr) (xs ys : List V), vs = [.ref a, .ref b] ∧ SqB t1 K H1 a xs ∧ SqB t2 K H1 b ys ∧ R (ItZ t1 t2 K a b) H1
theorem pi_Z {X : Cx} {e e2 tg : Expr} {ta : TA} {p pos : Pos} (hg : Gl X "zip") (hm : X.mg "zip" = none) (ha : PA X [e, e2] ta)
    (hs : starEach [e, e2] X.env = (false, eval e X.env) :: starEach [e2] X.env) (hpl : (backTo pos (starEach [e2] X.env)).any (·.1) = false) : PI X tg (.Call (.Name "zip" p) [e, e2] [] pos) (iZ X.K ta) := by
  refine ⟨fun pins s σ H R I h => ?_⟩
  refine Call_ (ld_blt I hg hm PyProof.Rows.boot_zip (PyProof.Rows.callWith_type1 (thn (ha.run pos pins s σ H _ I h) fun us s1 ⟨vs, H1, I1, r1, t1, t2, a, b, xs, ys, ex, sx, sy, q⟩ => ?_) hs hpl))
  subst ex
  rcases r1 with _ | ⟨ra, _ | ⟨rb, _ | _⟩⟩
  cases ra
  cases rb
  obtain ⟨us, ru, qu⟩ := sq_in I1 sx
  obtain ⟨vs, rv, qv⟩ := sq_in I1 sy
  refine zn_call qu qv fun h₁ hz hTI hTO p1 p2 up => zn_pyIter hz ?_
  refine ⟨s1.heap.objs.size + 4, [s1.heap.objs.size + 4, s1.heap.objs.size + 2, s1.heap.objs.size + 3, s1.heap.objs.size, s1.heap.objs.size + 1], _, _, H1, rfl, I1.kept (t' := s1.toks) up, turn_Z (PySem.W.ktu_apart s1.heap.objs.size a b qu.lt qv.lt), ⟨hz, hTI, hTO, p1, p2⟩, fun c hc => ?_, q⟩
  have le : s1.heap.objs.size ≤ c := by
    rcases (show c = s1.heap.objs.size + 4 ∨ c = s1.heap.objs.size + 2 ∨ c = s1.heap.objs.size + 3 ∨ c = s1.heap.objs.size ∨ c = s1.heap.objs.size + 1 by simpa using hc) with rfl | rfl | rfl | rfl | rfl <;> omega
  exact I1.fpOk le (I1.hok.fresh le)

/-! ### over data -/
/-- the items of a walked sequence at H -/
def Wk (K : PySem.W.Frag) (fa : Org) (t : Bool) (a : Addr) (α : List Addr) (H : Hp) (xs : List D) (grd : Mem → Prop) : Prop :=
  ∀ (H' : Hp) (α' : List Addr) (M' : Mem), Ext K H H' α α' → StR K fa α' H' M' → grd M' → ∃ vs, SqB t K H' a vs ∧ Rps K fa α' H' vs xs
theorem wk_of {K : PySem.W.Frag} {fa : Org} {α : List Addr} {H : Hp} {M : Mem} {v : V} {d : D} {xs : List D} (st : StR K fa α H M) (r : Rp K fa α H v d) (h : seqOf M d = some xs) :
    ∃ (t : Bool) (a : Addr) (vs : List V), v = .ref a ∧ SqB t K H a vs ∧ xs.length ≤ sizeLine ∧ Wk K fa t a α H xs (grdOf d xs) := by
  cases r with
  | @tup a vs ds s l r =>
    cases h
    exact ⟨true, a, vs, rfl, .inl (.inl s), by rw [← r.length]; exact l, fun H' α' M' e _ _ => ⟨vs, .inl (.inl (e.tup _ _ s)), r.mono e⟩⟩
  | @kup a vs ds s l r =>
    cases h
    exact ⟨true, a, vs, rfl, s H, by rw [← r.length]; exact l, fun H' α' M' e _ _ => ⟨vs, s H', r.mono e⟩⟩
  | @rol a vs ds s l r =>
    cases h
    have sq : ∀ H' α', Ext K H H' α α' → SqL K H' a vs := fun H' α' e => s.elim (fun ⟨o, z⟩ => .inl (.inr ⟨o, e.frz _ _ _ z⟩)) fun z => z H'
    exact ⟨false, a, vs, rfl, sq H α Ext.refl, by rw [← r.length]; exact l, fun H' α' M' e _ _ => ⟨vs, sq _ _ e, r.mono e⟩⟩
  | @ref n a ea =>
    have h : (match M[n]? with
      | some (.lst xs) => some xs
      | _ => none) = some xs := h
    split at h
    · rename_i ys q
      cases h
      obtain ⟨vs, hv, l, r⟩ := cell_l st ea q
      refine ⟨false, a, vs, rfl, .inl (.inl hv), by rw [← r.length]; exact l, fun H' α' M' e st' hg => ?_⟩
      obtain ⟨ws, hw, _, r2⟩ := st'.cell n _ a hg (e.at ea)
      exact ⟨ws, .inl (.inl hw), r2⟩
    · cases h
  | _ => cases h
def zipD (xs ys : List D) : List D := (xs.zip ys).map fun p => .tup [p.1, p.2]
def iZip (a b : DE) : DI := fun C ρ M P => a C ρ M fun d M1 => b C ρ M1 fun e M2 => match seqOf M2 d with
  | some xs => (match seqOf M2 e with
    | some ys => P (zipD xs ys) (fun M => grdOf d xs M ∧ grdOf e ys M) M2
    | none => False)
  | none => False
section
variable {K : PySem.W.Frag} {fa : Org} {α : List Addr} {H : Hp} {M : Mem}
theorem rps_get {vs : List V} {ds : List D} {i : Nat} {v : V} {d : D} (r : Rps K fa α H vs ds) (h1 : vs[i]? = some v) (h2 : ds[i]? = some d) : Rp K fa α H v d := by
  obtain ⟨w, e, r'⟩ := r.get h2
  rw [h1] at e
  cases e
  exact r'
theorem zipD_get {xs ys : List D} {i : Nat} {d : D} (h : (zipD xs ys)[i]? = some d) : ∃ x y, xs[i]? = some x ∧ ys[i]? = some y ∧ d = .tup [x, y] := by
  unfold zipD at h
  rw [List.getElem?_map] at h
  obtain ⟨p, h1, h2⟩ := Option.map_eq_some_iff.mp h
  obtain ⟨h3, h4⟩ := List.getElem?_zip_eq_some.mp h1
  exact ⟨p.1, p.2, h3, h4, h2.symm⟩
theorem upd_pair {T : Addr} {x y : V} {dx dy : D} (sr : StR K fa α H M) (hT : H T = none) (r1 : Rp K fa α H x dx) (r2 : Rp K fa α H y dy) : Ext K H (upd H T (.tup [x, y])) α α ∧ StR K fa α (upd H T (.tup [x, y])) M ∧ Rp K fa α (upd H T (.tup [x, y])) (.ref T) (.tup [dx, dy]) := by
  have e := Ext.new (K := K) (α := α) (o := .tup [x, y]) hT
  exact ⟨e, sr.new hT, .tup upd_same (by show 2 ≤ sizeLine; decide) (.cons (r1.mono e) (.cons (r2.mono e) .nil))⟩
theorem itok_Z {t1 t2 : Bool} {a b : Addr} {xs ys : List D} {g1 g2 : Mem → Prop} (l1 : xs.length ≤ sizeLine) (w1 : Wk K fa t1 a α H xs g1) (w2 : Wk K fa t2 b α H ys g2) : ItOk K fa (ItZ t1 t2 K a b) α H (zipD xs ys) (fun M => g1 M ∧ g2 M) := by
  have len : (zipD xs ys).length = min xs.length ys.length := by simp [zipD]
  refine ⟨by omega, fun H' α' M' e sr hg i => ?_⟩
  obtain ⟨us, su, ru⟩ := w1 H' α' M' e sr hg.1
  obtain ⟨vs, sv, rv⟩ := w2 H' α' M' e sr hg.2
  have lu := ru.length
  have lv := rv.length
  refine ⟨fun hi => ⟨us, vs, su, sv, by omega⟩, fun hi => ?_, fun x v H2 hx ⟨T, x', y', e1, hT, e2, h1, h2⟩ => ?_⟩
  · rw [len] at hi
    exact ⟨us, vs, us[i]'(by omega), vs[i]'(by omega), su, sv, List.getElem?_eq_getElem _, List.getElem?_eq_getElem _⟩
  · obtain ⟨dx, dy, gx, gy, rfl⟩ := zipD_get hx
    subst e1 e2
    exact upd_pair sr hT (rps_get ru (h1 us su) gx) (rps_get rv (h2 vs sv) gy)
theorem i_zip {X : Cx} {C : Ctx} {e e2 tg : Expr} {te tf : DE} {p pos : Pos} (hg : Gl X "zip") (hm : X.mg "zip" = none) (ha : PE X e (LE X.K fa C te)) (hb : PE X e2 (LE X.K fa C tf)) (hs : starEach [e, e2] X.env = (false, eval e X.env) :: starEach [e2] X.env) (hs2 : starEach [e2] X.env = [(false, eval e2 X.env)]) (hpl : (backTo pos (starEach [e2] X.env)).any (·.1) = false) :
    PI X tg (.Call (.Name "zip" p) [e, e2] [] pos) (LI X.K fa C (iZip te tf)) :=
  (pi_Z hg hm (pa_cons ha (pa_cons hb pa_nil hs2) hs) hs hpl).imp fun σ H R ⟨ρ, M, α, P, er, sr, h, k⟩ => ⟨ρ, M, α, _, er, sr, h, fun v d H1 α1 M1 e1 s1 r1 p1 => ⟨ρ, M1, α1, _, er.mono e1, s1, p1, fun w e H2 α2 M2 e2 s2 r2 p2 => by
    split at p2
    · rename_i xs q1
      split at p2
      · rename_i ys q2
        obtain ⟨t1, a, us, ea, su, l1, w1⟩ := wk_of s2 (r1.mono e2) q1
        obtain ⟨t2, b, vs, eb, sv, l2, w2⟩ := wk_of s2 r2 q2
        subst ea eb
        exact ⟨t1, t2, a, b, us, vs, rfl, su, sv, k _ H2 α2 M2 _ _ (e1.trans e2) s2 (itok_Z l1 w1 w2) p2⟩
      · exact p2.elim
    · exact p2.elim⟩⟩
end
end DL
/-! The data layer: enumerate over lists and tuples. -/
namespace DL
open PySem PySem.Spec PyProof.Rows L2
open Sem (wp)

def eO (f0 f1 : Value) (it : Addr) (i : Int) (old : Value) : Obj := { cls := .type "enumerate", dict := none, data := .fields #[f0, f1, .ref it, rawInt i, .none, old], slots := #[] }
def EN (h : Heap) (e it : Addr) (i : Int) : Prop := ∃ f0 f1 old : Value, (f0 = .none ∨ ∃ T : Nat, f0 = rawInt (T : Int)) ∧ h.get? e = some (eO f0 f1 it i old)
section
variable {prog : Program} {w : World} {A : Around} {E : Value → Shared → Prop} {s : Shared} {t : Bool} {e it l a : Addr} {k : Nat} {xs : Array Value} {x : Value}
theorem en_free {i : Int} {Q : Bool → Shared → Prop} (he : EN s.heap e it i) (go : ∀ b h', EN h' e it i → Heap.ExtBut e s.heap h' → h'.objs.size = s.heap.objs.size → Q b { s with heap := h' }) :
    wpAny (model prog w) A (Builtin.SmallTypes.ownedTupleIsFree (.ref e)) Q E s := by
  obtain ⟨f0, f1, old, hf, hz⟩ := he
  unfold Builtin.SmallTypes.ownedTupleIsFree
  refine wpAny_bind (wpAny_field (vs := #[f0, f1, .ref it, rawInt i, .none, old]) hz rfl (i := 0) (x := f0) rfl ?_)
  have same : Heap.ExtBut e s.heap s.heap := fun _ _ _ q => q
  rcases hf with q | ⟨T, q⟩
  · subst q
    exact wpAny_pure (go true s.heap ⟨_, _, _, .inl rfl, hz⟩ same rfl)
  · subst q
    show wpAny _ _ (loadIfAlive ((T : Int).toNat) >>= _) _ _ _
    rw [Int.toNat_natCast]
    have cut : ∀ {k : Option Obj → Sem Bool}, wpAny (model prog w) A (k (s.heap.get? T)) Q E s → wpAny (model prog w) A (loadIfAlive T >>= k) Q E s := fun {k} hk => wpAny_bind (m := loadIfAlive T) (show wpAny (model prog w) A (loadIfAlive T) (fun r s' => wpAny (model prog w) A (k r) Q E s') E s from fun _ _ _ => hk)
    refine cut ?_
    cases hT : s.heap.get? T with
    | none => exact wpAny_pure (go true s.heap ⟨_, _, _, .inr ⟨T, rfl⟩, hz⟩ same rfl)
    | some oT =>
      simp only [Option.isNone_some, Bool.false_eq_true, if_false]
      refine wpAny_bind (wpAny_field (vs := #[rawInt (T : Int), f1, .ref it, rawInt i, .none, old]) hz rfl (i := 1) (x := f1) rfl ?_)
      by_cases hf1 : (f1 != .bool true) = true
      · rw [if_pos hf1]
        exact wpAny_bind (wpAny_setField_rec hz (by simp) fun h₁ hz₁ hs₁ => wpAny_pure (go false h₁ ⟨_, _, _, .inr ⟨T, rfl⟩, hz₁⟩ hs₁.extBut hs₁.1))
      · rw [if_neg hf1]
        exact wpAny_pure (go false s.heap ⟨_, _, _, .inr ⟨T, rfl⟩, hz⟩ same rfl)
abbrev Rest2 (h h' : Heap) (e it : Addr) : Prop := ∀ c o, c ≠ e → c ≠ it → h.get? c = some o → h'.get? c = some o
theorem en_item {Q : Value → Shared → Prop} (he : EN s.heap e it (k : Nat)) (p : ItAt t s.heap it l k) (q : SqAt t s.heap l xs) (hx : xs[k]? = some x) (hne : e ≠ it)
    (go : ∀ h', EN h' e it ((k + 1 : Nat) : Int) → ItAt t h' it l (k + 1) → IsPair h' s.heap.objs.size (.int (k : Nat) s.toks) x → h'.objs.size = s.heap.objs.size + 1 → Rest2 s.heap h' e it → Q (.ref s.heap.objs.size) { s with heap := h', toks := s.toks + 1 }) :
    wpAny (model prog w) A (Builtin.«enumerate.__next__» ⟨[.ref e], []⟩) (fun fin s' => ∃ v, fin = .done (.ret v) ∧ Q v s') E s := by
  obtain ⟨f0, f1, old, hf, he⟩ := he
  obtain ⟨hp, g, d, tk, os⟩ := s
  show wpAny _ _ (field (.ref e) 2 >>= _) _ _ _
  refine wpAny_bind (wpAny_field (vs := #[f0, f1, .ref it, rawInt (k : Nat), .none, old]) he rfl (x := .ref it) rfl (wpAny_bind (draw_item p q hx fun h₁ p₁ e₁ n₁ => ?_)))
  have he₁ : h₁.get? e = some (eO f0 f1 it (k : Nat) old) := eb e₁ hne he
  show wpAny _ _ (field (.ref e) 3 >>= _) _ _ _
  refine wpAny_bind (wpAny_field (vs := #[f0, f1, .ref it, rawInt (k : Nat), .none, old]) he₁ rfl (x := rawInt (k : Nat)) rfl ?_)
  show wpAny _ _ (field (.ref e) 4 >>= _) _ _ _
  refine wpAny_bind (wpAny_field (vs := #[f0, f1, .ref it, rawInt (k : Nat), .none, old]) he₁ rfl (x := .none) rfl ?_)
  show wpAny _ _ (mkInt (k : Nat) >>= _) _ _ ⟨h₁, g, d, tk, os⟩
  refine wpAny_bind (wpAny_mkInt ?_)
  show wpAny _ _ (setField (.ref e) 3 (rawInt (((k : Nat) : Int) + 1)) >>= _) _ _ ⟨h₁, g, d, tk + 1, os⟩
  refine wpAny_bind (wpAny_setField_rec he₁ (by simp) fun h₂ he₂ s₂ => ?_)
  have he₂ : h₂.get? e = some (eO f0 f1 it (((k : Nat) : Int) + 1) old) := he₂
  show wpAny _ _ (setField (.ref e) 4 .none >>= _) _ _ ⟨h₂, g, d, tk + 1, os⟩
  refine wpAny_bind (wpAny_setField_rec he₂ (by simp) fun h₃ he₃ s₃ => ?_)
  have he₃ : h₃.get? e = some (eO f0 f1 it (((k : Nat) : Int) + 1) old) := he₃
  show wpAny _ _ (newTuple [.int (k : Nat) tk, x] >>= _) _ _ ⟨h₃, g, d, tk + 1, os⟩
  refine wpAny_bind (wpAny_newTuple ?_)
  have n : h₃.objs.size = hp.objs.size := s₃.1.trans (s₂.1.trans n₁)
  have pr : IsPair (h₃.push { cls := .type "tuple", data := .seq #[.int (k : Nat) tk, x] }) h₃.objs.size (.int (k : Nat) tk) x := Heap.get?_push_size _ rfl
  have hn : (h₃.push { cls := .type "tuple", data := .seq #[.int (k : Nat) tk, x] }).objs.size = h₃.objs.size + 1 := Heap.size_push ..
  have up : ∀ c o, h₃.get? c = some o → (h₃.push { cls := .type "tuple", data := .seq #[.int (k : Nat) tk, x] }).get? c = some o := fun c o z => Heap.get?_push_of_some _ z
  have one : (((k : Nat) : Int) + 1) = ((k + 1 : Nat) : Int) := by omega
  rw [one] at he₃
  have le : e < hp.objs.size := Heap.lt_size he
  have ne : hp.objs.size ≠ e := Nat.ne_of_gt le
  rw [n] at pr hn
  generalize hG : (h₃.push { cls := .type "tuple", data := .seq #[.int (k : Nat) tk, x] }) = h₄ at pr hn up
  show wpAny _ _ (Builtin.SmallTypes.ownedTupleIsFree (.ref e) >>= _) _ _ ⟨h₄, g, d, tk + 1, os⟩
  rw [n]
  have p₄ : ItAt t h₄ it l (k + 1) := p₁.at fun o z => up _ _ (eb s₃.extBut (Ne.symm hne) (eb s₂.extBut (Ne.symm hne) z))
  have r₄ : Rest2 hp h₄ e it := fun c o c1 c2 z => up _ _ (eb s₃.extBut c1 (eb s₂.extBut c1 (eb e₁ c2 z)))
  refine wpAny_bind (en_free (s := ⟨h₄, g, d, tk + 1, os⟩) ⟨f0, f1, old, hf, up _ _ he₃⟩ fun b h₅ he₅ e₅ n₅ => ?_)
  have hp₅ : IsPair h₅ hp.objs.size (.int (k : Nat) tk) x := eb e₅ ne pr
  have p₅ : ItAt t h₅ it l (k + 1) := p₄.at fun o z => eb e₅ (Ne.symm hne) z
  have r₅ : Rest2 hp h₅ e it := fun c o c1 c2 z => eb e₅ c1 (r₄ c o c1 c2 z)
  have n₆ : h₅.objs.size = hp.objs.size + 1 := n₅.trans hn
  cases b with
  | false =>
    simp only [Bool.false_eq_true, if_false]
    exact wpAny_pure ⟨_, rfl, go h₅ he₅ p₅ hp₅ n₆ r₅⟩
  | true =>
    simp only [if_true]
    obtain ⟨g0, g1, old', hg, he₅⟩ := he₅
    refine wpAny_bind (wpAny_rule (wpAny_bind (wpAny_field (vs := #[g0, g1, .ref it, rawInt ((k + 1 : Nat) : Int), .none, old']) he₅ rfl (x := old') rfl ?_)))
    refine wpAny_bind (wpAny_setField_rec he₅ (by simp) fun h₆ he₆ s₆ => ?_)
    have he₆ : h₆.get? e = some (eO g0 g1 it ((k + 1 : Nat) : Int) x) := he₆
    show wpAny _ _ (Builtin.SmallTypes.ownedTupleHandOut (.ref e) (.ref hp.objs.size) >>= _) _ _ _
    refine wpAny_bind ?_
    unfold Builtin.SmallTypes.ownedTupleHandOut
    refine wpAny_bind (wpAny_setField_rec he₆ (by simp) fun h₇ he₇ s₇ => ?_)
    have he₇ : h₇.get? e = some (eO (rawInt (hp.objs.size : Nat)) g1 it ((k + 1 : Nat) : Int) x) := he₇
    refine wpAny_setField_rec he₇ (by simp) fun h₈ he₈ s₈ => ?_
    have he₈ : h₈.get? e = some (eO (rawInt (hp.objs.size : Nat)) (.bool false) it ((k + 1 : Nat) : Int) x) := he₈
    refine wpAny_bind (wpAny_letGo (wpAny_pure ⟨_, rfl, go h₈ ⟨_, _, _, .inr ⟨_, rfl⟩, he₈⟩ (p₅.at fun o z => eb s₈.extBut (Ne.symm hne) (eb s₇.extBut (Ne.symm hne) (eb s₆.extBut (Ne.symm hne) z))) ?_ ?_ fun c o c1 c2 z => eb s₈.extBut c1 (eb s₇.extBut c1 (eb s₆.extBut c1 (r₅ c o c1 c2 z)))⟩))
    · exact eb s₈.extBut ne (eb s₇.extBut ne (eb s₆.extBut ne hp₅))
    · exact s₈.1.trans (s₇.1.trans (s₆.1.trans n₆))
theorem en_pyNext {Q : Option Value → Shared → Prop} (he : EN s.heap e it (k : Nat)) (p : ItAt t s.heap it l k) (q : SqAt t s.heap l xs) (hx : xs[k]? = some x) (hne : e ≠ it)
    (go : ∀ h', EN h' e it ((k + 1 : Nat) : Int) → ItAt t h' it l (k + 1) → IsPair h' s.heap.objs.size (.int (k : Nat) s.toks) x → h'.objs.size = s.heap.objs.size + 1 → Rest2 s.heap h' e it → Q (some (.ref s.heap.objs.size)) { s with heap := h', toks := s.toks + 1 }) :
    wpAny (model prog w) A (pyNext (.ref e)) Q E s := by
  have ty : s.TypeIs (.ref e) "enumerate" := by obtain ⟨_, _, _, _, h⟩ := he; exact ⟨_, h, rfl⟩
  unfold pyNext
  exact wpAny_bind (wpAny_attempt (wpAny_callSpecial?_slot (name := Str.ofString "__next__") ty F.slot_enumerate_next (wpAny_call_entry F.slot_enumerate_next ty F.entry_enumerate_next
    (en_item he p q hx hne fun h' a b c d r => wpAny_pure (go h' a b c d r)) (F.args_enumerate_next_1 _))))
theorem en_pyStop {Q : Option Value → Shared → Prop} (hh : A.handled = none) (he : EN s.heap e it (k : Nat)) (p : ItAt t s.heap it l k) (q : SqAt t s.heap l xs) (hx : xs[k]? = none) (go : ∀ h', Heap.ExtBut it s.heap h' → Q none { s with heap := h' }) :
    wpAny (model prog w) A (pyNext (.ref e)) Q E s := by
  have ty : s.TypeIs (.ref e) "enumerate" := by obtain ⟨_, _, _, _, h⟩ := he; exact ⟨_, h, rfl⟩
  obtain ⟨f0, f1, old, hf, he⟩ := he
  unfold pyNext
  refine wpAny_bind (wpAny_attempt (wpAny_callSpecial?_slot (name := Str.ofString "__next__") ty F.slot_enumerate_next (wpAny_call_entry F.slot_enumerate_next ty F.entry_enumerate_next ?_ (F.args_enumerate_next_1 _))))
  show wpAny _ _ (field (.ref e) 2 >>= _) _ _ _
  refine wpAny_bind (wpAny_field (vs := #[f0, f1, .ref it, rawInt (k : Nat), .none, old]) he rfl (x := .ref it) rfl (wpAny_bind (draw_end hh p q hx fun h₁ x e₁ hs => ?_)))
  obtain ⟨o, ho, hc⟩ := hs
  exact wpAny_bind (wpAny_isInstance (T := "StopIteration") (b := true) ⟨o, ho, hc⟩ isSubtype_stop (wpAny_pure (go h₁ e₁)))
theorem en_own {tg : Expr} {i : Int} {Q : Unit → Shared → Prop} (he : EN s.heap e it i) (go : ∀ h', EN h' e it i → Heap.ExtBut e s.heap h' → Q () { s with heap := h' }) : wpAny (model prog w) A (letOwnedTupleGo tg (.ref e) (.ref a)) Q E s := by
  obtain ⟨f0, f1, old, hf, he'⟩ := he
  refine own_go he' rfl rfl ⟨a, rfl⟩ (go s.heap ⟨f0, f1, old, hf, he'⟩ fun _ _ _ z => z) ?_
  show wpAny _ _ (setField (.ref e) 0 .none) Q E s
  exact wpAny_setField_rec he' (by simp) fun h₁ he₁ s₁ => go h₁ ⟨_, _, _, .inl rfl, he₁⟩ s₁.extBut
theorem en_pyIter {i : Int} {Q : Value → Shared → Prop} (he : EN s.heap e it i) (h : Q (.ref e) s) : wpAny (model prog w) A (pyIter (.ref e)) Q E s := by
  have ty : s.TypeIs (.ref e) "enumerate" := by obtain ⟨_, _, _, _, z⟩ := he; exact ⟨_, z, rfl⟩
  refine wpAny_pyIter_slot ty F.slot_enumerate_iter (wpAny_call_entry F.slot_enumerate_iter ty F.entry_enumerate_iter ?_ (F.args_enumerate_iter_1 _))
  show wpAny _ _ (ret (.ref e)) _ _ s
  exact wpAny_pure ⟨_, rfl, "enumerate", _, ty, F.slot_enumerate_next.lookup, h⟩
end

/-! ### an enumerate is made -/
theorem en_meets (l : Addr) (xs : Array Value) (n : Nat) (dct : Option Addr) (sl : Array (Option Value)) :
    Meets (Builtin.«enumerate.__new__» ⟨[.type "enumerate", .ref l], []⟩) (fun _ R s => s.heap.get? l = some { cls := .type "tuple", dict := dct, data := .seq xs n, slots := sl } ∧
      R (.ok (.ret (.ref (zH1 true s.heap l).objs.size))) { s with heap := (zH1 true s.heap l).push (eO .none (.bool false) s.heap.objs.size 0 .none) }) := .of_wp fun prog w A R s h => by
  obtain ⟨hp, g, d, tk, os⟩ := s
  obtain ⟨hl, h⟩ := h
  have sb := sub_enumerate
  have b1 : Heap.IsTuple (Shared.heap ⟨hp, g, d, tk, os⟩) l xs := ⟨_, hl, rfl, _, rfl⟩
  wp_walk using wpAny_loadPart' hl
  refine wpAny_stack_any fun st => wpAny_pure ?_
  split
  · rename_i c _ _ _ _ _
    cases (c == Value.type "enumerate")
    · wp_walk using wpAny_loadPart' hl, wpAny_pyIter_tuple b1
      exact ⟨_, rfl, h⟩
    · wp_walk using wpAny_loadPart' hl, wpAny_pyIter_tuple b1
      exact ⟨_, rfl, h⟩
  · wp_walk using wpAny_loadPart' hl, wpAny_pyIter_tuple b1
    exact ⟨_, rfl, h⟩

section
variable {prog : Program} {w : World} {A : Around} {E : Value → Shared → Prop} {s : Shared} {t : Bool} {l : Addr} {xs : Array Value}
theorem en_call {Q : Value → Shared → Prop} (q : SqAt t s.heap l xs) (go : ∀ h', EN h' (s.heap.objs.size + 1) s.heap.objs.size ((0 : Nat) : Int) → ItAt t h' s.heap.objs.size l 0 → (∀ c o, s.heap.get? c = some o → h'.get? c = some o) → Q (.ref (s.heap.objs.size + 1)) { s with heap := h' }) :
    wpAny (model prog w) A (call (.type "enumerate") [.ref l]) Q E s := by
  cases t with
  | false => exact call_enumerate_list (show s.heap.IsList l xs from q) fun h' he hi _ up => go h' ⟨_, _, _, .inl rfl, he⟩ hi up
  | true =>
    obtain ⟨⟨c, dct, dt, sl⟩, hl, hc, n, hd⟩ := (show s.heap.IsTuple l xs from q)
    have hc : c = .type "tuple" := hc
    have hd : dt = .seq xs n := hd
    subst hc hd
    refine callType_new F.called_enumerate (by decide) (F.typeCall_enumerate_1 _) (F.newCall_enumerate_1 _) (fun obj => F.args_object_init_2 obj _) F.entry_enumerate_new (en_meets l xs n dct sl) ⟨hl, ?_⟩
    have n1 : (zH1 true s.heap l).objs.size = s.heap.objs.size + 1 := Heap.size_push ..
    have g : ((zH1 true s.heap l).push (eO .none (.bool false) s.heap.objs.size 0 .none)).get? (zH1 true s.heap l).objs.size = some (eO .none (.bool false) s.heap.objs.size 0 .none) := Heap.get?_push_size _ rfl
    have g1 : ((zH1 true s.heap l).push (eO .none (.bool false) s.heap.objs.size 0 .none)).get? s.heap.objs.size = some (itO true l) := Heap.get?_push_of_some _ (Heap.get?_push_size _ rfl)
    show _ ∧ _
    rw [n1] at g ⊢
    exact ⟨⟨_, g, rfl⟩, go _ ⟨_, _, _, .inl rfl, g⟩ (it_new g1) fun c o z => Heap.get?_push_of_some _ (Heap.get?_push_of_some _ z)⟩
end
/-- the sequence at a as it stands at each turn, each item in a new pair -/
def ItE (t : Bool) (K : PySem.W.Frag) (a : Addr) : It where
  go := fun i H => ∃ (xs : List V) (x : V), SqB t K H a xs ∧ xs[i]? = some x
  yld := fun i H v H' => ∃ T x, v = .ref T ∧ H T = none ∧ H' = upd H T (.tup [.int (i : Nat), x]) ∧ ∀ xs, SqB t K H a xs → xs[i]? = some x
  stop := fun i H => ∃ xs : List V, SqB t K H a xs ∧ xs.length ≤ i
section
variable {X : Cx} {pins : List (Addr × Obj)} {σ : L2.St} {H : Hp} {s : Shared} {t : Bool} {a b : Addr} {xs ys : List V}
theorem turn_E {P : Program} {w : World} {K : PySem.W.Frag} {tg : Expr} {e it : Addr} (hne : e ≠ it) : Turn P w K tg (ItE t K a) [e, it] e (fun i h => EN h e it (i : Nat) ∧ ItAt t h it a i) where
  mem := List.mem_cons_self
  obj := fun i h ⟨⟨f0, f1, old, _, he⟩, p⟩ c hc => by
    rcases (show c = e ∨ c = it by simpa using hc) with rfl | rfl
    · exact ⟨_, he, fun _ q => nomatch q⟩
    · exact p.there
  keep := fun i h h' ⟨⟨f0, f1, old, hf, he⟩, p⟩ k => ⟨⟨f0, f1, old, hf, k _ (by simp) _ he⟩, p.at fun o q => k _ (by simp) o q⟩
  item := by
    rintro X rfl rfl rfl hc i pins s σ H E I hf ⟨he, p⟩ ⟨xs, x, sx, hx⟩
    obtain ⟨us, ru, qu⟩ := sq_in I sx
    obtain ⟨u, hu, r1⟩ := ru.get hx
    refine en_pyNext he p qu (x := u) (by simpa using hu) hne fun h₁ he₁ p₁ hT n rest => ⟨_, rfl, en_own (s := { s with heap := h₁, toks := s.toks + 1 }) he₁ fun h₂ he₂ e₂ => ?_⟩
    have le : e < s.heap.objs.size := by obtain ⟨_, _, _, _, q⟩ := he; exact Heap.lt_size q
    have hT₂ : IsPair h₂ s.heap.objs.size (.int (i : Nat) s.toks) u := eb e₂ (Nat.ne_of_gt le) hT
    have keep : ∀ c o, c ∉ [e, it] → s.heap.get? c = some o → h₂.get? c = some o := fun c o hn q => by
      simp only [List.mem_cons, List.not_mem_nil, or_false, not_or] at hn
      exact eb e₂ hn.1 (rest c o hn.1 hn.2 q)
    have new : ObjOk X.prog X.w (upd H s.heap.objs.size (.tup [.int (i : Nat), x])) h₂ s.heap.objs.size (.tup [.int (i : Nat), x]) := ⟨by show 2 ≤ sizeLine; decide, [.int (i : Nat) s.toks, u], .cons ⟨_, rfl⟩ (.cons r1 .nil), ⟨_, hT₂, rfl, _, rfl⟩⟩
    have I₂ : Inv X pins σ (upd H s.heap.objs.size (.tup [.int (i : Nat), x])) { s with heap := h₂, toks := s.toks + 1 } := I.turnedNew (ch := [e, it]) keep hf (Nat.le_refl _) new
    refine ⟨.ref s.heap.objs.size, _, I₂, rfl, ⟨_, x, rfl, I.hok.fresh (Nat.le_refl _), rfl, fun l hl => by rw [sq_one I hl sx]; exact hx⟩, ⟨he₂, p₁.at fun o q => eb e₂ (Ne.symm hne) q⟩, fun c hcm => ?_⟩
    have lc : c < s.heap.objs.size := by
      rcases (show c = e ∨ c = it by simpa using hcm) with rfl | rfl
      · exact le
      · obtain ⟨_, q, _⟩ := p.there; exact Heap.lt_size q
    rw [upd_ne (Nat.ne_of_lt lc)]
    exact (hf c hcm).1
  done := by
    rintro X rfl rfl rfl hc i pins s σ H E I hf ⟨he, p⟩ ⟨xs, sx, hend⟩
    obtain ⟨us, ru, qu⟩ := sq_in I sx
    have lu := ru.length
    refine en_pyStop (I.ok.hd hc) he p qu (by simp; omega) fun h₁ e₁ => ⟨rfl, I.turnedL (t' := s.toks) (ch := [e, it]) (fun c o hn q => ?_) hf⟩
    simp only [List.mem_cons, List.not_mem_nil, or_false, not_or] at hn
    exact eb e₁ hn.2 q
  self := fun A i s Q E ⟨he, _⟩ h => en_pyIter he h
def iE (K : PySem.W.Frag) (ta : TA) : TI := fun σ H R => ta σ H fun vs H1 => ∃ (t : Bool) (a : Addr) (xs : List V), vs = [.ref a] ∧ SqB t K H1 a xs ∧ R (ItE t K a) H1
theorem pi_E {X : Cx} {e tg : Expr} {ta : TA} {p pos : Pos} (hg : Gl X "enumerate") (hm : X.mg "enumerate" = none) (ha : PA X [e] ta) (hs : starEach [e] X.env = [(false, eval e X.env)]) : PI X tg (.Call (.Name "enumerate" p) [e] [] pos) (iE X.K ta) := by
  refine ⟨fun pins s σ H R I h => ?_⟩
  refine Call_ (ld_blt I hg hm boot_enumerate (PyProof.Rows.callWith_type1 (thn (ha.run pos pins s σ H _ I h) fun us s1 ⟨vs, H1, I1, r1, t, a, xs, ex, sx, q⟩ => ?_) hs rfl))
  subst ex
  rcases r1 with _ | ⟨ra, _ | _⟩
  cases ra
  obtain ⟨us, ru, qu⟩ := sq_in I1 sx
  refine en_call qu fun h₁ he p up => en_pyIter he ?_
  refine ⟨s1.heap.objs.size + 1, [s1.heap.objs.size + 1, s1.heap.objs.size], _, _, H1, rfl, I1.kept (t' := s1.toks) up, turn_E (Nat.succ_ne_self _), ⟨he, p⟩, fun c hc => ?_, q⟩
  have le : s1.heap.objs.size ≤ c := by
    rcases (show c = s1.heap.objs.size + 1 ∨ c = s1.heap.objs.size by simpa using hc) with rfl | rfl <;> omega
  exact I1.fpOk le (I1.hok.fresh le)
end

/-! ### over data -/
def enumD : Nat → List D → List D
  | _, [] => []
  | k, x :: xs => .tup [.int (k : Nat), x] :: enumD (k + 1) xs
theorem enumD_len : ∀ (xs : List D) (k : Nat), (enumD k xs).length = xs.length
  | [], _ => rfl
  | _ :: xs, k => congrArg (· + 1) (enumD_len xs (k + 1))
theorem enumD_get : ∀ {xs : List D} {k i : Nat} {d : D}, (enumD k xs)[i]? = some d → ∃ x, xs[i]? = some x ∧ d = .tup [.int ((k + i : Nat) : Int), x]
  | [], _, _, _, h => by simp [enumD] at h
  | x :: xs, k, 0, d, h => by
    refine ⟨x, rfl, ?_⟩
    have h : some (D.tup [.int (k : Nat), x]) = some d := h
    exact (Option.some.inj h).symm
  | x :: xs, k, i + 1, d, h => by
    have h : (enumD (k + 1) xs)[i]? = some d := by simpa [enumD] using h
    obtain ⟨y, e1, e2⟩ := enumD_get h
    refine ⟨y, by simpa using e1, ?_⟩
    rw [e2, show k + 1 + i = k + (i + 1) by omega]
def iEnumD (a : DE) : DI := fun C ρ M P => a C ρ M fun d M1 => match seqOf M1 d with
  | some xs => P (enumD 0 xs) (grdOf d xs) M1
  | none => False
section
variable {K : PySem.W.Frag} {fa : Org} {α : List Addr} {H : Hp} {M : Mem}
theorem itok_E {t : Bool} {a : Addr} {xs : List D} {g : Mem → Prop} (l : xs.length ≤ sizeLine) (w : Wk K fa t a α H xs g) : ItOk K fa (ItE t K a) α H (enumD 0 xs) g := by
  have len := enumD_len xs 0
  refine ⟨by omega, fun H' α' M' e sr hg i => ?_⟩
  obtain ⟨us, su, ru⟩ := w H' α' M' e sr hg
  have lu := ru.length
  refine ⟨fun hi => ⟨us, su, by omega⟩, fun hi => ?_, fun x v H2 hx ⟨T, x', e1, hT, e2, h1⟩ => ?_⟩
  · rw [len] at hi
    exact ⟨us, us[i]'(by omega), su, List.getElem?_eq_getElem _⟩
  · obtain ⟨dx, gx, rfl⟩ := enumD_get hx
    subst e1 e2
    rw [Nat.zero_add]
    exact upd_pair sr hT (.int _) (rps_get ru (h1 us su) gx)
theorem i_enum {X : Cx} {C : Ctx} {e tg : Expr} {te : DE} {p pos : Pos} (hg : Gl X "enumerate") (hm : X.mg "enumerate" = none) (ha : PE X e (LE X.K fa C te)) (hs : starEach [e] X.env = [(false, eval e X.env)]) : PI X tg (.Call (.Name "enumerate" p) [e] [] pos) (LI X.K fa C (iEnumD te)) :=
  (pi_E hg hm (pa_cons ha pa_nil hs) hs).imp fun σ H R ⟨ρ, M, α, P, er, sr, h, k⟩ => ⟨ρ, M, α, _, er, sr, h, fun v d H1 α1 M1 e1 s1 r1 p1 => by
    split at p1
    · rename_i xs q
      obtain ⟨t, a, us, ea, su, l, w⟩ := wk_of s1 r1 q
      subst ea
      exact ⟨t, a, us, rfl, su, k _ H1 α1 M1 _ _ e1 s1 (itok_E l w) p1⟩
    · exact p1.elim⟩
end
end DL
/-! The data layer: ranges made lists, consumers of tuples, count, index, lists compared; the compiler's further steps. -/
namespace DL
open PySem PySem.Spec PyProof.Rows L2

/-! ### list(range(..)), tuple(range(..)) -/
abbrev DRg := Ctx → Env → Mem → (Int → Int → Mem → Prop) → Prop
def LRg (K : PySem.W.Frag) (fa : Org) (C : Ctx) (t : DRg) : L2.St → Hp → (Int → Int → Hp → Prop) → Prop := fun σ H Q => ∃ (ρ : Env) (M : Mem) (α : List Addr) (P : Int → Int → Mem → Prop), EnvR K fa α H σ ρ ∧ StR K fa α H M ∧ t C ρ M P ∧
  ∀ (i j : Int) (H' : Hp) (α' : List Addr) (M' : Mem), Ext K H H' α α' → StR K fa α' H' M' → P i j M' → Q i j H'
def rg1 (a : DE) : DRg := fun C ρ M P => a C ρ M fun d M1 => match d with
  | .int n => P 0 n M1
  | _ => False
def rg2 (a b : DE) : DRg := fun C ρ M P => a C ρ M fun d M1 => b C ρ M1 fun e M2 => match d, e with
  | .int i, .int j => P i j M2
  | _, _ => False
def RgB (i j : Int) : Prop := -(2 ^ 62) ≤ i ∧ i < 2 ^ 62 ∧ -(2 ^ 62) ≤ j ∧ j < 2 ^ 62 ∧ (j - i).toNat ≤ 2 ^ 24
def eLstRg (r : DRg) : DE := fun C ρ M P => r C ρ M fun i j M1 => RgB i j ∧ P (.ref M1.length) (M1 ++ [.lst (rngI i (j - i).toNat)])
def eTupRg (r : DRg) : DE := fun C ρ M P => r C ρ M fun i j M1 => RgB i j ∧ P (.tup (rngI i (j - i).toNat)) M1
section
variable {X : Cx} {fa : Org} {C : Ctx} {a b e : Expr} {pos p : Pos} {ta tb : DE} {r : DRg}
theorem PRg.imp {t t' : L2.St → Hp → (Int → Int → Hp → Prop) → Prop} (h : PRg X e t) (g : ∀ σ H Q, t' σ H Q → t σ H Q) : PRg X e t' := fun pins s σ H Q I q => h pins s σ H Q I (g σ H Q q)
theorem r_1 (hg : Gl X "range") (hm : X.mg "range" = none) (ha : PE X a (LE X.K fa C ta)) (na : starEach [a] X.env = (false, eval a X.env) :: starEach [] X.env) : PRg X (.Call (.Name "range" p) [a] [] pos) (LRg X.K fa C (rg1 ta)) :=
  PRg.imp (prg_1 hg hm ha na) fun σ H Q ⟨ρ, M, α, P, er, sr, h, k⟩ => ⟨ρ, M, α, _, er, sr, h, fun v d H1 α1 M1 e1 s1 r1 p1 => by
    cases r1 <;> first | exact (show False from p1).elim | skip
    exact ⟨_, rfl, k _ _ H1 α1 M1 e1 s1 p1⟩⟩
theorem r_2 (hg : Gl X "range") (hm : X.mg "range" = none) (ha : PE X a (LE X.K fa C ta)) (hb : PE X b (LE X.K fa C tb)) (na : starEach [a, b] X.env = (false, eval a X.env) :: starEach [b] X.env) (nb : starEach [b] X.env = (false, eval b X.env) :: starEach [] X.env)
    (hp : (backTo pos (starEach [b] X.env)).any (·.1) = false) : PRg X (.Call (.Name "range" p) [a, b] [] pos) (LRg X.K fa C (rg2 ta tb)) :=
  PRg.imp (prg_2 hg hm ha hb na nb hp) fun σ H Q ⟨ρ, M, α, P, er, sr, h, k⟩ => ⟨ρ, M, α, _, er, sr, h, fun v d H1 α1 M1 e1 s1 r1 p1 => ⟨ρ, M1, α1, _, er.mono e1, s1, p1, fun w f H2 α2 M2 e2 s2 r2 p2 => by
    cases r1 <;> cases r2 <;> first | exact (show False from p2).elim | skip
    exact ⟨_, _, rfl, rfl, k _ _ H2 α2 M2 (e1.trans e2) s2 p2⟩⟩⟩
theorem rgV_rep {K : PySem.W.Frag} {α : List Addr} {H : Hp} (i j : Int) : Rps K fa α H (rgV i j) (rngI i (j - i).toNat) := by
  have e1 : rgV i j = ((List.range (j - i).toNat).map fun (k : Nat) => i + (k : Int)).map V.int := by unfold rgV; rw [List.map_map]; rfl
  have e2 : rngI i (j - i).toNat = ((List.range (j - i).toNat).map fun (k : Nat) => i + (k : Int)).map D.int := by unfold rngI; rw [List.map_map]; rfl
  rw [e1, e2]
  exact Rps.ints _
theorem RgB.len {i j : Int} (h : RgB i j) : (rgV i j).length ≤ sizeLine := by
  rw [rgV_length, sizeLine_eq]
  exact h.2.2.2.2
theorem d_lstRg (hc : X.calm = true) (hg : Gl X "list") (hm : X.mg "list" = none) (he : PRg X e (LRg X.K fa C r)) (na : starEach [e] X.env = (false, eval e X.env) :: starEach [] X.env) : PE X (.Call (.Name "list" p) [e] [] pos) (LE X.K fa C (eLstRg r)) :=
  (pe_listRg hc hg hm he na).imp fun σ H Q ⟨ρ, M, α, P, er, sr, h, an⟩ => ⟨ρ, M, α, _, er, sr, h, fun i j H1 α1 M1 e1 s1 p1 => ⟨p1.1, fun q hq => (an.ext e1).lst s1 (rgV_rep i j) (RgB.len p1.1) hq p1.2⟩⟩
theorem d_tupRg (hc : X.calm = true) (hg : Gl X "tuple") (hm : X.mg "tuple" = none) (he : PRg X e (LRg X.K fa C r)) (na : starEach [e] X.env = (false, eval e X.env) :: starEach [] X.env) : PE X (.Call (.Name "tuple" p) [e] [] pos) (LE X.K fa C (eTupRg r)) :=
  (pe_tupRg hc hg hm he na).imp fun σ H Q ⟨ρ, M, α, P, er, sr, h, an⟩ => ⟨ρ, M, α, _, er, sr, h, fun i j H1 α1 M1 e1 s1 p1 => ⟨p1.1, fun q hq => (an.ext e1).tup s1 (rgV_rep i j) (RgB.len p1.1) hq p1.2⟩⟩

/-! ### consumers over tuples of ints -/
theorem reads_of {h : Heap} : ∀ {ns : List Int} {us : List Value}, Vals (ns.map V.int) us → ReadsAll h us (ns.map PyData.int) []
  | [], _, .nil => .nil
  | n :: ns, _, .cons ⟨t, e⟩ r => by
    subst e
    exact ReadsAll.cons (.int n t) (reads_of r)
theorem alike_ints (ns : List Int) : PySem.W.AlikeAll (ns.map PyData.int) := by
  refine ⟨fun x hx y hy => ?_, fun x hx => ?_⟩
  · obtain ⟨a, _, rfl⟩ := List.mem_map.mp hx
    obtain ⟨b, _, rfl⟩ := List.mem_map.mp hy
    rfl
  · obtain ⟨a, _, rfl⟩ := List.mem_map.mp hx
    exact fun z => nomatch z
theorem depth_ints : ∀ ns : List Int, PyData.depthAll (ns.map PyData.int) ≤ 1
  | [] => by simp [PyData.depthAll]
  | n :: ns => by
    rw [List.map_cons]
    have := depth_ints ns
    simp only [PyData.depthAll, PyData.depth]
    omega
theorem maxL_fold : ∀ (ns : List Int) (n : Int), ns.foldl max n = maxL (n :: ns) := by
  intro ns n
  have h := maxL_mem (l := n :: ns) (by simp)
  have top : ∀ (ns : List Int) (n : Int), (n ≤ ns.foldl max n ∧ ∀ y ∈ ns, y ≤ ns.foldl max n) ∧ (ns.foldl max n = n ∨ ns.foldl max n ∈ ns) := by
    intro ns
    induction ns with
    | nil => intro n; exact ⟨⟨Int.le_refl _, fun y hy => by cases hy⟩, .inl rfl⟩
    | cons m ms ih =>
      intro n
      obtain ⟨⟨h1, h2⟩, h3⟩ := ih (max n m)
      rw [List.foldl_cons]
      refine ⟨⟨by omega, fun y hy => ?_⟩, ?_⟩
      · rcases List.mem_cons.mp hy with e | hy
        · subst e; omega
        · exact h2 y hy
      · rcases h3 with e | e
        · rw [e]
          rcases Int.le_total n m with z | z
          · right; rw [Int.max_eq_right z]; exact List.mem_cons_self
          · left; exact Int.max_eq_left z
        · right; exact List.mem_cons_of_mem _ e
  obtain ⟨⟨h1, h2⟩, h3⟩ := top ns n
  refine Int.le_antisymm (h.2 _ ?_) ?_
  · rcases h3 with e | e
    · rw [e]; exact List.mem_cons_self
    · exact List.mem_cons_of_mem _ e
  · rcases List.mem_cons.mp h.1 with e | e
    · rw [e]; exact h1
    · exact h2 _ e
theorem minL_fold : ∀ (ns : List Int) (n : Int), ns.foldl min n = minL (n :: ns) := by
  intro ns n
  have h := minL_mem (l := n :: ns) (by simp)
  have top : ∀ (ns : List Int) (n : Int), (ns.foldl min n ≤ n ∧ ∀ y ∈ ns, ns.foldl min n ≤ y) ∧ (ns.foldl min n = n ∨ ns.foldl min n ∈ ns) := by
    intro ns
    induction ns with
    | nil => intro n; exact ⟨⟨Int.le_refl _, fun y hy => by cases hy⟩, .inl rfl⟩
    | cons m ms ih =>
      intro n
      obtain ⟨⟨h1, h2⟩, h3⟩ := ih (min n m)
      rw [List.foldl_cons]
      refine ⟨⟨by omega, fun y hy => ?_⟩, ?_⟩
      · rcases List.mem_cons.mp hy with e | hy
        · subst e; omega
        · exact h2 y hy
      · rcases h3 with e | e
        · rw [e]
          rcases Int.le_total n m with z | z
          · left; exact Int.min_eq_left z
          · right; rw [Int.min_eq_right z]; exact List.mem_cons_self
        · right; exact List.mem_cons_of_mem _ e
  obtain ⟨⟨h1, h2⟩, h3⟩ := top ns n
  refine Int.le_antisymm ?_ (h.2 _ ?_)
  · rcases List.mem_cons.mp h.1 with e | e
    · rw [e]; exact h1
    · exact h2 _ e
  · rcases h3 with e | e
    · rw [e]; exact List.mem_cons_self
    · exact List.mem_cons_of_mem _ e
theorem c_maxT (hc : X.calm = true) (hu : X.A.units + 65 < cLine) : CallR X (.builtin "max") (LCt X.K fa cMax) := fun pins s σ H vs us Q I rv ⟨a, ws, α, ds, k, e, hq, r, h, an⟩ => by
  subst e
  unfold cMax at h
  split at h
  · rename_i ns hn
    have := ints_v r hn
    subst this
    obtain ⟨its, ri, p, _⟩ := I.tuple hq
    rw [Vals.ref1 rv]
    cases ns with
    | nil => exact absurd h.1 (Nat.lt_irrefl 0)
    | cons n ns =>
      have hd := depth_ints (n :: ns)
      refine PySem.W.max_tuple_data (x := .int n) (xs := ns.map .int) (as := []) (I.ok.hd hc) (show s.heap.IsTuple a its.toArray from p) (by simpa using reads_of (h := s.heap) ri) (by simpa using alike_ints (n :: ns)) ?_ fun i v h' tk bs _ hr hk => ?_
      · have hd2 : PyData.depthAll (PyData.int n :: ns.map .int) ≤ 1 := by simpa using hd
        omega
      · rw [PySem.W.maxD_ints, maxL_fold] at hr
        cases hr
        exact ⟨.int _, H, I.kept hk, ⟨_, rfl⟩, an _ _ (.int _) h.2⟩
  · exact h.elim
theorem c_minT (hc : X.calm = true) (hu : X.A.units + 65 < cLine) : CallR X (.builtin "min") (LCt X.K fa cMin) := fun pins s σ H vs us Q I rv ⟨a, ws, α, ds, k, e, hq, r, h, an⟩ => by
  subst e
  unfold cMin at h
  split at h
  · rename_i ns hn
    have := ints_v r hn
    subst this
    obtain ⟨its, ri, p, _⟩ := I.tuple hq
    rw [Vals.ref1 rv]
    cases ns with
    | nil => exact absurd h.1 (Nat.lt_irrefl 0)
    | cons n ns =>
      have hd := depth_ints (n :: ns)
      refine PySem.W.min_tuple_data (x := .int n) (xs := ns.map .int) (as := []) (I.ok.hd hc) (show s.heap.IsTuple a its.toArray from p) (by simpa using reads_of (h := s.heap) ri) (by simpa using alike_ints (n :: ns)) ?_ fun i v h' tk bs _ hr hk => ?_
      · have hd2 : PyData.depthAll (PyData.int n :: ns.map .int) ≤ 1 := by simpa using hd
        omega
      · rw [PySem.W.minD_ints, minL_fold] at hr
        cases hr
        exact ⟨.int _, H, I.kept hk, ⟨_, rfl⟩, an _ _ (.int _) h.2⟩
  · exact h.elim
theorem c_sumT (hc : X.calm = true) : CallR X (.builtin "sum") (LCt X.K fa cSum) := fun pins s σ H vs us Q I rv ⟨a, ws, α, ds, k, e, hq, r, h, an⟩ => by
  subst e
  unfold cSum at h
  split at h
  · rename_i ns hn
    have := ints_v r hn
    subst this
    obtain ⟨its, ri, p, _⟩ := I.tuple hq
    rw [Vals.ref1 rv]
    obtain ⟨xs, ex⟩ := ri.ints.allInts.items
    have hs : numsOf (intItems xs).toList = ns := by rw [← ex]; exact ri.ints.numsOf
    rw [nums_intItems] at hs
    have p' : s.heap.IsTuple a (intItems xs) := by rw [← ex]; exact p
    refine PySem.W.ktm_sumG (I.ok.hd hc) p' fun h' tk t' hk => ⟨.int _, H, I.kept hk, ⟨_, rfl⟩, ?_⟩
    have e2 : PySem.preSum (numAt xs) xs.size = ns.sum := by rw [preSum_eq, List.take_of_length_le (by simp), hs]
    rw [e2]
    exact an _ _ (.int _) h
  · exact h.elim

/-! ### list.count of ints, list.index -/
def mCount : DM := fun d ds M P => match d, ds with
  | .ref n, [.int k] => (match M[n]? with
    | some (.lst xs) => (match intsOf xs with
      | some ns => P (.int (ns.count k : Nat)) M
      | none => False)
    | _ => False)
  | _, _ => False
theorem m_count : MtR X "list.count" (LM X.K fa mCount) := (show MtR X "list.count" (rCntI X.K) from mt_lcount).imp fun x xs H Q ⟨M, α, d, ds, P, sr, r, rs, h, an⟩ => by
  unfold mCount at h
  split at h
  · rcases rs with _ | ⟨ry, _ | _⟩
    cases ry
    split at h
    · rename_i zs hM
      split at h
      · rename_i ns hn
        cases r with
        | @ref n a ea =>
          obtain ⟨vs, hv, l, rz⟩ := cell_l sr ea hM
          have e := ints_v rz hn
          subst e
          exact ⟨a, ns, _, rfl, rfl, .inl (.inl hv), an.here sr (.int _) h⟩
      · exact h.elim
    · exact h.elim
  · exact h.elim
/-- the first place of y's like among data -/
def firstAt (y : PyData) : List PyData → Nat → Option Nat
  | [], _ => none
  | x :: xs, k => if PyData.eqv x y = true then some k else firstAt y xs (k + 1)
theorem firstAt_ok {y : PyData} : ∀ {xs : List PyData} {k j : Nat}, firstAt y xs k = some j → ∃ z i, j = k + i ∧ xs[i]? = some z ∧ PyData.eqv z y = true ∧ ∀ m z', m < i → xs[m]? = some z' → PyData.eqv z' y = false
  | [], _, _, h => by cases h
  | x :: xs, k, j, h => by
    unfold firstAt at h
    split at h
    · rename_i hx
      cases h
      exact ⟨x, 0, rfl, rfl, hx, fun m _ hm => by omega⟩
    · rename_i hx
      obtain ⟨z, i, e, h1, h2, h3⟩ := firstAt_ok h
      refine ⟨z, i + 1, by omega, by simpa using h1, h2, fun m z' hm hz => ?_⟩
      cases m with
      | zero =>
        have : x = z' := by simpa using hz
        subst this
        simpa using hx
      | succ m => exact h3 m z' (by omega) (by simpa using hz)
def mIndex : DM := fun d ds M P => match d, ds with
  | .ref n, [y] => (match M[n]?, pyM M y with
    | some (.lst xs), some p => (pures? xs = true ∧ SeqAt.shaped (.list (toPys xs)) = true ∧ SeqAt.shaped p = true) ∧ (match firstAt p (toPys xs) 0 with
      | some j => P (.int (j : Nat)) M
      | none => False)
    | _, _ => False)
  | _, _ => False
theorem m_index (hu : X.A.units + 65 < cLine) : MtR X "list.index" (LM X.K fa mIndex) := (show MtR X "list.index" (rIndexD X.K) from mt_indexD hu).imp fun x xs H Q ⟨M, α, d, ds, P, sr, r, rs, h, an⟩ => by
  unfold mIndex at h
  split at h
  · rcases rs with _ | ⟨ry, _ | _⟩
    split at h
    · rename_i zs p hM hp
      obtain ⟨⟨h1, h2, h3⟩, h⟩ := h
      split at h
      · rename_i j hj
        cases r with
        | @ref n a ea =>
          obtain ⟨vs, hv, l, rz⟩ := cell_l sr ea hM
          obtain ⟨z, i, e, g1, g2, g3⟩ := firstAt_ok hj
          rw [Nat.zero_add] at e
          subst e
          exact ⟨a, _, p, _, j, z, rfl, rfl, .lst (.inl (.inl hv)) (rz.dp h1), pyM_dp sr ry hp, h2, h3, g1, g2, g3, an.here sr (.int _) h⟩
      · exact h.elim
    · exact h.elim
  · exact h.elim
end
end DL
/-! The data layer: the compiler's steps, widened. -/
namespace DL
open PySem PySem.Spec PyProof.Rows L2
section
variable {G : Glb} (p : Comp G) (c : Cp)
/-- an expression that makes a range -/
def stepRg (e : Expr) : Option { t : DRg // ∀ X fa C, Hy G c X fa C → PRg X e (LRg X.K fa C t) } := match e with
  | .Call (.Name f pf) [a] [] pos => if hb : bi G c f "range" = true ∧ notStar a = true then (p.E c a).map fun ta => ⟨rg1 ta.1, fun X fa C h => by
        obtain ⟨e, k⟩ := bi_ok hb.1
        subst e
        exact r_1 (k h).1 (k h).2 (ta.2 X fa C h) (star_ok hb.2)⟩ else none
  | .Call (.Name f pf) [a, b] [] pos => if hb : bi G c f "range" = true ∧ notStar a = true ∧ notStar b = true then (match p.E c a, p.E c b with
      | some ta, some tb => some ⟨rg2 ta.1 tb.1, fun X fa C h => by
        obtain ⟨e, k⟩ := bi_ok hb.1
        subst e
        exact r_2 (k h).1 (k h).2 (ta.2 X fa C h) (tb.2 X fa C h) (star_ok hb.2.1) (star_ok hb.2.2) (stars_ok (by simp [hb.2.2]))⟩
      | _, _ => none) else none
  | _ => none
/-- f(a), the further forms -/
def stepF1 (f : Str) (pf : Pos) (a : Expr) (pos : Pos) : Option (CE G c (.Call (.Name f pf) [a] [] pos)) :=
  if hs : notStar a = true then
    if hb : bi G c f "list" = true then (stepRg p c a).map fun ta => ⟨eLstRg ta.1, fun X fa C h => by
        obtain ⟨e, k⟩ := bi_ok hb
        subst e
        exact d_lstRg h.calm (k h).1 (k h).2 (ta.2 X fa C h) (star_ok hs)⟩
    else if hb : bi G c f "tuple" = true then (stepRg p c a).map fun ta => ⟨eTupRg ta.1, fun X fa C h => by
        obtain ⟨e, k⟩ := bi_ok hb
        subst e
        exact d_tupRg h.calm (k h).1 (k h).2 (ta.2 X fa C h) (star_ok hs)⟩
    else if hb : bi G c f "sum" = true then (match p.L c a with
      | some _ => none
      | none => (p.A c [a]).map fun ta => ⟨eF (fC cSum true) ta.1, fun X fa C h => by
          obtain ⟨e, k⟩ := bi_ok hb
          subst e
          exact d_callB (fc_t (c_sum h.calm) (c_sumT h.calm)) (k h).1 (k h).2 (by decide +kernel) (ta.2 X fa C h) (by decide) (by decide) (star_ok hs) rfl⟩)
    else if hb : bi G c f "max" = true then (match p.L c a with
      | some _ => none
      | none => (p.A c [a]).map fun ta => ⟨eF (fC cMax true) ta.1, fun X fa C h => by
          obtain ⟨e, k⟩ := bi_ok hb
          subst e
          exact d_callB (fc_t (c_max h.calm) (c_maxT h.calm h.mo.hu)) (k h).1 (k h).2 (by decide +kernel) (ta.2 X fa C h) (by decide) (by decide) (star_ok hs) rfl⟩)
    else if hb : bi G c f "min" = true then (match p.L c a with
      | some _ => none
      | none => (p.A c [a]).map fun ta => ⟨eF (fC cMin true) ta.1, fun X fa C h => by
          obtain ⟨e, k⟩ := bi_ok hb
          subst e
          exact d_callB (fc_t (c_min h.calm) (c_minT h.calm h.mo.hu)) (k h).1 (k h).2 (by decide +kernel) (ta.2 X fa C h) (by decide) (by decide) (star_ok hs) rfl⟩)
    else none
  else none
/-- o.m(a), the further methods -/
def stepM1 (o : Expr) (m : Str) (apos : Pos) (a : Expr) (pos : Pos) : Option (CE G c (.Call (.Attribute o m apos) [a] [] pos)) :=
  if hb : notCall o = true ∧ (apos.endLine == pos.line) = true ∧ notStar a = true then
    match p.E c o, p.A c [a] with
    | some to, some ta => if hm : m = "count" then some ⟨eM "list" mCount to.1 ta.1, fun X fa C h => by
            subst hm
            exact d_meth PySem.F.plainAttrs_list PySem.F.slot_list_count PySem.F.type_list_count m_count (to.2 X fa C h) (ta.2 X fa C h) (base_ok hb.1) (few_ok (by simp [hb.2.2]) (by show 1 < 20; omega)) hb.2.1 (star_ok hb.2.2) rfl⟩
          else if hm : m = "index" then some ⟨eM "list" mIndex to.1 ta.1, fun X fa C h => by
            subst hm
            exact d_meth PySem.F.plainAttrs_list PySem.F.slot_list_index PySem.F.type_list_index (m_index h.mo.hu) (to.2 X fa C h) (ta.2 X fa C h) (base_ok hb.1) (few_ok (by simp [hb.2.2]) (by show 1 < 20; omega)) hb.2.1 (star_ok hb.2.2) rfl⟩
          else none
    | _, _ => none
  else none
def stepE2 (e : Expr) : Option (CE G c e) := match e with
  | .Call (.Name f pf) [a] [] pos => (match stepF1 p c f pf a pos with
    | some t => some t
    | none => stepE p c (.Call (.Name f pf) [a] [] pos))
  | .Call (.Attribute o m apos) [a] [] pos => (match stepM1 p c o m apos a pos with
    | some t => some t
    | none => stepE p c (.Call (.Attribute o m apos) [a] [] pos))
  | e => stepE p c e
def stepI2 (tg e : Expr) : Option (CI G c tg e) := match e with
  | .Call (.Name f pf) [a] [] pos => if hb : bi G c f "enumerate" = true ∧ notStar a = true then (p.E c a).map fun ta => ⟨iEnumD ta.1, fun X fa C h => by
        obtain ⟨e, k⟩ := bi_ok hb.1
        subst e
        exact i_enum (k h).1 (k h).2 (ta.2 X fa C h) (star_ok hb.2)⟩
      else stepI p c tg (.Call (.Name f pf) [a] [] pos)
  | .Call (.Name f pf) [a, b] [] pos => if hb : bi G c f "zip" = true ∧ notStar a = true ∧ notStar b = true then (match p.E c a, p.E c b with
      | some ta, some tb => some ⟨iZip ta.1 tb.1, fun X fa C h => by
        obtain ⟨e, k⟩ := bi_ok hb.1
        subst e
        exact i_zip (k h).1 (k h).2 (ta.2 X fa C h) (tb.2 X fa C h) (star_ok hb.2.1) (star_ok hb.2.2) (stars_ok (by simp [hb.2.2]))⟩
      | _, _ => none)
      else stepI p c tg (.Call (.Name f pf) [a, b] [] pos)
  | e => stepI p c tg e
end
end DL
/-! The data layer: sorted of ints out of a list or a tuple; pairs out of a range. -/
namespace DL.Sx
open PySem PyProof.Rows Srt SrtO
section
variable {prog : Program} {w : World} {A : Around} {E : Value → Shared → Prop} {s : Shared}
/-- sorted of a list or a tuple; where the new list stands -/
theorem sorted_seq {l : Addr} {o : Obj} {vs : List Value} {ltv : Value → Value → Bool} {T : String} {n : Nat} {Q : Value → Shared → Prop} (O : Swo ltv) (hT : T = "list" ∨ T = "tuple") (ho : s.heap.get? l = some o) (hc : o.cls = .type T) (hd : o.data = .seq vs.toArray n) (hz : vs.length ≤ sizeLine)
    (hS : 2 ≤ vs.length → ∀ (h1 : Heap) (a : Addr), h1.get? a = some (seqObj "list" vs.toArray 0) → (∀ b u, s.heap.get? b = some u → b ≠ a ∧ h1.get? b = some u) → SortableO prog w A.in1.in1 { s with heap := h1 } a vs ltv)
    (h : ∀ (out : List Value) (ep : Nat) (h1 h' : Heap), Srtd ltv out → Stb ltv out vs → (∀ b u, s.heap.get? b = some u → h1.get? b = some u) → (∀ b u, h1.get? b = some u → h'.get? b = some u) → h'.get? h1.objs.size = some (seqObj "list" out.toArray ep) → Q (.ref h1.objs.size) { s with heap := h' }) :
    wpAny (model prog w) A (call (.builtin "sorted") [.ref l]) Q E s := by
  refine Calls.call_function_entry kind_sorted plain_sorted entry_sorted (args_sorted1 _) ?_
  unfold Builtin.«sorted»
  refine wpAny_bind (m := checkCount "sorted" 1 1 _) (wpAny_pure ?_)
  refine wpAny_bind (wpAny_collect_seq l hT ho hc hd (fun h1 k1 => ?_) (by rw [List.size_toArray]; exact hz))
  rw [show vs.toArray.toList = vs by simp]
  refine wpAny_bind (wpAny_newList ?_ hz)
  have hoL : (h1.push (seqObj "list" vs.toArray 0)).get? h1.objs.size = some (seqObj "list" vs.toArray 0) := Heap.get?_push_size _ rfl
  have keep : ∀ b u, s.heap.get? b = some u → b ≠ h1.objs.size ∧ (h1.push (seqObj "list" vs.toArray 0)).get? b = some u := fun b u q => ⟨Nat.ne_of_lt (Heap.lt_size (k1 b u q)), Heap.get?_push_of_some _ (k1 b u q)⟩
  show wpAny _ _ _ _ _ { s with heap := h1.push (seqObj "list" vs.toArray 0) }
  refine wpAny_bind (wpAny_holding (wpAny_call_entry slot_list_sort ⟨_, hoL, rfl⟩ entry_list_sort (list_sort_ord O hoL hz (fun h2 => hS h2 _ _ hoL keep) fun out hs hb => ⟨_, rfl, ?_⟩) (args_list_sort _)))
  obtain ⟨ep, he⟩ := sortedHeap_at (vs := vs) (out := out.toArray) hoL
  exact wpAny_pure ⟨_, rfl, h out ep h1 _ hs hb k1 (fun b u q => (sortedHeap_old (Nat.ne_of_lt (Heap.lt_size q)) (Heap.lt_size (Heap.get?_push_of_some _ q))).trans (Heap.get?_push_of_some _ q)) he⟩
end
end DL.Sx
namespace L2
open PySem PySem.Spec PyProof.Rows
/-- sorted of whole numbers, out of a list or a tuple -/
def rSortedLT (K : PySem.W.Frag) : List V → Hp → VK → Prop := fun vs H Q => ∃ (a : Addr) (ns : List Int), vs = [V.ref a] ∧ (SqL K H a (ns.map V.int) ∨ SqT K H a (ns.map V.int)) ∧
  ∀ (ms : List Int) (p : Addr), ms.Perm ns → ms.Pairwise (· ≤ ·) → H p = none → Q (.ref p) (upd H p (.lst (ms.map V.int)))
theorem cr_sortedLT {X : Cx} : CallR X (.builtin "sorted") (rSortedLT X.K) := by
  intro pins s σ H vs us Q I r h
  obtain ⟨a, ns, rfl, hs, q⟩ := h
  obtain ⟨its, rv, T, o, n, hT, ho, hc, hd, hz⟩ : ∃ (its : List Value), Vals (ns.map V.int) its ∧ ∃ (T : String) (o : Obj) (n : Nat), (T = "list" ∨ T = "tuple") ∧ s.heap.get? a = some o ∧ o.cls = .type T ∧ o.data = .seq its.toArray n ∧ (ns.map V.int).length ≤ sizeLine := by
    rcases hs with hs | hs
    · obtain ⟨its, rv, hl, hz⟩ := I.list hs
      obtain ⟨o, ho, hc, n, hd⟩ := hl.isList
      exact ⟨its, rv, "list", o, n, .inl rfl, ho, hc, hd, hz⟩
    · obtain ⟨its, rv, hl, hz⟩ := I.tuple hs
      obtain ⟨o, ho, hc, n, hd⟩ := hl
      exact ⟨its, rv, "tuple", o, n, .inr rfl, ho, hc, hd, hz⟩
  rw [Vals.ref1 r]
  have hi := rv.ints
  refine DL.Sx.sorted_seq SrtO.swo_int hT ho hc hd (by rw [← rv.length]; exact hz) (fun h2 h1 a' _ _ => SrtO.ints_sortable hi h2) fun out ep h1 h' e1 e2 k1 k2 he => ?_
  obtain ⟨w1, w2, w3⟩ := SrtO.ints_out hi e1 e2
  have hlen : ((out.map SrtO.iv).map V.int).length ≤ sizeLine := by
    rw [List.length_map, w2.length_eq]
    rw [List.length_map] at hz
    exact hz
  have I1 : Inv X pins σ H { s with heap := h1 } := I.kept (t' := s.toks) k1
  exact ⟨.ref _, upd H h1.objs.size (.lst ((out.map SrtO.iv).map V.int)), I1.laid (t' := s.toks) k2 (Nat.le_refl _) ⟨hlen, out, ep, vals_of_ints w1, he⟩, rfl, q _ _ w2 w3 (I1.hok.fresh (Nat.le_refl _))⟩
end L2
namespace DL
open PySem PySem.Spec PyProof.Rows L2
/-- sorted(x) of whole numbers -/
def fSorted : DF := fun ds M P => match ds with
  | [d] => (match seqOf M d with
    | some xs => (match intsOf xs with
      | some ns => ∀ ms : List Int, ms.Perm ns → ms.Pairwise (· ≤ ·) → P (.ref M.length) (M ++ [.lst (ms.map D.int)])
      | none => False)
    | none => False)
  | _ => False
theorem f_sorted {X : Cx} {fa : Org} : CallR X (.builtin "sorted") (LF X.K fa fSorted) := cr_sortedLT.imp fun vs H Q ⟨M, α, ds, P, sr, rs, h, an⟩ => by
  unfold fSorted at h
  split at h
  · rename_i d
    rcases rs with _ | ⟨r, _ | _⟩
    split at h
    · rename_i xs hs
      split at h
      · rename_i ns hn
        obtain ⟨a, ws, e, hq, rs⟩ := seq_v sr r hs
        have hl := seq_len sr r hs
        subst e
        have e2 := ints_v rs hn
        subst e2
        refine ⟨a, ns, rfl, hq, fun ms p hp hw hh => an.lst sr (Rps.ints ms) ?_ hh (h ms hp hw)⟩
        have := rs.length
        rw [List.length_map] at this ⊢
        rw [hp.length_eq, this]
        exact hl
      · exact h.elim
    · exact h.elim
  · exact h.elim
end DL
/-! The data layer: all pairs out of a range, tuple(combinations(range(n), 2)). -/
namespace DL.Co
open PySem PySem.Spec PyProof.Rows
open Sem (wp)
abbrev Ty : String := "itertools.combinations"
theorem mro : mroOf (.type Ty) = pure [.type Ty, .type "object"] := by rw [mroOf_type]; kernel_rfl
theorem look_new : typeLookup (.type Ty) "__new__" = pure (some (.builtin "itertools.combinations.__new__")) := by rw [typeLookup_type, builtinLookup_eq_fast]; kernel_rfl
theorem sub : isSubtype (.type Ty) (.type Ty) = pure true := by rw [isSubtype_type]; kernel_rfl
theorem sl_init : Slot Ty "__init__" "object.__init__" := by
  refine .of (owner := "object") (n := "__init__") ?_ ?_ ?_ ?_ ?_ ?_
  · rw [typeLookup_type, builtinLookup_eq_fast]; kernel_rfl
  all_goals first | decide +kernel | exact .inl (by decide +kernel) | exact .inr (by decide +kernel) | (rw [isSubtype_type]; kernel_rfl)
theorem called : TypeCalled Ty "itertools.combinations.__new__" "object.__init__" := by
  refine ⟨?_, ?_, ⟨_, _, mro⟩, madeBy_type mro look_new ?_, ?_, sub, sl_init⟩ <;> decide +kernel
theorem typeCall2 (a b : Value) : checkTypeCall Ty ⟨[a, b], []⟩ = pure () := by kernel_rfl
theorem newCall2 (a b : Value) : checkBuiltinCall "itertools.combinations.__new__" ⟨[.type Ty, a, b], []⟩ = pure () := by kernel_rfl
theorem e_new : entryFor table "itertools.combinations.__new__" = some Builtin.«itertools.combinations.__new__» := entryFor_of_tree (by kernel_rfl)
theorem sl_iter : Slot Ty "__iter__" "itertools.combinations.__iter__" := by
  refine .of (owner := Ty) (n := "__iter__") ?_ ?_ ?_ ?_ ?_ sub
  · rw [typeLookup_type, builtinLookup_eq_fast]; kernel_rfl
  all_goals first | decide +kernel | exact .inl (by decide +kernel) | exact .inr (by decide +kernel)
theorem sl_next : Slot Ty "__next__" "itertools.combinations.__next__" := by
  refine .of (owner := Ty) (n := "__next__") ?_ ?_ ?_ ?_ ?_ sub
  · rw [typeLookup_type, builtinLookup_eq_fast]; kernel_rfl
  all_goals first | decide +kernel | exact .inl (by decide +kernel) | exact .inr (by decide +kernel)
theorem e_iter : entryFor table "itertools.combinations.__iter__" = some Builtin.«dict_keyiterator.__iter__» := by
  refine entryFor_alias (id' := "dict_keyiterator.__iter__") (by kernel_rfl) ?_ (by decide +kernel) (by kernel_rfl)
  first | rfl | decide +kernel | (unfold String.splitOn; simp +decide [String.splitOnAux])
theorem e_next : entryFor table "itertools.combinations.__next__" = some Builtin.«itertools.combinations.__next__» := entryFor_of_tree (by kernel_rfl)
theorem owner : Manifest.owners.lookup (String.ofList "snoitanibmoc.slootreti".toList.reverse) = some Manifest.sig_itertools_combinations := by kernel_rfl
theorem a_iter (a : Value) : argsOk "itertools.combinations.__iter__" ⟨[a], []⟩ := by
  unfold argsOk
  rw [signature?_of (id := "itertools.combinations.__iter__") (n := "__reti__".toList) (o := "snoitanibmoc.slootreti".toList) (by kernel_rfl) owner]
  kernel_rfl
theorem a_next (a : Value) : argsOk "itertools.combinations.__next__" ⟨[a], []⟩ := by
  unfold argsOk
  rw [signature?_of (id := "itertools.combinations.__next__") (n := "__txen__".toList) (o := "snoitanibmoc.slootreti".toList) (by kernel_rfl) owner]
  kernel_rfl
theorem noDict : typeHasDict (.type Ty) = false := by decide +kernel
theorem noLen : typeLookup (.type Ty) "__len__" = pure none := by rw [typeLookup_type, builtinLookup_eq_fast]; kernel_rfl
theorem noHint : typeLookup (.type Ty) "__length_hint__" = pure none := by rw [typeLookup_type, builtinLookup_eq_fast]; kernel_rfl
theorem pl_new : plainId "itertools.combinations.__new__" = true := by decide +kernel
/-- at I: an object that hands out pairs of the pool at P; at which places it stands -/
abbrev IsC (h : Heap) (I : Addr) (P : Value) (st : Int) (res : Value) (a b : Nat) : Prop := h.get? I = some { cls := .type Ty, dict := none, data := .fields #[P, rawInt st, res, rawInt (a : Nat), rawInt (b : Nat)], slots := #[] }
end DL.Co
namespace DL.Co
open PySem PySem.Spec PyProof.Rows
open Sem (wp)
section
variable {prog : Program} {w : World} {A : Around} {E : Value → Shared → Prop} {s : Shared} {r : Addr} {n : Nat} {t u v : Tok} {m : Int}
theorem code_new {Q1 : Value → Shared → Prop} {tk2 : Tok} (hh : A.handled = none) (hr : IsRange s.heap r 0 m 1 t u v) (hsmall : Builtin.Range.small 0 m 1 = true) (hn : Builtin.Range.rangeSize 0 m 1 = n) (hlen : n ≤ 2 ^ 24)
    (h : ∀ (h' : Heap) (tk : Nat) (acc : Array Value) (P : Addr), (∀ b o, s.heap.get? b = some o → h'.get? b = some o) → ItemsOf (fun i v => ∃ t, v = .int (0 + i * 1) t) acc n → h'.IsTuple P acc →
      Q1 (.ref h'.objs.size) { s with heap := h'.push { cls := .type Ty, data := .fields #[.ref P, rawInt (if 2 > n then 2 else 0), .none, rawInt ((0 : Nat) : Int), rawInt ((1 : Nat) : Int)] }, toks := tk }) :
    codeAny (model prog w) A (.call (.builtin "itertools.combinations.__new__") ⟨[.type Ty, .ref r, .int 2 tk2], []⟩) (wants Q1 E) s := by
  refine codeAny_of_tree ?_
  show wpAny _ A.in1 (checkBuiltinCall "itertools.combinations.__new__" _ >>= fun _ => again (.builtin "itertools.combinations.__new__" ⟨[.type Ty, .ref r, .int 2 tk2], []⟩)) _ _ s
  refine wpAny_bind (wpAny_of_eq (newCall2 _ _) (wpAny_pure ⟨plainId_quiet pl_new _, codeAny_builtin e_new ?_⟩))
  rw [Around.under_plainId pl_new _]
  have hsub := sub
  have hd := noDict
  have hTI : s.TypeIs (.ref r) "range" := ⟨_, hr, rfl⟩
  have hh1 : A.in1.handled = none := hh
  wp_walk using wpAny_typeOf hTI, L2.collect_range (A := A.in1) hh1 hr hsmall hn hlen
  have e1 : isSubtype (.type Ty) (.type ("itertools." ++ "combinations")) = pure true := sub
  refine wpAny_of_eq e1 ?_
  wp_walk using L2.collect_range (A := A.in1) hh1 hr hsmall hn hlen
  intro h' tk acc hk hi
  refine wpAny_bind (wpAny_newTuple ?_ ?_)
  rotate_left
  · rw [Array.length_toList, hi.1, sizeLine_eq]; omega
  have hl : acc.toList.length = n := by rw [Array.length_toList]; exact hi.1
  have el : acc.toList.toArray = acc := by simp
  refine wpAny_pure ?_
  show wpAny _ _ (Builtin.Itertools.itNewRecord (.type Ty) ([Value.ref h'.objs.size, rawInt (if 2 > acc.toList.length then 2 else 0), Value.none] ++ List.map (fun (i : Nat) => rawInt i) (List.range 2)) >>= fun z => ret z) _ _ _
  rw [hl, el]
  unfold Builtin.Itertools.itNewRecord
  rw [hd]
  show wpAny _ _ (newObj (.type Ty) (.fields #[Value.ref h'.objs.size, rawInt (if 2 > n then 2 else 0), Value.none, rawInt ((0 : Nat) : Int), rawInt ((1 : Nat) : Int)]) >>= fun z => ret z) _ _ _
  refine wpAny_bind (wpAny_newObj_type ?_ ?_)
  · refine wpAny_pure ?_
    exact h _ tk acc h'.objs.size (fun b o q => Heap.get?_push_of_some _ (hk b o q)) hi ⟨_, Heap.get?_push_size _ rfl, rfl, 0, rfl⟩
  · show (5 : Nat) ≤ _
    rw [sizeLine_eq]; omega
end
end DL.Co
namespace DL.Co
open PySem PySem.Spec PyProof.Rows
open Sem (wp)
section
variable {prog : Program} {w : World} {A : Around} {E : Value → Shared → Prop} {s : Shared} {I P : Addr} {st : Int} {res : Value} {a b : Nat} {pv : Array Value}
theorem nums {Q : List Nat → Shared → Prop} (hI : IsC s.heap I (.ref P) st res a b) (h : Q [a, b] s) : wpAny (model prog w) A (Builtin.Itertools.itNumbersFrom (.ref I) 3) Q E s := by
  unfold Builtin.Itertools.itNumbersFrom
  refine wpAny_bind (wpAny_load hI ?_)
  exact wpAny_pure h
theorem intf {Q : Int → Shared → Prop} (hI : IsC s.heap I (.ref P) st res a b) (h : Q st s) : wpAny (model prog w) A (Builtin.Itertools.itIntField (.ref I) 1) Q E s := by
  unfold Builtin.Itertools.itIntField
  refine wpAny_bind (wpAny_field hI rfl (x := rawInt st) rfl ?_)
  exact wpAny_pure h
theorem pool {Q : Array Value → Shared → Prop} (hP : s.heap.IsTuple P pv) (h : Q pv s) : wpAny (model prog w) A (Builtin.Itertools.itPoolItems (.ref P)) Q E s := by
  obtain ⟨o, ho, hc, n, hd⟩ := hP
  unfold Builtin.Itertools.itPoolItems
  refine wpAny_bind (wpAny_seqItems ho hd ?_)
  exact wpAny_pure h
theorem free_at (h : Heap) : h.get? h.objs.size = none := by
  cases q : h.get? h.objs.size with
  | none => rfl
  | some o => exact absurd (Heap.lt_size q) (Nat.lt_irrefl _)
/-- what stays: all but the object itself -/
def But (I : Addr) (h h' : Heap) : Prop := ∀ c o, c ≠ I → h.get? c = some o → h'.get? c = some o
theorem But.none {I c : Addr} {h h' : Heap} (x : But I h h') (hc : c ≠ I) (e : h'.get? c = none) : h.get? c = none := by
  cases q : h.get? c with
  | none => rfl
  | some o =>
    rw [x c o hc q] at e
    cases e
theorem But.trans {I : Addr} {h h' h'' : Heap} (x : But I h h') (y : But I h' h'') : But I h h'' := fun c o hc e => y c o hc (x c o hc e)
/-- a pair is handed out -/
theorem hand {X : Value → Sem PySem.Fin} {Q : PySem.Fin → Shared → Prop} (hI : IsC s.heap I (.ref P) st res a b) (hP : s.heap.IsTuple P pv) (hne : P ≠ I)
    (hQ : ∀ h' T, IsC h' I (.ref P) st (.ref T) a b → h'.IsTuple T #[pv.getD a .none, pv.getD b .none] → T ≠ I → s.heap.get? T = none → But I s.heap h' → wpAny (model prog w) A (X (.ref T)) Q E { s with heap := h' }) :
    wpAny (model prog w) A ((Builtin.Itertools.itPoolItems (.ref P) >>= fun items => newTuple ([a, b].map fun i => items.getD i .none)) >>= fun r => field (.ref I) 2 >>= fun before => setField (.ref I) 2 r >>= fun _ => letGo [before] [r] >>= fun _ => X r) Q E s := by
  refine wpAny_bind (wpAny_bind (pool hP (wpAny_newTuple ?_ (by rw [sizeLine_eq]; show (2 : Nat) ≤ _; omega))))
  have hI2 : IsC (s.heap.push { cls := .type "tuple", data := .seq ([a, b].map fun i => pv.getD i Value.none).toArray }) I (.ref P) st res a b := Heap.get?_push_of_some _ hI
  have hT : (s.heap.push { cls := .type "tuple", data := .seq ([a, b].map fun i => pv.getD i Value.none).toArray }).get? s.heap.objs.size = some { cls := .type "tuple", data := .seq ([a, b].map fun i => pv.getD i Value.none).toArray } := Heap.get?_push_size _ rfl
  have hTI : s.heap.objs.size ≠ I := Nat.ne_of_gt (Heap.lt_size hI)
  refine wpAny_bind (wpAny_field hI2 rfl (x := res) rfl ?_)
  refine wpAny_bind (wpAny_setField hI2 rfl (by simp) ?_)
  refine wpAny_bind (wpAny_letGo ?_)
  refine hQ _ _ (Heap.get?_update_self _ hI2 rfl) ⟨_, (Heap.get?_update_other _ _ (Ne.symm hTI)).trans hT, rfl, 0, rfl⟩ hTI (free_at _) fun c o hc e => (Heap.get?_update_other _ _ (Ne.symm hc)).trans (Heap.get?_push_of_some _ e)
theorem first_item {Q : Option Value → Shared → Prop} (hI : IsC s.heap I (.ref P) 0 res a b) (hP : s.heap.IsTuple P pv) (hne : P ≠ I)
    (hQ : ∀ h' T, IsC h' I (.ref P) 1 (.ref T) a b → h'.IsTuple T #[pv.getD a .none, pv.getD b .none] → T ≠ I → s.heap.get? T = none → But I s.heap h' → Q (some (.ref T)) { s with heap := h' }) : wpAny (model prog w) A (pyNext (.ref I)) Q E s := by
  have hT : s.TypeIs (.ref I) Ty := ⟨_, hI, rfl⟩
  unfold pyNext
  refine wpAny_bind (wpAny_attempt (wpAny_callSpecial?_slot (name := Str.ofString "__next__") hT sl_next (wpAny_call_entry sl_next hT e_next ?_ (a_next _))))
  show wpAny _ _ (field (.ref I) 0 >>= _) _ _ s
  refine wpAny_bind (wpAny_field hI rfl (x := .ref P) rfl ?_)
  refine wpAny_bind (nums hI ?_)
  refine wpAny_bind (intf hI ?_)
  show wpAny _ _ (setField (.ref I) 1 (rawInt 1) >>= _) _ _ s
  refine wpAny_bind (wpAny_setField hI rfl (by simp) ?_)
  have hI2 : IsC (s.heap.update I (Obj.mapFields fun x => x.setIfInBounds 1 (rawInt 1))) I (.ref P) 1 res a b := Heap.get?_update_self _ hI rfl
  have k1 : But I s.heap (s.heap.update I (Obj.mapFields fun x => x.setIfInBounds 1 (rawInt 1))) := fun c o hc e => (Heap.get?_update_other _ _ (Ne.symm hc)).trans e
  refine hand (s := { s with heap := s.heap.update I (Obj.mapFields fun x => x.setIfInBounds 1 (rawInt 1)) }) hI2 (hP.at fun o e => k1 P o hne e) hne fun h' T i1 i2 i3 i4 i5 => ?_
  exact wpAny_pure ⟨_, rfl, wpAny_pure (hQ h' T i1 i2 i3 (k1.none i3 i4) (k1.trans i5))⟩
/-- the places that come next -/
def nx (n a b : Nat) : Option (List Nat) := match (match b != 1 + n - 2 with
  | true => some 1
  | false => (match a != 0 + n - 2 with
    | true => some 0
    | false => none)) with
  | none => none
  | some i => some (List.take i [a, b] ++ (List.range (2 - i)).map fun k => [a, b].getD i 0 + 1 + k)
theorem next_item {Q : Option Value → Shared → Prop} {c d : Nat} (hI : IsC s.heap I (.ref P) 1 res a b) (hP : s.heap.IsTuple P pv) (hne : P ≠ I) (hn : nx pv.size a b = some [c, d])
    (hQ : ∀ h' T, IsC h' I (.ref P) 1 (.ref T) c d → h'.IsTuple T #[pv.getD c .none, pv.getD d .none] → T ≠ I → s.heap.get? T = none → But I s.heap h' → Q (some (.ref T)) { s with heap := h' }) : wpAny (model prog w) A (pyNext (.ref I)) Q E s := by
  have hT : s.TypeIs (.ref I) Ty := ⟨_, hI, rfl⟩
  unfold pyNext
  refine wpAny_bind (wpAny_attempt (wpAny_callSpecial?_slot (name := Str.ofString "__next__") hT sl_next (wpAny_call_entry sl_next hT e_next ?_ (a_next _))))
  show wpAny _ _ (field (.ref I) 0 >>= _) _ _ s
  refine wpAny_bind (wpAny_field hI rfl (x := .ref P) rfl ?_)
  refine wpAny_bind (nums hI ?_)
  refine wpAny_bind (intf hI ?_)
  show wpAny _ _ (Builtin.Itertools.itPoolItems (.ref P) >>= _) _ _ s
  refine wpAny_bind (pool hP ?_)
  split
  · rename_i nxt e
    have e : nx pv.size a b = some nxt := e
    rw [hn] at e
    cases e
    have hI2 : IsC (s.heap.update I (Obj.mapFields fun fs => fs.extract 0 3 ++ ([c, d].map fun (n : Nat) => rawInt n).toArray)) I (.ref P) 1 res c d := Heap.get?_update_self _ hI rfl
    have k1 : But I s.heap (s.heap.update I (Obj.mapFields fun fs => fs.extract 0 3 ++ ([c, d].map fun (n : Nat) => rawInt n).toArray)) := fun c o hc e => (Heap.get?_update_other _ _ (Ne.symm hc)).trans e
    refine wpAny_bind ?_
    unfold Builtin.Itertools.itSetNumbersFrom
    refine wpAny_updateFields hI rfl ?_ ?_
    · refine hand (s := { s with heap := s.heap.update I (Obj.mapFields fun fs => fs.extract 0 3 ++ ([c, d].map fun (n : Nat) => rawInt n).toArray) }) hI2 (hP.at fun o e => k1 P o hne e) hne fun h' T i1 i2 i3 i4 i5 => ?_
      exact wpAny_pure ⟨_, rfl, wpAny_pure (hQ h' T i1 i2 i3 (k1.none i3 i4) (k1.trans i5))⟩
    · show (5 : Nat) ≤ _
      rw [sizeLine_eq]
      omega
  · rename_i e
    have e : nx pv.size a b = none := e
    rw [hn] at e
    cases e
theorem stop {α : Type} {E2 : Value → Shared → Prop} {Q : α → Shared → Prop} (hh : A.handled = none) (hI : ∃ o, s.heap.get? I = some o)
    (hQ : ∀ e h', CpRep.StopE e h' → But I s.heap h' → E2 e { s with heap := h' }) : wpAny (model prog w) A (Builtin.Itertools.itStop : Sem α) Q E2 s := by
  unfold Builtin.Itertools.itStop
  refine wpAny_bind ?_
  simp only [newExc, newTuple]
  refine wpAny_bind (wpAny_newObj_type ?_ (by size_fits))
  refine wpAny_bind (m := firstArgMember _ _) (wpAny_of_eq (a := Value.none) (by first | rfl | (simp only [firstArgMember]; rfl)) ?_)
  refine wpAny_newObj_type ?_ (by size_fits)
  simp only [raiseNew]
  refine wpAny_bind (wpAny_handled ?_)
  rw [hh]
  refine wpAny_bind (wpAny_pure (wpAny_throw ?_))
  exact hQ _ _ ⟨_, _, _, rfl, Heap.get?_push_size _ rfl, rfl, rfl, rfl⟩ fun c o _ e => Heap.get?_push_of_some _ (Heap.get?_push_of_some _ e)
theorem ended {Q : Option Value → Shared → Prop} {e : Value} (h : CpRep.StopE e s.heap) (q : Q none s) : wpAny (model prog w) A (isInstance e (.type "StopIteration") >>= fun b => if b = true then pure none else throw e) Q E s := by
  obtain ⟨a, o, vs, rfl, ho, hc, _⟩ := h
  refine wpAny_bind (wpAny_isInstance (T := "StopIteration") (b := true) ⟨o, ho, hc⟩ isSubtype_stop ?_)
  exact wpAny_pure q
theorem last_item {Q : Option Value → Shared → Prop} (hh : A.handled = none) (hI : IsC s.heap I (.ref P) 1 res a b) (hP : s.heap.IsTuple P pv) (hne : P ≠ I) (hn : nx pv.size a b = none)
    (hQ : ∀ h', But I s.heap h' → Q none { s with heap := h' }) : wpAny (model prog w) A (pyNext (.ref I)) Q E s := by
  have hT : s.TypeIs (.ref I) Ty := ⟨_, hI, rfl⟩
  unfold pyNext
  refine wpAny_bind (wpAny_attempt (wpAny_callSpecial?_slot (name := Str.ofString "__next__") hT sl_next (wpAny_call_entry sl_next hT e_next ?_ (a_next _))))
  show wpAny _ _ (field (.ref I) 0 >>= _) _ _ s
  refine wpAny_bind (wpAny_field hI rfl (x := .ref P) rfl ?_)
  refine wpAny_bind (nums hI ?_)
  refine wpAny_bind (intf hI ?_)
  show wpAny _ _ (Builtin.Itertools.itPoolItems (.ref P) >>= _) _ _ s
  refine wpAny_bind (pool hP ?_)
  split
  · rename_i nxt e
    have e : nx pv.size a b = some nxt := e
    rw [hn] at e
    cases e
  · have hI2 : IsC (s.heap.update I (Obj.mapFields fun x => x.setIfInBounds 1 (rawInt 2))) I (.ref P) 2 res a b := Heap.get?_update_self _ hI rfl
    have k1 : But I s.heap (s.heap.update I (Obj.mapFields fun x => x.setIfInBounds 1 (rawInt 2))) := fun c o hc e => (Heap.get?_update_other _ _ (Ne.symm hc)).trans e
    refine wpAny_bind (wpAny_setField hI rfl (by simp) ?_)
    exact stop (s := { s with heap := s.heap.update I (Obj.mapFields fun x => x.setIfInBounds 1 (rawInt 2)) }) hh ⟨_, hI2⟩ fun e h' he hb => ended (s := { s with heap := h' }) he (hQ _ (k1.trans hb))
theorem no_item {Q : Option Value → Shared → Prop} (hh : A.handled = none) (hI : IsC s.heap I (.ref P) 2 res a b) 
    (hQ : ∀ h', But I s.heap h' → Q none { s with heap := h' }) : wpAny (model prog w) A (pyNext (.ref I)) Q E s := by
  have hT : s.TypeIs (.ref I) Ty := ⟨_, hI, rfl⟩
  unfold pyNext
  refine wpAny_bind (wpAny_attempt (wpAny_callSpecial?_slot (name := Str.ofString "__next__") hT sl_next (wpAny_call_entry sl_next hT e_next ?_ (a_next _))))
  show wpAny _ _ (field (.ref I) 0 >>= _) _ _ s
  refine wpAny_bind (wpAny_field hI rfl (x := .ref P) rfl ?_)
  refine wpAny_bind (nums hI ?_)
  refine wpAny_bind (intf hI ?_)
  show wpAny _ _ (rule _ >>= _) _ _ s
  refine wpAny_bind (wpAny_rule ?_)
  exact stop hh ⟨_, hI⟩ fun e h' he hb => ended (s := { s with heap := h' }) he (hQ _ hb)
end
end DL.Co
namespace DL.Co
open PySem PySem.Spec PyProof.Rows
open Sem (wp)
/-- the pairs that come behind the one at a, b -/
def Chain (n : Nat) : Nat → Nat → List (Nat × Nat) → Prop
  | a, b, [] => nx n a b = none
  | a, b, q :: r => nx n a b = some [q.1, q.2] ∧ Chain n q.1 q.2 r
/-- what has been handed out -/
def Held (pv : Array Value) (S I : Addr) (h : Heap) (q : Addr × (Nat × Nat)) : Prop := h.IsTuple q.1 #[pv.getD q.2.1 .none, pv.getD q.2.2 .none] ∧ q.1 ≠ S ∧ q.1 ≠ I
def But2 (S I : Addr) (h h' : Heap) : Prop := ∀ c o, c ≠ I → c ≠ S → h.get? c = some o → h'.get? c = some o
theorem But2.trans {S I : Addr} {h h' h'' : Heap} (x : But2 S I h h') (y : But2 S I h' h'') : But2 S I h h'' := fun c o h1 h2 e => y c o h1 h2 (x c o h1 h2 e)
theorem But2.none {S I c : Addr} {h h' : Heap} (x : But2 S I h h') (hc : c ≠ I) (hs : c ≠ S) (e : h'.get? c = none) : h.get? c = none := by
  cases q : h.get? c with
  | none => rfl
  | some o =>
    rw [x c o hc hs q] at e
    cases e
theorem But.two {S I : Addr} {h h' : Heap} (x : But I h h') : But2 S I h h' := fun c o h1 _ e => x c o h1 e
theorem Held.keep {pv : Array Value} {S I : Addr} {h h' : Heap} {q : Addr × (Nat × Nat)} (x : Held pv S I h q) (k : But2 S I h h') : Held pv S I h' q := ⟨x.1.at fun o e => k _ o x.2.2 x.2.1 e, x.2⟩
abbrev lst (acc : Array Value) (c : Nat) : Obj := { cls := .type "list", dict := none, data := .seq acc c, slots := #[] }
section
variable {prog : Program} {w : World} {A : Around} {I P S : Addr} {pv : Array Value} {fin : Value} {R : Result → Shared → Prop}
theorem loop (h0 : Heap) (hh : A.handled = none) (hPI : P ≠ I) (hPS : P ≠ S) (hSI : S ≠ I) : ∀ (r : List (Nat × Nat)) (a b : Nat) (res : Value) (s : Shared) (dn : List (Addr × (Nat × Nat))) (acc : Array Value) (c : Nat),
    Chain pv.size a b r → IsC s.heap I (.ref P) 1 res a b → s.heap.IsTuple P pv → s.heap.get? S = some (lst acc c) → acc.toList = dn.map (fun q => Value.ref q.1) → (∀ q ∈ dn, Held pv S I s.heap q) → dn.length + r.length ≤ 1000 → But2 S I h0 s.heap → (∀ q ∈ dn, h0.get? q.1 = none) → (dn.map Prod.fst).Nodup →
    (∀ (h' : Heap) (dn' : List (Addr × (Nat × Nat))) (acc' : Array Value) (c' : Nat), h'.get? S = some (lst acc' c') → acc'.toList = dn'.map (fun q => Value.ref q.1) → (∀ q ∈ dn', Held pv S I h' q) → dn'.map Prod.snd = dn.map Prod.snd ++ r → But2 S I s.heap h' → (∀ q ∈ dn', h0.get? q.1 = none) → (dn'.map Prod.fst).Nodup → R (.ok (.ret fin)) { s with heap := h' }) →
    codeAny (model prog w) A (.builtin "list.extend.loop" ⟨[.ref S, .ref I, fin], []⟩) R s := by
  intro r
  induction r with
  | nil =>
    intro a b res s dn acc c ch hI hP hS ha hd hl hb hf hnd hR
    refine codeAny_builtin F.entry_extend_loop ?_
    rw [Around.under_plainId F.plain_extend_loop _]
    show wpAny _ A.in1 (pyNext (.ref I) >>= _) _ _ s
    refine wpAny_bind (last_item (A := A.in1) hh hI hP hPI ch fun h' k => ?_)
    refine wpAny_pure (hR h' dn acc c (k S _ hSI hS) ha (fun q hq => (hd q hq).keep k.two) (by simp) k.two hf hnd)
  | cons p r ih =>
    intro a b res s dn acc c ch hI hP hS ha hd hl hb hf hnd hR
    refine codeAny_builtin F.entry_extend_loop ?_
    rw [Around.under_plainId F.plain_extend_loop _]
    show wpAny _ A.in1 (pyNext (.ref I) >>= _) _ _ s
    refine wpAny_bind (next_item (A := A.in1) hI hP hPI ch.1 fun h' T i1 i2 i3 i4 i5 => ?_)
    have hS' : h'.get? S = some (lst acc c) := i5 S _ hSI hS
    have hTS : T ≠ S := fun z => by
      subst z
      rw [hS] at i4
      cases i4
    have hsz : acc.size = dn.length := by rw [← Array.length_toList, ha, List.length_map]
    show wpAny _ A.in1 (updateSeq S (·.push (.ref T)) >>= _) _ _ _
    refine wpAny_bind ?_
    have k2 : But2 S I h' (h'.update S (Obj.mapSeq (·.push (.ref T)))) := fun d o _ h2 e => (Heap.get?_update_other _ _ (Ne.symm h2)).trans e
    have hl : dn.length + (r.length + 1) ≤ 1000 := hl
    refine wpAny_updateSeq hS' rfl (wpAny_pure ⟨plainId_quiet F.plain_extend_loop _, ih p.1 p.2 (.ref T) { s with heap := h'.update S (Obj.mapSeq (·.push (.ref T))) } (dn ++ [(T, p)]) (acc.push (.ref T)) _ ch.2 ?_ ?_ (Heap.get?_update_self _ hS' rfl) ?_ ?_ ?_ ((hb.trans i5.two).trans k2) ?_ ?_ ?_⟩)
      (by rw [hsz, sizeLine_eq]; omega) (by show (acc.push (.ref T)).size ≤ sizeLine + 1; rw [Array.size_push, hsz, sizeLine_eq]; omega)
    · exact (Heap.get?_update_other _ _ hSI).trans i1
    · exact (hP.at fun o e => i5 P o hPI e).at fun o e => k2 P o hPI hPS e
    · rw [Array.toList_push, ha, List.map_append]
      rfl
    · intro q hq
      rcases List.mem_append.mp hq with z | z
      · exact ((hd q z).keep i5.two).keep k2
      · have : q = (T, p) := by simpa using z
        subst this
        exact ⟨i2.at fun o e => k2 T o i3 hTS e, hTS, i3⟩
    · rw [List.length_append, List.length_singleton]; omega
    · intro q hq
      rcases List.mem_append.mp hq with z | z
      · exact hf q z
      · have : q = (T, p) := by simpa using z
        subst this
        exact hb.none i3 hTS i4
    · rw [List.map_append, List.nodup_append]
      refine ⟨hnd, by simp, fun x hx y hy => ?_⟩
      have e : y = T := by simpa using hy
      subst e
      obtain ⟨q, hq, rfl⟩ := List.mem_map.mp hx
      intro z
      obtain ⟨o, ho, _⟩ := (hd q hq).1
      rw [z, i4] at ho
      cases ho
    · intro h'' dn' acc' c' q1 q2 q3 q4 q5
      refine hR h'' dn' acc' c' q1 q2 q3 (by rw [q4]; simp) ((i5.two.trans k2).trans q5)
/-- all pairs of n places -/
def Alls (n : Nat) (L : List (Nat × Nat)) : Prop := (n < 2 ∧ L = []) ∨ (2 ≤ n ∧ ∃ r, L = (0, 1) :: r ∧ Chain n 0 1 r)
theorem whole (h0 : Heap) {s : Shared} {c0 : Nat} {L : List (Nat × Nat)} (hh : A.handled = none) (hPI : P ≠ I) (hPS : P ≠ S) (hSI : S ≠ I) (hL : Alls pv.size L) (hl : L.length ≤ 1000) (hI : IsC s.heap I (.ref P) (if 2 > pv.size then 2 else 0) .none 0 1) (hP : s.heap.IsTuple P pv) (hS : s.heap.get? S = some (lst #[] c0)) (hb : But2 S I h0 s.heap)
    (hR : ∀ (h' : Heap) (dn' : List (Addr × (Nat × Nat))) (acc' : Array Value) (c' : Nat), h'.get? S = some (lst acc' c') → acc'.toList = dn'.map (fun q => Value.ref q.1) → (∀ q ∈ dn', Held pv S I h' q) → dn'.map Prod.snd = L → But2 S I s.heap h' → (∀ q ∈ dn', h0.get? q.1 = none) → (dn'.map Prod.fst).Nodup → R (.ok (.ret fin)) { s with heap := h' }) :
    codeAny (model prog w) A (.builtin "list.extend.loop" ⟨[.ref S, .ref I, fin], []⟩) R s := by
  rcases hL with ⟨h2, rfl⟩ | ⟨h2, r, rfl, ch⟩
  · rw [if_pos h2] at hI
    refine codeAny_builtin F.entry_extend_loop ?_
    rw [Around.under_plainId F.plain_extend_loop _]
    show wpAny _ A.in1 (pyNext (.ref I) >>= _) _ _ s
    refine wpAny_bind (no_item (A := A.in1) hh hI fun h' k => ?_)
    exact wpAny_pure (hR h' [] #[] c0 (k S _ hSI hS) rfl (fun q hq => by cases hq) rfl k.two (fun q hq => by cases hq) List.nodup_nil)
  · rw [if_neg (by omega)] at hI
    refine codeAny_builtin F.entry_extend_loop ?_
    rw [Around.under_plainId F.plain_extend_loop _]
    show wpAny _ A.in1 (pyNext (.ref I) >>= _) _ _ s
    refine wpAny_bind (first_item (A := A.in1) hI hP hPI fun h' T i1 i2 i3 i4 i5 => ?_)
    have hS' : h'.get? S = some (lst #[] c0) := i5 S _ hSI hS
    have hTS : T ≠ S := fun z => by
      subst z
      rw [hS] at i4
      cases i4
    show wpAny _ A.in1 (updateSeq S (·.push (.ref T)) >>= _) _ _ _
    refine wpAny_bind ?_
    have k2 : But2 S I h' (h'.update S (Obj.mapSeq (·.push (.ref T)))) := fun d o _ h2 e => (Heap.get?_update_other _ _ (Ne.symm h2)).trans e
    refine wpAny_updateSeq hS' rfl (wpAny_pure ⟨plainId_quiet F.plain_extend_loop _, loop h0 (A := A) hh hPI hPS hSI r 0 1 (.ref T) { s with heap := h'.update S (Obj.mapSeq (·.push (.ref T))) } [(T, (0, 1))] (#[].push (.ref T)) _ ch ?_ ?_ (Heap.get?_update_self _ hS' rfl) rfl ?_ ?_ ((hb.trans i5.two).trans k2) ?_ (by simp) ?_⟩)
      (by show (0 : Nat) ≤ _; omega) (by show (1 : Nat) ≤ _; rw [sizeLine_eq]; omega)
    · exact (Heap.get?_update_other _ _ hSI).trans i1
    · exact (hP.at fun o e => i5 P o hPI e).at fun o e => k2 P o hPI hPS e
    · intro q hq
      have : q = (T, (0, 1)) := by simpa using hq
      subst this
      exact ⟨i2.at fun o e => k2 T o i3 hTS e, hTS, i3⟩
    · have hl : r.length + 1 ≤ 1000 := hl
      show 1 + r.length ≤ 1000
      omega
    · intro q hq
      have : q = (T, (0, 1)) := by simpa using hq
      subst this
      exact hb.none i3 hTS i4
    · intro h'' dn' acc' c' q1 q2 q3 q4 q5
      exact hR h'' dn' acc' c' q1 q2 q3 q4 ((i5.two.trans k2).trans q5)
end
end DL.Co
namespace DL.Co
open PySem PySem.Spec PyProof.Rows
open Sem (wp)
section
variable {prog : Program} {w : World} {A : Around} {E : Value → Shared → Prop} {s : Shared} {I P : Addr} {pv : Array Value} {L : List (Nat × Nat)}
/-- the pairs stand in h -/
structure Out (pv : Array Value) (h0 h : Heap) (L : List (Nat × Nat)) (dn : List (Addr × (Nat × Nat))) : Prop where
  snd : dn.map Prod.snd = L
  nod : (dn.map Prod.fst).Nodup
  new : ∀ q ∈ dn, h0.get? q.1 = none
  tup : ∀ q ∈ dn, h.IsTuple q.1 #[pv.getD q.2.1 .none, pv.getD q.2.2 .none]
theorem collect_c {Q : List Value → Shared → Prop} (hh : A.handled = none) (hPI : P ≠ I) (hL : Alls pv.size L) (hl : L.length ≤ 1000) (hI : IsC s.heap I (.ref P) (if 2 > pv.size then 2 else 0) .none 0 1) (hP : s.heap.IsTuple P pv)
    (hQ : ∀ (h' : Heap) (dn : List (Addr × (Nat × Nat))), Out pv s.heap h' L dn → But I s.heap h' → (∀ q ∈ dn, q.1 ≠ I) → Q (dn.map fun q => Value.ref q.1) { s with heap := h' }) :
    wpAny (model prog w) A (collect (.ref I)) Q E s := by
  have hSI : s.heap.objs.size ≠ I := Nat.ne_of_gt (Heap.lt_size hI)
  have hPS : P ≠ s.heap.objs.size := by
    obtain ⟨o, ho, _⟩ := hP
    exact Nat.ne_of_lt (Heap.lt_size ho)
  unfold collect
  refine wpAny_bind (wpAny_runValue (codeAny_builtin F.entry_proto_collect ?_))
  rw [Around.under_plainId F.plain_proto_collect _]
  show wpAny _ A.in1 (newList [] >>= fun l => again (.builtin "list.__iadd__" ⟨[l, .ref I], []⟩)) _ _ s
  refine wpAny_bind (wpAny_newObj_type ?_)
  refine wpAny_pure ⟨plainId_quiet F.plain_list_iadd _, codeAny_builtin F.entry_list_iadd ?_⟩
  rw [Around.under_plainId F.plain_list_iadd _]
  have k0 : ∀ b o, s.heap.get? b = some o → (s.heap.push { cls := .type "list", data := .seq ([] : List Value).toArray }).get? b = some o := fun b o e => Heap.get?_push_of_some _ e
  have hI1 := k0 _ _ hI
  have hT1 : Shared.TypeIs { s with heap := s.heap.push { cls := .type "list", data := .seq ([] : List Value).toArray } } (.ref I) Ty := ⟨_, hI1, rfl⟩
  show wpAny _ A.in1 (Builtin.List.listExtendWith (.ref s.heap.objs.size) (.ref I) (.ref s.heap.objs.size)) _ _ _
  unfold Builtin.List.listExtendWith
  refine wpAny_bind (wpAny_typeOf hT1 ?_)
  have n1 : Builtin.List.listSameRef (.ref s.heap.objs.size) (.ref I) = false := by simp [Builtin.List.listSameRef, hSI]
  have n2 : (Value.type Ty == Value.type "list") = false := by decide
  have n3 : (Value.type Ty == Value.type "tuple") = false := by decide
  simp only [n1, n2, n3, Bool.or_false, Bool.false_eq_true, if_false]
  refine wpAny_bind (wpAny_pyIter_slot hT1 sl_iter (wpAny_call_entry sl_iter hT1 e_iter ?_ (a_iter _)))
  show wpAny _ _ (ret (.ref I)) _ _ _
  refine wpAny_pure ⟨_, rfl, Ty, _, hT1, sl_next.lookup, ?_⟩
  refine wpAny_bind (wpAny_holding ?_)
  unfold Builtin.List.listLengthHint
  refine wpAny_bind (wpAny_specialOf hT1 noLen ?_)
  show wpAny _ A.in1 (specialOf (Value.ref I) (Str.ofString "__length_hint__") >>= _) _ _ _
  refine wpAny_bind (wpAny_specialOf hT1 noHint ?_)
  refine wpAny_pure ?_
  show wpAny _ A.in1 (rule "list.extend.makes-room" >>= fun _ => Builtin.List.listTouch (.ref s.heap.objs.size) >>= fun _ =>
    again (.builtin "list.extend.loop" ⟨[.ref s.heap.objs.size, .ref I, .ref s.heap.objs.size], []⟩)) _ _ _
  refine wpAny_bind (wpAny_rule ?_)
  have hS1 : (s.heap.push { cls := .type "list", data := .seq ([] : List Value).toArray }).get? s.heap.objs.size = some { cls := .type "list", data := .seq ([] : List Value).toArray } := Heap.get?_push_size _ rfl
  refine wpAny_bind ?_
  show wpAny _ A.in1 (updateSeq s.heap.objs.size (·.push .none) >>= fun _ => updateSeq s.heap.objs.size (·.pop)) _ _ _
  refine wpAny_bind (wpAny_updateSeq hS1 rfl ?_)
  have hS2 := Heap.get?_update_self (Obj.mapSeq (·.push Value.none)) hS1 rfl
  refine wpAny_updateSeq hS2 rfl ?_
  have hS3 := Heap.get?_update_self (Obj.mapSeq (·.pop)) hS2 rfl
  have oth : ∀ b o, b ≠ s.heap.objs.size → (s.heap.push { cls := .type "list", data := .seq ([] : List Value).toArray }).get? b = some o →
      (((s.heap.push { cls := .type "list", data := .seq ([] : List Value).toArray }).update s.heap.objs.size (Obj.mapSeq (·.push Value.none))).update s.heap.objs.size (Obj.mapSeq (·.pop))).get? b = some o :=
    fun b o hb e => (Heap.get?_update_other _ _ (Ne.symm hb)).trans ((Heap.get?_update_other _ _ (Ne.symm hb)).trans e)
  have kk : ∀ b o, s.heap.get? b = some o → (((s.heap.push { cls := .type "list", data := .seq ([] : List Value).toArray }).update s.heap.objs.size (Obj.mapSeq (·.push Value.none))).update s.heap.objs.size (Obj.mapSeq (·.pop))).get? b = some o :=
    fun b o e => oth b o (Nat.ne_of_lt (Heap.lt_size e)) (k0 b o e)
  refine wpAny_pure ⟨plainId_quiet F.plain_extend_loop _, whole s.heap (A := A) hh hPI hPS hSI hL hl (kk _ _ hI) (hP.at fun o e => kk _ _ e) hS3 (fun b o _ _ e => kk b o e) fun h' dn acc c' q1 q2 q3 q4 q5 q6 q7 => ?_⟩
  · show wpAny _ A (load s.heap.objs.size >>= _) _ _ _
    refine wpAny_bind (wpAny_load q1 ?_)
    refine wpAny_pure ?_
    show Q acc.toList _
    rw [q2]
    exact hQ h' dn ⟨q4, q7, q6, fun q hq => (q3 q hq).1⟩ (fun b o hb e => q5 b o hb (Nat.ne_of_lt (Heap.lt_size e)) (kk b o e)) fun q hq => (q3 q hq).2.2
theorem code_tup {Q1 : Value → Shared → Prop} (hh : A.handled = none) (hPI : P ≠ I) (hL : Alls pv.size L) (hl : L.length ≤ 1000) (hI : IsC s.heap I (.ref P) (if 2 > pv.size then 2 else 0) .none 0 1) (hP : s.heap.IsTuple P pv)
    (h : ∀ (h' : Heap) (dn : List (Addr × (Nat × Nat))), Out pv s.heap h' L dn → But I s.heap h' → (∀ q ∈ dn, q.1 ≠ I) → Q1 (.ref h'.objs.size) { s with heap := h'.push { cls := .type "tuple", data := .seq (dn.map fun q => Value.ref q.1).toArray } }) :
    codeAny (model prog w) A (.call (.builtin "tuple.__new__") ⟨[.type "tuple", .ref I], []⟩) (wants Q1 E) s := by
  refine codeAny_of_tree ?_
  show wpAny _ A.in1 (checkBuiltinCall "tuple.__new__" _ >>= fun _ => again (.builtin "tuple.__new__" ⟨[.type "tuple", .ref I], []⟩)) _ _ s
  refine wpAny_bind (wpAny_of_eq (F.newCall_tuple_1 _) (wpAny_pure ⟨plainId_quiet F.plain_tuple_new _, codeAny_builtin F.entry_tuple_new ?_⟩))
  rw [Around.under_plainId F.plain_tuple_new _]
  have hsub := sub_tuple_self
  have hinit := init_tuple_lookup
  have hmh := madeHere_tuple
  have hTI : s.TypeIs (.ref I) Ty := ⟨_, hI, rfl⟩
  have hh1 : A.in1.handled = none := hh
  wp_walk using wpAny_typeOf hTI, collect_c (A := A.in1) hh1 hPI hL hl hI hP
  intro h' dn o1 o2 o3
  show wpAny _ _ (Builtin.Tuple.tupleExact (dn.map fun q => Value.ref q.1).toArray >>= fun v => ret v) _ _ _
  unfold Builtin.Tuple.tupleExact
  refine wpAny_bind (wpAny_newObj_type ?_ ?_)
  · exact wpAny_pure (h h' dn o1 o2 o3)
  · show (dn.map fun q => Value.ref q.1).toArray.size ≤ sizeLine
    have e : dn.length = L.length := by rw [← o1.snd, List.length_map]
    rw [List.size_toArray, List.length_map, e, sizeLine_eq]
    omega
theorem call_tup {Q : Value → Shared → Prop} (hh : A.handled = none) (hPI : P ≠ I) (hL : Alls pv.size L) (hl : L.length ≤ 1000) (hI : IsC s.heap I (.ref P) (if 2 > pv.size then 2 else 0) .none 0 1) (hP : s.heap.IsTuple P pv)
    (hQ : ∀ (h' : Heap) (dn : List (Addr × (Nat × Nat))), Out pv s.heap h' L dn → But I s.heap h' → (∀ q ∈ dn, q.1 ≠ I) → Q (.ref h'.objs.size) { s with heap := h'.push { cls := .type "tuple", data := .seq (dn.map fun q => Value.ref q.1).toArray } }) :
    wpAny (model prog w) A (call (.type "tuple") [.ref I]) Q E s := by
  refine callType_codes (Q₁ := fun obj s₁ => s₁.TypeIs obj "tuple" ∧ Q obj s₁) F.called_tuple (F.typeCall_tuple_1 _) F.entry_object_init
    (code_tup (A := A.in1) hh hPI hL hl hI hP fun h' dn o1 o2 o3 => ⟨⟨_, Heap.get?_push_size _ rfl, rfl⟩, hQ h' dn o1 o2 o3⟩) fun obj s1 h1 => ?_
  exact ⟨h1.1, F.args_object_init_2 obj _, object_init_meets F.called_tuple.init.lookup F.called_tuple.made (by decide) prog w A.in1 _ s1 ⟨h1.1, rfl, h1.2⟩⟩
theorem call_comb {Q : Value → Shared → Prop} {r : Addr} {n : Nat} {t u v tk2 : Tok} {m : Int} (hh : A.handled = none) (hr : IsRange s.heap r 0 m 1 t u v) (hsmall : Builtin.Range.small 0 m 1 = true) (hn : Builtin.Range.rangeSize 0 m 1 = n) (hlen : n ≤ 2 ^ 24)
    (hQ : ∀ (h' : Heap) (tk : Nat) (acc : Array Value) (P : Addr), (∀ b o, s.heap.get? b = some o → h'.get? b = some o) → ItemsOf (fun i v => ∃ t, v = .int (0 + i * 1) t) acc n → h'.IsTuple P acc →
      Q (.ref h'.objs.size) { s with heap := h'.push { cls := .type Ty, data := .fields #[.ref P, rawInt (if 2 > n then 2 else 0), .none, rawInt ((0 : Nat) : Int), rawInt ((1 : Nat) : Int)] }, toks := tk }) :
    wpAny (model prog w) A (call (.type Ty) [.ref r, .int 2 tk2]) Q E s := by
  refine callType_codes (Q₁ := fun obj s₁ => s₁.TypeIs obj Ty ∧ Q obj s₁) called (typeCall2 _ _) F.entry_object_init
    (code_new (A := A.in1) hh hr hsmall hn hlen fun h' tk acc P k i p => ⟨⟨_, Heap.get?_push_size _ rfl, rfl⟩, hQ h' tk acc P k i p⟩) fun obj s1 h1 => ?_
  exact ⟨h1.1, F.args_object_init_3 obj _ _, object_init_meets called.init.lookup called.made (by decide) prog w A.in1 _ s1 ⟨h1.1, rfl, h1.2⟩⟩
end
end DL.Co
namespace L2
open PySem PySem.Spec PyProof.Rows
section
variable {P : Program} {w : World} {fs : List Addr} {H H1 : Hp} {h hF : Heap} {a : Addr} {o : HO}
theorem ObjOk.at_ (x : ObjOk P w H h a o) : ∃ u, h.get? a = some u := by
  cases o with
  | lst xs => obtain ⟨_, _, _, _, e⟩ := x; exact ⟨_, e⟩
  | tup xs => obtain ⟨_, _, _, o, e, _⟩ := x; exact ⟨_, e⟩
  | dK kvs => obtain ⟨_, _, _, _, o, _, _, e, _⟩ := x; exact ⟨_, e⟩
  | dT kvs => obtain ⟨_, _, _, _, o, _, _, e, _⟩ := x; exact ⟨_, e⟩
  | set S n => obtain ⟨o, _, _, _, e, _⟩ := x; exact ⟨_, e⟩
  | ins C dx fs => obtain ⟨_, _, _, e, _⟩ := x; exact ⟨_, e⟩
  | own y => exact x
  | xd fs => obtain ⟨_, ⟨_, _, _, e, _⟩, _⟩ := x; exact ⟨_, e⟩
  | rng lo hi => obtain ⟨_, _, _, e⟩ := x; exact ⟨_, e⟩
  | frz ob u => exact ⟨_, x.1⟩
  | tbl ps => exact ⟨_, x⟩
  | met f y => exact ⟨_, x⟩
  | ext φ => exact x.2.1
/-- one object more is tracked: it was not there at the start -/
theorem track1 (u : Un fs [] H H1 h hF) (ok : HOk P w H1 hF) (ha : h.get? a = none) (hn : H1 a = none) (new : ObjOk P w (upd H1 a o) hF a o) : Un fs [] H (upd H1 a o) h hF ∧ HOk P w (upd H1 a o) hF := by
  refine ⟨⟨u.keep, u.slot, fun b v q n hx => ?_, u.there, fun b xs q => ?_, fun b v xs q => ?_, fun b ps q => ?_⟩, fun b v e => ?_⟩
  · have hb : b ≠ a := fun z => by
      subst z
      rw [ha] at q
      cases q
    rw [upd_ne hb]
    exact u.free b v q n hx
  · have q' := u.tups b xs q
    rw [upd_ne (ne_of_none q' hn)]
    exact q'
  · have q' := u.frzs b v xs q
    rw [upd_ne (ne_of_none q' hn)]
    exact q'
  · obtain ⟨m, q'⟩ := u.tbls b ps q
    exact ⟨m, by rw [upd_ne (ne_of_none q' hn)]; exact q'⟩
  · by_cases hb : b = a
    · subst hb
      rw [upd_same] at e
      cases e
      exact new
    · rw [upd_ne hb] at e
      exact (ok b v e).stay (fun c v _ q => q) (fun c q => by rw [upd_ne (ne_of_none q hn)]; exact q) fun c xs q => by rw [upd_ne (ne_of_none q hn)]; exact q
end
theorem nx_lt {n a b c d : Nat} (h : DL.Co.nx n a b = some [c, d]) (h1 : a < b) (h2 : b < n) : c < d ∧ d < n := by
  unfold DL.Co.nx at h
  cases e1 : (b != 1 + n - 2) with
  | true =>
    rw [e1] at h
    have e : (b : Nat) ≠ 1 + n - 2 := by simpa using e1
    simp at h
    omega
  | false =>
    rw [e1] at h
    have e : b = 1 + n - 2 := by simpa using e1
    cases e2 : (a != 0 + n - 2) with
    | true =>
      rw [e2] at h
      have e' : a ≠ 0 + n - 2 := by simpa using e2
      have h : some (List.take 0 [a, b] ++ (List.range (2 - 0)).map fun k => [a, b].getD 0 0 + 1 + k) = some [c, d] := h
      simp [List.range_succ] at h
      omega
    | false =>
      rw [e2] at h
      cases h
theorem chain_lt {n : Nat} : ∀ {r : List (Nat × Nat)} {a b : Nat}, DL.Co.Chain n a b r → a < b → b < n → ∀ q ∈ r, q.1 < n ∧ q.2 < n
  | [], _, _, _, _, _ => fun q hq => by cases hq
  | p :: r, a, b, h, h1, h2 => fun q hq => by
    obtain ⟨g1, g2⟩ := nx_lt h.1 h1 h2
    rcases List.mem_cons.mp hq with z | z
    · subst z
      exact ⟨by omega, g2⟩
    · exact chain_lt h.2 g1 g2 q z
theorem alls_lt {n : Nat} {L : List (Nat × Nat)} (h : DL.Co.Alls n L) : ∀ q ∈ L, q.1 < n ∧ q.2 < n := by
  rcases h with ⟨_, rfl⟩ | ⟨h2, r, rfl, ch⟩
  · intro q hq
    cases hq
  · intro q hq
    rcases List.mem_cons.mp hq with z | z
    · subst z
      exact ⟨by show 0 < n; omega, by show 1 < n; omega⟩
    · exact chain_lt ch (by omega) (by omega) q z
/-- pairs of whole numbers, laid -/
def updT (H : Hp) : List (Addr × (Nat × Nat)) → Hp
  | [] => H
  | q :: r => updT (upd H q.1 (.tup [.int (q.2.1 : Nat), .int (q.2.2 : Nat)])) r
theorem updT_ne : ∀ {dn : List (Addr × (Nat × Nat))} {H : Hp} {b : Addr}, b ∉ dn.map Prod.fst → updT H dn b = H b
  | [], _, _, _ => rfl
  | q :: r, H, b, h => by
    rw [List.map_cons, List.mem_cons] at h
    show updT _ r b = _
    rw [updT_ne (fun z => h (.inr z)), upd_ne fun z => h (.inl z)]
section
variable {P : Program} {w : World} {fs : List Addr} {H : Hp} {h hF : Heap}
theorem trackT : ∀ {dn : List (Addr × (Nat × Nat))} {H1 : Hp}, (dn.map Prod.fst).Nodup → Un fs [] H H1 h hF → HOk P w H1 hF → (∀ q ∈ dn, h.get? q.1 = none) → (∀ q ∈ dn, H1 q.1 = none) → (∀ q ∈ dn, ∃ t u, hF.IsTuple q.1 #[.int (q.2.1 : Nat) t, .int (q.2.2 : Nat) u]) →
    Un fs [] H (updT H1 dn) h hF ∧ HOk P w (updT H1 dn) hF
  | [], _, _, u, ok, _, _, _ => ⟨u, ok⟩
  | q :: r, H1, nd, u, ok, h1, h2, h3 => by
    rw [List.map_cons, List.nodup_cons] at nd
    obtain ⟨t, v, hq⟩ := h3 q List.mem_cons_self
    obtain ⟨u', ok'⟩ := track1 (o := .tup [.int (q.2.1 : Nat), .int (q.2.2 : Nat)]) u ok (h1 q List.mem_cons_self) (h2 q List.mem_cons_self) (show ObjOk P w _ _ _ (.tup _) from ⟨by rw [sizeLine_eq]; show (2 : Nat) ≤ _; omega, [.int (q.2.1 : Nat) t, .int (q.2.2 : Nat) v], .cons ⟨_, rfl⟩ (.cons ⟨_, rfl⟩ .nil), hq⟩)
    exact trackT (dn := r) nd.2 u' ok' (fun p hp => h1 p (List.mem_cons_of_mem _ hp)) (fun p hp => by
      have : p.1 ≠ q.1 := fun z => nd.1 (by rw [← z]; exact List.mem_map_of_mem hp)
      rw [upd_ne this]
      exact h2 p (List.mem_cons_of_mem _ hp)) (fun p hp => h3 p (List.mem_cons_of_mem _ hp))
end
/-- tuple(combinations(range(0, n), 2)) -/
def tCombs (te : St → Hp → (Int → Int → Hp → Prop) → Prop) : TE := fun σ H Q => te σ H fun a b H1 => a = 0 ∧ RgOk 0 b ∧ ∃ L : List (Nat × Nat), DL.Co.Alls b.toNat L ∧ L.length ≤ 1000 ∧
  ∀ (dn : List (Addr × (Nat × Nat))) (q : Addr), dn.map Prod.snd = L → (dn.map Prod.fst).Nodup → (∀ d ∈ dn, H1 d.1 = none) → updT H1 dn q = none → Q (.ref q) (upd (updT H1 dn) q (.tup (dn.map fun d => V.ref d.1)))
theorem vals_refs' : ∀ dn : List (Addr × (Nat × Nat)), Vals (dn.map fun d => V.ref d.1) (dn.map fun q => Value.ref q.1)
  | [] => .nil
  | d :: r => .cons (show RelV (.ref d.1) (.ref d.1) from rfl) (vals_refs' r)
theorem con_int {A : Around} {M : Model} {E : Value → Shared → Prop} {s : Shared} {i : Int} {j} {pos : Pos} {env : PySem.Env} {Q : Value → Shared → Prop} (h : ∀ t, Q (.int i t) { s with toks := s.toks + 1 }) : wpAny M A (eval (.Constant (.int i) j pos) env) Q E s := wpAny_Constant_int (h _)
theorem pe_combs {X : Cx} {x : Str} {e : Expr} {te : St → Hp → (Int → Int → Hp → Prop) → Prop} {p pc pk pos pos2 : Pos} {j} (hc : X.calm = true) (hg : Gl X "tuple") (hm : X.mg "tuple" = none) (hgx : Gl X x) (hmx : X.mg x = some (.type DL.Co.Ty)) (hdb : (x == ("__debug__" : Str)) = false) (he : PRg X e te)
    (na : starEach [e, .Constant (.int 2) j pk] X.env = (false, eval e X.env) :: starEach [.Constant (.int 2) j pk] X.env) : PE X (.Call (.Name "tuple" p) [.Call (.Name x pc) [e, .Constant (.int 2) j pk] [] pos2] [] pos) (tCombs te) := by
  refine ⟨fun pins s σ H Q I h => ?_⟩
  refine Call_ (ld_blt I hg hm boot_tuple (PyProof.Rows.callWith_type1 (args_cons ?_ rfl) rfl))
  refine Call_ (ld_glob I hgx hmx (PyProof.Rows.callWith_type1 (args_cons (thn (he pins s σ H _ I h) fun y s1 ⟨r, a, b, t, u, v, H1, ex, hr, I1, ha, ok, L, hL, hl, q⟩ => args_cons (con_int fun tk => args_nil ?_) rfl) na) na rfl) hdb)
  subst ex ha
  obtain ⟨b1, b2, b3, b4, b5⟩ := ok
  have hn : Builtin.Range.rangeSize 0 b 1 = ((b - 0).toNat : Nat) := rangeSize_nat 0 b
  rw [Int.sub_zero] at hn b5
  refine DL.Co.call_comb (n := b.toNat) (I1.ok.hd hc) hr (small_one b1 b2 b3 b4) hn b5 fun h' tk acc P k hi hP => ?_
  have hacc : acc.size = b.toNat := hi.1
  have hPI : P ≠ h'.objs.size := by
    obtain ⟨o, ho, _⟩ := hP
    exact Nat.ne_of_lt (Heap.lt_size ho)
  refine args_nil ?_
  refine DL.Co.call_tup (pv := acc) (I1.ok.hd hc) hPI (by rw [hacc]; exact hL) hl (by rw [hacc]; exact Heap.get?_push_size _ rfl) (hP.at fun o e => Heap.get?_push_of_some _ e) fun h2 dn out bt ni => ?_
  have kA : ∀ c o, s1.heap.get? c = some o → (h'.push { cls := .type DL.Co.Ty, data := .fields #[.ref P, rawInt (if 2 > b.toNat then 2 else 0), .none, rawInt ((0 : Nat) : Int), rawInt ((1 : Nat) : Int)] }).get? c = some o := fun c o e => Heap.get?_push_of_some _ (k c o e)
  have kB : ∀ c o, s1.heap.get? c = some o → h2.get? c = some o := fun c o e => bt c o (Nat.ne_of_lt (Heap.lt_size (k c o e))) (kA c o e)
  have kF : ∀ c o, s1.heap.get? c = some o → (h2.push { cls := .type "tuple", data := .seq (dn.map fun q => Value.ref q.1).toArray }).get? c = some o := fun c o e => Heap.get?_push_of_some _ (kB c o e)
  have nw : ∀ d ∈ dn, s1.heap.get? d.1 = none := fun d hd => by
    cases z : s1.heap.get? d.1 with
    | none => rfl
    | some o =>
      have := kA _ _ z
      rw [out.new d hd] at this
      cases this
  have nH : ∀ d ∈ dn, H1 d.1 = none := fun d hd => by
    cases z : H1 d.1 with
    | none => rfl
    | some o =>
      obtain ⟨o', ho'⟩ := (I1.hok d.1 o z).at_
      rw [nw d hd] at ho'
      cases ho'
  have iT : ∀ d ∈ dn, ∃ t u, (h2.push { cls := .type "tuple", data := .seq (dn.map fun q => Value.ref q.1).toArray }).IsTuple d.1 #[.int (d.2.1 : Nat) t, .int (d.2.2 : Nat) u] := fun d hd => by
    obtain ⟨l1, l2⟩ := alls_lt hL d.2 (by rw [← out.snd]; exact List.mem_map_of_mem hd)
    have at_ : ∀ i : Nat, i < b.toNat → ∃ t, acc.getD i .none = .int (i : Nat) t := fun i hlt => by
      have hlt' : i < acc.size := by rw [hacc]; exact hlt
      obtain ⟨t, e⟩ := hi.2 i acc[i] (by simp [hlt'])
      refine ⟨t, ?_⟩
      have : acc.getD i .none = acc[i] := by simp [hlt']
      rw [this, e]
      congr 1
      omega
    obtain ⟨t1, e1⟩ := at_ _ l1
    obtain ⟨t2, e2⟩ := at_ _ l2
    have := out.tup d hd
    rw [e1, e2] at this
    exact ⟨t1, t2, this.at fun o e => Heap.get?_push_of_some _ e⟩
  obtain ⟨u1, ok1⟩ := trackT (fs := X.fs) (H := H1) (h := s1.heap) (hF := h2.push { cls := .type "tuple", data := .seq (dn.map fun q => Value.ref q.1).toArray }) (dn := dn) (H1 := H1) out.nod (Un.kept kF) (I1.hok.kept kF) nw nH iT
  have fr : h2.get? h2.objs.size = none := DL.Co.free_at _
  have frs : s1.heap.get? h2.objs.size = none := by
    cases z : s1.heap.get? h2.objs.size with
    | none => rfl
    | some o =>
      have := kB _ _ z
      rw [fr] at this
      cases this
  have fnd : h2.objs.size ∉ dn.map Prod.fst := fun z => by
    obtain ⟨d, hd, e⟩ := List.mem_map.mp z
    obtain ⟨o, ho, _⟩ := out.tup d hd
    rw [e, fr] at ho
    cases ho
  have fnH : updT H1 dn h2.objs.size = none := by
    rw [updT_ne fnd]
    cases z : H1 h2.objs.size with
    | none => rfl
    | some o =>
      obtain ⟨o', ho'⟩ := (I1.hok _ o z).at_
      rw [frs] at ho'
      cases ho'
  have hlen : dn.length = L.length := by rw [← out.snd, List.length_map]
  obtain ⟨u2, ok2⟩ := track1 (o := .tup (dn.map fun d => V.ref d.1)) u1 ok1 frs fnH (show ObjOk X.prog X.w _ _ _ (.tup _) from ⟨by rw [List.length_map, hlen, sizeLine_eq]; omega, dn.map fun q => Value.ref q.1, vals_refs' dn, ⟨_, Heap.get?_push_size _ rfl, rfl, 0, rfl⟩⟩)
  exact ⟨.ref h2.objs.size, upd (updT H1 dn) h2.objs.size (.tup (dn.map fun d => V.ref d.1)), I1.un (t' := tk) u2 ok2, rfl, q dn h2.objs.size out.snd out.nod nH fnH⟩
end L2
/-! The data layer: the compiler's steps, widened again: sorted, all pairs. -/
namespace DL
open PySem PySem.Spec PyProof.Rows L2
def prD (q : Nat × Nat) : D := .tup [.int (q.1 : Nat), .int (q.2 : Nat)]
def eCombs (r : DRg) : DE := fun C ρ M P => r C ρ M fun i j M1 => i = 0 ∧ RgB 0 j ∧ ∃ L : List (Nat × Nat), Co.Alls j.toNat L ∧ L.length ≤ 1000 ∧ P (.tup (L.map prD)) M1
theorem laidT {K : PySem.W.Frag} {fa : Org} {α : List Addr} {M : Mem} : ∀ {dn : List (Addr × (Nat × Nat))} {H : Hp}, StR K fa α H M → (dn.map Prod.fst).Nodup → (∀ d ∈ dn, H d.1 = none) →
    Ext K H (updT H dn) α α ∧ StR K fa α (updT H dn) M ∧ Rps K fa α (updT H dn) (dn.map fun d => V.ref d.1) ((dn.map Prod.snd).map prD)
  | [], H, s, _, _ => ⟨Ext.refl, s, .nil⟩
  | d :: r, H, s, nd, hn => by
    rw [List.map_cons, List.nodup_cons] at nd
    have h0 := hn d List.mem_cons_self
    obtain ⟨e, s', rs⟩ := laidT (dn := r) (s.new (o := .tup [.int (d.2.1 : Nat), .int (d.2.2 : Nat)]) h0) nd.2 fun p hp => by
      have : p.1 ≠ d.1 := fun z => nd.1 (by rw [← z]; exact List.mem_map_of_mem hp)
      rw [upd_ne this]
      exact hn p (List.mem_cons_of_mem _ hp)
    have e0 : Ext K H (upd H d.1 (.tup [.int (d.2.1 : Nat), .int (d.2.2 : Nat)])) α α := Ext.new h0
    refine ⟨e0.trans e, s', .cons ?_ rs⟩
    exact (Rp.tup (vs := [.int (d.2.1 : Nat), .int (d.2.2 : Nat)]) upd_same (by rw [sizeLine_eq]; show (2 : Nat) ≤ _; omega) (.cons (.int _) (.cons (.int _) .nil))).mono e
theorem d_combs {X : Cx} {fa : Org} {C : Ctx} {x : Str} {e : Expr} {r : DRg} {p pc pk pos pos2 : Pos} {j} (hc : X.calm = true) (hg : Gl X "tuple") (hm : X.mg "tuple" = none) (hgx : Gl X x) (hmx : X.mg x = some (.type Co.Ty)) (hdb : (x == ("__debug__" : Str)) = false) (he : PRg X e (LRg X.K fa C r))
    (na : starEach [e, .Constant (.int 2) j pk] X.env = (false, eval e X.env) :: starEach [.Constant (.int 2) j pk] X.env) : PE X (.Call (.Name "tuple" p) [.Call (.Name x pc) [e, .Constant (.int 2) j pk] [] pos2] [] pos) (LE X.K fa C (eCombs r)) :=
  (pe_combs hc hg hm hgx hmx hdb he na).imp fun σ H Q ⟨ρ, M, α, P, er, sr, h, an⟩ => ⟨ρ, M, α, _, er, sr, h, fun i j H1 α1 M1 e1 s1 ⟨p0, p1, L, p2, p3, p4⟩ => ⟨p0, p1, L, p2, p3, fun dn q hs hnd hn hq => by
    obtain ⟨e2, s2, rs⟩ := laidT s1 hnd hn
    rw [hs] at rs
    exact ((an.ext e1).ext e2).tup s2 rs (by rw [rs.length, List.length_map, sizeLine_eq]; omega) hq p4⟩⟩
section
variable {G : Glb} (p : Comp G) (c : Cp)
def stepCombs (f : Str) (pf : Pos) (x : Str) (pc : Pos) (e : Expr) (j) (pk pos2 pos : Pos) : Option (CE G c (.Call (.Name f pf) [.Call (.Name x pc) [e, .Constant (.int 2) j pk] [] pos2] [] pos)) :=
  if hb : bi G c f "tuple" = true ∧ notStar e = true ∧ decide ((x, Co.Ty) ∈ G.btys) = true ∧ glB c.sc x = true ∧ plainName x = true then
    (stepRg p c e).map fun ta => ⟨eCombs ta.1, fun X fa C h => by
      obtain ⟨e, k⟩ := bi_ok hb.1
      subst e
      exact d_combs h.calm (k h).1 (k h).2 (gl_ok h hb.2.2.2.1) (h.mo.btys _ (of_decide_eq_true hb.2.2.1)) (pn_ok hb.2.2.2.2).1 (ta.2 X fa C h) (star_ok hb.2.1)⟩
  else none
def stepSorted (f : Str) (pf : Pos) (a : Expr) (pos : Pos) : Option (CE G c (.Call (.Name f pf) [a] [] pos)) :=
  if hb : bi G c f "sorted" = true ∧ notStar a = true then (p.A c [a]).map fun ta => ⟨eF fSorted ta.1, fun X fa C h => by
      obtain ⟨e, k⟩ := bi_ok hb.1
      subst e
      exact d_callB f_sorted (k h).1 (k h).2 (by decide +kernel) (ta.2 X fa C h) (by decide) (by decide) (star_ok hb.2) rfl⟩
  else none
def stepE3 (e : Expr) : Option (CE G c e) := match e with
  | .Call (.Name f pf) [.Call (.Name x pc) [e, .Constant (.int 2) j pk] [] pos2] [] pos => (match stepCombs p c f pf x pc e j pk pos2 pos with
    | some t => some t
    | none => (match stepSorted p c f pf (.Call (.Name x pc) [e, .Constant (.int 2) j pk] [] pos2) pos with
      | some t => some t
      | none => stepE2 p c (.Call (.Name f pf) [.Call (.Name x pc) [e, .Constant (.int 2) j pk] [] pos2] [] pos)))
  | .Call (.Name f pf) [a] [] pos => (match stepSorted p c f pf a pos with
    | some t => some t
    | none => stepE2 p c (.Call (.Name f pf) [a] [] pos))
  | e => stepE2 p c e
end
end DL
/-! The data layer, the knot: the compiler's recursion, a whole program's meaning, the head. -/
namespace DL
open PySem PySem.Spec PyProof.Rows L2

def comp (G : Glb) : Nat → Comp G
  | 0 => ⟨fun _ _ => none, fun _ _ => none, fun _ _ _ => none, fun _ _ _ => none, fun _ _ => none, fun _ _ => none, fun _ _ _ => none, fun _ _ => none, fun _ _ => none, fun _ _ => none, fun _ _ => none, fun _ _ => none⟩
  | n + 1 => ⟨stepE3 (comp G n), stepT (comp G n), stepW (comp G n), stepV (comp G n), stepA (comp G n), stepL (comp G n), stepI2 (comp G n), stepO (comp G n), stepG (comp G n), stepGs (comp G n), stepS (comp G n), stepSs (comp G n)⟩

structure Fn where
  np : Nat
  nl : Nat
  code : DS
/-- what the i-th def means, calls going at most n deep -/
def sem (T : List Fn) : Nat → Nat → DSp
  | 0, _ => fun _ _ _ _ => False
  | n + 1, i => fun ex ds M P => match T[i]? with
    | some f => ds.length = f.np ∧ f.code ⟨sem T n, fun _ => ex⟩ ⟨fun _ M' => P .non M', P, fun _ _ => False, fun _ _ => False⟩ (ds.map some ++ List.replicate (f.nl - ds.length) none) M
    | none => False
/-- one def: its names, its text -/
structure Df where
  x : Str
  ps : List Str
  N : List Str
  params : Arguments
  body : List Stmt
  scope : Scope
def cOf (d : Df) : Cp := ⟨d.N, d.scope, fun _ => true⟩
theorem code_ok {G : Glb} {d : Df} {t : DS} {n : Nat} (h : ((comp G n).Ss (cOf d) d.body).map (fun z => z.1) = some t) (X : Cx) (fa : Org) (C : Ctx) (hy : HyS G (cOf d) X fa C) : PSs X d.body (LS X.K fa C t) := by
  obtain ⟨z, _, e⟩ := Option.map_eq_some_iff.mp h
  subst e
  exact z.2 X fa C hy
/-- the i-th def of the text and its meaning -/
structure DfOk (G : Glb) (d : Df) (f : Fn) : Prop where
  np : f.np = d.ps.length
  nl : f.nl = d.N.length
  sc : FnScope d.N d.ps d.scope
  code : ∀ (X : Cx) (fa : Org) (C : Ctx), HyS G (cOf d) X fa C → PSs X d.body (LS X.K fa C f.code)
  bind : ∀ (kV doc pm : Value) (an : Option Addr) (cdv ct : Value) (us : List Value), us.length = d.ps.length → bindArgs (PySem.W.fnOf d.x d.x d.params d.body d.scope .none kV doc pm an cdv ct) ⟨us, []⟩ = pure (d.ps.zip us)
section
variable {P : Program} {w : World} {K : PySem.W.Frag} {mg : Str → Option Value} {base : Heap} {fa : Org} {G : Glb} {T : List Fn}
theorem env_start {α : List Addr} {H : Hp} {N : List Str} {vs : List V} {ds : List D} (r : Rps K fa α H vs ds) : EnvR K fa α H (L2.start N vs) (ds.map some ++ List.replicate (N.length - ds.length) none) := by
  have hl := r.length
  refine ⟨by simp [L2.start, hl], fun i d q => ?_⟩
  by_cases hi : i < ds.length
  · rw [List.getElem?_append_left (by simpa using hi), List.getElem?_map] at q
    obtain ⟨d', e1, e2⟩ := Option.map_eq_some_iff.mp q
    cases e2
    obtain ⟨v, e, r1⟩ := r.get e1
    refine ⟨v, ?_, r1⟩
    show (vs.map some ++ _)[i]? = _
    rw [List.getElem?_append_left (by simpa [hl] using hi), List.getElem?_map, e]
    rfl
  · rw [List.getElem?_append_right (by simpa using hi)] at q
    have := List.mem_of_getElem? q
    have := List.eq_of_mem_replicate this
    cases this
theorem fn_at {x qual : Str} {params : Arguments} {body : List Stmt} {scope : Scope} {f : Addr} {fd : FuncData} (F : FunD K x qual params body scope [] [] f fd) : ∃ oc od osl, K.lookup f = some ⟨oc, od, .func fd, osl⟩ := by
  obtain ⟨oc, od, dV, kV, doc, pm, an, cdv, ct, osl, _, lk, _⟩ := F.ex
  exact ⟨oc, od, osl, lk⟩
/-- the module's other facts -/
structure Mg (G : Glb) (K : PySem.W.Frag) (mg : Str → Option Value) (fa : Org) : Prop where
  free : ∀ x ∈ G.free, mg x = none
  bfn : ∀ p ∈ G.bfn, mg p.1 = some (.builtin p.2)
  nums : ∀ p ∈ G.nums, ∃ t, mg p.1 = some (.int p.2 t)
  btys : ∀ p ∈ G.btys, mg p.1 = some (.type p.2)
  tups : ∀ p ∈ G.tups, ∃ a, mg p.1 = some (.ref a) ∧ ∀ (fb : Org) α H, Rp K fb α H (.ref a) (.kup p.2)
theorem sem_ok (hm : Mg G K mg fa) (hd : ∀ (i : Nat) (x : Str) (ps : List Str), G.fns[i]? = some (x, ps) → mg x = some (.ref (fa.fn i)) ∧ ∃ (d : Df) (f : Fn) (fd : FuncData), d.ps = ps ∧ T[i]? = some f ∧ DfOk G d f ∧ FunD K d.x d.x d.params d.body d.scope [] [] (fa.fn i) fd) :
    ∀ (n i : Nat) (x : Str) (ps : List Str), G.fns[i]? = some (x, ps) → ∃ fd, (∃ oc od osl, K.lookup (fa.fn i) = some ⟨oc, od, .func fd, osl⟩) ∧ FnOk P w K mg base (L2.CX P w) n (fa.fn i) fd ps (LSp K fa (sem T n i)) ∧ Binds K fd ps []
  | 0, i, x, ps, hi => by
    obtain ⟨_, d, f, fd, e, hT, ok, F⟩ := hd i x ps hi
    subst e
    exact ⟨fd, fn_at F, ⟨fun vs H Q E ⟨_, _, _, _, _, _, _, h, _⟩ => h.elim, fun A outer s H args us vs Q E _ _ _ _ ⟨_, _, _, _, _, _, _, h, _⟩ => h.elim⟩, F.bindsN ok.bind⟩
  | n + 1, i, x, ps, hi => by
    obtain ⟨_, d, f, fd, e, hT, ok, F⟩ := hd i x ps hi
    subst e
    have go : ∀ (ex : XP) (ds : List D) (M : Mem) (P : Po), sem T (n + 1) i ex ds M P → ds.length = f.np ∧ f.code ⟨sem T n, fun _ => ex⟩ ⟨fun _ M' => P .non M', P, fun _ _ => False, fun _ _ => False⟩ (ds.map some ++ List.replicate (f.nl - ds.length) none) M := fun ex ds M P h => by
      unfold sem at h
      rw [hT] at h
      exact h
    refine ⟨fd, fn_at F, F.ok ok.sc (fun vs H Q E ⟨ds, M, α, P, ex, r, s, h, _⟩ => ?_) (fun cdv A outer s H vs Q E hr ⟨ds, M, α, Pd, ex, r, st, h, an, xa⟩ => ?_), F.bindsN ok.bind⟩
    · rw [r.length, (go _ _ _ _ h).1, ok.np]
    · obtain ⟨_, h⟩ := go _ _ _ _ h
      have mo : Mo G (cxOf (L2.CX P w) P w K mg base d.N d.x d.scope (fa.fn i) cdv A outer s H E) { fa with H0 := H, α0 := α } (sem T n) := by
        refine ⟨?_, hm.free, hm.bfn, hm.nums, hm.btys, fun p hp => ?_, fun j y qs hj => ?_⟩
        · have := hr.un
          show (A.deeper (envOfC d.x d.scope s.heap.objs.size (fa.fn i) cdv)).units + 65 < cLine
          omega
        · obtain ⟨a, e, q⟩ := hm.tups p hp
          exact ⟨a, e, fun α' H' => q _ α' H'⟩
        · obtain ⟨e, d2, f2, fd2, _, _, _, F2⟩ := hd j y qs hj
          obtain ⟨fd', _, F', B'⟩ := sem_ok hm hd n j y qs hj
          exact ⟨e, F2.kp, n, fd', F'.imp fun vs H1 Q E ⟨ds, M, β, P, ex, r, z⟩ => ⟨ds, M, β, P, ex, Rps.org (fa := { fa with H0 := H, α0 := α }) (fb := fa) rfl r, z⟩, hr, B'⟩
      refine ⟨LS K { fa with H0 := H, α0 := α } ⟨sem T n, fun _ => ex⟩ f.code, ok.code _ { fa with H0 := H, α0 := α } ⟨sem T n, fun _ => ex⟩ ?_, ?_⟩
      · refine ⟨⟨rfl, ok.sc.nd, rfl, rfl, rfl, mo, ⟨⟨_, takes_of rfl rfl rfl rfl, fun σ ρ β H' M' c fs us dx er sr rs hx nd hex => ?_⟩⟩⟩, passes_of rfl⟩
        exact xa c fs us dx H' β M' sr.org sr rs hx nd hex
      · refine ⟨_, M, α, _, env_start (N := d.N) (Rps.org (fa := fa) (fb := { fa with H0 := H, α0 := α }) rfl r), st, by rw [ok.nl] at h; exact h, ?_⟩
        exact ⟨fun σ' ρ' H' α' M' e er sr p => an .non .non H' α' M' e sr .non p, an, fun _ _ _ _ _ _ _ _ z => z.elim, fun _ _ _ _ _ _ _ _ z => z.elim⟩
end
end DL
/-! The data layer, the head: what the run of the top leaves, read off a fragment. -/
namespace DL
open PySem PySem.Spec PyProof.Rows L2

/-! ### a value as data -/
mutual
def repB (K : PySem.W.Frag) : Value → D → Bool
  | .none, .non => true
  | .bool b, .bl c => b == c
  | .int i _, .int j => decide (i = j)
  | .str s _, .str z => decide (s = z)
  | .ref a, .kup ds => (match K.lookup a with
    | some o => (match o.data with
      | .seq its _ => decide (o.cls = .type "tuple") && (decide (its.size ≤ sizeLine) && repsB K its.toList ds)
      | _ => false)
    | none => false)
  | _, _ => false
def repsB (K : PySem.W.Frag) : List Value → List D → Bool
  | [], [] => true
  | u :: us, d :: ds => repB K u d && repsB K us ds
  | _, _ => false
end
theorem both {a b : Bool} (h : (a && b) = true) : a = true ∧ b = true := by
  cases a <;> cases b <;> first | exact ⟨rfl, rfl⟩ | cases h
mutual
theorem repB_ok {K : PySem.W.Frag} : ∀ {u : Value} {d : D}, repB K u d = true → ∃ v, RelV v u ∧ ∀ fb α H, Rp K fb α H v d
  | u, .non, h => by
    cases u <;> first | exact ⟨.non, rfl, fun _ _ _ => .non⟩ | (simp [repB] at h)
  | u, .bl c, h => by
    cases u <;> first | (simp [repB] at h; done) | skip
    rename_i b
    exact ⟨.bl c, by rw [beq_iff_eq.mp (show (b == c) = true by simpa [repB] using h)]; rfl, fun _ _ _ => .bl c⟩
  | u, .int j, h => by
    cases u <;> first | (simp [repB] at h; done) | skip
    rename_i i t
    exact ⟨.int j, ⟨t, by rw [show i = j by simpa [repB] using h]⟩, fun _ _ _ => .int j⟩
  | u, .str z, h => by
    cases u <;> first | (simp [repB] at h; done) | skip
    rename_i s t
    exact ⟨.str z, ⟨t, by rw [show s = z by simpa [repB] using h]⟩, fun _ _ _ => .str z⟩
  | u, .tup ds, h => by cases u <;> simp [repB] at h
  | u, .rol ds, h => by cases u <;> simp [repB] at h
  | u, .ref n, h => by cases u <;> simp [repB] at h
  | u, .fn n, h => by cases u <;> simp [repB] at h
  | u, .kup ds, h => by
    cases u <;> first | (simp [repB] at h; done) | skip
    rename_i a
    unfold repB at h
    split at h
    · rename_i o ho
      split at h
      · rename_i its n hd
        obtain ⟨h1, h2⟩ := both h
        obtain ⟨h3, h4⟩ := both h2
        obtain ⟨vs, r, q⟩ := repsB_ok h4
        have hl : vs.length ≤ sizeLine := by
          have := r.length
          rw [this]
          simpa using of_decide_eq_true h3
        exact ⟨.ref a, rfl, fun fb α H => .kup (fun _ => .inr ⟨o, its, n, ho, of_decide_eq_true h1, hd, of_decide_eq_true h3, r⟩) hl (q fb α H)⟩
      · cases h
    · cases h
theorem repsB_ok {K : PySem.W.Frag} : ∀ {us : List Value} {ds : List D}, repsB K us ds = true → ∃ vs, Vals vs us ∧ ∀ fb α H, Rps K fb α H vs ds
  | [], [], _ => ⟨[], .nil, fun _ _ _ => .nil⟩
  | [], _ :: _, h => by simp [repsB] at h
  | _ :: _, [], h => by simp [repsB] at h
  | u :: us, d :: ds, h => by
    unfold repsB at h
    obtain ⟨h1, h2⟩ := both h
    obtain ⟨v, r, q⟩ := repB_ok h1
    obtain ⟨vs, rs, qs⟩ := repsB_ok h2
    exact ⟨v :: vs, .cons r rs, fun fb α H => .cons (q fb α H) (qs fb α H)⟩
end

/-! ### what the fragment must show -/
def ckM (G : Glb) (K : PySem.W.Frag) : Bool :=
  (G.fns.all fun p => decide (PySem.W.nsIn K mainGlobals p.1 = some (some (.ref (He.ga K p.1))))) && ((G.free.all fun x => decide (PySem.W.nsIn K mainGlobals x = some none)) && ((G.bfn.all fun p => decide (PySem.W.nsIn K mainGlobals p.1 = some (some (.builtin p.2)))) &&
  ((G.btys.all fun p => decide (PySem.W.nsIn K mainGlobals p.1 = some (some (.type p.2)))) && ((G.nums.all fun p => match PySem.W.nsIn K mainGlobals p.1 with
    | some (some (.int j _)) => decide (j = p.2)
    | _ => false) && (G.tups.all fun p => match PySem.W.nsIn K mainGlobals p.1 with
    | some (some (.ref a)) => repB K (.ref a) (.kup p.2)
    | _ => false)))))
def orgM (G : Glb) (K : PySem.W.Frag) : Org where
  fn := fun i => match G.fns[i]? with
    | some p => He.ga K p.1
    | none => 0
  cls := fun _ => 0
  flds := fun _ => []
  H0 := fun _ => none
  α0 := []
theorem ckM_ok {G : Glb} {K : PySem.W.Frag} {h : Heap} {mg : Str → Option Value} (X : K.In h) (N : h.Ns mainGlobals mg) (c : ckM G K = true) :
    (∀ p ∈ G.fns, mg p.1 = some (.ref (He.ga K p.1))) ∧ Mg G K mg (orgM G K) := by
  obtain ⟨c1, c⟩ := both c
  obtain ⟨c2, c⟩ := both c
  obtain ⟨c3, c⟩ := both c
  obtain ⟨c6, c⟩ := both c
  obtain ⟨c4, c5⟩ := both c
  refine ⟨fun p hp => PySem.W.mg_of X N (of_decide_eq_true (List.all_eq_true.mp c1 p hp)), fun x hx => PySem.W.mg_none_of X N (of_decide_eq_true (List.all_eq_true.mp c2 x hx)), fun p hp => PySem.W.mg_of X N (of_decide_eq_true (List.all_eq_true.mp c3 p hp)), fun p hp => ?_, fun p hp => PySem.W.mg_of X N (of_decide_eq_true (List.all_eq_true.mp c6 p hp)), fun p hp => ?_⟩
  · have z := List.all_eq_true.mp c4 p hp
    split at z
    · rename_i j t e
      rw [of_decide_eq_true z] at e
      exact ⟨t, PySem.W.mg_of X N e⟩
    · cases z
  · have z := List.all_eq_true.mp c5 p hp
    split at z
    · rename_i a e
      obtain ⟨v, r, q⟩ := repB_ok z
      refine ⟨a, PySem.W.mg_of X N e, fun fb α H => ?_⟩
      have r' := q fb α H
      have r2 : Rp K fb α H v (.kup p.2) := r'
      cases r2 with
      | @kup b vs _ s l rs =>
        have e2 : Value.ref a = Value.ref b := r
        cases e2
        exact r'
    · cases z

/-! ### the hook -/
abbrev AlM : Type := Bool × List He.FnW
def defM (d : Df) : He.DefD := ⟨(d.x, none), d.x, d.x, d.params, d.body, d.scope, [], []⟩
def obsM (G : Glb) (ds : List Df) (K : PySem.W.Frag) : AlM := (ckM G K && (ds.all fun d => (defM d).ok K), ds.map fun d => He.fnW K (d.x, none))
def valM (ds : List Df) : AlM := (true, ds.map fun d => (defM d).val)
def obsG (n : Nat) (G : Glb) (ds : List Df) (g : Addr → Option Obj) : AlM := obsM G ds (He.frG g (He.asD g n))
def hookM (n : Nat) (G : Glb) (ds : List Df) : PySem.W.Hook where
  α := AlM
  obs := fun s => obsG n G ds s.heap.get?
  val := fun _ => valM ds
  says := fun _ h => ∃ K : PySem.W.Frag, K.In h ∧ obsM G ds K = valM ds
  of := fun _ s e => ⟨He.frG s.heap.get? (He.asD s.heap.get? n), He.frG_in, e⟩
  keeps := fun _ _ _ ⟨K, hK, c⟩ k => ⟨K, hK.keeps k, c⟩
def obM (n : Nat) (G : Glb) (ds : List Df) (s : PySem.W.SharedT) : AlM := obsG n G ds (HandSHeadRun.getT s)
theorem obM_eq {n : Nat} {G : Glb} {ds : List Df} (s : PySem.W.SharedT) : obM n G ds s = (hookM n G ds).obs s.abs := by
  have e : HandSHeadRun.getT s = s.abs.heap.get? := funext fun a => HandSHeadRun.getT_eq s a
  show obsG n G ds (HandSHeadRun.getT s) = obsG n G ds s.abs.heap.get?
  rw [e]

/-! ### the law -/
/-- all defs of the table are in order -/
def TabOk (G : Glb) (ds : List Df) (T : List Fn) : Prop := G.fns = ds.map (fun d => (d.x, d.ps)) ∧ ∀ (i : Nat) (d : Df), ds[i]? = some d → ∃ f, T[i]? = some f ∧ DfOk G d f
def Small (ns : List Int) : Prop := ns.length ≤ 63 ∧ ∀ z ∈ ns, Builtin.Int.intBits z ≤ 1048576
theorem law_M {P : Program} {w : World} {G : Glb} {ds : List Df} {T : List Fn} {K : PySem.W.Frag} {h : Heap} {mg : Str → Option Value} {k i : Nat} {x : Str} {f : Addr} {d : Df} (tab : TabOk G ds T) (X : K.In h) (N : h.Ns mainGlobals mg) (c : obsM G ds K = valM ds)
    (hd : ds[i]? = some d) (hf : mg d.x = some (.ref f)) (hps : d.ps = [x])
    (law : ∀ ns : List Int, Small ns → sem T k i (fun _ _ _ => False) [.rol (ns.map D.int)] [] fun r _ => r = .bl true) :
    ∃ (fd : FuncData) (sp : Sp), (∀ (s : Shared) (u : Value), BindsTo s fd ⟨[u], []⟩ [(x, u)]) ∧
      (∀ (H : Hp) (a : Addr) (ns : List Int), Small ns → Only H → SqL K H a (ns.map V.int) → sp [.ref a] H (fun v _ => v = .bl true) fun _ _ _ => False) ∧
      ∀ base : Heap, K.In base → base.Ns mainGlobals mg → FnOk P w K mg base (L2.CX P w) k f fd [x] sp := by
  obtain ⟨c1, c2⟩ := Prod.mk.inj (show (ckM G K && (ds.all fun d => (defM d).ok K), ds.map fun d => He.fnW K (d.x, none)) = (true, ds.map fun d => (defM d).val) from c)
  obtain ⟨c1, c3⟩ := both c1
  obtain ⟨m1, m2⟩ := ckM_ok X N c1
  have fnd : ∀ (j : Nat) (e : Df), ds[j]? = some e → (orgM G K).fn j = He.ga K e.x ∧ ∃ fd, FunD K e.x e.x e.params e.body e.scope [] [] (He.ga K e.x) fd := fun j e he => by
    have q : (ds.map fun d => He.fnW K (d.x, none))[j]? = (ds.map fun d => (defM d).val)[j]? := by rw [c2]
    rw [List.getElem?_map, List.getElem?_map, he] at q
    refine ⟨?_, He.DefD.funD (d := defM e) (Option.some.inj q) (List.all_eq_true.mp c3 e (List.mem_of_getElem? he))⟩
    show (match G.fns[j]? with
      | some p => He.ga K p.1
      | none => 0) = _
    rw [tab.1, List.getElem?_map, he]
    rfl
  have all : ∀ (j : Nat) (y : Str) (ps : List Str), G.fns[j]? = some (y, ps) → mg y = some (.ref ((orgM G K).fn j)) ∧ ∃ (e : Df) (g : Fn) (fd : FuncData), e.ps = ps ∧ T[j]? = some g ∧ DfOk G e g ∧ FunD K e.x e.x e.params e.body e.scope [] [] ((orgM G K).fn j) fd := fun j y ps hj => by
    have hm := m1 _ (List.mem_of_getElem? hj)
    rw [tab.1, List.getElem?_map] at hj
    obtain ⟨e, he, e2⟩ := Option.map_eq_some_iff.mp hj
    cases e2
    obtain ⟨g, hg, ok⟩ := tab.2 j e he
    obtain ⟨q1, fd, q2⟩ := fnd j e he
    rw [q1]
    exact ⟨hm, e, g, fd, rfl, hg, ok, q2⟩
  have hi : G.fns[i]? = some (d.x, d.ps) := by rw [tab.1, List.getElem?_map, hd]; rfl
  obtain ⟨g, hg, ok⟩ := tab.2 i d hd
  obtain ⟨q1, fd, q2⟩ := fnd i d hd
  have ef : f = He.ga K d.x := by
    have z := (m1 _ (List.mem_of_getElem? hi)).symm.trans hf
    cases z
    rfl
  subst ef
  have bd := fun s us hl => FunD.bindsA (ps := d.ps) q2 ok.bind s us hl
  refine ⟨fd, LSp K (orgM G K) (sem T k i), fun s u => ?_, fun H a ns sm on sq => ?_, fun base KB NB => ?_⟩
  · have z := bd s [u] (by rw [hps]; rfl)
    rw [hps] at z
    exact z
  · have hl : (ns.map V.int).length ≤ sizeLine := by
      have e : sizeLine = 16777216 := by decide
      rw [List.length_map, e]
      have := sm.1
      omega
    have rr : Rp K (orgM G K) [] H (.ref a) (.rol (ns.map D.int)) := by
      refine .rol ?_ hl (Rps.ints ns)
      rcases sq with (q | q) | q
      · rcases on a with z | ⟨o, us, z⟩
        · rw [z] at q; cases q
        · rw [z] at q; cases q
      · exact .inl q
      · exact .inr fun _ => .inr q
    refine ⟨[.rol (ns.map D.int)], [], [], _, _, .cons rr .nil, ⟨rfl, List.nodup_nil, fun n c a e _ => by simp at e, Ext.refl⟩, law ns sm, fun v e H' α' M' _ _ r p => ?_, fun _ _ _ _ _ _ _ _ _ _ _ _ z => z.elim⟩
    subst p
    cases r
    rfl
  · obtain ⟨fd', at', F, _⟩ := sem_ok (P := P) (w := w) (base := base) m2 all k i d.x d.ps hi
    rw [hps, q1] at F
    obtain ⟨oc, od, osl, lk⟩ := fn_at q2
    obtain ⟨oc', od', osl', lk'⟩ := at'
    rw [q1, lk] at lk'
    cases lk'
    exact F

theorem walk_M {l : PySem.W.OpenLaw} {q : Program} {loose : List Str} {XP : (Str → Option Value) → Heap → Prop} {d : DefRec} {G : Glb} {ds : List Df} {T : List Fn} {m k i : Nat} {x : Str} {e : Df}
    (hn : l.most = some 63) (hdf : d.params.defaults = []) (hr : Room k callerA) (tab : TabOk G ds T) (he : ds[i]? = some e) (hx : e.x = d.name) (hps : e.ps = [x])
    (law : ∀ ns : List Int, Small ns → sem T k i (fun _ _ _ => False) [.rol (ns.map D.int)] [] fun r _ => r = .bl true) :
    PySem.W.WalkO q loose XP (hookM m G ds).says l.row.toRowW d [] fun f vs => PySem.call f vs := by
  refine Att.attach_callB hn hdf fun w s₀ s₁ mg mb fa o pm cd doc a vs ns Gr Y ho hd hcd hmg hobj hints hlen hbits hg => ?_
  obtain ⟨K, KX, c⟩ := Y
  obtain ⟨fd, sp, hb, hsp, hF⟩ := law_M (P := l.prog) (w := w) tab KX Gr.T.g c he (by rw [hx]; exact hmg) hps law
  have h63 : ns.length ≤ sizeLine := Nat.le_trans hlen (by decide)
  refine law_call (mb := mb) KX Gr.T.g Gr.T.b Gr.T.builtins Gr.T.nolimit hg hobj hints h63 hr hF hb (fun H on sq => hsp H a ns ⟨hlen, hbits⟩ on sq) fun H e s' z => ?_
  obtain ⟨_, _, _, _, _, _, _, _, _, _, _, _, z⟩ := z
  exact z
end DL
/-! The data layer: rules for proofs over data. -/
namespace DL
open PySem PySem.Spec PyProof.Rows L2

/-! ### loops by invariants; the continuation is any that the invariant gives -/
theorem floop_inv {g : D → Env → Mem → (Env → Mem → Prop) → Prop} {b : DEnds → Env → Mem → Prop} {E : DEnds} {grd : Mem → Prop} (I : List D → Env → Mem → Prop)
    (step : ∀ x xs ρ M, I (x :: xs) ρ M → grd M ∧ ∀ K : Env → Mem → Prop, (∀ ρ' M', I xs ρ' M' → K ρ' M') → g x ρ M fun ρ' M' => b { E with nx := K, ct := K, bk := E.nx } ρ' M')
    (fin : ∀ ρ M, I [] ρ M → grd M ∧ E.nx ρ M) : ∀ (xs : List D) (ρ : Env) (M : Mem), I xs ρ M → floop g b E grd xs ρ M
  | [], ρ, M, h => fin ρ M h
  | x :: xs, ρ, M, h => by
    obtain ⟨h1, h2⟩ := step x xs ρ M h
    exact ⟨h1, h2 _ fun ρ' M' h' => floop_inv I step fin xs ρ' M' h'⟩
theorem cloop_inv {g : D → Env → Mem → (Env → Mem → Prop) → Prop} {tt : Env → Mem → (Bool → Mem → Prop) → Prop} {e : Env → Mem → (D → Mem → Prop) → Prop} {grd : Mem → Prop} {ρ : Env} {P : List D → Mem → Prop} (I : List D → List D → Mem → Prop)
    (step : ∀ x xs acc M, I (x :: xs) acc M → grd M ∧ ∀ K : List D → Mem → Prop, (∀ acc' M', I xs acc' M' → K acc' M') → g x ρ M fun ρ2 M2 => tt ρ2 M2 fun b M3 => if b = true then e ρ2 M3 fun d M4 => K (acc ++ [d]) M4 else K acc M3)
    (fin : ∀ acc M, I [] acc M → grd M ∧ P acc M) : ∀ (xs acc : List D) (M : Mem), I xs acc M → cloop g tt e grd ρ P xs acc M
  | [], acc, M, h => fin acc M h
  | x :: xs, acc, M, h => by
    obtain ⟨h1, h2⟩ := step x xs acc M h
    exact ⟨h1, h2 (cloop g tt e grd ρ P xs) fun acc' M' h' => cloop_inv I step fin xs acc' M' h'⟩
/-- a comprehension that touches nothing: f the test, h the item -/
theorem cloop_pure {g : D → Env → Mem → (Env → Mem → Prop) → Prop} {tt : Env → Mem → (Bool → Mem → Prop) → Prop} {e : Env → Mem → (D → Mem → Prop) → Prop} {grd : Mem → Prop} {ρ : Env} {P : List D → Mem → Prop} {M : Mem} (f : D → Bool) (h : D → D) (hg : grd M) :
    ∀ (xs acc : List D), (∀ x ∈ xs, ∀ (acc : List D) (K : List D → Mem → Prop), K (if f x = true then acc ++ [h x] else acc) M → g x ρ M fun ρ2 M2 => tt ρ2 M2 fun b M3 => if b = true then e ρ2 M3 fun d M4 => K (acc ++ [d]) M4 else K acc M3) →
      P (acc ++ (xs.filter f).map h) M → cloop g tt e grd ρ P xs acc M
  | [], acc, _, p => ⟨hg, by simpa using p⟩
  | x :: xs, acc, st, p => by
    refine ⟨hg, st x List.mem_cons_self acc (cloop g tt e grd ρ P xs) (cloop_pure f h hg xs _ (fun y hy => st y (List.mem_cons_of_mem _ hy)) ?_)⟩
    by_cases hf : f x = true
    · rw [if_pos hf]
      rw [List.filter_cons_of_pos hf, List.map_cons] at p
      simpa using p
    · rw [if_neg hf]
      rw [List.filter_cons_of_neg hf] at p
      exact p
theorem wloop_inv {c : Env → Mem → (Bool → Mem → Prop) → Prop} {b : DEnds → Env → Mem → Prop} {E : DEnds} (I : Nat → Env → Mem → Prop)
    (step : ∀ n ρ M, I n ρ M → ∀ K : Env → Mem → Prop, (∀ m ρ' M', m < n → I m ρ' M' → K ρ' M') → c ρ M fun k M1 => if k = true then b { E with nx := K, ct := K, bk := E.nx } ρ M1 else E.nx ρ M1) :
    ∀ (N n : Nat) (ρ : Env) (M : Mem), n < N → I n ρ M → wloop c b E N ρ M
  | 0, _, _, _, h, _ => absurd h (Nat.not_lt_zero _)
  | N + 1, n, ρ, M, h, i => step n ρ M i (wloop c b E N) fun m ρ' M' hm i' => wloop_inv I step N m ρ' M' (by omega) i'
theorem while_inv {c : DT} {b : DS} {C : Ctx} {E : DEnds} {ρ : Env} {M : Mem} (I : Nat → Env → Mem → Prop) (n : Nat) (h : I n ρ M)
    (step : ∀ n ρ M, I n ρ M → ∀ K : Env → Mem → Prop, (∀ m ρ' M', m < n → I m ρ' M' → K ρ' M') → c C ρ M fun k M1 => if k = true then b C { E with nx := K, ct := K, bk := E.nx } ρ M1 else E.nx ρ M1) : sWhile c b C E ρ M :=
  ⟨n + 1, wloop_inv I step (n + 1) n ρ M (Nat.lt_succ_self n) h⟩

/-! ### the store -/
theorem get_set_self {M : Mem} {n : Nat} {c c' : Cell} (h : M[n]? = some c) : (M.set n c')[n]? = some c' := List.getElem?_set_self (List.getElem?_eq_some_iff.mp h).1
theorem get_set_ne {M : Mem} {n m : Nat} {c' : Cell} (h : n ≠ m) : (M.set n c')[m]? = M[m]? := List.getElem?_set_ne h
theorem get_app {M : Mem} {n : Nat} {c : Cell} {N : Mem} (h : M[n]? = some c) : (M ++ N)[n]? = some c := by
  rw [List.getElem?_append_left (List.getElem?_eq_some_iff.mp h).1]
  exact h
theorem get_new {M : Mem} {c : Cell} : (M ++ [c])[M.length]? = some c := by simp
theorem lt_of_get {M : Mem} {n : Nat} {c : Cell} (h : M[n]? = some c) : n < M.length := (List.getElem?_eq_some_iff.mp h).1
/-- all that was there stays, but the cell n -/
structure Kp (n : Nat) (M M' : Mem) : Prop where
  len : M.length ≤ M'.length
  same : ∀ m, m < M.length → m ≠ n → M'[m]? = M[m]?
theorem Kp.refl {n : Nat} {M : Mem} : Kp n M M := ⟨Nat.le_refl _, fun _ _ _ => rfl⟩
theorem Kp.trans {n : Nat} {M M' M'' : Mem} (a : Kp n M M') (b : Kp n M' M'') : Kp n M M'' := ⟨Nat.le_trans a.len b.len, fun m h1 h2 => (b.same m (Nat.lt_of_lt_of_le h1 a.len) h2).trans (a.same m h1 h2)⟩
theorem Kp.set {n : Nat} {M : Mem} {c : Cell} : Kp n M (M.set n c) := ⟨by simp, fun m _ h => List.getElem?_set_ne (Ne.symm h)⟩
theorem Kp.app {n : Nat} {M N : Mem} : Kp n M (M ++ N) := ⟨by simp, fun m h _ => by rw [List.getElem?_append_left h]⟩
theorem Kp.get {n m : Nat} {M M' : Mem} {c : Cell} (k : Kp n M M') (h : M[m]? = some c) (hn : m ≠ n) : M'[m]? = some c := (k.same m (lt_of_get h) hn).trans h
/-- a cell that is new to M is written -/
theorem Kp.wr {n m : Nat} {M M' : Mem} {c : Cell} (k : Kp n M M') (h : M.length ≤ m) : Kp n M (M'.set m c) := ⟨by simpa using k.len, fun j h1 h2 => by rw [List.getElem?_set_ne (by omega)]; exact k.same j h1 h2⟩
end DL
/-! The data layer: one rule for each step of a meaning, for proofs that go step by step. -/
namespace DL
open PySem PySem.Spec PyProof.Rows L2
namespace W
/-! what a value is taken for -/
def tobl (d : D) (k : Bool → Prop) : Prop := match d with
  | .bl b => k b
  | _ => False
def toin (d : D) (k : Int → Prop) : Prop := match d with
  | .int i => k i
  | _ => False
def topr (ds : List D) (k : D → D → Prop) : Prop := match ds with
  | [x, y] => k x y
  | _ => False
def tosq (M : Mem) (d : D) (k : List D → Prop) : Prop := match seqOf M d with
  | some xs => k xs
  | none => False
def toty (M : Mem) (T : String) (d : D) (k : Bool → Prop) : Prop := match tyOf M d with
  | some t => (match kitB t T with
    | some b => k b
    | none => False)
  | none => False
section
variable {C : Ctx} {E : DEnds} {ρ : Env} {M : Mem} {P : Po} {k : Bool → Mem → Prop} {t u : DS} {a b c e : DE} {x y : DT} {g : DG} {ga : DGs} {r : DA} {op op' : DOp} {o o' : DO}
theorem next (h : E.nx ρ M) : sNext C E ρ M := h
theorem seq (h : t C { E with nx := fun ρ' M' => u C E ρ' M' } ρ M) : sSeq t u C E ρ M := h
theorem brk (h : E.bk ρ M) : sBreak C E ρ M := h
theorem cont (h : E.ct ρ M) : sCont C E ρ M := h
theorem drop (h : e C ρ M fun _ M1 => E.nx ρ M1) : sDrop e C E ρ M := h
theorem ret (h : e C ρ M E.rt) : sRet e C E ρ M := h
theorem retN (h : E.rt .non M) : sRetN C E ρ M := h
theorem sif (h : x C ρ M fun b M1 => if b = true then t C E ρ M1 else u C E ρ M1) : sIf x t u C E ρ M := h
theorem asg (h : e C ρ M fun d M1 => g C d ρ M1 E.nx) : sAsg e g C E ρ M := h
theorem aug {i : Nat} {d : D} (q : ρ[i]? = some (some d)) (h : e C ρ M fun y M1 => op d y M1 fun z M2 => E.nx (ρ.set i (some z)) M2) : sAug i e op C E ρ M := by
  show got ρ[i]? _
  rw [q]
  exact h
theorem augS (h : a C ρ M fun x M1 => b C ρ M1 fun y M2 => opGetL x y M2 fun z M3 => e C ρ M3 fun w M4 => op z w M4 fun u M5 => opSet x y u M5 fun M6 => E.nx ρ M6) : sAugS a b e op C E ρ M := h
theorem par {i j : Nat} (h : r C ρ M fun ds M1 => topr ds fun x y => E.nx ((ρ.set i (some x)).set j (some y)) M1) : sPar i j r C E ρ M := h
theorem pr {x y : D} {K : D → D → Prop} (h : K x y) : topr [x, y] K := h
variable {w : DI}
theorem for_ (h : w C ρ M fun xs grd M1 => floop (g C) (t C) E grd xs ρ M1) : sFor w g t C E ρ M := h
theorem name {i : Nat} {d : D} {K : Env → Mem → Prop} (h : K (ρ.set i (some d)) M) : gName i C d ρ M K := h
theorem gnil {K : Env → Mem → Prop} (h : K ρ M) : gNil C [] ρ M K := ⟨rfl, h⟩
theorem gcons {d : D} {ds : List D} {K : Env → Mem → Prop} (h : g C d ρ M fun ρ' M' => ga C ds ρ' M' K) : gCons g ga C (d :: ds) ρ M K := h
theorem gtup {n : Nat} {xs : List D} {K : Env → Mem → Prop} (hn : xs.length = n) (h : ga C xs ρ M K) : gTup n ga C (.tup xs) ρ M K := ⟨hn, h⟩
theorem gsub {d : D} {K : Env → Mem → Prop} (h : a C ρ M fun x M1 => b C ρ M1 fun y M2 => opSet x y d M2 fun M3 => K ρ M3) : gSub a b C d ρ M K := h
/-! expressions -/
theorem var {i : Nat} {d : D} (q : ρ[i]? = some (some d)) (h : P d M) : eVar i C ρ M P := by
  show got ρ[i]? _
  rw [q]
  exact h
theorem con {d : D} (h : P d M) : eK d C ρ M P := h
theorem bin (h : a C ρ M fun x M1 => b C ρ M1 fun y M2 => op x y M2 P) : eBin op a b C ρ M P := h
theorem un {f : DUn} (h : a C ρ M fun x M1 => f x M1 P) : eUn f a C ρ M P := h
theorem enot (h : a C ρ M fun d M1 => tru d M1 fun b => P (.bl (!b)) M1) : eNot a C ρ M P := h
theorem eand (h : a C ρ M fun d M1 => tru d M1 fun c => if c = true then b C ρ M1 P else P d M1) : eAnd a b C ρ M P := h
theorem eor (h : a C ρ M fun d M1 => tru d M1 fun c => if c = true then P d M1 else b C ρ M1 P) : eOr a b C ρ M P := h
theorem eif (h : x C ρ M fun k M1 => if k = true then a C ρ M1 P else b C ρ M1 P) : eIf x a b C ρ M P := h
theorem anil {Q : List D → Mem → Prop} (h : Q [] M) : aNil C ρ M Q := h
theorem acons {Q : List D → Mem → Prop} (h : a C ρ M fun d M1 => r C ρ M1 fun ds M2 => Q (d :: ds) M2) : aCons a r C ρ M Q := h
theorem tup (h : r C ρ M fun ds M1 => ds.length ≤ sizeLine ∧ P (.tup ds) M1) : eTup r C ρ M P := h
theorem lst (h : r C ρ M fun ds M1 => ds.length ≤ sizeLine ∧ P (.ref M1.length) (M1 ++ [.lst ds])) : eLst r C ρ M P := h
theorem fn {f : DF} (h : r C ρ M fun ds M1 => f ds M1 P) : eF f r C ρ M P := h
theorem call {i : Nat} (h : r C ρ M fun ds M1 => C.call i (C.ex ρ) ds M1 P) : eCall i r C ρ M P := h
theorem meth {T : String} {m : DM} (h : a C ρ M fun d M1 => tyIs T M1 d ∧ r C ρ M1 fun ds M2 => m d ds M2 P) : eM T m a r C ρ M P := h
variable {l : DLs}
theorem enew (h : l C ρ M fun ds M1 => P (.ref M1.length) (M1 ++ [.lst ds])) : eNew l C ρ M P := h
theorem tupL (h : l C ρ M fun ds M1 => P (.tup ds) M1) : eTupL l C ρ M P := h
theorem fl {f : DC} (h : l C ρ M fun ds M1 => f ds fun r => P r M1) : eFL f l C ρ M P := h
theorem comp {tt : DT} {vs : List Nat} {Q : List D → Mem → Prop} (h : w C ρ M fun xs grd M1 => cloop (g C.calm) (tt C.calm) (e C.calm) grd (wiped ρ vs) Q xs [] M1) : lcomp w g tt e vs C ρ M Q := h
theorem cut (h : a C ρ M fun d M1 => o C ρ M1 fun x M2 => o' C ρ M2 fun y M3 => opCut d x y M3 P) : eCut a o o' C ρ M P := h
theorem onone {Q : Option Int → Mem → Prop} (h : Q none M) : oNone C ρ M Q := h
theorem osome {Q : Option Int → Mem → Prop} (h : a C ρ M fun d M1 => toin d fun i => Q (some i) M1) : oSome a C ρ M Q := h
theorem tof (h : a C ρ M fun d M1 => tobl d fun b => k b M1) : tOf a C ρ M k := h
theorem bl_ {b : Bool} {K : Bool → Prop} (h : K b) : tobl (.bl b) K := h
theorem in_ {i : Int} {K : Int → Prop} (h : K i) : toin (.int i) K := h
theorem ttru (h : a C ρ M fun d M1 => tru d M1 fun b => k b M1) : tTru a C ρ M k := h
theorem tand (h : x C ρ M fun c M1 => if c = true then y C ρ M1 k else k false M1) : tAnd x y C ρ M k := h
theorem tor (h : x C ρ M fun c M1 => if c = true then k true M1 else y C ρ M1 k) : tOr x y C ρ M k := h
theorem tnot (h : x C ρ M fun c M1 => k (!c) M1) : tNot x C ρ M k := h
theorem tyes (h : k true M) : tYesD C ρ M k := h
theorem chain (h : a C ρ M fun x M1 => b C ρ M1 fun y M2 => op x y M2 fun z M3 => tobl z fun k => if k = true then c C ρ M3 fun w M4 => op' y w M4 P else P (.bl false) M3) : eChain op op' a b c C ρ M P := h
theorem isi {T : String} (h : a C ρ M fun d M1 => toty M1 T d fun b => P (.bl b) M1) : eIsi T a C ρ M P := h
theorem ty {T t : String} {d : D} {b : Bool} {K : Bool → Prop} (h1 : tyOf M d = some t) (h2 : kitB t T = some b) (h : K b) : toty M T d K := by
  unfold toty
  rw [h1]
  dsimp only
  rw [h2]
  exact h
/-! what is walked -/
variable {Q : List D → (Mem → Prop) → Mem → Prop}
theorem iseq (h : e C ρ M fun d M1 => tosq M1 d fun xs => Q xs (grdOf d xs) M1) : iSeq e C ρ M Q := h
theorem irng1 (h : a C ρ M fun d M1 => toin d fun j => (-(2 ^ 62) ≤ j ∧ j.toNat ≤ sizeLine) ∧ Q (rngI 0 j.toNat) (fun _ => True) M1) : iRng1 a C ρ M Q := h
theorem ienum (h : a C ρ M fun d M1 => tosq M1 d fun xs => Q (enumD 0 xs) (grdOf d xs) M1) : iEnumD a C ρ M Q := h
theorem izip (h : a C ρ M fun d M1 => b C ρ M1 fun e M2 => tosq M2 d fun xs => tosq M2 e fun ys => Q (zipD xs ys) (fun M => grdOf d xs M ∧ grdOf e ys M) M2) : iZip a b C ρ M Q := h
theorem sqT {xs : List D} {K : List D → Prop} (h : K xs) : tosq M (.tup xs) K := h
theorem sqK {xs : List D} {K : List D → Prop} (h : K xs) : tosq M (.kup xs) K := h
theorem sqR {xs : List D} {K : List D → Prop} (h : K xs) : tosq M (.rol xs) K := h
theorem sqL {n : Nat} {xs : List D} {K : List D → Prop} (hM : M[n]? = some (.lst xs)) (h : K xs) : tosq M (.ref n) K := by
  show (match (match M[n]? with
    | some (.lst xs) => some xs
    | _ => none) with
    | some xs => K xs
    | none => False)
  rw [hM]
  exact h
/-! operators -/
variable {i j : Int}
theorem add (h : P (.int (i + j)) M) : opAdd (.int i) (.int j) M P := h
theorem addT {xs ys : List D} (hl : xs.length + ys.length ≤ sizeLine) (h : P (.tup (xs ++ ys)) M) : opAdd (.tup xs) (.tup ys) M P := ⟨hl, h⟩
theorem addL {m n : Nat} {xs ys : List D} (h1 : M[m]? = some (.lst xs)) (h2 : M[n]? = some (.lst ys)) (hl : xs.length + ys.length ≤ sizeLine) (h : P (.ref M.length) (M ++ [.lst (xs ++ ys)])) : opAdd (.ref m) (.ref n) M P := by
  show (match M[m]?, M[n]? with
    | some (.lst xs), some (.lst ys) => xs.length + ys.length ≤ sizeLine ∧ P (.ref M.length) (M ++ [.lst (xs ++ ys)])
    | _, _ => False)
  rw [h1, h2]
  exact ⟨hl, h⟩
theorem iadd (h : P (.int (i + j)) M) : iaAdd (.int i) (.int j) M P := h
theorem sub (h : P (.int (i - j)) M) : opSub (.int i) (.int j) M P := h
theorem mul (hc : IntMulOk i j) (h : P (.int (i * j)) M) : opMul (.int i) (.int j) M P := ⟨hc, h⟩
theorem imul (hc : IntMulOk i j) (h : P (.int (i * j)) M) : iaMul (.int i) (.int j) M P := ⟨hc, h⟩
theorem rep {m : Nat} {xs : List D} {z : Int} (h1 : M[m]? = some (.lst xs)) (hc : -(2 ^ 63) ≤ z ∧ z < 2 ^ 63 ∧ xs.length * z.toNat ≤ sizeLine) (h : P (.ref M.length) (M ++ [.lst (List.replicate z.toNat xs).flatten])) : opMul (.ref m) (.int z) M P := by
  show (match M[m]? with
    | some (.lst xs) => (-(2 ^ 63) ≤ z ∧ z < 2 ^ 63 ∧ xs.length * z.toNat ≤ sizeLine) ∧ P (.ref M.length) (M ++ [.lst (List.replicate z.toNat xs).flatten])
    | _ => False)
  rw [h1]
  exact ⟨hc, h⟩
theorem div (h0 : 0 < j) (hl : j.natAbs.log2 < 9000) (h : P (.int (i / j)) M) : opDiv (.int i) (.int j) M P := ⟨⟨h0, hl⟩, h⟩
theorem mod (h0 : 0 < j) (h : P (.int (i % j)) M) : opMod (.int i) (.int j) M P := ⟨h0, h⟩
theorem pow (hc : 0 ≤ j ∧ j ≤ 1000000 ∧ i.natAbs < 2 ^ 64) (h : P (.int (i ^ j.toNat)) M) : opPow (.int i) (.int j) M P := ⟨hc, h⟩
theorem shl (hc : 0 ≤ j ∧ j ≤ 1000000 ∧ i.natAbs < 2 ^ 64) (h : P (.int (i * 2 ^ j.toNat)) M) : opShl (.int i) (.int j) M P := ⟨hc, h⟩
theorem shr (hc : 0 ≤ j) (h : P (.int (i / 2 ^ j.toNat)) M) : opShr (.int i) (.int j) M P := ⟨hc, h⟩
theorem neg (h : P (.int (-i)) M) : opNeg (.int i) M P := h
theorem lt (h : P (.bl (decide (i < j))) M) : opLt (.int i) (.int j) M P := h
theorem le (h : P (.bl (decide (i ≤ j))) M) : opLe (.int i) (.int j) M P := h
theorem gt (h : P (.bl (decide (j < i))) M) : opGt (.int i) (.int j) M P := h
theorem ge (h : P (.bl (decide (j ≤ i))) M) : opGe (.int i) (.int j) M P := h
theorem eq_ (h : P (.bl (decide (i = j))) M) : opEq (.int i) (.int j) M P := by
  refine ⟨⟨rfl, rfl⟩, ?_⟩
  have e : PyData.eqv (toPy (.int i)) (toPy (.int j)) = decide (i = j) := by
    show PyData.eqv (.int i) (.int j) = _
    rw [Bool.eq_iff_iff]
    simp [PyData.eqv]
  rw [e]
  exact h
theorem ne_ (h : P (.bl (!decide (i = j))) M) : opNe (.int i) (.int j) M P := by
  refine ⟨⟨rfl, rfl⟩, ?_⟩
  have e : PyData.eqv (toPy (.int i)) (toPy (.int j)) = decide (i = j) := by
    show PyData.eqv (.int i) (.int j) = _
    rw [Bool.eq_iff_iff]
    simp [PyData.eqv]
  rw [e]
  exact h
theorem neB {x y : Bool} (h : P (.bl (x != y)) M) : opNe (.bl x) (.bl y) M P := by
  refine ⟨⟨rfl, rfl⟩, ?_⟩
  have e : (!PyData.eqv (toPy (.bl x)) (toPy (.bl y))) = (x != y) := by cases x <;> cases y <;> rfl
  rw [e]
  exact h
theorem eqB {x y : Bool} (h : P (.bl (x == y)) M) : opEq (.bl x) (.bl y) M P := by
  refine ⟨⟨rfl, rfl⟩, ?_⟩
  have e : PyData.eqv (toPy (.bl x)) (toPy (.bl y)) = (x == y) := by cases x <;> cases y <;> rfl
  rw [e]
  exact h
theorem neTT (h : P (.bl false) M) : opNe (.bl true) (.bl true) M P := neB h
theorem eqTT (h : P (.bl true) M) : opEq (.bl true) (.bl true) M P := eqB h
theorem neTF (h : P (.bl true) M) : opNe (.bl true) (.bl false) M P := neB h
theorem eqTF (h : P (.bl false) M) : opEq (.bl true) (.bl false) M P := eqB h
theorem neFT (h : P (.bl true) M) : opNe (.bl false) (.bl true) M P := neB h
theorem eqFT (h : P (.bl false) M) : opEq (.bl false) (.bl true) M P := eqB h
theorem neFF (h : P (.bl false) M) : opNe (.bl false) (.bl false) M P := neB h
theorem eqFF (h : P (.bl true) M) : opEq (.bl false) (.bl false) M P := eqB h
theorem is0I (h : P (.bl false) M) : opIs (.int i) .non M P := h
theorem isnt0I (h : P (.bl true) M) : opIsNot (.int i) .non M P := h
theorem is0T {ds : List D} (h : P (.bl false) M) : opIs (.tup ds) .non M P := h
theorem isnt0T {ds : List D} (h : P (.bl true) M) : opIsNot (.tup ds) .non M P := h
theorem is0S {z : Str} (h : P (.bl false) M) : opIs (.str z) .non M P := h
theorem isnt0S {z : Str} (h : P (.bl true) M) : opIsNot (.str z) .non M P := h
theorem is0B {w : Bool} (h : P (.bl false) M) : opIs (.bl w) .non M P := h
theorem isnt0B {w : Bool} (h : P (.bl true) M) : opIsNot (.bl w) .non M P := h
theorem is0R {m : Nat} (h : P (.bl false) M) : opIs (.ref m) .non M P := h
theorem isnt0R {m : Nat} (h : P (.bl true) M) : opIsNot (.ref m) .non M P := h
theorem is0N (h : P (.bl true) M) : opIs .non .non M P := h
theorem isnt0N (h : P (.bl false) M) : opIsNot .non .non M P := h
theorem is0 {d : D} (h : P (.bl (isNon d)) M) : opIs d .non M P := h
theorem isnt0 {d : D} (h : P (.bl (!isNon d)) M) : opIsNot d .non M P := h
theorem ixT {xs : List D} {d : D} (q : atI xs i = some d) (h : P d M) : opIx (.tup xs) (.int i) M P := by
  show (match atI xs i with
    | some d => P d M
    | none => False)
  rw [q]
  exact h
theorem ixK {xs : List D} {d : D} (q : atI xs i = some d) (h : P d M) : opIx (.kup xs) (.int i) M P := by
  show (match atI xs i with
    | some d => P d M
    | none => False)
  rw [q]
  exact h
theorem ixL {n : Nat} {xs : List D} {d : D} (hM : M[n]? = some (.lst xs)) (q : atI xs i = some d) (h : P d M) : opIx (.ref n) (.int i) M P := by
  show (match (match M[n]? with
    | some (.lst xs) => some xs
    | _ => none) with
    | some xs => (match atI xs i with
      | some d => P d M
      | none => False)
    | none => _)
  rw [hM]
  dsimp only
  rw [q]
  exact h
theorem getL {n : Nat} {xs : List D} {d : D} (hM : M[n]? = some (.lst xs)) (q : atI xs i = some d) (h : P d M) : opGetL (.ref n) (.int i) M P := by
  show (match M[n]? with
    | some (.lst xs) => (match atI xs i with
      | some d => P d M
      | none => False)
    | _ => False)
  rw [hM]
  dsimp only
  rw [q]
  exact h
theorem setL {n j : Nat} {xs : List D} {d : D} {K : Mem → Prop} (hM : M[n]? = some (.lst xs)) (q : ixN xs.length i = some j) (h : K (M.set n (.lst (xs.set j d)))) : opSet (.ref n) (.int i) d M K := by
  show (match M[n]? with
    | some (.lst xs) => (match ixN xs.length i with
        | some j => K (M.set n (.lst (xs.set j d)))
        | none => False)
    | some (.dK kvs) => _
    | some (.dT kvs) => _
    | _ => False)
  rw [hM]
  dsimp only
  rw [q]
  exact h
/-! built-ins, methods -/
theorem lenL {n : Nat} {xs : List D} (hM : M[n]? = some (.lst xs)) (h : P (.int xs.length) M) : fLen [.ref n] M P := by
  show (match (match M[n]? with
    | some (.lst xs) => some xs
    | _ => none) with
    | some xs => P (.int xs.length) M
    | none => _)
  rw [hM]
  exact h
theorem lenT {xs : List D} (h : P (.int xs.length) M) : fLen [.tup xs] M P := h
theorem abs_ (h : P (.int (if i < 0 then -i else i)) M) : fAbs [.int i] M P := h
theorem int_ (h : P (.int i) M) : fInt [.int i] M P := h
theorem intB {v : Bool} (h : P (.int (if v then 1 else 0)) M) : fInt [.bl v] M P := h
theorem max2 (h : P (.int (if j > i then j else i)) M) : fMax2 [.int i, .int j] M P := h
theorem min2 (h : P (.int (if j < i then j else i)) M) : fMin2 [.int i, .int j] M P := h
theorem gcd_ (h : P (.int ((Nat.gcd i.natAbs j.natAbs : Nat) : Int)) M) : fGcd [.int i, .int j] M P := h
theorem tupT {xs : List D} (h : P (.tup xs) M) : fTuple [.tup xs] M P := h
theorem tupL1 {n : Nat} {xs : List D} (hM : M[n]? = some (.lst xs)) (h : P (.tup xs) M) : fTuple [.ref n] M P := by
  show (match (match M[n]? with
    | some (.lst xs) => some xs
    | _ => none) with
    | some xs => P (.tup xs) M
    | none => False)
  rw [hM]
  exact h
theorem listL {n : Nat} {xs : List D} (hM : M[n]? = some (.lst xs)) (h : P (.ref M.length) (M ++ [.lst xs])) : fList [.ref n] M P := by
  show (match (match M[n]? with
    | some (.lst xs) => some xs
    | _ => none) with
    | some xs => P (.ref M.length) (M ++ [.lst xs])
    | none => False)
  rw [hM]
  exact h
theorem listT {xs : List D} (h : P (.ref M.length) (M ++ [.lst xs])) : fList [.tup xs] M P := h
theorem isL {n : Nat} {xs : List D} (hM : M[n]? = some (.lst xs)) : tyIs "list" M (.ref n) := by
  show (match M[n]? with
    | some (.lst _) => "list" = "list"
    | some (.dK _) => "list" = "dict"
    | some (.dT _) => "list" = "dict"
    | none => False)
  rw [hM]
theorem append {n : Nat} {xs : List D} {d : D} (hM : M[n]? = some (.lst xs)) (hl : xs.length < sizeLine) (h : P .non (M.set n (.lst (xs ++ [d])))) : mAppend (.ref n) [d] M P := by
  show (match M[n]? with
    | some (.lst xs) => xs.length < sizeLine ∧ P .non (M.set n (.lst (xs ++ [d])))
    | _ => False)
  rw [hM]
  exact ⟨hl, h⟩
theorem extend {n m : Nat} {xs ys : List D} (hM : M[n]? = some (.lst xs)) (hN : M[m]? = some (.lst ys)) (hl : xs.length + ys.length ≤ sizeLine) (h : P .non (M.set n (.lst (xs ++ ys)))) : mExtend (.ref n) [.ref m] M P := by
  show (match M[n]?, M[m]? with
    | some (.lst xs), some (.lst ys) => xs.length + ys.length ≤ sizeLine ∧ P .non (M.set n (.lst (xs ++ ys)))
    | _, _ => False)
  rw [hM, hN]
  exact ⟨hl, h⟩
theorem pop0 {n : Nat} {xs : List D} {d : D} (hM : M[n]? = some (.lst (xs ++ [d]))) (h : P d (M.set n (.lst xs))) : mPop (.ref n) [] M P := by
  show (match M[n]? with
    | some (.lst xs) => (match xs[xs.length - 1]? with
      | some y => P y (M.set n (.lst xs.dropLast))
      | none => False)
    | _ => False)
  rw [hM]
  simp
  exact h
theorem count {n : Nat} {xs : List D} {ns : List Int} {z : Int} (hM : M[n]? = some (.lst xs)) (hi : intsOf xs = some ns) (h : P (.int (ns.count z : Nat)) M) : mCount (.ref n) [.int z] M P := by
  show (match M[n]? with
    | some (.lst xs) => (match intsOf xs with
      | some ns => P (.int (ns.count z : Nat)) M
      | none => False)
    | _ => False)
  rw [hM]
  dsimp only
  rw [hi]
  exact h
theorem popAt {n k : Nat} {xs : List D} {d : D} (hM : M[n]? = some (.lst xs)) (hk : i = (k : Nat)) (hl : xs[k]? = some d) (hs : xs.length ≤ sizeLine) (h : P d (M.set n (.lst (xs.eraseIdx k)))) : mPop (.ref n) [.int i] M P := by
  subst hk
  have hlt := (List.getElem?_eq_some_iff.mp hl).1
  have hz : sizeLine = 16777216 := by decide
  show (match M[n]? with
    | some (.lst xs) => (-(2 ^ 63) ≤ ((k : Nat) : Int) ∧ ((k : Nat) : Int) < 2 ^ 63) ∧ (match seqIndex? (k : Nat) xs.length with
      | some k => (match xs[k]? with
        | some y => P y (M.set n (.lst (xs.eraseIdx k)))
        | none => False)
      | none => False)
    | _ => False)
  rw [hM]
  dsimp only
  rw [seqIndex_of (by omega) (by omega)]
  dsimp only
  rw [show ((k : Nat) : Int).toNat = k from rfl, hl]
  exact ⟨⟨by omega, by omega⟩, h⟩
end
/-! places -/
theorem ix_lt {n k : Nat} (h : k < n) : ixN n (k : Nat) = some k := by
  unfold ixN
  rw [if_pos (by omega), if_pos (by omega)]
  rfl
theorem at_nat {α : Type} {xs : List α} {k : Nat} {d : α} (h : xs[k]? = some d) : atI xs (k : Nat) = some d := by
  unfold atI
  rw [ix_lt (List.getElem?_eq_some_iff.mp h).1]
  exact h
section
variable {α : Type} {a b c d e f g : α} {l : List α}
theorem at0 : atI (a :: l) 0 = some a := at_nat (k := 0) rfl
theorem at1 : atI (a :: b :: l) 1 = some b := at_nat (k := 1) rfl
theorem at2 : atI (a :: b :: c :: l) 2 = some c := at_nat (k := 2) rfl
theorem at3 : atI (a :: b :: c :: d :: l) 3 = some d := at_nat (k := 3) rfl
theorem at4 : atI (a :: b :: c :: d :: e :: l) 4 = some e := at_nat (k := 4) rfl
theorem at5 : atI (a :: b :: c :: d :: e :: f :: l) 5 = some f := at_nat (k := 5) rfl
theorem ix0 : ixN (a :: l).length 0 = some 0 := ix_lt (k := 0) (by simp)
theorem ix1 : ixN (a :: b :: l).length 1 = some 1 := ix_lt (k := 1) (by simp)
theorem ix2 : ixN (a :: b :: c :: l).length 2 = some 2 := ix_lt (k := 2) (by simp)
end
theorem set0 {M : Mem} {n : Nat} {x d : D} {l : List D} {K : Mem → Prop} (hM : M[n]? = some (.lst (x :: l))) (h : K (M.set n (.lst (d :: l)))) : opSet (.ref n) (.int 0) d M K := setL hM ix0 h
theorem set1 {M : Mem} {n : Nat} {x y d : D} {l : List D} {K : Mem → Prop} (hM : M[n]? = some (.lst (x :: y :: l))) (h : K (M.set n (.lst (x :: d :: l)))) : opSet (.ref n) (.int 1) d M K := setL hM ix1 h
theorem k_NoneType_int : kitB "NoneType" "int" = some false := by kernel_rfl
theorem k_NoneType_bool : kitB "NoneType" "bool" = some false := by kernel_rfl
theorem k_NoneType_str : kitB "NoneType" "str" = some false := by kernel_rfl
theorem k_NoneType_tuple : kitB "NoneType" "tuple" = some false := by kernel_rfl
theorem k_NoneType_list : kitB "NoneType" "list" = some false := by kernel_rfl
theorem k_NoneType_dict : kitB "NoneType" "dict" = some false := by kernel_rfl
theorem k_bool_int : kitB "bool" "int" = some true := by kernel_rfl
theorem k_bool_bool : kitB "bool" "bool" = some true := by kernel_rfl
theorem k_bool_str : kitB "bool" "str" = some false := by kernel_rfl
theorem k_bool_tuple : kitB "bool" "tuple" = some false := by kernel_rfl
theorem k_bool_list : kitB "bool" "list" = some false := by kernel_rfl
theorem k_bool_dict : kitB "bool" "dict" = some false := by kernel_rfl
theorem k_int_int : kitB "int" "int" = some true := by kernel_rfl
theorem k_int_bool : kitB "int" "bool" = some false := by kernel_rfl
theorem k_int_str : kitB "int" "str" = some false := by kernel_rfl
theorem k_int_tuple : kitB "int" "tuple" = some false := by kernel_rfl
theorem k_int_list : kitB "int" "list" = some false := by kernel_rfl
theorem k_int_dict : kitB "int" "dict" = some false := by kernel_rfl
theorem k_str_int : kitB "str" "int" = some false := by kernel_rfl
theorem k_str_bool : kitB "str" "bool" = some false := by kernel_rfl
theorem k_str_str : kitB "str" "str" = some true := by kernel_rfl
theorem k_str_tuple : kitB "str" "tuple" = some false := by kernel_rfl
theorem k_str_list : kitB "str" "list" = some false := by kernel_rfl
theorem k_str_dict : kitB "str" "dict" = some false := by kernel_rfl
theorem k_tuple_int : kitB "tuple" "int" = some false := by kernel_rfl
theorem k_tuple_bool : kitB "tuple" "bool" = some false := by kernel_rfl
theorem k_tuple_str : kitB "tuple" "str" = some false := by kernel_rfl
theorem k_tuple_tuple : kitB "tuple" "tuple" = some true := by kernel_rfl
theorem k_tuple_list : kitB "tuple" "list" = some false := by kernel_rfl
theorem k_tuple_dict : kitB "tuple" "dict" = some false := by kernel_rfl
theorem k_list_int : kitB "list" "int" = some false := by kernel_rfl
theorem k_list_bool : kitB "list" "bool" = some false := by kernel_rfl
theorem k_list_str : kitB "list" "str" = some false := by kernel_rfl
theorem k_list_tuple : kitB "list" "tuple" = some false := by kernel_rfl
theorem k_list_list : kitB "list" "list" = some true := by kernel_rfl
theorem k_list_dict : kitB "list" "dict" = some false := by kernel_rfl
theorem k_dict_int : kitB "dict" "int" = some false := by kernel_rfl
theorem k_dict_bool : kitB "dict" "bool" = some false := by kernel_rfl
theorem k_dict_str : kitB "dict" "str" = some false := by kernel_rfl
theorem k_dict_tuple : kitB "dict" "tuple" = some false := by kernel_rfl
theorem k_dict_list : kitB "dict" "list" = some false := by kernel_rfl
theorem k_dict_dict : kitB "dict" "dict" = some true := by kernel_rfl
theorem size_is : sizeLine = 16777216 := by decide
section
variable {C : Ctx} {E : DEnds} {M : Mem} {P : Po} {e : DE} {op : DOp} {d : D} {l : List (Option D)} {y : Option D} {K : Env → Mem → Prop} {x0 x1 x2 x3 x4 x5 x6 x7 x8 x9 x10 x11 x12 x13 x14 x15 : Option D}
theorem var0 (h : P d M) : eVar 0 C (some d :: l) M P := h
theorem name0 (h : K (some d :: l) M) : gName 0 C d (y :: l) M K := h
theorem aug0 (h : e C (some d :: l) M fun y M1 => op d y M1 fun z M2 => E.nx (some z :: l) M2) : sAug 0 e op C E (some d :: l) M := h
theorem var1 (h : P d M) : eVar 1 C (x0 :: some d :: l) M P := h
theorem name1 (h : K (x0 :: some d :: l) M) : gName 1 C d (x0 :: y :: l) M K := h
theorem aug1 (h : e C (x0 :: some d :: l) M fun y M1 => op d y M1 fun z M2 => E.nx (x0 :: some z :: l) M2) : sAug 1 e op C E (x0 :: some d :: l) M := h
theorem var2 (h : P d M) : eVar 2 C (x0 :: x1 :: some d :: l) M P := h
theorem name2 (h : K (x0 :: x1 :: some d :: l) M) : gName 2 C d (x0 :: x1 :: y :: l) M K := h
theorem aug2 (h : e C (x0 :: x1 :: some d :: l) M fun y M1 => op d y M1 fun z M2 => E.nx (x0 :: x1 :: some z :: l) M2) : sAug 2 e op C E (x0 :: x1 :: some d :: l) M := h
theorem var3 (h : P d M) : eVar 3 C (x0 :: x1 :: x2 :: some d :: l) M P := h
theorem name3 (h : K (x0 :: x1 :: x2 :: some d :: l) M) : gName 3 C d (x0 :: x1 :: x2 :: y :: l) M K := h
theorem aug3 (h : e C (x0 :: x1 :: x2 :: some d :: l) M fun y M1 => op d y M1 fun z M2 => E.nx (x0 :: x1 :: x2 :: some z :: l) M2) : sAug 3 e op C E (x0 :: x1 :: x2 :: some d :: l) M := h
theorem var4 (h : P d M) : eVar 4 C (x0 :: x1 :: x2 :: x3 :: some d :: l) M P := h
theorem name4 (h : K (x0 :: x1 :: x2 :: x3 :: some d :: l) M) : gName 4 C d (x0 :: x1 :: x2 :: x3 :: y :: l) M K := h
theorem aug4 (h : e C (x0 :: x1 :: x2 :: x3 :: some d :: l) M fun y M1 => op d y M1 fun z M2 => E.nx (x0 :: x1 :: x2 :: x3 :: some z :: l) M2) : sAug 4 e op C E (x0 :: x1 :: x2 :: x3 :: some d :: l) M := h
theorem var5 (h : P d M) : eVar 5 C (x0 :: x1 :: x2 :: x3 :: x4 :: some d :: l) M P := h
theorem name5 (h : K (x0 :: x1 :: x2 :: x3 :: x4 :: some d :: l) M) : gName 5 C d (x0 :: x1 :: x2 :: x3 :: x4 :: y :: l) M K := h
theorem aug5 (h : e C (x0 :: x1 :: x2 :: x3 :: x4 :: some d :: l) M fun y M1 => op d y M1 fun z M2 => E.nx (x0 :: x1 :: x2 :: x3 :: x4 :: some z :: l) M2) : sAug 5 e op C E (x0 :: x1 :: x2 :: x3 :: x4 :: some d :: l) M := h
theorem var6 (h : P d M) : eVar 6 C (x0 :: x1 :: x2 :: x3 :: x4 :: x5 :: some d :: l) M P := h
theorem name6 (h : K (x0 :: x1 :: x2 :: x3 :: x4 :: x5 :: some d :: l) M) : gName 6 C d (x0 :: x1 :: x2 :: x3 :: x4 :: x5 :: y :: l) M K := h
theorem aug6 (h : e C (x0 :: x1 :: x2 :: x3 :: x4 :: x5 :: some d :: l) M fun y M1 => op d y M1 fun z M2 => E.nx (x0 :: x1 :: x2 :: x3 :: x4 :: x5 :: some z :: l) M2) : sAug 6 e op C E (x0 :: x1 :: x2 :: x3 :: x4 :: x5 :: some d :: l) M := h
theorem var7 (h : P d M) : eVar 7 C (x0 :: x1 :: x2 :: x3 :: x4 :: x5 :: x6 :: some d :: l) M P := h
theorem name7 (h : K (x0 :: x1 :: x2 :: x3 :: x4 :: x5 :: x6 :: some d :: l) M) : gName 7 C d (x0 :: x1 :: x2 :: x3 :: x4 :: x5 :: x6 :: y :: l) M K := h
theorem aug7 (h : e C (x0 :: x1 :: x2 :: x3 :: x4 :: x5 :: x6 :: some d :: l) M fun y M1 => op d y M1 fun z M2 => E.nx (x0 :: x1 :: x2 :: x3 :: x4 :: x5 :: x6 :: some z :: l) M2) : sAug 7 e op C E (x0 :: x1 :: x2 :: x3 :: x4 :: x5 :: x6 :: some d :: l) M := h
theorem var8 (h : P d M) : eVar 8 C (x0 :: x1 :: x2 :: x3 :: x4 :: x5 :: x6 :: x7 :: some d :: l) M P := h
theorem name8 (h : K (x0 :: x1 :: x2 :: x3 :: x4 :: x5 :: x6 :: x7 :: some d :: l) M) : gName 8 C d (x0 :: x1 :: x2 :: x3 :: x4 :: x5 :: x6 :: x7 :: y :: l) M K := h
theorem aug8 (h : e C (x0 :: x1 :: x2 :: x3 :: x4 :: x5 :: x6 :: x7 :: some d :: l) M fun y M1 => op d y M1 fun z M2 => E.nx (x0 :: x1 :: x2 :: x3 :: x4 :: x5 :: x6 :: x7 :: some z :: l) M2) : sAug 8 e op C E (x0 :: x1 :: x2 :: x3 :: x4 :: x5 :: x6 :: x7 :: some d :: l) M := h
theorem var9 (h : P d M) : eVar 9 C (x0 :: x1 :: x2 :: x3 :: x4 :: x5 :: x6 :: x7 :: x8 :: some d :: l) M P := h
theorem name9 (h : K (x0 :: x1 :: x2 :: x3 :: x4 :: x5 :: x6 :: x7 :: x8 :: some d :: l) M) : gName 9 C d (x0 :: x1 :: x2 :: x3 :: x4 :: x5 :: x6 :: x7 :: x8 :: y :: l) M K := h
theorem aug9 (h : e C (x0 :: x1 :: x2 :: x3 :: x4 :: x5 :: x6 :: x7 :: x8 :: some d :: l) M fun y M1 => op d y M1 fun z M2 => E.nx (x0 :: x1 :: x2 :: x3 :: x4 :: x5 :: x6 :: x7 :: x8 :: some z :: l) M2) : sAug 9 e op C E (x0 :: x1 :: x2 :: x3 :: x4 :: x5 :: x6 :: x7 :: x8 :: some d :: l) M := h
theorem var10 (h : P d M) : eVar 10 C (x0 :: x1 :: x2 :: x3 :: x4 :: x5 :: x6 :: x7 :: x8 :: x9 :: some d :: l) M P := h
theorem name10 (h : K (x0 :: x1 :: x2 :: x3 :: x4 :: x5 :: x6 :: x7 :: x8 :: x9 :: some d :: l) M) : gName 10 C d (x0 :: x1 :: x2 :: x3 :: x4 :: x5 :: x6 :: x7 :: x8 :: x9 :: y :: l) M K := h
theorem aug10 (h : e C (x0 :: x1 :: x2 :: x3 :: x4 :: x5 :: x6 :: x7 :: x8 :: x9 :: some d :: l) M fun y M1 => op d y M1 fun z M2 => E.nx (x0 :: x1 :: x2 :: x3 :: x4 :: x5 :: x6 :: x7 :: x8 :: x9 :: some z :: l) M2) : sAug 10 e op C E (x0 :: x1 :: x2 :: x3 :: x4 :: x5 :: x6 :: x7 :: x8 :: x9 :: some d :: l) M := h
theorem var11 (h : P d M) : eVar 11 C (x0 :: x1 :: x2 :: x3 :: x4 :: x5 :: x6 :: x7 :: x8 :: x9 :: x10 :: some d :: l) M P := h
theorem name11 (h : K (x0 :: x1 :: x2 :: x3 :: x4 :: x5 :: x6 :: x7 :: x8 :: x9 :: x10 :: some d :: l) M) : gName 11 C d (x0 :: x1 :: x2 :: x3 :: x4 :: x5 :: x6 :: x7 :: x8 :: x9 :: x10 :: y :: l) M K := h
theorem aug11 (h : e C (x0 :: x1 :: x2 :: x3 :: x4 :: x5 :: x6 :: x7 :: x8 :: x9 :: x10 :: some d :: l) M fun y M1 => op d y M1 fun z M2 => E.nx (x0 :: x1 :: x2 :: x3 :: x4 :: x5 :: x6 :: x7 :: x8 :: x9 :: x10 :: some z :: l) M2) : sAug 11 e op C E (x0 :: x1 :: x2 :: x3 :: x4 :: x5 :: x6 :: x7 :: x8 :: x9 :: x10 :: some d :: l) M := h
theorem var12 (h : P d M) : eVar 12 C (x0 :: x1 :: x2 :: x3 :: x4 :: x5 :: x6 :: x7 :: x8 :: x9 :: x10 :: x11 :: some d :: l) M P := h
theorem name12 (h : K (x0 :: x1 :: x2 :: x3 :: x4 :: x5 :: x6 :: x7 :: x8 :: x9 :: x10 :: x11 :: some d :: l) M) : gName 12 C d (x0 :: x1 :: x2 :: x3 :: x4 :: x5 :: x6 :: x7 :: x8 :: x9 :: x10 :: x11 :: y :: l) M K := h
theorem aug12 (h : e C (x0 :: x1 :: x2 :: x3 :: x4 :: x5 :: x6 :: x7 :: x8 :: x9 :: x10 :: x11 :: some d :: l) M fun y M1 => op d y M1 fun z M2 => E.nx (x0 :: x1 :: x2 :: x3 :: x4 :: x5 :: x6 :: x7 :: x8 :: x9 :: x10 :: x11 :: some z :: l) M2) : sAug 12 e op C E (x0 :: x1 :: x2 :: x3 :: x4 :: x5 :: x6 :: x7 :: x8 :: x9 :: x10 :: x11 :: some d :: l) M := h
theorem var13 (h : P d M) : eVar 13 C (x0 :: x1 :: x2 :: x3 :: x4 :: x5 :: x6 :: x7 :: x8 :: x9 :: x10 :: x11 :: x12 :: some d :: l) M P := h
theorem name13 (h : K (x0 :: x1 :: x2 :: x3 :: x4 :: x5 :: x6 :: x7 :: x8 :: x9 :: x10 :: x11 :: x12 :: some d :: l) M) : gName 13 C d (x0 :: x1 :: x2 :: x3 :: x4 :: x5 :: x6 :: x7 :: x8 :: x9 :: x10 :: x11 :: x12 :: y :: l) M K := h
theorem aug13 (h : e C (x0 :: x1 :: x2 :: x3 :: x4 :: x5 :: x6 :: x7 :: x8 :: x9 :: x10 :: x11 :: x12 :: some d :: l) M fun y M1 => op d y M1 fun z M2 => E.nx (x0 :: x1 :: x2 :: x3 :: x4 :: x5 :: x6 :: x7 :: x8 :: x9 :: x10 :: x11 :: x12 :: some z :: l) M2) : sAug 13 e op C E (x0 :: x1 :: x2 :: x3 :: x4 :: x5 :: x6 :: x7 :: x8 :: x9 :: x10 :: x11 :: x12 :: some d :: l) M := h
theorem var14 (h : P d M) : eVar 14 C (x0 :: x1 :: x2 :: x3 :: x4 :: x5 :: x6 :: x7 :: x8 :: x9 :: x10 :: x11 :: x12 :: x13 :: some d :: l) M P := h
theorem name14 (h : K (x0 :: x1 :: x2 :: x3 :: x4 :: x5 :: x6 :: x7 :: x8 :: x9 :: x10 :: x11 :: x12 :: x13 :: some d :: l) M) : gName 14 C d (x0 :: x1 :: x2 :: x3 :: x4 :: x5 :: x6 :: x7 :: x8 :: x9 :: x10 :: x11 :: x12 :: x13 :: y :: l) M K := h
theorem aug14 (h : e C (x0 :: x1 :: x2 :: x3 :: x4 :: x5 :: x6 :: x7 :: x8 :: x9 :: x10 :: x11 :: x12 :: x13 :: some d :: l) M fun y M1 => op d y M1 fun z M2 => E.nx (x0 :: x1 :: x2 :: x3 :: x4 :: x5 :: x6 :: x7 :: x8 :: x9 :: x10 :: x11 :: x12 :: x13 :: some z :: l) M2) : sAug 14 e op C E (x0 :: x1 :: x2 :: x3 :: x4 :: x5 :: x6 :: x7 :: x8 :: x9 :: x10 :: x11 :: x12 :: x13 :: some d :: l) M := h
theorem var15 (h : P d M) : eVar 15 C (x0 :: x1 :: x2 :: x3 :: x4 :: x5 :: x6 :: x7 :: x8 :: x9 :: x10 :: x11 :: x12 :: x13 :: x14 :: some d :: l) M P := h
theorem name15 (h : K (x0 :: x1 :: x2 :: x3 :: x4 :: x5 :: x6 :: x7 :: x8 :: x9 :: x10 :: x11 :: x12 :: x13 :: x14 :: some d :: l) M) : gName 15 C d (x0 :: x1 :: x2 :: x3 :: x4 :: x5 :: x6 :: x7 :: x8 :: x9 :: x10 :: x11 :: x12 :: x13 :: x14 :: y :: l) M K := h
theorem aug15 (h : e C (x0 :: x1 :: x2 :: x3 :: x4 :: x5 :: x6 :: x7 :: x8 :: x9 :: x10 :: x11 :: x12 :: x13 :: x14 :: some d :: l) M fun y M1 => op d y M1 fun z M2 => E.nx (x0 :: x1 :: x2 :: x3 :: x4 :: x5 :: x6 :: x7 :: x8 :: x9 :: x10 :: x11 :: x12 :: x13 :: x14 :: some z :: l) M2) : sAug 15 e op C E (x0 :: x1 :: x2 :: x3 :: x4 :: x5 :: x6 :: x7 :: x8 :: x9 :: x10 :: x11 :: x12 :: x13 :: x14 :: some d :: l) M := h
end
theorem cutR {xs : List D} {lo hi : Option Int} {M : Mem} {P : Po} (h : P (.ref M.length) (M ++ [.lst (cutD xs lo hi)])) : opCut (.rol xs) lo hi M P := h
theorem cutT {xs : List D} {lo hi : Option Int} {M : Mem} {P : Po} (h : P (.tup (cutD xs lo hi)) M) : opCut (.tup xs) lo hi M P := h
theorem cutL {n : Nat} {xs : List D} {lo hi : Option Int} {M : Mem} {P : Po} (hM : M[n]? = some (.lst xs)) (h : P (.ref M.length) (M ++ [.lst (cutD xs lo hi)])) : opCut (.ref n) lo hi M P := by
  show (match M[n]? with
    | some (.lst xs) => P (.ref M.length) (M ++ [.lst (cutD xs lo hi)])
    | _ => False)
  rw [hM]
  exact h
theorem cut_to {xs : List D} {m : Nat} : cutD xs none (some (m : Int)) = xs.take m := by
  unfold cutD HT.sIx
  simp
  rw [if_neg (by omega)]
  rcases Nat.le_total m xs.length with h | h
  · rw [Nat.min_eq_left h]; omega
  · rw [Nat.min_eq_right h]; omega
/-! two ways -/
theorem dec {p : Prop} [Decidable p] {A B : Prop} (h1 : p → A) (h2 : ¬ p → B) : if decide p = true then A else B := by
  by_cases h : p
  · rw [if_pos (decide_eq_true h)]; exact h1 h
  · rw [if_neg (by simpa using h)]; exact h2 h
theorem dec_not {p : Prop} [Decidable p] {A B : Prop} (h1 : ¬ p → A) (h2 : p → B) : if (!decide p) = true then A else B := by
  by_cases h : p
  · rw [if_neg (by simp [h])]; exact h2 h
  · rw [if_pos (by simp [h])]; exact h1 h
theorem yes {A B : Prop} (h : A) : if true = true then A else B := h
theorem no {A B : Prop} (h : B) : if false = true then A else B := h
theorem nyes {A B : Prop} (h : B) : if (!true) = true then A else B := h
theorem nno {A B : Prop} (h : A) : if (!false) = true then A else B := h
theorem truI {i : Int} {M : Mem} {k : Bool → Prop} (h : k (decide (i ≠ 0))) : tru (.int i) M k := by
  have e : decide (i ≠ 0) = (i != 0) := by by_cases h : i = 0 <;> simp [h]
  rw [e] at h
  exact h
theorem truB {b : Bool} {M : Mem} {k : Bool → Prop} (h : k b) : tru (.bl b) M k := h
theorem truL {n : Nat} {xs : List D} {M : Mem} {k : Bool → Prop} (hM : M[n]? = some (.lst xs)) (h : k (!xs.isEmpty)) : tru (.ref n) M k := by
  show (match M[n]? with
    | some (.lst xs) => k (!xs.isEmpty)
    | some (.dK kvs) => k (!kvs.isEmpty)
    | _ => False)
  rw [hM]
  exact h
theorem mulR {i j : Int} (h : -(2 ^ 64) < j ∧ j < 2 ^ 64) : IntMulOk i j := (L2.CMul.ok (.inr h))
theorem mulL {i j : Int} (h : -(2 ^ 64) < i ∧ i < 2 ^ 64) : IntMulOk i j := (L2.CMul.ok (.inl h))
end W
end DL
/-! The data layer: small facts for the laws' data proofs. -/
namespace DL
open PySem PySem.Spec PyProof.Rows L2
theorem log_ltN {x : Nat} (h : x < 2 ^ 9000) : x.log2 < 9000 := by
  by_cases h0 : x = 0
  · subst h0; decide
  · exact (Nat.log2_lt h0).mpr h
theorem log_smallI {x : Int} (h0 : 0 ≤ x) (h : x < 2 ^ 64) : x.natAbs.log2 < 9000 := by
  have h1 : x.natAbs < 2 ^ 64 := by omega
  by_cases h2 : x.natAbs = 0
  · rw [h2]; decide
  · have := (Nat.log2_lt h2).mpr h1
    omega
theorem seqL {M : Mem} {q : Nat} {xs : List D} (h : M[q]? = some (.lst xs)) : seqOf M (.ref q) = some xs := by
  show (match M[q]? with | some (.lst xs) => some xs | _ => none) = _
  rw [h]
def Apd (M M' : Mem) : Prop := ∃ N, M' = M ++ N
theorem Apd.refl {M : Mem} : Apd M M := ⟨[], by simp⟩
theorem Apd.one {M : Mem} {c : Cell} : Apd M (M ++ [c]) := ⟨[c], rfl⟩
theorem Apd.trans {M M' M'' : Mem} (a : Apd M M') (b : Apd M' M'') : Apd M M'' := by
  obtain ⟨N, rfl⟩ := a
  obtain ⟨N', rfl⟩ := b
  exact ⟨N ++ N', by simp⟩
theorem Apd.get {M M' : Mem} {n : Nat} {c : Cell} (a : Apd M M') (h : M[n]? = some c) : M'[n]? = some c := by
  obtain ⟨N, rfl⟩ := a
  exact get_app h
theorem Apd.len {M M' : Mem} (a : Apd M M') : M.length ≤ M'.length := by
  obtain ⟨N, rfl⟩ := a
  simp
/-- all that was there stays, but the cells n and d -/
structure K2 (n d : Nat) (M M' : Mem) : Prop where
  len : M.length ≤ M'.length
  same : ∀ m, m < M.length → m ≠ n → m ≠ d → M'[m]? = M[m]?
theorem K2.refl {n d : Nat} {M : Mem} : K2 n d M M := ⟨Nat.le_refl _, fun _ _ _ _ => rfl⟩
theorem K2.trans {n d : Nat} {M M' M'' : Mem} (a : K2 n d M M') (b : K2 n d M' M'') : K2 n d M M'' := ⟨Nat.le_trans a.len b.len, fun m h1 h2 h3 => (b.same m (Nat.lt_of_lt_of_le h1 a.len) h2 h3).trans (a.same m h1 h2 h3)⟩
theorem K2.set1 {n d : Nat} {M : Mem} {c : Cell} : K2 n d M (M.set n c) := ⟨by simp, fun m _ h _ => List.getElem?_set_ne (Ne.symm h)⟩
theorem K2.set2 {n d : Nat} {M : Mem} {c : Cell} : K2 n d M (M.set d c) := ⟨by simp, fun m _ _ h => List.getElem?_set_ne (Ne.symm h)⟩
theorem Apd.k2 {n d : Nat} {M M' : Mem} (a : Apd M M') : K2 n d M M' := by
  obtain ⟨N, rfl⟩ := a
  exact ⟨by simp, fun m h _ _ => by rw [List.getElem?_append_left h]⟩
theorem K2.get {n d m : Nat} {M M' : Mem} {c : Cell} (k : K2 n d M M') (h : M[m]? = some c) (hn : m ≠ n) (hd : m ≠ d) : M'[m]? = some c := (k.same m (lt_of_get h) hn hd).trans h
theorem K2.wr {n d m : Nat} {M M' : Mem} {c : Cell} (k : K2 n d M M') (h : M.length ≤ m) : K2 n d M (M'.set m c) := ⟨by simpa using k.len, fun j h1 h2 h3 => by rw [List.getElem?_set_ne (by omega)]; exact k.same j h1 h2 h3⟩
/-! ### numbers in a row -/
theorem rngL (lo : Int) (n : Nat) : (rngI lo n).length = n := by simp [rngI]
theorem rngC1 (lo : Int) (n : Nat) : rngI lo (n + 1) = .int lo :: rngI (lo + 1) n := by
  unfold rngI
  rw [List.range_succ_eq_map, List.map_cons, List.map_map]
  refine congr (congrArg _ ?_) ?_
  · simp
  · refine List.map_congr_left fun i _ => ?_
    show D.int (lo + ((i + 1 : Nat) : Int)) = D.int (lo + 1 + (i : Int))
    congr 1
    omega
theorem rngZ (lo : Int) : rngI lo 0 = [] := rfl
abbrev nD (x : Nat) : D := .int (x : Int)
abbrev tN (l : List Nat) : D := .tup (l.map nD)
theorem rngN (lo n : Nat) : rngI (lo : Nat) n = (List.range' lo n).map nD := by
  induction n generalizing lo with
  | zero => rfl
  | succ n ih =>
    rw [rngC1, List.range'_succ, List.map_cons, ← ih]
    rfl
theorem rng0 (n : Nat) : rngI 0 n = (List.range n).map nD := by
  have := rngN 0 n
  rw [List.range_eq_range']
  exact this
/-- a loop over a range: the turn's number -/
theorem rng_next {m i : Nat} {x : D} {xs : List D} (e : x :: xs = rngI i (m - i)) : i < m ∧ x = .int (i : Nat) ∧ xs = rngI ((i + 1 : Nat) : Int) (m - (i + 1)) := by
  cases hz : m - i with
  | zero => rw [hz, rngZ] at e; cases e
  | succ j =>
    rw [hz, rngC1] at e
    obtain ⟨e1, e2⟩ := List.cons.inj e
    refine ⟨by omega, e1, ?_⟩
    rw [show m - (i + 1) = j by omega]
    exact e2
theorem rng_end {m i : Nat} (h : i ≤ m) (e : [] = rngI (i : Nat) (m - i)) : i = m := by
  rcases Nat.lt_or_ge i m with z | z
  · obtain ⟨j, hj⟩ : ∃ j, m - i = j + 1 := ⟨m - i - 1, by omega⟩
    rw [hj, rngC1] at e
    cases e
  · omega
/-! ### lists of whole numbers as data -/
theorem pyN : ∀ l : List Nat, toPys (l.map nD) = l.map fun (x : Nat) => PyData.int (x : Int)
  | [] => rfl
  | a :: l => by
    show toPy (nD a) :: toPys (l.map nD) = _
    rw [pyN l]
    rfl
theorem puN : ∀ l : List Nat, pures? (l.map nD) = true
  | [] => rfl
  | a :: l => by
    show (pure? (nD a) && pures? (l.map nD)) = true
    rw [puN l]
    rfl
theorem flN : ∀ l : List Nat, (l.map nD).all flat? = true
  | [] => rfl
  | a :: l => by
    rw [List.map_cons, List.all_cons, flN l]
    rfl
theorem anyN (i : Nat) (l : List Nat) : ((toPys (l.map nD)).any fun z => PyData.eqv z (toPy (nD i))) = decide (i ∈ l) := by
  rw [pyN, List.any_map, Bool.eq_iff_iff]
  simp only [List.any_eq_true, Function.comp, decide_eq_true_eq]
  constructor
  · rintro ⟨x, h1, h2⟩
    have h2 : ((x : Int) == (i : Int)) = true := h2
    have : (x : Int) = i := by simpa using h2
    have : x = i := by omega
    rw [← this]; exact h1
  · intro h
    exact ⟨i, h, by show ((i : Int) == (i : Int)) = true; simp⟩
theorem inN {i : Nat} {l : List Nat} {d : D} {M : Mem} {P : Po} (hs : seqOf M d = some (l.map nD)) (h : P (.bl (decide (i ∈ l))) M) : inD false (nD i) d M P := by
  unfold inD
  rw [hs]
  refine ⟨.inl ⟨rfl, flN l⟩, ?_⟩
  rw [if_neg (by decide), anyN]
  exact h
theorem notinN {i : Nat} {l : List Nat} {d : D} {M : Mem} {P : Po} (hs : seqOf M d = some (l.map nD)) (h : P (.bl (!decide (i ∈ l))) M) : inD true (nD i) d M P := by
  unfold inD
  rw [hs]
  refine ⟨.inl ⟨rfl, flN l⟩, ?_⟩
  rw [if_pos rfl, anyN]
  exact h
theorem intsN : ∀ l : List Nat, intsOf (l.map nD) = some (l.map fun (x : Nat) => (x : Int))
  | [] => rfl
  | a :: l => by
    show (intsOf (l.map nD)).map ((a : Int) :: ·) = _
    rw [intsN l]
    rfl
theorem sumN : ∀ l : List Nat, (l.map fun (x : Nat) => (x : Int)).sum = ((l.sum : Nat) : Int)
  | [] => rfl
  | a :: l => by
    rw [List.map_cons, List.sum_cons, List.sum_cons, sumN l]
    omega
theorem eqS {a b : Str} {M : Mem} {P : Po} (ha : SeqAt.shaped (.str a) = true) (hb : SeqAt.shaped (.str b) = true) (h : P (.bl (decide (a = b))) M) : opEq (.str a) (.str b) M P := by
  refine ⟨⟨ha, hb⟩, ?_⟩
  have e : PyData.eqv (toPy (.str a)) (toPy (.str b)) = decide (a = b) := by
    show PyData.eqv (.str a) (.str b) = _
    rw [Bool.eq_iff_iff]
    simp [PyData.eqv]
  rw [e]
  exact h
theorem neS {a b : Str} {M : Mem} {P : Po} (ha : SeqAt.shaped (.str a) = true) (hb : SeqAt.shaped (.str b) = true) (h : P (.bl (!decide (a = b))) M) : opNe (.str a) (.str b) M P := by
  refine ⟨⟨ha, hb⟩, ?_⟩
  have e : PyData.eqv (toPy (.str a)) (toPy (.str b)) = decide (a = b) := by
    show PyData.eqv (.str a) (.str b) = _
    rw [Bool.eq_iff_iff]
    simp [PyData.eqv]
  rw [e]
  exact h
theorem eqN {a b : Nat} {M : Mem} {P : Po} (h : P (.bl (decide (a = b))) M) : opEq (nD a) (nD b) M P := W.eq_ (by
  have e : decide ((a : Int) = (b : Int)) = decide (a = b) := by
    rw [Bool.eq_iff_iff, decide_eq_true_eq, decide_eq_true_eq]
    omega
  rw [e]
  exact h)
theorem neN {a b : Nat} {M : Mem} {P : Po} (h : P (.bl (!decide (a = b))) M) : opNe (nD a) (nD b) M P := W.ne_ (by
  have e : decide ((a : Int) = (b : Int)) = decide (a = b) := by
    rw [Bool.eq_iff_iff, decide_eq_true_eq, decide_eq_true_eq]
    omega
  rw [e]
  exact h)
theorem band1 (n : Nat) : Builtin.bitAnd (n : Int) 1 = ((n % 2 : Nat) : Int) := by
  have e : Builtin.bitAnd (n : Int) 1 = ((n &&& 1 : Nat) : Int) := by
    unfold Builtin.bitAnd
    rw [decide_eq_true (by omega : (0 : Int) ≤ (n : Int))]
    rfl
  rw [e, Nat.and_one_is_mod]
theorem atN {l : List Nat} {i : Nat} {v : Nat} (h : l[i]? = some v) : atI (l.map nD) (i : Nat) = some (nD v) := W.at_nat (by rw [List.getElem?_map, h]; rfl)
theorem lenT1 {xs : List D} {M : Mem} {P : Po} {n : Nat} (hn : xs.length = n) (h : P (nD n) M) : fLen [.tup xs] M P := W.lenT (by rw [hn]; exact h)
end DL
namespace DL
open PySem PySem.Spec PyProof.Rows L2
theorem pyS : ∀ l : List Str, toPys (l.map D.str) = l.map PyData.str
  | [] => rfl
  | a :: l => by
    show toPy (.str a) :: toPys (l.map D.str) = _
    rw [pyS l]
    rfl
theorem flS : ∀ l : List Str, (l.map D.str).all flat? = true
  | [] => rfl
  | a :: l => by
    rw [List.map_cons, List.all_cons, flS l]
    rfl
theorem inS {x : Str} {ys : List Str} {d : D} {M : Mem} {P : Po} {b : Bool} (hs : seqOf M d = some (ys.map D.str)) (hb : ys.any (fun z => PyData.eqv (.str z) (.str x)) = b) (h : P (.bl b) M) : inD false (.str x) d M P := by
  unfold inD
  rw [hs]
  refine ⟨.inl ⟨rfl, flS ys⟩, ?_⟩
  rw [if_neg (by decide), pyS, List.any_map]
  have e : (ys.any ((fun z => PyData.eqv z (toPy (.str x))) ∘ PyData.str)) = b := hb
  rw [e]
  exact h
end DL
namespace DL
open PySem PySem.Spec PyProof.Rows L2
theorem andN1 {n : Nat} {M : Mem} {P : Po} (h : P (nD (n % 2)) M) : opAnd (nD n) (.int 1) M P := by
  show P (.int (Builtin.bitAnd (n : Int) 1)) M
  rw [band1]
  exact h
theorem shrN {n i : Nat} {M : Mem} {P : Po} (h : P (nD (n / 2 ^ i)) M) : opShr (nD n) (nD i) M P := by
  refine W.shr (by omega) ?_
  have e : (n : Int) / 2 ^ ((i : Nat) : Int).toNat = ((n / 2 ^ i : Nat) : Int) := by
    rw [Int.toNat_natCast]
    simp
  rw [e]
  exact h
theorem shlN1 {i : Nat} {M : Mem} {P : Po} (hi : i ≤ 1000) (h : P (nD (2 ^ i)) M) : opShl (.int 1) (nD i) M P := by
  refine W.shl ⟨by omega, by omega, by decide⟩ ?_
  have e : (1 : Int) * 2 ^ ((i : Nat) : Int).toNat = ((2 ^ i : Nat) : Int) := by
    rw [Int.toNat_natCast, Int.one_mul]
    simp
  rw [e]
  exact h
theorem tb (n i : Nat) : n.testBit i = decide (n / 2 ^ i % 2 = 1) := Nat.testBit_eq_decide_div_mod_eq
end DL
namespace DL
open PySem PySem.Spec PyProof.Rows L2
theorem sumT {l : List Nat} {M : Mem} {P : Po} (h : P (nD l.sum) M) : fC cSum true [tN l] M P := by
  unfold fC
  show (true = true ∨ _) ∧ _
  refine ⟨.inl rfl, ?_⟩
  unfold cSum
  rw [intsN]
  dsimp only
  rw [sumN]
  exact h
theorem sortN {d : D} {l : List Nat} {M : Mem} {P : Po} (hs : seqOf M d = some (l.map nD)) (nd : l.Nodup) (h : ∀ ms : List Nat, ms.Pairwise (· < ·) → (∀ y, y ∈ ms ↔ y ∈ l) → P (.ref M.length) (M ++ [.lst (ms.map nD)])) : fSorted [d] M P := by
  unfold fSorted
  dsimp only
  rw [hs]
  dsimp only
  rw [intsN]
  dsimp only
  intro ms hp hw
  have nn : ∀ z ∈ ms, 0 ≤ z := fun z hz => by
    obtain ⟨x, _, rfl⟩ := List.mem_map.mp (hp.mem_iff.mp hz)
    omega
  have e : ms = (ms.map Int.toNat).map fun (x : Nat) => (x : Int) := by
    rw [List.map_map]
    conv => lhs; rw [← List.map_id ms]
    refine List.map_congr_left fun z hz => ?_
    have := nn z hz
    show z = ((z.toNat : Nat) : Int)
    omega
  have hp2 : (ms.map Int.toNat).Perm l := by
    have := hp.map Int.toNat
    rw [List.map_map] at this
    have e2 : l.map (Int.toNat ∘ fun (x : Nat) => (x : Int)) = l := by
      conv => rhs; rw [← List.map_id l]
      exact List.map_congr_left fun z _ => by show ((z : Int)).toNat = z; omega
    rwa [e2] at this
  have hw2 : (ms.map Int.toNat).Pairwise (· ≤ ·) := by
    rw [List.pairwise_map]
    refine hw.imp_of_mem fun {a b} ha hb hab => ?_
    have := nn a ha
    omega
  have nd2 : (ms.map Int.toNat).Nodup := hp2.nodup_iff.mpr nd
  have hw3 : (ms.map Int.toNat).Pairwise (· < ·) := by
    have := hw2.and nd2
    exact this.imp fun {a b} q => by
      have h1 := q.1
      have h2 : a ≠ b := q.2
      omega
  have := h (ms.map Int.toNat) hw3 fun y => hp2.mem_iff
  rw [e, List.map_map]
  exact this
end DL

/-! the table: printed by gen.py -/
namespace DL.Law
open PySem PySem.Spec PyProof.Rows L2
abbrev top (i : Nat) : Stmt := PySem.Challenge.pw_watchedbylot_k02_makers_numbers.main.body.getD i (.Pass ⟨0, 0, 0, 0⟩)
/-- free_rule: 0 many -/
def c_free_rule : DS := (sRet (eTup (aCons (eK (.str "quotas")) (aCons (eVar 0) (aCons (eTup aNil) aNil)))))
def d0 : Df := ⟨"free_rule", ["many"], ["many"], L2.defArgs (top 2), L2.defBody (top 2), L2.defScope (top 2)⟩
/-- any_rule: 0 many, 1 number -/
def c_any_rule : DS := (sRet (eTup (aCons (eK (.str "quotas")) (aCons (eVar 0) (aCons (eTup (aCons (eTup (aCons (eTupRg (rg1 (eVar 0))) (aCons (eVar 1) aNil))) aNil)) aNil)))))
def d1 : Df := ⟨"any_rule", ["many", "number"], ["many", "number"], L2.defArgs (top 3), L2.defBody (top 3), L2.defScope (top 3)⟩
/-- rooms_rule: 0 sizes, 1 number, 2 parts, 3 first, 4 size -/
def c_rooms_rule_b1 : DS := (sSeq (sDrop (eM "list" mAppend (eVar 2) (aCons (eTup (aCons (eTupRg (rg2 (eVar 3) (eBin opAdd (eVar 3) (eVar 4)))) (aCons (eVar 1) aNil))) aNil)))
(sAug 3 (eVar 4) iaAdd))
def c_rooms_rule_s1 : DS := (sRet (eTup (aCons (eK (.str "quotas")) (aCons (eVar 3) (aCons (eF fTuple (aCons (eVar 2) aNil)) aNil)))))
def c_rooms_rule : DS := (sSeq (sAsg (eLst aNil) (gName 2))
(sSeq (sAsg (eK (.int 0)) (gName 3))
(sSeq (sFor (iSeq (eVar 0)) (gName 4) c_rooms_rule_b1)
c_rooms_rule_s1)))
def d2 : Df := ⟨"rooms_rule", ["sizes", "number"], ["sizes", "number", "parts", "first", "size"], L2.defArgs (top 4), L2.defBody (top 4), L2.defScope (top 4)⟩
/-- ring_rule: 0 many, 1 ties, 2 place -/
def c_ring_rule_e1 : DE := (eTup (aCons (eVar 2) (aCons (eBin opAdd (eVar 2) (eK (.int 1))) aNil)))
def c_ring_rule : DS := (sSeq (sAsg (eNew (lcomp (iRng1 (eBin opSub (eVar 0) (eK (.int 1)))) (gName 2) tYesD c_ring_rule_e1 [2])) (gName 1))
(sRet (eTup (aCons (eK (.str "web")) (aCons (eVar 0) (aCons (eVar 0) (aCons (eF fTuple (aCons (eBin opAdd (eVar 1) (eLst (aCons (eTup (aCons (eK (.int 0)) (aCons (eBin opSub (eVar 0) (eK (.int 1))) aNil))) aNil))) aNil)) aNil)))))))
def d3 : Df := ⟨"ring_rule", ["many"], ["many", "ties", "place"], L2.defArgs (top 5), L2.defBody (top 5), L2.defScope (top 5)⟩
/-- all_pairs_rule: 0 places, 1 ties -/
def c_all_pairs_rule : DS := (sSeq (sAsg (eCombs (rg1 (eVar 0))) (gName 1))
(sRet (eTup (aCons (eK (.str "web")) (aCons (eF fLen (aCons (eVar 1) aNil)) (aCons (eVar 0) (aCons (eVar 1) aNil)))))))
def d4 : Df := ⟨"all_pairs_rule", ["places"], ["places", "ties"], L2.defArgs (top 6), L2.defBody (top 6), L2.defScope (top 6)⟩
/-- is_integer: 0 thing -/
def c_is_integer : DS := (sRet (eAnd (eIsi "int" (eVar 0)) (eNot (eIsi "bool" (eVar 0)))))
def d5 : Df := ⟨"is_integer", ["thing"], ["thing"], L2.defArgs (top 8), L2.defBody (top 8), L2.defScope (top 8)⟩
/-- integer_within: 0 thing, 1 low, 2 high -/
def c_integer_within : DS := (sRet (eAnd (eCall 5 (aCons (eVar 0) aNil)) (eChain opLe opLe (eVar 1) (eVar 0) (eVar 2))))
def d6 : Df := ⟨"integer_within", ["thing", "low", "high"], ["thing", "low", "high"], L2.defArgs (top 9), L2.defBody (top 9), L2.defScope (top 9)⟩
/-- lot_fault: 0 many, 1 thing, 2 place, 3 number, 4 low -/
def c_lot_fault_g1 : DG := (gTup 2 (gCons (gName 2) (gCons (gName 3) gNil)))
def c_lot_fault_s1 : DS := (sIf (tNot (tTru (eCall 6 (aCons (eVar 3) (aCons (eVar 4) (aCons (eBin opSub (eVar 0) (eK (.int 1))) aNil))))))
(sRet (eVar 2))
sNext)
def c_lot_fault_b1 : DS := (sSeq (sAsg (eIf (tOf (eBin opEq (eVar 2) (eK (.int 0)))) (eK (.int 0)) (eBin opAdd (eBin opIx (eVar 1) (eBin opSub (eVar 2) (eK (.int 1)))) (eK (.int 1)))) (gName 4))
c_lot_fault_s1)
def c_lot_fault_s2 : DS := (sRet (eK .non))
def c_lot_fault_s3 : DS := (sSeq (sFor (iEnumD (eVar 1)) c_lot_fault_g1 c_lot_fault_b1)
c_lot_fault_s2)
def c_lot_fault : DS := (sSeq (sIf (tNot (tTru (eIsi "tuple" (eVar 1))))
(sRet (eUn opNeg (eK (.int 1))))
sNext)
c_lot_fault_s3)
def d7 : Df := ⟨"lot_fault", ["many", "thing"], ["many", "thing", "place", "number", "low"], L2.defArgs (top 11), L2.defBody (top 11), L2.defScope (top 11)⟩
/-- is_lot: 0 many, 1 thing -/
def c_is_lot : DS := (sRet (eBin opIs (eCall 7 (aCons (eVar 0) (aCons (eVar 1) aNil))) (eK .non)))
def d8 : Df := ⟨"is_lot", ["many", "thing"], ["many", "thing"], L2.defArgs (top 12), L2.defBody (top 12), L2.defScope (top 12)⟩
/-- common_of: 0 one, 1 other, 2 number -/
def c_common_of_t1 : DT := (tOf (eBin (inD false) (eVar 2) (eVar 1)))
def c_common_of : DS := (sRet (eTupL (lcomp (iSeq (eVar 0)) (gName 2) c_common_of_t1 (eVar 2) [2])))
def d9 : Df := ⟨"common_of", ["one", "other"], ["one", "other", "number"], L2.defArgs (top 13), L2.defBody (top 13), L2.defScope (top 13)⟩
/-- lot_number: 0 lot, 1 number -/
def c_lot_number_e1 : DE := (eBin opShl (eK (.int 1)) (eVar 1))
def c_lot_number : DS := (sRet (eFL cSum (lcomp (iSeq (eVar 0)) (gName 1) tYesD c_lot_number_e1 [1])))
def d10 : Df := ⟨"lot_number", ["lot"], ["lot", "number"], L2.defArgs (top 14), L2.defBody (top 14), L2.defScope (top 14)⟩
/-- numbered_lot: 0 number, 1 place -/
def c_numbered_lot_t1 : DT := (tTru (eBin opAnd (eBin opShr (eVar 0) (eVar 1)) (eK (.int 1))))
def c_numbered_lot : DS := (sRet (eTupL (lcomp (iRng1 (eM "int" mBits (eVar 0) aNil)) (gName 1) c_numbered_lot_t1 (eVar 1) [1])))
def d11 : Df := ⟨"numbered_lot", ["number"], ["number", "place"], L2.defArgs (top 15), L2.defBody (top 15), L2.defScope (top 15)⟩
/-- merged_marks: 0 marks, 1 one, 2 other, 3 mark -/
def c_merged_marks_e1 : DE := (eIf (tOf (eBin opEq (eVar 3) (eVar 2))) (eVar 1) (eVar 3))
def c_merged_marks : DS := (sRet (eNew (lcomp (iSeq (eVar 0)) (gName 3) tYesD c_merged_marks_e1 [3])))
def d12 : Df := ⟨"merged_marks", ["marks", "one", "other"], ["marks", "one", "other", "mark"], L2.defArgs (top 17), L2.defBody (top 17), L2.defScope (top 17)⟩
/-- is_forest: 0 places, 1 ties, 2 marks, 3 one, 4 other -/
def c_is_forest_g1 : DG := (gTup 2 (gCons (gName 3) (gCons (gName 4) gNil)))
def c_is_forest_s1 : DS := (sAsg (eCall 12 (aCons (eVar 2) (aCons (eBin opIx (eVar 2) (eVar 3)) (aCons (eBin opIx (eVar 2) (eVar 4)) aNil)))) (gName 2))
def c_is_forest_b1 : DS := (sSeq (sIf (tOf (eBin opEq (eBin opIx (eVar 2) (eVar 3)) (eBin opIx (eVar 2) (eVar 4))))
(sRet (eK (.bl false)))
sNext)
c_is_forest_s1)
def c_is_forest_s2 : DS := (sRet (eK (.bl true)))
def c_is_forest : DS := (sSeq (sAsg (eLstRg (rg1 (eVar 0))) (gName 2))
(sSeq (sFor (iSeq (eVar 1)) c_is_forest_g1 c_is_forest_b1)
c_is_forest_s2))
def d13 : Df := ⟨"is_forest", ["places", "ties"], ["places", "ties", "marks", "one", "other"], L2.defArgs (top 18), L2.defBody (top 18), L2.defScope (top 18)⟩
/-- first_place: 0 row, 1 place, 2 number -/
def c_first_place_g1 : DG := (gTup 2 (gCons (gName 1) (gCons (gName 2) gNil)))
def c_first_place_b1 : DS := (sIf (tOf (eBin opNe (eVar 2) (eK (.int 0))))
(sRet (eVar 1))
sNext)
def c_first_place_s1 : DS := (sRet (eK .non))
def c_first_place : DS := (sSeq (sFor (iEnumD (eVar 0)) c_first_place_g1 c_first_place_b1)
c_first_place_s1)
def d14 : Df := ⟨"first_place", ["row"], ["row", "place", "number"], L2.defArgs (top 19), L2.defBody (top 19), L2.defScope (top 19)⟩
/-- cleared: 0 row, 1 pivot, 2 place, 3 prime, 4 times, 5 number, 6 other -/
def c_cleared_g1 : DG := (gTup 2 (gCons (gName 5) (gCons (gName 6) gNil)))
def c_cleared_e1 : DE := (eBin opMod (eBin opSub (eVar 5) (eBin opMul (eVar 4) (eVar 6))) (eVar 3))
def c_cleared : DS := (sSeq (sAsg (eBin opIx (eVar 0) (eVar 2)) (gName 4))
(sRet (eNew (lcomp (iZip (eVar 0) (eVar 1)) c_cleared_g1 tYesD c_cleared_e1 [5, 6]))))
def d15 : Df := ⟨"cleared", ["row", "pivot", "place", "prime"], ["row", "pivot", "place", "prime", "times", "number", "other"], L2.defArgs (top 20), L2.defBody (top 20), L2.defScope (top 20)⟩
/-- reduced: 0 row, 1 pivots, 2 prime, 3 place, 4 pivot -/
def c_reduced_g1 : DG := (gTup 2 (gCons (gName 3) (gCons (gName 4) gNil)))
def c_reduced_b1 : DS := (sIf (tOf (eBin opNe (eBin opIx (eVar 0) (eVar 3)) (eK (.int 0))))
(sAsg (eCall 15 (aCons (eVar 0) (aCons (eVar 4) (aCons (eVar 3) (aCons (eVar 2) aNil))))) (gName 0))
sNext)
def c_reduced_s1 : DS := (sRet (eVar 0))
def c_reduced : DS := (sSeq (sFor (iSeq (eVar 1)) c_reduced_g1 c_reduced_b1)
c_reduced_s1)
def d16 : Df := ⟨"reduced", ["row", "pivots", "prime"], ["row", "pivots", "prime", "place", "pivot"], L2.defArgs (top 21), L2.defBody (top 21), L2.defScope (top 21)⟩
/-- turned_over: 0 number, 1 prime, 2 times -/
def c_turned_over_b1 : DS := (sIf (tOf (eBin opEq (eBin opMod (eBin opMul (eVar 0) (eVar 2)) (eVar 1)) (eK (.int 1))))
(sRet (eVar 2))
sNext)
def c_turned_over_s1 : DS := (sRet (eK .non))
def c_turned_over : DS := (sSeq (sFor (iRng2 (eK (.int 1)) (eVar 1)) (gName 2) c_turned_over_b1)
c_turned_over_s1)
def d17 : Df := ⟨"turned_over", ["number", "prime"], ["number", "prime", "times"], L2.defArgs (top 22), L2.defBody (top 22), L2.defScope (top 22)⟩
/-- scaled: 0 row, 1 place, 2 prime, 3 times, 4 number -/
def c_scaled_e1 : DE := (eBin opMod (eBin opMul (eVar 4) (eVar 3)) (eVar 2))
def c_scaled : DS := (sSeq (sAsg (eCall 17 (aCons (eBin opIx (eVar 0) (eVar 1)) (aCons (eVar 2) aNil))) (gName 3))
(sRet (eNew (lcomp (iSeq (eVar 0)) (gName 4) tYesD c_scaled_e1 [4]))))
def d18 : Df := ⟨"scaled", ["row", "place", "prime"], ["row", "place", "prime", "times", "number"], L2.defArgs (top 23), L2.defBody (top 23), L2.defScope (top 23)⟩
/-- are_free: 0 rows, 1 prime, 2 pivots, 3 row, 4 left, 5 place -/
def c_are_free_s1 : DS := (sDrop (eM "list" mAppend (eVar 2) (aCons (eTup (aCons (eVar 5) (aCons (eCall 18 (aCons (eVar 4) (aCons (eVar 5) (aCons (eVar 1) aNil)))) aNil))) aNil)))
def c_are_free_b1 : DS := (sSeq (sAsg (eCall 16 (aCons (eF fList (aCons (eVar 3) aNil)) (aCons (eVar 2) (aCons (eVar 1) aNil)))) (gName 4))
(sSeq (sAsg (eCall 14 (aCons (eVar 4) aNil)) (gName 5))
(sSeq (sIf (tOf (eBin opIs (eVar 5) (eK .non)))
(sRet (eK (.bl false)))
sNext)
c_are_free_s1)))
def c_are_free_s2 : DS := (sRet (eK (.bl true)))
def c_are_free : DS := (sSeq (sAsg (eLst aNil) (gName 2))
(sSeq (sFor (iSeq (eVar 0)) (gName 3) c_are_free_b1)
c_are_free_s2))
def d19 : Df := ⟨"are_free", ["rows", "prime"], ["rows", "prime", "pivots", "row", "left", "place"], L2.defArgs (top 24), L2.defBody (top 24), L2.defScope (top 24)⟩
/-- given_more: 0 posts, 1 taken, 2 number, 3 met, 4 post, 5 lot -/
def c_given_more_g1 : DG := (gTup 2 (gCons (gName 4) (gCons (gName 5) gNil)))
def c_given_more_b1 : DS := (sIf (tAnd (tOf (eBin (inD false) (eVar 2) (eVar 5))) (tOf (eBin (inD true) (eVar 4) (eVar 3))))
(sSeq (sDrop (eM "list" mAppend (eVar 3) (aCons (eVar 4) aNil)))
(sIf (tOr (tOf (eBin (inD true) (eVar 4) (eVar 1))) (tTru (eCall 20 (aCons (eVar 0) (aCons (eVar 1) (aCons (eBin opIx (eVar 1) (eVar 4)) (aCons (eVar 3) aNil)))))))
(sSeq (sAsg (eVar 2) (gSub (eVar 1) (eVar 4)))
(sRet (eK (.bl true))))
sNext))
sNext)
def c_given_more_s1 : DS := (sRet (eK (.bl false)))
def c_given_more : DS := (sSeq (sFor (iEnumD (eVar 0)) c_given_more_g1 c_given_more_b1)
c_given_more_s1)
def d20 : Df := ⟨"given_more", ["posts", "taken", "number", "met"], ["posts", "taken", "number", "met", "post", "lot"], L2.defArgs (top 26), L2.defBody (top 26), L2.defScope (top 26)⟩
-- not covered: ('matched', 92, 'Dict', 'taken = {}')
/-- matched: 0 posts, 1 lot, 2 taken, 3 number -/
def c_matched_b1 : DS := (sIf (tNot (tTru (eCall 20 (aCons (eVar 0) (aCons (eVar 2) (aCons (eVar 3) (aCons (eLst aNil) aNil)))))))
(sRet (eK .non))
sNext)
def c_matched_s1 : DS := (sRet (eVar 2))
def c_matched : DS := (sSeq sNever
(sSeq (sFor (iSeq (eVar 1)) (gName 3) c_matched_b1)
c_matched_s1))
def d21 : Df := ⟨"matched", ["posts", "lot"], ["posts", "lot", "taken", "number"], L2.defArgs (top 27), L2.defBody (top 27), L2.defScope (top 27)⟩
/-- things_of: 0 rule, 1 kind -/
def c_things_of_s1 : DS := (sRet (eCall 22 (aCons (eBin opIx (eVar 0) (eK (.int 1))) aNil)))
def c_things_of_s2 : DS := (sSeq (sIf (tOf (eBin opEq (eVar 1) (eK (.str "given"))))
(sRet (eBin opSub (eCall 22 (aCons (eBin opIx (eVar 0) (eK (.int 1))) aNil)) (eF fLen (aCons (eBin opIx (eVar 0) (eK (.int 2))) aNil))))
sNext)
c_things_of_s1)
def c_things_of_s3 : DS := (sSeq (sIf (tOf (eBin opEq (eVar 1) (eK (.str "left"))))
(sRet (eF fLen (aCons (eBin opIx (eVar 0) (eK (.int 2))) aNil)))
sNext)
c_things_of_s2)
def c_things_of_s4 : DS := (sSeq (sIf (tOf (eBin opEq (eVar 1) (eK (.str "beside"))))
(sRet (eBin opAdd (eCall 22 (aCons (eBin opIx (eVar 0) (eK (.int 1))) aNil)) (eCall 22 (aCons (eBin opIx (eVar 0) (eK (.int 2))) aNil))))
sNext)
c_things_of_s3)
def c_things_of : DS := (sSeq (sAsg (eBin opIx (eVar 0) (eK (.int 0))) (gName 1))
(sSeq (sIf (tOf (eBin (inD false) (eVar 1) (eK (.kup [(.str "posts"), (.str "quotas"), (.str "web"), (.str "vectors")]))))
(sRet (eBin opIx (eVar 0) (eK (.int 1))))
sNext)
c_things_of_s4))
def d22 : Df := ⟨"things_of", ["rule"], ["rule", "kind"], L2.defArgs (top 30), L2.defBody (top 30), L2.defScope (top 30)⟩
/-- others_of: 0 many, 1 lot, 2 number -/
def c_others_of_t1 : DT := (tOf (eBin (inD true) (eVar 2) (eVar 1)))
def c_others_of : DS := (sRet (eNew (lcomp (iRng1 (eVar 0)) (gName 2) c_others_of_t1 (eVar 2) [2])))
def d23 : Df := ⟨"others_of", ["many", "lot"], ["many", "lot", "number"], L2.defArgs (top 31), L2.defBody (top 31), L2.defScope (top 31)⟩
/-- with_thing: 0 lot, 1 number -/
def c_with_thing : DS := (sRet (eF fTuple (aCons (eF fSorted (aCons (eBin opAdd (eVar 0) (eTup (aCons (eVar 1) aNil))) aNil)) aNil)))
def d24 : Df := ⟨"with_thing", ["lot", "number"], ["lot", "number"], L2.defArgs (top 33), L2.defBody (top 33), L2.defScope (top 33)⟩
/-- without_thing: 0 lot, 1 number, 2 other -/
def c_without_thing_t1 : DT := (tOf (eBin opNe (eVar 2) (eVar 1)))
def c_without_thing : DS := (sRet (eTupL (lcomp (iSeq (eVar 0)) (gName 2) c_without_thing_t1 (eVar 2) [2])))
def d25 : Df := ⟨"without_thing", ["lot", "number"], ["lot", "number", "other"], L2.defArgs (top 34), L2.defBody (top 34), L2.defScope (top 34)⟩
-- not covered: ('in_the_way', 118, 'call of a value', 'if holds(rule, with_thing(lot, number)):\n    return None')
-- not covered: ('in_the_way', 120, 'call of a value', 'return [other for other in lot if holds(rule, with_thing(without_thing(lot, other), number))]')
/-- in_the_way: 0 rule, 1 lot, 2 number, 3 holds, 4 other -/
def c_in_the_way : DS := (sSeq sNever
sNever)
def d26 : Df := ⟨"in_the_way", ["rule", "lot", "number", "holds"], ["rule", "lot", "number", "holds", "other"], L2.defArgs (top 35), L2.defBody (top 35), L2.defScope (top 35)⟩
/-- lacking_lots: 0 lots, 1 number, 2 at, 3 lot -/
def c_lacking_lots_g1 : DG := (gTup 2 (gCons (gName 2) (gCons (gName 3) gNil)))
def c_lacking_lots_t1 : DT := (tOf (eBin (inD true) (eVar 1) (eVar 3)))
def c_lacking_lots : DS := (sRet (eNew (lcomp (iEnumD (eVar 0)) c_lacking_lots_g1 c_lacking_lots_t1 (eVar 2) [2, 3])))
def d27 : Df := ⟨"lacking_lots", ["lots", "number"], ["lots", "number", "at", "lot"], L2.defArgs (top 36), L2.defBody (top 36), L2.defScope (top 36)⟩
-- not covered: ('way_out', 124, 'DictComp', 'came = {(number, at): None for at in lacking_lots(lots, number)}')
/-- way_out: 0 rules, 1 lots, 2 number, 3 holds, 4 came, 5 order, 6 place, 7 pair, 8 blocking, 9 other, 10 at -/
def c_way_out_w1 : DT := (tOf (eBin opLt (eVar 6) (eF fLen (aCons (eVar 5) aNil))))
def c_way_out_b1 : DS := (sIf (tOf (eBin (inD true) (eTup (aCons (eVar 9) (aCons (eVar 10) aNil))) (eVar 4)))
(sSeq (sAsg (eVar 7) (gSub (eVar 4) (eTup (aCons (eVar 9) (aCons (eVar 10) aNil)))))
(sDrop (eM "list" mAppend (eVar 5) (aCons (eTup (aCons (eVar 9) (aCons (eVar 10) aNil))) aNil))))
sNext)
def c_way_out_b2 : DS := (sFor (iSeq (eCall 27 (aCons (eVar 1) (aCons (eVar 9) aNil)))) (gName 10) c_way_out_b1)
def c_way_out_s1 : DS := (sFor (iSeq (eVar 8)) (gName 9) c_way_out_b2)
def c_way_out_b3 : DS := (sSeq (sAsg (eBin opIx (eVar 5) (eVar 6)) (gName 7))
(sSeq (sAug 6 (eK (.int 1)) iaAdd)
(sSeq (sAsg (eCall 26 (aCons (eBin opIx (eVar 0) (eBin opIx (eVar 7) (eK (.int 1)))) (aCons (eBin opIx (eVar 1) (eBin opIx (eVar 7) (eK (.int 1)))) (aCons (eBin opIx (eVar 7) (eK (.int 0))) (aCons (eVar 3) aNil))))) (gName 8))
(sSeq (sIf (tOf (eBin opIs (eVar 8) (eK .non)))
(sRet (eTup (aCons (eVar 4) (aCons (eVar 7) aNil))))
sNext)
c_way_out_s1))))
def c_way_out_s2 : DS := (sRet (eTup (aCons (eVar 4) (aCons (eK .non) aNil))))
def c_way_out : DS := (sSeq sNever
(sSeq (sAsg (eF fList (aCons (eVar 4) aNil)) (gName 5))
(sSeq (sAsg (eK (.int 0)) (gName 6))
(sSeq (sWhile c_way_out_w1 c_way_out_b3)
c_way_out_s2))))
def d28 : Df := ⟨"way_out", ["rules", "lots", "number", "holds"], ["rules", "lots", "number", "holds", "came", "order", "place", "pair", "blocking", "other", "at"], L2.defArgs (top 37), L2.defBody (top 37), L2.defScope (top 37)⟩
/-- changed_lots: 0 lots, 1 came, 2 last, 3 found, 4 pair, 5 number, 6 at, 7 ahead -/
def c_changed_lots_w1 : DT := (tOf (eBin opIsNot (eVar 4) (eK .non)))
def c_changed_lots_s1 : DS := (sAsg (eVar 7) (gName 4))
def c_changed_lots_b1 : DS := (sSeq (sAsg (eVar 4) (gTup 2 (gCons (gName 5) (gCons (gName 6) gNil))))
(sSeq (sAsg (eBin opIx (eVar 1) (eVar 4)) (gName 7))
(sSeq (sAsg (eCall 24 (aCons (eBin opIx (eVar 3) (eVar 6)) (aCons (eVar 5) aNil))) (gSub (eVar 3) (eVar 6)))
(sSeq (sIf (tOf (eBin opIsNot (eVar 7) (eK .non)))
(sAsg (eCall 25 (aCons (eBin opIx (eVar 3) (eBin opIx (eVar 7) (eK (.int 1)))) (aCons (eVar 5) aNil))) (gSub (eVar 3) (eBin opIx (eVar 7) (eK (.int 1)))))
sNext)
c_changed_lots_s1))))
def c_changed_lots_s2 : DS := (sRet (eVar 3))
def c_changed_lots : DS := (sSeq (sAsg (eF fList (aCons (eVar 0) aNil)) (gName 3))
(sSeq (sAsg (eVar 2) (gName 4))
(sSeq (sWhile c_changed_lots_w1 c_changed_lots_b1)
c_changed_lots_s2)))
def d29 : Df := ⟨"changed_lots", ["lots", "came", "last"], ["lots", "came", "last", "found", "pair", "number", "at", "ahead"], L2.defArgs (top 38), L2.defBody (top 38), L2.defScope (top 38)⟩
/-- parted: 0 rules, 1 lot, 2 holds, 3 lots, 4 number, 5 came, 6 last, 7 rule -/
def c_parted_e1 : DE := (eTup aNil)
def c_parted_s1 : DS := (sAsg (eCall 29 (aCons (eVar 3) (aCons (eVar 5) (aCons (eVar 6) aNil)))) (gName 3))
def c_parted_b1 : DS := (sSeq (sAsg (eCall 28 (aCons (eVar 0) (aCons (eVar 3) (aCons (eVar 4) (aCons (eVar 2) aNil))))) (gTup 2 (gCons (gName 5) (gCons (gName 6) gNil))))
(sSeq (sIf (tOf (eBin opIs (eVar 6) (eK .non)))
(sRet (eK .non))
sNext)
c_parted_s1))
def c_parted_s2 : DS := (sRet (eVar 3))
def c_parted : DS := (sSeq (sAsg (eNew (lcomp (iSeq (eVar 0)) (gName 7) tYesD c_parted_e1 [7])) (gName 3))
(sSeq (sFor (iSeq (eVar 1)) (gName 4) c_parted_b1)
c_parted_s2))
def d30 : Df := ⟨"parted", ["rules", "lot", "holds"], ["rules", "lot", "holds", "lots", "number", "came", "last", "rule"], L2.defArgs (top 39), L2.defBody (top 39), L2.defScope (top 39)⟩
/-- keeps_quotas: 0 parts, 1 lot, 2 part, 3 number -/
def c_keeps_quotas_g1 : DG := (gTup 2 (gCons (gName 2) (gCons (gName 3) gNil)))
def c_keeps_quotas_e1 : DE := (eBin opGt (eF fLen (aCons (eCall 9 (aCons (eVar 2) (aCons (eVar 1) aNil))) aNil)) (eVar 3))
def c_keeps_quotas : DS := (sRet (eNot (eFL cAny (lcomp (iSeq (eVar 0)) c_keeps_quotas_g1 tYesD c_keeps_quotas_e1 [2, 3]))))
def d31 : Df := ⟨"keeps_quotas", ["parts", "lot"], ["parts", "lot", "part", "number"], L2.defArgs (top 41), L2.defBody (top 41), L2.defScope (top 41)⟩
/-- is_plain_watchable: 0 rule, 1 lot, 2 number -/
def c_is_plain_watchable_e1 : DE := (eBin opIx (eBin opIx (eVar 0) (eK (.int 3))) (eVar 2))
def c_is_plain_watchable_e2 : DE := (eBin opIx (eBin opIx (eVar 0) (eK (.int 3))) (eVar 2))
def c_is_plain_watchable_s1 : DS := (sRet (eCall 19 (aCons (eNew (lcomp (iSeq (eVar 1)) (gName 2) tYesD c_is_plain_watchable_e2 [2])) (aCons (eBin opIx (eVar 0) (eK (.int 2))) aNil))))
def c_is_plain_watchable_s2 : DS := (sSeq (sIf (tOf (eBin opEq (eBin opIx (eVar 0) (eK (.int 0))) (eK (.str "web"))))
(sRet (eCall 13 (aCons (eBin opIx (eVar 0) (eK (.int 2))) (aCons (eNew (lcomp (iSeq (eVar 1)) (gName 2) tYesD c_is_plain_watchable_e1 [2])) aNil))))
sNext)
c_is_plain_watchable_s1)
def c_is_plain_watchable_s3 : DS := (sSeq (sIf (tOf (eBin opEq (eBin opIx (eVar 0) (eK (.int 0))) (eK (.str "quotas"))))
(sRet (eCall 31 (aCons (eBin opIx (eVar 0) (eK (.int 2))) (aCons (eVar 1) aNil))))
sNext)
c_is_plain_watchable_s2)
def c_is_plain_watchable : DS := (sSeq (sIf (tOf (eBin opEq (eBin opIx (eVar 0) (eK (.int 0))) (eK (.str "posts"))))
(sRet (eBin opIsNot (eCall 21 (aCons (eBin opIx (eVar 0) (eK (.int 2))) (aCons (eVar 1) aNil))) (eK .non)))
sNext)
c_is_plain_watchable_s3)
def d32 : Df := ⟨"is_plain_watchable", ["rule", "lot"], ["rule", "lot", "number"], L2.defArgs (top 42), L2.defBody (top 42), L2.defScope (top 42)⟩
/-- led_lot: 0 rule, 1 lot, 2 others, 3 number -/
def c_led_lot_e1 : DE := (eM "list" mIndex (eBin opIx (eVar 0) (eK (.int 2))) (aCons (eVar 3) aNil))
def c_led_lot_e2 : DE := (eBin opIx (eBin opIx (eVar 0) (eK (.int 2))) (eVar 3))
def c_led_lot_e3 : DE := (eBin opIx (eVar 2) (eVar 3))
def c_led_lot_s1 : DS := (sSeq (sAsg (eCall 23 (aCons (eCall 22 (aCons (eBin opIx (eVar 0) (eK (.int 1))) aNil)) (aCons (eBin opIx (eVar 0) (eK (.int 2))) aNil))) (gName 2))
(sRet (eF fTuple (aCons (eF fSorted (aCons (eBin opAdd (eNew (lcomp (iSeq (eVar 1)) (gName 3) tYesD c_led_lot_e3 [3])) (eF fList (aCons (eBin opIx (eVar 0) (eK (.int 2))) aNil))) aNil)) aNil))))
def c_led_lot_s2 : DS := (sSeq (sIf (tOf (eBin opEq (eBin opIx (eVar 0) (eK (.int 0))) (eK (.str "left"))))
(sRet (eTupL (lcomp (iSeq (eVar 1)) (gName 3) tYesD c_led_lot_e2 [3])))
sNext)
c_led_lot_s1)
def c_led_lot : DS := (sSeq (sIf (tOf (eBin opEq (eBin opIx (eVar 0) (eK (.int 0))) (eK (.str "turned"))))
(sRet (eF fTuple (aCons (eF fSorted (aCons (eNew (lcomp (iSeq (eVar 1)) (gName 3) tYesD c_led_lot_e1 [3])) aNil)) aNil)))
sNext)
c_led_lot_s2)
def d33 : Df := ⟨"led_lot", ["rule", "lot"], ["rule", "lot", "others", "number"], L2.defArgs (top 43), L2.defBody (top 43), L2.defScope (top 43)⟩
/-- beside_lots: 0 rule, 1 lot, 2 first, 3 one, 4 other, 5 number -/
def c_beside_lots_t1 : DT := (tOf (eBin opLt (eVar 5) (eVar 2)))
def c_beside_lots_t2 : DT := (tOf (eBin opGe (eVar 5) (eVar 2)))
def c_beside_lots_e1 : DE := (eBin opSub (eVar 5) (eVar 2))
def c_beside_lots : DS := (sSeq (sAsg (eCall 22 (aCons (eBin opIx (eVar 0) (eK (.int 1))) aNil)) (gName 2))
(sSeq (sAsg (eTupL (lcomp (iSeq (eVar 1)) (gName 5) c_beside_lots_t1 (eVar 5) [5])) (gName 3))
(sSeq (sAsg (eTupL (lcomp (iSeq (eVar 1)) (gName 5) c_beside_lots_t2 c_beside_lots_e1 [5])) (gName 4))
(sRet (eTup (aCons (eVar 3) (aCons (eVar 4) aNil)))))))
def d34 : Df := ⟨"beside_lots", ["rule", "lot"], ["rule", "lot", "first", "one", "other", "number"], L2.defArgs (top 44), L2.defBody (top 44), L2.defScope (top 44)⟩
/-- holds: 0 rule, 1 lot, 2 kind, 3 one, 4 other -/
def c_holds_s1 : DS := (sRet (eCall 35 (aCons (eBin opIx (eVar 0) (eK (.int 1))) (aCons (eCall 33 (aCons (eVar 0) (aCons (eVar 1) aNil))) aNil))))
def c_holds_s2 : DS := (sSeq (sIf (tOf (eBin opEq (eVar 2) (eK (.str "teams"))))
(sRet (eBin opIsNot (eCall 30 (aCons (eLst (aCons (eBin opIx (eVar 0) (eK (.int 1))) (aCons (eBin opIx (eVar 0) (eK (.int 2))) aNil))) (aCons (eVar 1) (aCons (eK (.fn 35)) aNil)))) (eK .non)))
sNext)
c_holds_s1)
def c_holds_s3 : DS := (sSeq (sIf (tOf (eBin opEq (eVar 2) (eK (.str "beside"))))
(sSeq (sAsg (eCall 34 (aCons (eVar 0) (aCons (eVar 1) aNil))) (gTup 2 (gCons (gName 3) (gCons (gName 4) gNil))))
(sRet (eAnd (eCall 35 (aCons (eBin opIx (eVar 0) (eK (.int 1))) (aCons (eVar 3) aNil))) (eCall 35 (aCons (eBin opIx (eVar 0) (eK (.int 2))) (aCons (eVar 4) aNil))))))
sNext)
c_holds_s2)
def c_holds_s4 : DS := (sSeq (sIf (tOf (eBin opEq (eVar 2) (eK (.str "cut"))))
(sRet (eAnd (eBin opLe (eF fLen (aCons (eVar 1) aNil)) (eBin opIx (eVar 0) (eK (.int 2)))) (eCall 35 (aCons (eBin opIx (eVar 0) (eK (.int 1))) (aCons (eVar 1) aNil)))))
sNext)
c_holds_s3)
def c_holds : DS := (sSeq (sAsg (eBin opIx (eVar 0) (eK (.int 0))) (gName 2))
(sSeq (sIf (tOf (eBin (inD false) (eVar 2) (eTup (aCons (eK (.str "posts")) (aCons (eK (.str "quotas")) (aCons (eK (.str "web")) (aCons (eK (.str "vectors")) aNil)))))))
(sRet (eCall 32 (aCons (eVar 0) (aCons (eVar 1) aNil))))
sNext)
c_holds_s4))
def d35 : Df := ⟨"holds", ["rule", "lot"], ["rule", "lot", "kind", "one", "other"], L2.defArgs (top 45), L2.defBody (top 45), L2.defScope (top 45)⟩
/-- is_watchable: 0 rule, 1 thing -/
def c_is_watchable : DS := (sRet (eAnd (eCall 8 (aCons (eCall 22 (aCons (eVar 0) aNil)) (aCons (eVar 1) aNil))) (eCall 35 (aCons (eVar 0) (aCons (eVar 1) aNil)))))
def d36 : Df := ⟨"is_watchable", ["rule", "thing"], ["rule", "thing"], L2.defArgs (top 46), L2.defBody (top 46), L2.defScope (top 46)⟩
/-- _law_well: 0 script, 1 deep, 2 mixed, 3 cell, 4 size -/
def c_law_well_b1 : DS := (sSeq (sAsg (eBin opMod (eF fAbs (aCons (eF fInt (aCons (eVar 3) aNil)) aNil)) (eBin opShl (eK (.int 1)) (eK (.int 1800)))) (gName 4))
(sSeq (sAsg (eBin opMod (eF fInt (aCons (eBin opAdd (eBin opAdd (eBin opMul (eVar 2) (eK (.int 45767))) (eBin opMod (eVar 4) (eK (.int 2147481961)))) (eK (.int 23027))) aNil)) (eK (.int 4294967291))) (gName 2))
(sIf (tOf (eBin opGe (eVar 4) (eBin opPow (eK (.int 10)) (eK (.int 18)))))
(sDrop (eM "list" mAppend (eVar 1) (aCons (eVar 4) aNil)))
sNext)))
def c_law_well_s1 : DS := (sRet (eLst (aCons (eVar 1) (aCons (eVar 2) (aCons (eK (.int 0)) aNil)))))
def c_law_well : DS := (sSeq (sAsg (eLst aNil) (gName 1))
(sSeq (sAsg (eK (.int 680027)) (gName 2))
(sSeq (sFor (iSeq (eCut (eVar 0) oNone (oSome (eK (.int 60))))) (gName 3) c_law_well_b1)
c_law_well_s1)))
def d37 : Df := ⟨"_law_well", ["script"], ["script", "deep", "mixed", "cell", "size"], L2.defArgs (top 48), L2.defBody (top 48), L2.defScope (top 48)⟩
/-- _law_dip: 0 well, 1 many, 2 size -/
def c_law_dip_s1 : DS := (sRet (eBin opMod (eVar 2) (eVar 1)))
def c_law_dip_s2 : DS := (sSeq (sAsg (eBin opAdd (eBin opIx (eVar 0) (eK (.int 2))) (eK (.int 1))) (gSub (eVar 0) (eK (.int 2))))
(sSeq (sAsg (eBin opMod (eF fInt (aCons (eBin opAdd (eBin opAdd (eBin opMul (eBin opIx (eVar 0) (eK (.int 1))) (eK (.int 41387))) (eBin opMul (eBin opIx (eVar 0) (eK (.int 2))) (eK (.int 2749)))) (eK (.int 1))) aNil)) (eK (.int 4294967291))) (gSub (eVar 0) (eK (.int 1))))
(sRet (eBin opMod (eF fInt (aCons (eBin opDiv (eBin opIx (eVar 0) (eK (.int 1))) (eK (.int 1021))) aNil)) (eVar 1)))))
def c_law_dip : DS := (sSeq (sIf (tOf (eBin opGt (eF fLen (aCons (eBin opIx (eVar 0) (eK (.int 0))) aNil)) (eK (.int 0))))
(sSeq (sAsg (eF fInt (aCons (eBin opIx (eBin opIx (eVar 0) (eK (.int 0))) (eUn opNeg (eK (.int 1)))) aNil)) (gName 2))
(sSeq (sDrop (eM "list" mPop (eBin opIx (eVar 0) (eK (.int 0))) aNil))
(sSeq (sIf (tOf (eBin opGe (eVar 2) (eVar 1)))
(sDrop (eM "list" mAppend (eBin opIx (eVar 0) (eK (.int 0))) (aCons (eBin opDiv (eVar 2) (eVar 1)) aNil)))
sNext)
c_law_dip_s1)))
sNext)
c_law_dip_s2)
def d38 : Df := ⟨"_law_dip", ["well", "many"], ["well", "many", "size"], L2.defArgs (top 49), L2.defBody (top 49), L2.defScope (top 49)⟩
/-- _law_same: 0 told, 1 due, 2 left, 3 one, 4 other, 5 at -/
def c_law_same_w1 : DT := (tOf (eBin opGt (eF fLen (aCons (eVar 2) aNil)) (eK (.int 0))))
def c_law_same_b1 : DS := (sDrop (eM "list" mAppend (eVar 2) (aCons (eTup (aCons (eBin opIx (eVar 3) (eVar 5)) (aCons (eBin opIx (eVar 4) (eVar 5)) aNil))) aNil)))
def c_law_same_b2 : DS := (sSeq (sAsg (eM "list" mPop (eVar 2) aNil) (gTup 2 (gCons (gName 3) (gCons (gName 4) gNil))))
(sIf (tOf (eBin opIs (eVar 4) (eK .non)))
(sIf (tOf (eBin opIsNot (eVar 3) (eK .non)))
(sRet (eK (.bl false)))
sNext)
(sIf (tTru (eIsi "bool" (eVar 4)))
(sIf (tOr (tNot (tTru (eIsi "bool" (eVar 3)))) (tOf (eBin opNe (eVar 3) (eVar 4))))
(sRet (eK (.bl false)))
sNext)
(sIf (tTru (eIsi "int" (eVar 4)))
(sIf (tOr (tNot (tTru (eIsi "int" (eVar 3)))) (tOr (tTru (eIsi "bool" (eVar 3))) (tOf (eBin opNe (eVar 3) (eVar 4)))))
(sRet (eK (.bl false)))
sNext)
(sIf (tTru (eIsi "str" (eVar 4)))
(sIf (tOr (tNot (tTru (eIsi "str" (eVar 3)))) (tOf (eBin opNe (eVar 3) (eVar 4))))
(sRet (eK (.bl false)))
sNext)
(sIf (tOr (tNot (tTru (eIsi "tuple" (eVar 3)))) (tOr (tNot (tTru (eIsi "tuple" (eVar 4)))) (tOf (eBin opNe (eF fLen (aCons (eVar 3) aNil)) (eF fLen (aCons (eVar 4) aNil))))))
(sRet (eK (.bl false)))
(sFor (iRng1 (eF fLen (aCons (eVar 4) aNil))) (gName 5) c_law_same_b1)))))))
def c_law_same_s1 : DS := (sRet (eK (.bl true)))
def c_law_same : DS := (sSeq (sAsg (eLst (aCons (eTup (aCons (eVar 0) (aCons (eVar 1) aNil))) aNil)) (gName 2))
(sSeq (sWhile c_law_same_w1 c_law_same_b2)
c_law_same_s1))
def d39 : Df := ⟨"_law_same", ["told", "due"], ["told", "due", "left", "one", "other", "at"], L2.defArgs (top 50), L2.defBody (top 50), L2.defScope (top 50)⟩
/-- _law_lot: 0 well, 1 many, 2 rare, 3 thing -/
def c_law_lot_t1 : DT := (tOf (eBin opLt (eCall 38 (aCons (eVar 0) (aCons (eK (.int 5)) aNil))) (eVar 2)))
def c_law_lot : DS := (sSeq (sAsg (eBin opIx (eTup (aCons (eK (.int 0)) (aCons (eK (.int 5)) (aCons (eK (.int 1)) (aCons (eK (.int 4)) (aCons (eK (.int 2)) (aCons (eK (.int 3)) aNil))))))) (eCall 38 (aCons (eVar 0) (aCons (eK (.int 6)) aNil)))) (gName 2))
(sRet (eTupL (lcomp (iRng1 (eVar 1)) (gName 3) c_law_lot_t1 (eVar 3) [3]))))
def d40 : Df := ⟨"_law_lot", ["well", "many"], ["well", "many", "rare", "thing"], L2.defArgs (top 51), L2.defBody (top 51), L2.defScope (top 51)⟩
/-- _law_numbers: 0 well, 1 lot, 2 number, 3 thing, 4 due, 5 rest -/
def c_law_numbers_b1 : DS := (sAsg (eBin opAdd (eBin opMul (eK (.int 2)) (eVar 2)) (eF fInt (aCons (eBin (inD false) (eVar 3) (eVar 1)) aNil))) (gName 2))
def c_law_numbers_w1 : DT := (tOf (eBin opGt (eVar 5) (eK (.int 0))))
def c_law_numbers_s1 : DS := (sSeq (sAsg (eBin opDiv (eVar 5) (eK (.int 2))) (gName 5))
(sAsg (eBin opAdd (eVar 3) (eK (.int 1))) (gName 3)))
def c_law_numbers_b2 : DS := (sSeq (sIf (tOf (eBin opEq (eBin opAnd (eVar 5) (eK (.int 1))) (eK (.int 1))))
(sDrop (eM "list" mAppend (eVar 4) (aCons (eVar 3) aNil)))
sNext)
c_law_numbers_s1)
def c_law_numbers_s2 : DS := (sRet (eCall 39 (aCons (eTup (aCons (eCall 11 (aCons (eVar 2) aNil)) (aCons (eCall 10 (aCons (eF fTuple (aCons (eVar 4) aNil)) aNil)) aNil))) (aCons (eTup (aCons (eF fTuple (aCons (eVar 4) aNil)) (aCons (eVar 2) aNil))) aNil))))
def c_law_numbers_s3 : DS := (sSeq (sAsg (eBin opIx (eTup (aCons (eCall 38 (aCons (eVar 0) (aCons (eK (.int 64)) aNil))) (aCons (eCall 38 (aCons (eVar 0) (aCons (eBin opShl (eK (.int 1)) (eK (.int 20))) aNil))) (aCons (eBin opShl (eK (.int 1)) (eCall 38 (aCons (eVar 0) (aCons (eK (.int 20)) aNil)))) (aCons (eBin opSub (eBin opShl (eK (.int 1)) (eK (.int 20))) (eK (.int 1))) aNil))))) (eCall 38 (aCons (eVar 0) (aCons (eK (.int 4)) aNil)))) (gName 2))
(sSeq (sAsg (eLst aNil) (gName 4))
(sSeq (sAsg (eVar 2) (gName 5))
(sSeq (sAsg (eK (.int 0)) (gName 3))
(sSeq (sWhile c_law_numbers_w1 c_law_numbers_b2)
c_law_numbers_s2)))))
def c_law_numbers_s4 : DS := (sSeq (sIf (tNot (tTru (eCall 39 (aCons (eTup (aCons (eCall 10 (aCons (eVar 1) aNil)) (aCons (eCall 11 (aCons (eVar 2) aNil)) (aCons (eCall 10 (aCons (eTup aNil) aNil)) (aCons (eCall 11 (aCons (eK (.int 0)) aNil)) aNil))))) (aCons (eTup (aCons (eVar 2) (aCons (eVar 1) (aCons (eK (.int 0)) (aCons (eTup aNil) aNil))))) aNil)))))
(sRet (eK (.bl false)))
sNext)
c_law_numbers_s3)
def c_law_numbers : DS := (sSeq (sAsg (eCall 40 (aCons (eVar 0) (aCons (eBin opIx (eTup (aCons (eK (.int 20)) (aCons (eK (.int 8)) aNil))) (eCall 38 (aCons (eVar 0) (aCons (eK (.int 2)) aNil)))) aNil))) (gName 1))
(sSeq (sAsg (eK (.int 0)) (gName 2))
(sSeq (sFor (iRng3 (eK (.int 19)) (eUn opNeg (eK (.int 1))) (eUn opNeg (eK (.int 1)))) (gName 3) c_law_numbers_b1)
c_law_numbers_s4)))
def d41 : Df := ⟨"_law_numbers", ["well"], ["well", "lot", "number", "thing", "due", "rest"], L2.defArgs (top 52), L2.defBody (top 52), L2.defScope (top 52)⟩
/-- _law_any: 0 well, 1 many, 2 number, 3 every, 4 lot, 5 told -/
def c_law_any_s1 : DS := (sSeq (sAsg (eCall 40 (aCons (eVar 0) (aCons (eVar 1) aNil))) (gName 4))
(sSeq (sAsg (eTup (aCons (eCall 36 (aCons (eCall 0 (aCons (eVar 1) aNil)) (aCons (eVar 4) aNil))) (aCons (eCall 36 (aCons (eCall 1 (aCons (eVar 1) (aCons (eVar 2) aNil))) (aCons (eVar 4) aNil))) (aCons (eCall 36 (aCons (eCall 0 (aCons (eVar 1) aNil)) (aCons (eVar 3) aNil))) aNil)))) (gName 5))
(sRet (eCall 39 (aCons (eVar 5) (aCons (eTup (aCons (eK (.bl true)) (aCons (eBin opLe (eF fLen (aCons (eVar 4) aNil)) (eVar 2)) (aCons (eK (.bl true)) aNil)))) aNil))))))
def c_law_any : DS := (sSeq (sAsg (eBin opIx (eTup (aCons (eCall 38 (aCons (eVar 0) (aCons (eK (.int 7)) aNil))) (aCons (eK (.int 20)) aNil))) (eF fInt (aCons (eBin opEq (eCall 38 (aCons (eVar 0) (aCons (eK (.int 5)) aNil))) (eK (.int 0))) aNil))) (gName 1))
(sSeq (sAsg (eBin opIx (eTup (aCons (eK (.int 0)) (aCons (eK (.int 1)) (aCons (eK (.int 2)) (aCons (eCall 38 (aCons (eVar 0) (aCons (eBin opAdd (eVar 1) (eK (.int 1))) aNil))) (aCons (eBin opPow (eK (.int 10)) (eK (.int 6))) aNil)))))) (eCall 38 (aCons (eVar 0) (aCons (eK (.int 5)) aNil)))) (gName 2))
(sSeq (sAsg (eTupRg (rg1 (eVar 1))) (gName 3))
(sSeq (sIf (tNot (tTru (eCall 39 (aCons (eTup (aCons (eCall 0 (aCons (eVar 1) aNil)) (aCons (eCall 1 (aCons (eVar 1) (aCons (eVar 2) aNil))) aNil))) (aCons (eTup (aCons (eTup (aCons (eK (.str "quotas")) (aCons (eVar 1) (aCons (eTup aNil) aNil)))) (aCons (eTup (aCons (eK (.str "quotas")) (aCons (eVar 1) (aCons (eTup (aCons (eTup (aCons (eVar 3) (aCons (eVar 2) aNil))) aNil)) aNil)))) aNil))) aNil)))))
(sRet (eK (.bl false)))
sNext)
c_law_any_s1))))
def d42 : Df := ⟨"_law_any", ["well"], ["well", "many", "number", "every", "lot", "told"], L2.defArgs (top 53), L2.defBody (top 53), L2.defScope (top 53)⟩
/-- _law_rooms: 0 well, 1 habit, 2 sizes, 3 turn, 4 size, 5 number, 6 parts, 7 first, 8 rule, 9 lot, 10 room, 11 most, 12 spots, 13 thing -/
def c_law_rooms_b1 : DS := (sSeq (sAsg (eBin opIx (eTup (aCons (eCall 38 (aCons (eVar 0) (aCons (eK (.int 5)) aNil))) (aCons (eK (.int 0)) (aCons (eK (.int 1)) (aCons (eBin opMul (eCall 38 (aCons (eVar 0) (aCons (eK (.int 3)) aNil))) (eCall 38 (aCons (eVar 0) (aCons (eK (.int 3)) aNil)))) aNil))))) (eVar 1)) (gName 4))
(sIf (tOf (eBin opLe (eBin opAdd (eF (fC cSum true) (aCons (eVar 2) aNil)) (eVar 4)) (eK (.int 20))))
(sAsg (eBin opAdd (eVar 2) (eTup (aCons (eVar 4) aNil))) (gName 2))
sNext))
def c_law_rooms_e1 : DE := (eBin opAdd (eVar 7) (eVar 13))
def c_law_rooms_b2 : DS := (sSeq (sDrop (eM "list" mAppend (eVar 6) (aCons (eTup (aCons (eTupL (lcomp (iRng1 (eVar 4)) (gName 13) tYesD c_law_rooms_e1 [13])) (aCons (eVar 5) aNil))) aNil)))
(sAsg (eBin opAdd (eVar 7) (eVar 4)) (gName 7)))
def c_law_rooms_g1 : DG := (gTup 2 (gCons (gName 10) (gCons (gName 11) gNil)))
def c_law_rooms_b3 : DS := (sAsg (eBin opAdd (eVar 9) (eF fList (aCons (eCut (eVar 10) oNone (oSome (eVar 5))) aNil))) (gName 9))
def c_law_rooms_t1 : DT := (tOf (eBin (inD true) (eVar 13) (eVar 9)))
def c_law_rooms_s1 : DS := (sSeq (sDrop (eM "list" mAppend (eVar 9) (aCons (eBin opIx (eVar 12) (eCall 38 (aCons (eVar 0) (aCons (eF fLen (aCons (eVar 12) aNil)) aNil)))) aNil)))
(sRet (eCall 39 (aCons (eCall 36 (aCons (eVar 8) (aCons (eF fTuple (aCons (eF fSorted (aCons (eVar 9) aNil)) aNil)) aNil))) (aCons (eK (.bl false)) aNil)))))
def c_law_rooms_s2 : DS := (sSeq (sAsg (eNew (lcomp (iRng1 (eVar 7)) (gName 13) c_law_rooms_t1 (eVar 13) [13])) (gName 12))
(sSeq (sIf (tOf (eBin opEq (eF fLen (aCons (eVar 12) aNil)) (eK (.int 0))))
(sRet (eK (.bl true)))
sNext)
c_law_rooms_s1))
def c_law_rooms_s3 : DS := (sSeq (sIf (tNot (tTru (eCall 39 (aCons (eCall 36 (aCons (eVar 8) (aCons (eF fTuple (aCons (eVar 9) aNil)) aNil))) (aCons (eK (.bl true)) aNil)))))
(sRet (eK (.bl false)))
sNext)
c_law_rooms_s2)
def c_law_rooms_s4 : DS := (sSeq (sAsg (eLst aNil) (gName 9))
(sSeq (sFor (iSeq (eVar 6)) c_law_rooms_g1 c_law_rooms_b3)
c_law_rooms_s3))
def c_law_rooms_s5 : DS := (sSeq (sAsg (eTup (aCons (eK (.str "quotas")) (aCons (eVar 7) (aCons (eF fTuple (aCons (eVar 6) aNil)) aNil)))) (gName 8))
(sSeq (sIf (tNot (tTru (eCall 39 (aCons (eCall 2 (aCons (eVar 2) (aCons (eVar 5) aNil))) (aCons (eVar 8) aNil)))))
(sRet (eK (.bl false)))
sNext)
c_law_rooms_s4))
def c_law_rooms_s6 : DS := (sSeq (sAsg (eBin opIx (eTup (aCons (eK (.int 0)) (aCons (eK (.int 1)) (aCons (eK (.int 1)) (aCons (eK (.int 2)) (aCons (eBin opPow (eK (.int 10)) (eK (.int 6))) aNil)))))) (eCall 38 (aCons (eVar 0) (aCons (eK (.int 5)) aNil)))) (gName 5))
(sSeq (sAsg (eLst aNil) (gName 6))
(sSeq (sAsg (eK (.int 0)) (gName 7))
(sSeq (sFor (iSeq (eVar 2)) (gName 4) c_law_rooms_b2)
c_law_rooms_s5))))
def c_law_rooms : DS := (sSeq (sAsg (eCall 38 (aCons (eVar 0) (aCons (eK (.int 4)) aNil))) (gName 1))
(sSeq (sAsg (eTup aNil) (gName 2))
(sSeq (sFor (iRng1 (eBin opIx (eTup (aCons (eCall 38 (aCons (eVar 0) (aCons (eK (.int 5)) aNil))) (aCons (eK (.int 0)) (aCons (eK (.int 20)) (aCons (eK (.int 4)) aNil))))) (eVar 1))) (gName 3) c_law_rooms_b1)
c_law_rooms_s6)))
def d43 : Df := ⟨"_law_rooms", ["well"], ["well", "habit", "sizes", "turn", "size", "number", "parts", "first", "rule", "lot", "room", "most", "spots", "thing"], L2.defArgs (top 54), L2.defBody (top 54), L2.defScope (top 54)⟩
/-- _law_webs: 0 well, 1 many, 2 ties, 3 place, 4 every, 5 gone, 6 lot, 7 places, 8 pairs, 9 one, 10 other, 11 rule, 12 centre, 13 star, 14 rest, 15 thing -/
def c_law_webs_b1 : DS := (sDrop (eM "list" mAppend (eVar 2) (aCons (eTup (aCons (eVar 3) (aCons (eBin opAdd (eVar 3) (eK (.int 1))) aNil))) aNil)))
def c_law_webs_t1 : DT := (tOf (eBin opNe (eVar 15) (eVar 5)))
def c_law_webs_b2 : DS := (sIf (tOf (eBin opLt (eVar 9) (eVar 10)))
(sDrop (eM "list" mAppend (eVar 8) (aCons (eTup (aCons (eVar 9) (aCons (eVar 10) aNil))) aNil)))
sNext)
def c_law_webs_b3 : DS := (sFor (iRng1 (eVar 7)) (gName 10) c_law_webs_b2)
def c_law_webs_t2 : DT := (tOf (eBin (inD false) (eVar 12) (eBin opIx (eVar 8) (eVar 15))))
def c_law_webs_t3 : DT := (tOf (eBin (inD true) (eVar 15) (eVar 13)))
def c_law_webs_s1 : DS := (sRet (eCall 39 (aCons (eCall 36 (aCons (eVar 11) (aCons (eF fTuple (aCons (eF fSorted (aCons (eBin opAdd (eVar 13) (eTup (aCons (eBin opIx (eVar 14) (eCall 38 (aCons (eVar 0) (aCons (eF fLen (aCons (eVar 14) aNil)) aNil)))) aNil))) aNil)) aNil)) aNil))) (aCons (eK (.bl false)) aNil))))
def c_law_webs_s2 : DS := (sSeq (sAsg (eNew (lcomp (iRng1 (eF fLen (aCons (eVar 8) aNil))) (gName 15) c_law_webs_t3 (eVar 15) [15])) (gName 14))
(sSeq (sIf (tOf (eBin opEq (eF fLen (aCons (eVar 14) aNil)) (eK (.int 0))))
(sRet (eK (.bl true)))
sNext)
c_law_webs_s1))
def c_law_webs_s3 : DS := (sSeq (sAsg (eCall 38 (aCons (eVar 0) (aCons (eVar 7) aNil))) (gName 12))
(sSeq (sAsg (eTupL (lcomp (iRng1 (eF fLen (aCons (eVar 8) aNil))) (gName 15) c_law_webs_t2 (eVar 15) [15])) (gName 13))
(sSeq (sIf (tNot (tTru (eCall 39 (aCons (eCall 36 (aCons (eVar 11) (aCons (eVar 13) aNil))) (aCons (eK (.bl true)) aNil)))))
(sRet (eK (.bl false)))
sNext)
c_law_webs_s2)))
def c_law_webs_s4 : DS := (sSeq (sAsg (eTup (aCons (eK (.str "web")) (aCons (eF fLen (aCons (eVar 8) aNil)) (aCons (eVar 7) (aCons (eF fTuple (aCons (eVar 8) aNil)) aNil))))) (gName 11))
(sSeq (sIf (tNot (tTru (eCall 39 (aCons (eCall 4 (aCons (eVar 7) aNil)) (aCons (eVar 11) aNil)))))
(sRet (eK (.bl false)))
sNext)
c_law_webs_s3))
def c_law_webs_s5 : DS := (sSeq (sAsg (eBin opAdd (eK (.int 1)) (eCall 38 (aCons (eVar 0) (aCons (eK (.int 6)) aNil)))) (gName 7))
(sSeq (sAsg (eLst aNil) (gName 8))
(sSeq (sFor (iRng1 (eVar 7)) (gName 9) c_law_webs_b3)
c_law_webs_s4)))
def c_law_webs_s6 : DS := (sSeq (sAsg (eTupRg (rg1 (eVar 1))) (gName 4))
(sSeq (sAsg (eCall 38 (aCons (eVar 0) (aCons (eVar 1) aNil))) (gName 5))
(sSeq (sAsg (eTupL (lcomp (iSeq (eVar 4)) (gName 15) c_law_webs_t1 (eVar 15) [15])) (gName 6))
(sSeq (sIf (tNot (tTru (eCall 39 (aCons (eTup (aCons (eCall 36 (aCons (eCall 3 (aCons (eVar 1) aNil)) (aCons (eVar 4) aNil))) (aCons (eCall 36 (aCons (eCall 3 (aCons (eVar 1) aNil)) (aCons (eVar 6) aNil))) aNil))) (aCons (eTup (aCons (eK (.bl false)) (aCons (eK (.bl true)) aNil))) aNil)))))
(sRet (eK (.bl false)))
sNext)
c_law_webs_s5))))
def c_law_webs_s7 : DS := (sSeq (sDrop (eM "list" mAppend (eVar 2) (aCons (eTup (aCons (eK (.int 0)) (aCons (eBin opSub (eVar 1) (eK (.int 1))) aNil))) aNil)))
(sSeq (sIf (tNot (tTru (eCall 39 (aCons (eCall 3 (aCons (eVar 1) aNil)) (aCons (eTup (aCons (eK (.str "web")) (aCons (eVar 1) (aCons (eVar 1) (aCons (eF fTuple (aCons (eVar 2) aNil)) aNil))))) aNil)))))
(sRet (eK (.bl false)))
sNext)
c_law_webs_s6))
def c_law_webs : DS := (sSeq (sAsg (eBin opAdd (eK (.int 1)) (eCall 38 (aCons (eVar 0) (aCons (eBin opIx (eTup (aCons (eK (.int 6)) (aCons (eK (.int 20)) aNil))) (eF fInt (aCons (eBin opEq (eCall 38 (aCons (eVar 0) (aCons (eK (.int 4)) aNil))) (eK (.int 0))) aNil))) aNil)))) (gName 1))
(sSeq (sAsg (eLst aNil) (gName 2))
(sSeq (sFor (iRng1 (eBin opSub (eVar 1) (eK (.int 1)))) (gName 3) c_law_webs_b1)
c_law_webs_s7)))
def d44 : Df := ⟨"_law_webs", ["well"], ["well", "many", "ties", "place", "every", "gone", "lot", "places", "pairs", "one", "other", "rule", "centre", "star", "rest", "thing"], L2.defArgs (top 55), L2.defBody (top 55), L2.defScope (top 55)⟩
/-- law: 0 script, 1 well, 2 turn -/
def c_law_b1 : DS := (sIf (tOr (tNot (tTru (eCall 41 (aCons (eVar 1) aNil)))) (tOr (tNot (tTru (eCall 42 (aCons (eVar 1) aNil)))) (tOr (tNot (tTru (eCall 43 (aCons (eVar 1) aNil)))) (tNot (tTru (eCall 44 (aCons (eVar 1) aNil)))))))
(sRet (eK (.bl false)))
sNext)
def c_law_s1 : DS := (sRet (eCall 39 (aCons (eTup (aCons (eCall 2 (aCons (eTup aNil) (aCons (eK (.int 1)) aNil))) (aCons (eCall 2 (aCons (eTup (aCons (eK (.int 0)) (aCons (eK (.int 1)) aNil))) (aCons (eK (.int 0)) aNil))) (aCons (eCall 1 (aCons (eK (.int 0)) (aCons (eK (.int 0)) aNil))) aNil)))) (aCons (eTup (aCons (eTup (aCons (eK (.str "quotas")) (aCons (eK (.int 0)) (aCons (eTup aNil) aNil)))) (aCons (eTup (aCons (eK (.str "quotas")) (aCons (eK (.int 1)) (aCons (eTup (aCons (eTup (aCons (eTup aNil) (aCons (eK (.int 0)) aNil))) (aCons (eTup (aCons (eTup (aCons (eK (.int 0)) aNil)) (aCons (eK (.int 0)) aNil))) aNil))) aNil)))) (aCons (eTup (aCons (eK (.str "quotas")) (aCons (eK (.int 0)) (aCons (eTup (aCons (eTup (aCons (eTup aNil) (aCons (eK (.int 0)) aNil))) aNil)) aNil)))) aNil)))) aNil))))
def c_law_s2 : DS := (sSeq (sIf (tNot (tTru (eCall 39 (aCons (eTup (aCons (eCall 3 (aCons (eK (.int 1)) aNil)) (aCons (eCall 3 (aCons (eK (.int 2)) aNil)) (aCons (eCall 4 (aCons (eK (.int 1)) aNil)) aNil)))) (aCons (eTup (aCons (eTup (aCons (eK (.str "web")) (aCons (eK (.int 1)) (aCons (eK (.int 1)) (aCons (eTup (aCons (eTup (aCons (eK (.int 0)) (aCons (eK (.int 0)) aNil))) aNil)) aNil))))) (aCons (eTup (aCons (eK (.str "web")) (aCons (eK (.int 2)) (aCons (eK (.int 2)) (aCons (eTup (aCons (eTup (aCons (eK (.int 0)) (aCons (eK (.int 1)) aNil))) (aCons (eTup (aCons (eK (.int 0)) (aCons (eK (.int 1)) aNil))) aNil))) aNil))))) (aCons (eTup (aCons (eK (.str "web")) (aCons (eK (.int 0)) (aCons (eK (.int 1)) (aCons (eTup aNil) aNil))))) aNil)))) aNil)))))
(sRet (eK (.bl false)))
sNext)
c_law_s1)
def c_law : DS := (sSeq (sAsg (eCall 37 (aCons (eVar 0) aNil)) (gName 1))
(sSeq (sFor (iRng1 (eK (.int 2))) (gName 2) c_law_b1)
c_law_s2))
def d45 : Df := ⟨"law", ["script"], ["script", "well", "turn"], L2.defArgs (top 56), L2.defBody (top 56), L2.defScope (top 56)⟩
def ds : List Df := [d0, d1, d2, d3, d4, d5, d6, d7, d8, d9, d10, d11, d12, d13, d14, d15, d16, d17, d18, d19, d20, d21, d22, d23, d24, d25, d26, d27, d28, d29, d30, d31, d32, d33, d34, d35, d36, d37, d38, d39, d40, d41, d42, d43, d44, d45]
def fns0 : List (Str × List Str) := [("free_rule", ["many"]), ("any_rule", ["many", "number"]), ("rooms_rule", ["sizes", "number"]), ("ring_rule", ["many"]), ("all_pairs_rule", ["places"]), ("is_integer", ["thing"]), ("integer_within", ["thing", "low", "high"]), ("lot_fault", ["many", "thing"]), ("is_lot", ["many", "thing"]), ("common_of", ["one", "other"]), ("lot_number", ["lot"]), ("numbered_lot", ["number"]), ("merged_marks", ["marks", "one", "other"]), ("is_forest", ["places", "ties"]), ("first_place", ["row"]), ("cleared", ["row", "pivot", "place", "prime"]), ("reduced", ["row", "pivots", "prime"]), ("turned_over", ["number", "prime"]), ("scaled", ["row", "place", "prime"]), ("are_free", ["rows", "prime"]), ("given_more", ["posts", "taken", "number", "met"]), ("matched", ["posts", "lot"]), ("things_of", ["rule"]), ("others_of", ["many", "lot"]), ("with_thing", ["lot", "number"])]
def fns1 : List (Str × List Str) := [("without_thing", ["lot", "number"]), ("in_the_way", ["rule", "lot", "number", "holds"]), ("lacking_lots", ["lots", "number"]), ("way_out", ["rules", "lots", "number", "holds"]), ("changed_lots", ["lots", "came", "last"]), ("parted", ["rules", "lot", "holds"]), ("keeps_quotas", ["parts", "lot"]), ("is_plain_watchable", ["rule", "lot"]), ("led_lot", ["rule", "lot"]), ("beside_lots", ["rule", "lot"]), ("holds", ["rule", "lot"]), ("is_watchable", ["rule", "thing"]), ("_law_well", ["script"]), ("_law_dip", ["well", "many"]), ("_law_same", ["told", "due"]), ("_law_lot", ["well", "many"]), ("_law_numbers", ["well"]), ("_law_any", ["well"]), ("_law_rooms", ["well"]), ("_law_webs", ["well"]), ("law", ["script"])]
def G : Glb := ⟨fns0 ++ fns1, ["len", "range", "tuple", "list", "int", "bool", "abs", "sum", "any", "isinstance", "zip", "enumerate", "sorted", "str"], [], [], [("PLAIN_KINDS", [(.str "posts"), (.str "quotas"), (.str "web"), (.str "vectors")])], [("combinations", "itertools.combinations")]⟩
def T : List Fn := [⟨1, 1, c_free_rule⟩, ⟨2, 2, c_any_rule⟩, ⟨2, 5, c_rooms_rule⟩, ⟨1, 3, c_ring_rule⟩, ⟨1, 2, c_all_pairs_rule⟩, ⟨1, 1, c_is_integer⟩, ⟨3, 3, c_integer_within⟩, ⟨2, 5, c_lot_fault⟩, ⟨2, 2, c_is_lot⟩, ⟨2, 3, c_common_of⟩, ⟨1, 2, c_lot_number⟩, ⟨1, 2, c_numbered_lot⟩, ⟨3, 4, c_merged_marks⟩, ⟨2, 5, c_is_forest⟩, ⟨1, 3, c_first_place⟩, ⟨4, 7, c_cleared⟩, ⟨3, 5, c_reduced⟩, ⟨2, 3, c_turned_over⟩, ⟨3, 5, c_scaled⟩, ⟨2, 6, c_are_free⟩, ⟨4, 6, c_given_more⟩, ⟨2, 4, c_matched⟩, ⟨1, 2, c_things_of⟩, ⟨2, 3, c_others_of⟩, ⟨2, 2, c_with_thing⟩, ⟨2, 3, c_without_thing⟩, ⟨4, 5, c_in_the_way⟩, ⟨2, 4, c_lacking_lots⟩, ⟨4, 11, c_way_out⟩, ⟨3, 8, c_changed_lots⟩, ⟨3, 8, c_parted⟩, ⟨2, 4, c_keeps_quotas⟩, ⟨2, 3, c_is_plain_watchable⟩, ⟨2, 4, c_led_lot⟩, ⟨2, 6, c_beside_lots⟩, ⟨2, 5, c_holds⟩, ⟨2, 2, c_is_watchable⟩, ⟨1, 5, c_law_well⟩, ⟨2, 3, c_law_dip⟩, ⟨2, 6, c_law_same⟩, ⟨2, 4, c_law_lot⟩, ⟨1, 6, c_law_numbers⟩, ⟨1, 6, c_law_any⟩, ⟨1, 14, c_law_rooms⟩, ⟨1, 16, c_law_webs⟩, ⟨1, 3, c_law⟩]
theorem k0 : ((comp G 120).Ss (cOf d0) d0.body).map (fun z => z.1) = some c_free_rule := by kernel_rfl
theorem o0 : DfOk G d0 ⟨1, 1, c_free_rule⟩ where
  np := rfl
  nl := rfl
  sc := ⟨by kernel_rfl, by kernel_rfl, by kernel_rfl, by decide +kernel, by kernel_rfl, by decide +kernel, by decide +kernel⟩
  code := code_ok k0
  bind := fun _ _ _ _ _ _ us hl => match us, hl with | [_], _ => rfl
theorem k1 : ((comp G 120).Ss (cOf d1) d1.body).map (fun z => z.1) = some c_any_rule := by kernel_rfl
theorem o1 : DfOk G d1 ⟨2, 2, c_any_rule⟩ where
  np := rfl
  nl := rfl
  sc := ⟨by kernel_rfl, by kernel_rfl, by kernel_rfl, by decide +kernel, by kernel_rfl, by decide +kernel, by decide +kernel⟩
  code := code_ok k1
  bind := fun _ _ _ _ _ _ us hl => match us, hl with | [_, _], _ => rfl
theorem k2 : ((comp G 120).Ss (cOf d2) d2.body).map (fun z => z.1) = some c_rooms_rule := by kernel_rfl
theorem o2 : DfOk G d2 ⟨2, 5, c_rooms_rule⟩ where
  np := rfl
  nl := rfl
  sc := ⟨by kernel_rfl, by kernel_rfl, by kernel_rfl, by decide +kernel, by kernel_rfl, by decide +kernel, by decide +kernel⟩
  code := code_ok k2
  bind := fun _ _ _ _ _ _ us hl => match us, hl with | [_, _], _ => rfl
theorem k3 : ((comp G 120).Ss (cOf d3) d3.body).map (fun z => z.1) = some c_ring_rule := by kernel_rfl
theorem o3 : DfOk G d3 ⟨1, 3, c_ring_rule⟩ where
  np := rfl
  nl := rfl
  sc := ⟨by kernel_rfl, by kernel_rfl, by kernel_rfl, by decide +kernel, by kernel_rfl, by decide +kernel, by decide +kernel⟩
  code := code_ok k3
  bind := fun _ _ _ _ _ _ us hl => match us, hl with | [_], _ => rfl
theorem k4 : ((comp G 120).Ss (cOf d4) d4.body).map (fun z => z.1) = some c_all_pairs_rule := by kernel_rfl
theorem o4 : DfOk G d4 ⟨1, 2, c_all_pairs_rule⟩ where
  np := rfl
  nl := rfl
  sc := ⟨by kernel_rfl, by kernel_rfl, by kernel_rfl, by decide +kernel, by kernel_rfl, by decide +kernel, by decide +kernel⟩
  code := code_ok k4
  bind := fun _ _ _ _ _ _ us hl => match us, hl with | [_], _ => rfl
theorem k5 : ((comp G 120).Ss (cOf d5) d5.body).map (fun z => z.1) = some c_is_integer := by kernel_rfl
theorem o5 : DfOk G d5 ⟨1, 1, c_is_integer⟩ where
  np := rfl
  nl := rfl
  sc := ⟨by kernel_rfl, by kernel_rfl, by kernel_rfl, by decide +kernel, by kernel_rfl, by decide +kernel, by decide +kernel⟩
  code := code_ok k5
  bind := fun _ _ _ _ _ _ us hl => match us, hl with | [_], _ => rfl
theorem k6 : ((comp G 120).Ss (cOf d6) d6.body).map (fun z => z.1) = some c_integer_within := by kernel_rfl
theorem o6 : DfOk G d6 ⟨3, 3, c_integer_within⟩ where
  np := rfl
  nl := rfl
  sc := ⟨by kernel_rfl, by kernel_rfl, by kernel_rfl, by decide +kernel, by kernel_rfl, by decide +kernel, by decide +kernel⟩
  code := code_ok k6
  bind := fun _ _ _ _ _ _ us hl => match us, hl with | [_, _, _], _ => rfl
theorem k7 : ((comp G 120).Ss (cOf d7) d7.body).map (fun z => z.1) = some c_lot_fault := by kernel_rfl
theorem o7 : DfOk G d7 ⟨2, 5, c_lot_fault⟩ where
  np := rfl
  nl := rfl
  sc := ⟨by kernel_rfl, by kernel_rfl, by kernel_rfl, by decide +kernel, by kernel_rfl, by decide +kernel, by decide +kernel⟩
  code := code_ok k7
  bind := fun _ _ _ _ _ _ us hl => match us, hl with | [_, _], _ => rfl
theorem k8 : ((comp G 120).Ss (cOf d8) d8.body).map (fun z => z.1) = some c_is_lot := by kernel_rfl
theorem o8 : DfOk G d8 ⟨2, 2, c_is_lot⟩ where
  np := rfl
  nl := rfl
  sc := ⟨by kernel_rfl, by kernel_rfl, by kernel_rfl, by decide +kernel, by kernel_rfl, by decide +kernel, by decide +kernel⟩
  code := code_ok k8
  bind := fun _ _ _ _ _ _ us hl => match us, hl with | [_, _], _ => rfl
theorem k9 : ((comp G 120).Ss (cOf d9) d9.body).map (fun z => z.1) = some c_common_of := by kernel_rfl
theorem o9 : DfOk G d9 ⟨2, 3, c_common_of⟩ where
  np := rfl
  nl := rfl
  sc := ⟨by kernel_rfl, by kernel_rfl, by kernel_rfl, by decide +kernel, by kernel_rfl, by decide +kernel, by decide +kernel⟩
  code := code_ok k9
  bind := fun _ _ _ _ _ _ us hl => match us, hl with | [_, _], _ => rfl
theorem k10 : ((comp G 120).Ss (cOf d10) d10.body).map (fun z => z.1) = some c_lot_number := by kernel_rfl
theorem o10 : DfOk G d10 ⟨1, 2, c_lot_number⟩ where
  np := rfl
  nl := rfl
  sc := ⟨by kernel_rfl, by kernel_rfl, by kernel_rfl, by decide +kernel, by kernel_rfl, by decide +kernel, by decide +kernel⟩
  code := code_ok k10
  bind := fun _ _ _ _ _ _ us hl => match us, hl with | [_], _ => rfl
theorem k11 : ((comp G 120).Ss (cOf d11) d11.body).map (fun z => z.1) = some c_numbered_lot := by kernel_rfl
theorem o11 : DfOk G d11 ⟨1, 2, c_numbered_lot⟩ where
  np := rfl
  nl := rfl
  sc := ⟨by kernel_rfl, by kernel_rfl, by kernel_rfl, by decide +kernel, by kernel_rfl, by decide +kernel, by decide +kernel⟩
  code := code_ok k11
  bind := fun _ _ _ _ _ _ us hl => match us, hl with | [_], _ => rfl
theorem k12 : ((comp G 120).Ss (cOf d12) d12.body).map (fun z => z.1) = some c_merged_marks := by kernel_rfl
theorem o12 : DfOk G d12 ⟨3, 4, c_merged_marks⟩ where
  np := rfl
  nl := rfl
  sc := ⟨by kernel_rfl, by kernel_rfl, by kernel_rfl, by decide +kernel, by kernel_rfl, by decide +kernel, by decide +kernel⟩
  code := code_ok k12
  bind := fun _ _ _ _ _ _ us hl => match us, hl with | [_, _, _], _ => rfl
theorem k13 : ((comp G 120).Ss (cOf d13) d13.body).map (fun z => z.1) = some c_is_forest := by kernel_rfl
theorem o13 : DfOk G d13 ⟨2, 5, c_is_forest⟩ where
  np := rfl
  nl := rfl
  sc := ⟨by kernel_rfl, by kernel_rfl, by kernel_rfl, by decide +kernel, by kernel_rfl, by decide +kernel, by decide +kernel⟩
  code := code_ok k13
  bind := fun _ _ _ _ _ _ us hl => match us, hl with | [_, _], _ => rfl
theorem k14 : ((comp G 120).Ss (cOf d14) d14.body).map (fun z => z.1) = some c_first_place := by kernel_rfl
theorem o14 : DfOk G d14 ⟨1, 3, c_first_place⟩ where
  np := rfl
  nl := rfl
  sc := ⟨by kernel_rfl, by kernel_rfl, by kernel_rfl, by decide +kernel, by kernel_rfl, by decide +kernel, by decide +kernel⟩
  code := code_ok k14
  bind := fun _ _ _ _ _ _ us hl => match us, hl with | [_], _ => rfl
theorem k15 : ((comp G 120).Ss (cOf d15) d15.body).map (fun z => z.1) = some c_cleared := by kernel_rfl
theorem o15 : DfOk G d15 ⟨4, 7, c_cleared⟩ where
  np := rfl
  nl := rfl
  sc := ⟨by kernel_rfl, by kernel_rfl, by kernel_rfl, by decide +kernel, by kernel_rfl, by decide +kernel, by decide +kernel⟩
  code := code_ok k15
  bind := fun _ _ _ _ _ _ us hl => match us, hl with | [_, _, _, _], _ => rfl
theorem k16 : ((comp G 120).Ss (cOf d16) d16.body).map (fun z => z.1) = some c_reduced := by kernel_rfl
theorem o16 : DfOk G d16 ⟨3, 5, c_reduced⟩ where
  np := rfl
  nl := rfl
  sc := ⟨by kernel_rfl, by kernel_rfl, by kernel_rfl, by decide +kernel, by kernel_rfl, by decide +kernel, by decide +kernel⟩
  code := code_ok k16
  bind := fun _ _ _ _ _ _ us hl => match us, hl with | [_, _, _], _ => rfl
theorem k17 : ((comp G 120).Ss (cOf d17) d17.body).map (fun z => z.1) = some c_turned_over := by kernel_rfl
theorem o17 : DfOk G d17 ⟨2, 3, c_turned_over⟩ where
  np := rfl
  nl := rfl
  sc := ⟨by kernel_rfl, by kernel_rfl, by kernel_rfl, by decide +kernel, by kernel_rfl, by decide +kernel, by decide +kernel⟩
  code := code_ok k17
  bind := fun _ _ _ _ _ _ us hl => match us, hl with | [_, _], _ => rfl
theorem k18 : ((comp G 120).Ss (cOf d18) d18.body).map (fun z => z.1) = some c_scaled := by kernel_rfl
theorem o18 : DfOk G d18 ⟨3, 5, c_scaled⟩ where
  np := rfl
  nl := rfl
  sc := ⟨by kernel_rfl, by kernel_rfl, by kernel_rfl, by decide +kernel, by kernel_rfl, by decide +kernel, by decide +kernel⟩
  code := code_ok k18
  bind := fun _ _ _ _ _ _ us hl => match us, hl with | [_, _, _], _ => rfl
theorem k19 : ((comp G 120).Ss (cOf d19) d19.body).map (fun z => z.1) = some c_are_free := by kernel_rfl
theorem o19 : DfOk G d19 ⟨2, 6, c_are_free⟩ where
  np := rfl
  nl := rfl
  sc := ⟨by kernel_rfl, by kernel_rfl, by kernel_rfl, by decide +kernel, by kernel_rfl, by decide +kernel, by decide +kernel⟩
  code := code_ok k19
  bind := fun _ _ _ _ _ _ us hl => match us, hl with | [_, _], _ => rfl
theorem k20 : ((comp G 120).Ss (cOf d20) d20.body).map (fun z => z.1) = some c_given_more := by kernel_rfl
theorem o20 : DfOk G d20 ⟨4, 6, c_given_more⟩ where
  np := rfl
  nl := rfl
  sc := ⟨by kernel_rfl, by kernel_rfl, by kernel_rfl, by decide +kernel, by kernel_rfl, by decide +kernel, by decide +kernel⟩
  code := code_ok k20
  bind := fun _ _ _ _ _ _ us hl => match us, hl with | [_, _, _, _], _ => rfl
theorem k21 : ((comp G 120).Ss (cOf d21) d21.body).map (fun z => z.1) = some c_matched := by kernel_rfl
theorem o21 : DfOk G d21 ⟨2, 4, c_matched⟩ where
  np := rfl
  nl := rfl
  sc := ⟨by kernel_rfl, by kernel_rfl, by kernel_rfl, by decide +kernel, by kernel_rfl, by decide +kernel, by decide +kernel⟩
  code := code_ok k21
  bind := fun _ _ _ _ _ _ us hl => match us, hl with | [_, _], _ => rfl
theorem k22 : ((comp G 120).Ss (cOf d22) d22.body).map (fun z => z.1) = some c_things_of := by kernel_rfl
theorem o22 : DfOk G d22 ⟨1, 2, c_things_of⟩ where
  np := rfl
  nl := rfl
  sc := ⟨by kernel_rfl, by kernel_rfl, by kernel_rfl, by decide +kernel, by kernel_rfl, by decide +kernel, by decide +kernel⟩
  code := code_ok k22
  bind := fun _ _ _ _ _ _ us hl => match us, hl with | [_], _ => rfl
theorem k23 : ((comp G 120).Ss (cOf d23) d23.body).map (fun z => z.1) = some c_others_of := by kernel_rfl
theorem o23 : DfOk G d23 ⟨2, 3, c_others_of⟩ where
  np := rfl
  nl := rfl
  sc := ⟨by kernel_rfl, by kernel_rfl, by kernel_rfl, by decide +kernel, by kernel_rfl, by decide +kernel, by decide +kernel⟩
  code := code_ok k23
  bind := fun _ _ _ _ _ _ us hl => match us, hl with | [_, _], _ => rfl
theorem k24 : ((comp G 120).Ss (cOf d24) d24.body).map (fun z => z.1) = some c_with_thing := by kernel_rfl
theorem o24 : DfOk G d24 ⟨2, 2, c_with_thing⟩ where
  np := rfl
  nl := rfl
  sc := ⟨by kernel_rfl, by kernel_rfl, by kernel_rfl, by decide +kernel, by kernel_rfl, by decide +kernel, by decide +kernel⟩
  code := code_ok k24
  bind := fun _ _ _ _ _ _ us hl => match us, hl with | [_, _], _ => rfl
theorem k25 : ((comp G 120).Ss (cOf d25) d25.body).map (fun z => z.1) = some c_without_thing := by kernel_rfl
theorem o25 : DfOk G d25 ⟨2, 3, c_without_thing⟩ where
  np := rfl
  nl := rfl
  sc := ⟨by kernel_rfl, by kernel_rfl, by kernel_rfl, by decide +kernel, by kernel_rfl, by decide +kernel, by decide +kernel⟩
  code := code_ok k25
  bind := fun _ _ _ _ _ _ us hl => match us, hl with | [_, _], _ => rfl
theorem k26 : ((comp G 120).Ss (cOf d26) d26.body).map (fun z => z.1) = some c_in_the_way := by kernel_rfl
theorem o26 : DfOk G d26 ⟨4, 5, c_in_the_way⟩ where
  np := rfl
  nl := rfl
  sc := ⟨by kernel_rfl, by kernel_rfl, by kernel_rfl, by decide +kernel, by kernel_rfl, by decide +kernel, by decide +kernel⟩
  code := code_ok k26
  bind := fun _ _ _ _ _ _ us hl => match us, hl with | [_, _, _, _], _ => rfl
theorem k27 : ((comp G 120).Ss (cOf d27) d27.body).map (fun z => z.1) = some c_lacking_lots := by kernel_rfl
theorem o27 : DfOk G d27 ⟨2, 4, c_lacking_lots⟩ where
  np := rfl
  nl := rfl
  sc := ⟨by kernel_rfl, by kernel_rfl, by kernel_rfl, by decide +kernel, by kernel_rfl, by decide +kernel, by decide +kernel⟩
  code := code_ok k27
  bind := fun _ _ _ _ _ _ us hl => match us, hl with | [_, _], _ => rfl
theorem k28 : ((comp G 120).Ss (cOf d28) d28.body).map (fun z => z.1) = some c_way_out := by kernel_rfl
theorem o28 : DfOk G d28 ⟨4, 11, c_way_out⟩ where
  np := rfl
  nl := rfl
  sc := ⟨by kernel_rfl, by kernel_rfl, by kernel_rfl, by decide +kernel, by kernel_rfl, by decide +kernel, by decide +kernel⟩
  code := code_ok k28
  bind := fun _ _ _ _ _ _ us hl => match us, hl with | [_, _, _, _], _ => rfl
theorem k29 : ((comp G 120).Ss (cOf d29) d29.body).map (fun z => z.1) = some c_changed_lots := by kernel_rfl
theorem o29 : DfOk G d29 ⟨3, 8, c_changed_lots⟩ where
  np := rfl
  nl := rfl
  sc := ⟨by kernel_rfl, by kernel_rfl, by kernel_rfl, by decide +kernel, by kernel_rfl, by decide +kernel, by decide +kernel⟩
  code := code_ok k29
  bind := fun _ _ _ _ _ _ us hl => match us, hl with | [_, _, _], _ => rfl
theorem k30 : ((comp G 120).Ss (cOf d30) d30.body).map (fun z => z.1) = some c_parted := by kernel_rfl
theorem o30 : DfOk G d30 ⟨3, 8, c_parted⟩ where
  np := rfl
  nl := rfl
  sc := ⟨by kernel_rfl, by kernel_rfl, by kernel_rfl, by decide +kernel, by kernel_rfl, by decide +kernel, by decide +kernel⟩
  code := code_ok k30
  bind := fun _ _ _ _ _ _ us hl => match us, hl with | [_, _, _], _ => rfl
theorem k31 : ((comp G 120).Ss (cOf d31) d31.body).map (fun z => z.1) = some c_keeps_quotas := by kernel_rfl
theorem o31 : DfOk G d31 ⟨2, 4, c_keeps_quotas⟩ where
  np := rfl
  nl := rfl
  sc := ⟨by kernel_rfl, by kernel_rfl, by kernel_rfl, by decide +kernel, by kernel_rfl, by decide +kernel, by decide +kernel⟩
  code := code_ok k31
  bind := fun _ _ _ _ _ _ us hl => match us, hl with | [_, _], _ => rfl
theorem k32 : ((comp G 120).Ss (cOf d32) d32.body).map (fun z => z.1) = some c_is_plain_watchable := by kernel_rfl
theorem o32 : DfOk G d32 ⟨2, 3, c_is_plain_watchable⟩ where
  np := rfl
  nl := rfl
  sc := ⟨by kernel_rfl, by kernel_rfl, by kernel_rfl, by decide +kernel, by kernel_rfl, by decide +kernel, by decide +kernel⟩
  code := code_ok k32
  bind := fun _ _ _ _ _ _ us hl => match us, hl with | [_, _], _ => rfl
theorem k33 : ((comp G 120).Ss (cOf d33) d33.body).map (fun z => z.1) = some c_led_lot := by kernel_rfl
theorem o33 : DfOk G d33 ⟨2, 4, c_led_lot⟩ where
  np := rfl
  nl := rfl
  sc := ⟨by kernel_rfl, by kernel_rfl, by kernel_rfl, by decide +kernel, by kernel_rfl, by decide +kernel, by decide +kernel⟩
  code := code_ok k33
  bind := fun _ _ _ _ _ _ us hl => match us, hl with | [_, _], _ => rfl
theorem k34 : ((comp G 120).Ss (cOf d34) d34.body).map (fun z => z.1) = some c_beside_lots := by kernel_rfl
theorem o34 : DfOk G d34 ⟨2, 6, c_beside_lots⟩ where
  np := rfl
  nl := rfl
  sc := ⟨by kernel_rfl, by kernel_rfl, by kernel_rfl, by decide +kernel, by kernel_rfl, by decide +kernel, by decide +kernel⟩
  code := code_ok k34
  bind := fun _ _ _ _ _ _ us hl => match us, hl with | [_, _], _ => rfl
theorem k35 : ((comp G 120).Ss (cOf d35) d35.body).map (fun z => z.1) = some c_holds := by kernel_rfl
theorem o35 : DfOk G d35 ⟨2, 5, c_holds⟩ where
  np := rfl
  nl := rfl
  sc := ⟨by kernel_rfl, by kernel_rfl, by kernel_rfl, by decide +kernel, by kernel_rfl, by decide +kernel, by decide +kernel⟩
  code := code_ok k35
  bind := fun _ _ _ _ _ _ us hl => match us, hl with | [_, _], _ => rfl
theorem k36 : ((comp G 120).Ss (cOf d36) d36.body).map (fun z => z.1) = some c_is_watchable := by kernel_rfl
theorem o36 : DfOk G d36 ⟨2, 2, c_is_watchable⟩ where
  np := rfl
  nl := rfl
  sc := ⟨by kernel_rfl, by kernel_rfl, by kernel_rfl, by decide +kernel, by kernel_rfl, by decide +kernel, by decide +kernel⟩
  code := code_ok k36
  bind := fun _ _ _ _ _ _ us hl => match us, hl with | [_, _], _ => rfl
theorem k37 : ((comp G 120).Ss (cOf d37) d37.body).map (fun z => z.1) = some c_law_well := by kernel_rfl
theorem o37 : DfOk G d37 ⟨1, 5, c_law_well⟩ where
  np := rfl
  nl := rfl
  sc := ⟨by kernel_rfl, by kernel_rfl, by kernel_rfl, by decide +kernel, by kernel_rfl, by decide +kernel, by decide +kernel⟩
  code := code_ok k37
  bind := fun _ _ _ _ _ _ us hl => match us, hl with | [_], _ => rfl
theorem k38 : ((comp G 120).Ss (cOf d38) d38.body).map (fun z => z.1) = some c_law_dip := by kernel_rfl
theorem o38 : DfOk G d38 ⟨2, 3, c_law_dip⟩ where
  np := rfl
  nl := rfl
  sc := ⟨by kernel_rfl, by kernel_rfl, by kernel_rfl, by decide +kernel, by kernel_rfl, by decide +kernel, by decide +kernel⟩
  code := code_ok k38
  bind := fun _ _ _ _ _ _ us hl => match us, hl with | [_, _], _ => rfl
theorem k39 : ((comp G 120).Ss (cOf d39) d39.body).map (fun z => z.1) = some c_law_same := by kernel_rfl
theorem o39 : DfOk G d39 ⟨2, 6, c_law_same⟩ where
  np := rfl
  nl := rfl
  sc := ⟨by kernel_rfl, by kernel_rfl, by kernel_rfl, by decide +kernel, by kernel_rfl, by decide +kernel, by decide +kernel⟩
  code := code_ok k39
  bind := fun _ _ _ _ _ _ us hl => match us, hl with | [_, _], _ => rfl
theorem k40 : ((comp G 120).Ss (cOf d40) d40.body).map (fun z => z.1) = some c_law_lot := by kernel_rfl
theorem o40 : DfOk G d40 ⟨2, 4, c_law_lot⟩ where
  np := rfl
  nl := rfl
  sc := ⟨by kernel_rfl, by kernel_rfl, by kernel_rfl, by decide +kernel, by kernel_rfl, by decide +kernel, by decide +kernel⟩
  code := code_ok k40
  bind := fun _ _ _ _ _ _ us hl => match us, hl with | [_, _], _ => rfl
theorem k41 : ((comp G 120).Ss (cOf d41) d41.body).map (fun z => z.1) = some c_law_numbers := by kernel_rfl
theorem o41 : DfOk G d41 ⟨1, 6, c_law_numbers⟩ where
  np := rfl
  nl := rfl
  sc := ⟨by kernel_rfl, by kernel_rfl, by kernel_rfl, by decide +kernel, by kernel_rfl, by decide +kernel, by decide +kernel⟩
  code := code_ok k41
  bind := fun _ _ _ _ _ _ us hl => match us, hl with | [_], _ => rfl
theorem k42 : ((comp G 120).Ss (cOf d42) d42.body).map (fun z => z.1) = some c_law_any := by kernel_rfl
theorem o42 : DfOk G d42 ⟨1, 6, c_law_any⟩ where
  np := rfl
  nl := rfl
  sc := ⟨by kernel_rfl, by kernel_rfl, by kernel_rfl, by decide +kernel, by kernel_rfl, by decide +kernel, by decide +kernel⟩
  code := code_ok k42
  bind := fun _ _ _ _ _ _ us hl => match us, hl with | [_], _ => rfl
theorem k43 : ((comp G 120).Ss (cOf d43) d43.body).map (fun z => z.1) = some c_law_rooms := by kernel_rfl
theorem o43 : DfOk G d43 ⟨1, 14, c_law_rooms⟩ where
  np := rfl
  nl := rfl
  sc := ⟨by kernel_rfl, by kernel_rfl, by kernel_rfl, by decide +kernel, by kernel_rfl, by decide +kernel, by decide +kernel⟩
  code := code_ok k43
  bind := fun _ _ _ _ _ _ us hl => match us, hl with | [_], _ => rfl
theorem k44 : ((comp G 120).Ss (cOf d44) d44.body).map (fun z => z.1) = some c_law_webs := by kernel_rfl
theorem o44 : DfOk G d44 ⟨1, 16, c_law_webs⟩ where
  np := rfl
  nl := rfl
  sc := ⟨by kernel_rfl, by kernel_rfl, by kernel_rfl, by decide +kernel, by kernel_rfl, by decide +kernel, by decide +kernel⟩
  code := code_ok k44
  bind := fun _ _ _ _ _ _ us hl => match us, hl with | [_], _ => rfl
theorem k45 : ((comp G 120).Ss (cOf d45) d45.body).map (fun z => z.1) = some c_law := by kernel_rfl
theorem o45 : DfOk G d45 ⟨1, 3, c_law⟩ where
  np := rfl
  nl := rfl
  sc := ⟨by kernel_rfl, by kernel_rfl, by kernel_rfl, by decide +kernel, by kernel_rfl, by decide +kernel, by decide +kernel⟩
  code := code_ok k45
  bind := fun _ _ _ _ _ _ us hl => match us, hl with | [_], _ => rfl
theorem u0 {n : Nat} {ex : XP} {a0 : D} {M : Mem} {P : Po} (h : c_free_rule ⟨sem T n, fun _ => ex⟩ ⟨fun _ M' => P .non M', P, fun _ _ => False, fun _ _ => False⟩ [some a0] M) : sem T (n + 1) 0 ex [a0] M P := ⟨rfl, h⟩
theorem u1 {n : Nat} {ex : XP} {a0 a1 : D} {M : Mem} {P : Po} (h : c_any_rule ⟨sem T n, fun _ => ex⟩ ⟨fun _ M' => P .non M', P, fun _ _ => False, fun _ _ => False⟩ [some a0, some a1] M) : sem T (n + 1) 1 ex [a0, a1] M P := ⟨rfl, h⟩
theorem u2 {n : Nat} {ex : XP} {a0 a1 : D} {M : Mem} {P : Po} (h : c_rooms_rule ⟨sem T n, fun _ => ex⟩ ⟨fun _ M' => P .non M', P, fun _ _ => False, fun _ _ => False⟩ [some a0, some a1, none, none, none] M) : sem T (n + 1) 2 ex [a0, a1] M P := ⟨rfl, h⟩
theorem u3 {n : Nat} {ex : XP} {a0 : D} {M : Mem} {P : Po} (h : c_ring_rule ⟨sem T n, fun _ => ex⟩ ⟨fun _ M' => P .non M', P, fun _ _ => False, fun _ _ => False⟩ [some a0, none, none] M) : sem T (n + 1) 3 ex [a0] M P := ⟨rfl, h⟩
theorem u4 {n : Nat} {ex : XP} {a0 : D} {M : Mem} {P : Po} (h : c_all_pairs_rule ⟨sem T n, fun _ => ex⟩ ⟨fun _ M' => P .non M', P, fun _ _ => False, fun _ _ => False⟩ [some a0, none] M) : sem T (n + 1) 4 ex [a0] M P := ⟨rfl, h⟩
theorem u5 {n : Nat} {ex : XP} {a0 : D} {M : Mem} {P : Po} (h : c_is_integer ⟨sem T n, fun _ => ex⟩ ⟨fun _ M' => P .non M', P, fun _ _ => False, fun _ _ => False⟩ [some a0] M) : sem T (n + 1) 5 ex [a0] M P := ⟨rfl, h⟩
theorem u6 {n : Nat} {ex : XP} {a0 a1 a2 : D} {M : Mem} {P : Po} (h : c_integer_within ⟨sem T n, fun _ => ex⟩ ⟨fun _ M' => P .non M', P, fun _ _ => False, fun _ _ => False⟩ [some a0, some a1, some a2] M) : sem T (n + 1) 6 ex [a0, a1, a2] M P := ⟨rfl, h⟩
theorem u7 {n : Nat} {ex : XP} {a0 a1 : D} {M : Mem} {P : Po} (h : c_lot_fault ⟨sem T n, fun _ => ex⟩ ⟨fun _ M' => P .non M', P, fun _ _ => False, fun _ _ => False⟩ [some a0, some a1, none, none, none] M) : sem T (n + 1) 7 ex [a0, a1] M P := ⟨rfl, h⟩
theorem u8 {n : Nat} {ex : XP} {a0 a1 : D} {M : Mem} {P : Po} (h : c_is_lot ⟨sem T n, fun _ => ex⟩ ⟨fun _ M' => P .non M', P, fun _ _ => False, fun _ _ => False⟩ [some a0, some a1] M) : sem T (n + 1) 8 ex [a0, a1] M P := ⟨rfl, h⟩
theorem u9 {n : Nat} {ex : XP} {a0 a1 : D} {M : Mem} {P : Po} (h : c_common_of ⟨sem T n, fun _ => ex⟩ ⟨fun _ M' => P .non M', P, fun _ _ => False, fun _ _ => False⟩ [some a0, some a1, none] M) : sem T (n + 1) 9 ex [a0, a1] M P := ⟨rfl, h⟩
theorem u10 {n : Nat} {ex : XP} {a0 : D} {M : Mem} {P : Po} (h : c_lot_number ⟨sem T n, fun _ => ex⟩ ⟨fun _ M' => P .non M', P, fun _ _ => False, fun _ _ => False⟩ [some a0, none] M) : sem T (n + 1) 10 ex [a0] M P := ⟨rfl, h⟩
theorem u11 {n : Nat} {ex : XP} {a0 : D} {M : Mem} {P : Po} (h : c_numbered_lot ⟨sem T n, fun _ => ex⟩ ⟨fun _ M' => P .non M', P, fun _ _ => False, fun _ _ => False⟩ [some a0, none] M) : sem T (n + 1) 11 ex [a0] M P := ⟨rfl, h⟩
theorem u12 {n : Nat} {ex : XP} {a0 a1 a2 : D} {M : Mem} {P : Po} (h : c_merged_marks ⟨sem T n, fun _ => ex⟩ ⟨fun _ M' => P .non M', P, fun _ _ => False, fun _ _ => False⟩ [some a0, some a1, some a2, none] M) : sem T (n + 1) 12 ex [a0, a1, a2] M P := ⟨rfl, h⟩
theorem u13 {n : Nat} {ex : XP} {a0 a1 : D} {M : Mem} {P : Po} (h : c_is_forest ⟨sem T n, fun _ => ex⟩ ⟨fun _ M' => P .non M', P, fun _ _ => False, fun _ _ => False⟩ [some a0, some a1, none, none, none] M) : sem T (n + 1) 13 ex [a0, a1] M P := ⟨rfl, h⟩
theorem u14 {n : Nat} {ex : XP} {a0 : D} {M : Mem} {P : Po} (h : c_first_place ⟨sem T n, fun _ => ex⟩ ⟨fun _ M' => P .non M', P, fun _ _ => False, fun _ _ => False⟩ [some a0, none, none] M) : sem T (n + 1) 14 ex [a0] M P := ⟨rfl, h⟩
theorem u15 {n : Nat} {ex : XP} {a0 a1 a2 a3 : D} {M : Mem} {P : Po} (h : c_cleared ⟨sem T n, fun _ => ex⟩ ⟨fun _ M' => P .non M', P, fun _ _ => False, fun _ _ => False⟩ [some a0, some a1, some a2, some a3, none, none, none] M) : sem T (n + 1) 15 ex [a0, a1, a2, a3] M P := ⟨rfl, h⟩
theorem u16 {n : Nat} {ex : XP} {a0 a1 a2 : D} {M : Mem} {P : Po} (h : c_reduced ⟨sem T n, fun _ => ex⟩ ⟨fun _ M' => P .non M', P, fun _ _ => False, fun _ _ => False⟩ [some a0, some a1, some a2, none, none] M) : sem T (n + 1) 16 ex [a0, a1, a2] M P := ⟨rfl, h⟩
theorem u17 {n : Nat} {ex : XP} {a0 a1 : D} {M : Mem} {P : Po} (h : c_turned_over ⟨sem T n, fun _ => ex⟩ ⟨fun _ M' => P .non M', P, fun _ _ => False, fun _ _ => False⟩ [some a0, some a1, none] M) : sem T (n + 1) 17 ex [a0, a1] M P := ⟨rfl, h⟩
theorem u18 {n : Nat} {ex : XP} {a0 a1 a2 : D} {M : Mem} {P : Po} (h : c_scaled ⟨sem T n, fun _ => ex⟩ ⟨fun _ M' => P .non M', P, fun _ _ => False, fun _ _ => False⟩ [some a0, some a1, some a2, none, none] M) : sem T (n + 1) 18 ex [a0, a1, a2] M P := ⟨rfl, h⟩
theorem u19 {n : Nat} {ex : XP} {a0 a1 : D} {M : Mem} {P : Po} (h : c_are_free ⟨sem T n, fun _ => ex⟩ ⟨fun _ M' => P .non M', P, fun _ _ => False, fun _ _ => False⟩ [some a0, some a1, none, none, none, none] M) : sem T (n + 1) 19 ex [a0, a1] M P := ⟨rfl, h⟩
theorem u20 {n : Nat} {ex : XP} {a0 a1 a2 a3 : D} {M : Mem} {P : Po} (h : c_given_more ⟨sem T n, fun _ => ex⟩ ⟨fun _ M' => P .non M', P, fun _ _ => False, fun _ _ => False⟩ [some a0, some a1, some a2, some a3, none, none] M) : sem T (n + 1) 20 ex [a0, a1, a2, a3] M P := ⟨rfl, h⟩
theorem u21 {n : Nat} {ex : XP} {a0 a1 : D} {M : Mem} {P : Po} (h : c_matched ⟨sem T n, fun _ => ex⟩ ⟨fun _ M' => P .non M', P, fun _ _ => False, fun _ _ => False⟩ [some a0, some a1, none, none] M) : sem T (n + 1) 21 ex [a0, a1] M P := ⟨rfl, h⟩
theorem u22 {n : Nat} {ex : XP} {a0 : D} {M : Mem} {P : Po} (h : c_things_of ⟨sem T n, fun _ => ex⟩ ⟨fun _ M' => P .non M', P, fun _ _ => False, fun _ _ => False⟩ [some a0, none] M) : sem T (n + 1) 22 ex [a0] M P := ⟨rfl, h⟩
theorem u23 {n : Nat} {ex : XP} {a0 a1 : D} {M : Mem} {P : Po} (h : c_others_of ⟨sem T n, fun _ => ex⟩ ⟨fun _ M' => P .non M', P, fun _ _ => False, fun _ _ => False⟩ [some a0, some a1, none] M) : sem T (n + 1) 23 ex [a0, a1] M P := ⟨rfl, h⟩
theorem u24 {n : Nat} {ex : XP} {a0 a1 : D} {M : Mem} {P : Po} (h : c_with_thing ⟨sem T n, fun _ => ex⟩ ⟨fun _ M' => P .non M', P, fun _ _ => False, fun _ _ => False⟩ [some a0, some a1] M) : sem T (n + 1) 24 ex [a0, a1] M P := ⟨rfl, h⟩
theorem u25 {n : Nat} {ex : XP} {a0 a1 : D} {M : Mem} {P : Po} (h : c_without_thing ⟨sem T n, fun _ => ex⟩ ⟨fun _ M' => P .non M', P, fun _ _ => False, fun _ _ => False⟩ [some a0, some a1, none] M) : sem T (n + 1) 25 ex [a0, a1] M P := ⟨rfl, h⟩
theorem u26 {n : Nat} {ex : XP} {a0 a1 a2 a3 : D} {M : Mem} {P : Po} (h : c_in_the_way ⟨sem T n, fun _ => ex⟩ ⟨fun _ M' => P .non M', P, fun _ _ => False, fun _ _ => False⟩ [some a0, some a1, some a2, some a3, none] M) : sem T (n + 1) 26 ex [a0, a1, a2, a3] M P := ⟨rfl, h⟩
theorem u27 {n : Nat} {ex : XP} {a0 a1 : D} {M : Mem} {P : Po} (h : c_lacking_lots ⟨sem T n, fun _ => ex⟩ ⟨fun _ M' => P .non M', P, fun _ _ => False, fun _ _ => False⟩ [some a0, some a1, none, none] M) : sem T (n + 1) 27 ex [a0, a1] M P := ⟨rfl, h⟩
theorem u28 {n : Nat} {ex : XP} {a0 a1 a2 a3 : D} {M : Mem} {P : Po} (h : c_way_out ⟨sem T n, fun _ => ex⟩ ⟨fun _ M' => P .non M', P, fun _ _ => False, fun _ _ => False⟩ [some a0, some a1, some a2, some a3, none, none, none, none, none, none, none] M) : sem T (n + 1) 28 ex [a0, a1, a2, a3] M P := ⟨rfl, h⟩
theorem u29 {n : Nat} {ex : XP} {a0 a1 a2 : D} {M : Mem} {P : Po} (h : c_changed_lots ⟨sem T n, fun _ => ex⟩ ⟨fun _ M' => P .non M', P, fun _ _ => False, fun _ _ => False⟩ [some a0, some a1, some a2, none, none, none, none, none] M) : sem T (n + 1) 29 ex [a0, a1, a2] M P := ⟨rfl, h⟩
theorem u30 {n : Nat} {ex : XP} {a0 a1 a2 : D} {M : Mem} {P : Po} (h : c_parted ⟨sem T n, fun _ => ex⟩ ⟨fun _ M' => P .non M', P, fun _ _ => False, fun _ _ => False⟩ [some a0, some a1, some a2, none, none, none, none, none] M) : sem T (n + 1) 30 ex [a0, a1, a2] M P := ⟨rfl, h⟩
theorem u31 {n : Nat} {ex : XP} {a0 a1 : D} {M : Mem} {P : Po} (h : c_keeps_quotas ⟨sem T n, fun _ => ex⟩ ⟨fun _ M' => P .non M', P, fun _ _ => False, fun _ _ => False⟩ [some a0, some a1, none, none] M) : sem T (n + 1) 31 ex [a0, a1] M P := ⟨rfl, h⟩
theorem u32 {n : Nat} {ex : XP} {a0 a1 : D} {M : Mem} {P : Po} (h : c_is_plain_watchable ⟨sem T n, fun _ => ex⟩ ⟨fun _ M' => P .non M', P, fun _ _ => False, fun _ _ => False⟩ [some a0, some a1, none] M) : sem T (n + 1) 32 ex [a0, a1] M P := ⟨rfl, h⟩
theorem u33 {n : Nat} {ex : XP} {a0 a1 : D} {M : Mem} {P : Po} (h : c_led_lot ⟨sem T n, fun _ => ex⟩ ⟨fun _ M' => P .non M', P, fun _ _ => False, fun _ _ => False⟩ [some a0, some a1, none, none] M) : sem T (n + 1) 33 ex [a0, a1] M P := ⟨rfl, h⟩
theorem u34 {n : Nat} {ex : XP} {a0 a1 : D} {M : Mem} {P : Po} (h : c_beside_lots ⟨sem T n, fun _ => ex⟩ ⟨fun _ M' => P .non M', P, fun _ _ => False, fun _ _ => False⟩ [some a0, some a1, none, none, none, none] M) : sem T (n + 1) 34 ex [a0, a1] M P := ⟨rfl, h⟩
theorem u35 {n : Nat} {ex : XP} {a0 a1 : D} {M : Mem} {P : Po} (h : c_holds ⟨sem T n, fun _ => ex⟩ ⟨fun _ M' => P .non M', P, fun _ _ => False, fun _ _ => False⟩ [some a0, some a1, none, none, none] M) : sem T (n + 1) 35 ex [a0, a1] M P := ⟨rfl, h⟩
theorem u36 {n : Nat} {ex : XP} {a0 a1 : D} {M : Mem} {P : Po} (h : c_is_watchable ⟨sem T n, fun _ => ex⟩ ⟨fun _ M' => P .non M', P, fun _ _ => False, fun _ _ => False⟩ [some a0, some a1] M) : sem T (n + 1) 36 ex [a0, a1] M P := ⟨rfl, h⟩
theorem u37 {n : Nat} {ex : XP} {a0 : D} {M : Mem} {P : Po} (h : c_law_well ⟨sem T n, fun _ => ex⟩ ⟨fun _ M' => P .non M', P, fun _ _ => False, fun _ _ => False⟩ [some a0, none, none, none, none] M) : sem T (n + 1) 37 ex [a0] M P := ⟨rfl, h⟩
theorem u38 {n : Nat} {ex : XP} {a0 a1 : D} {M : Mem} {P : Po} (h : c_law_dip ⟨sem T n, fun _ => ex⟩ ⟨fun _ M' => P .non M', P, fun _ _ => False, fun _ _ => False⟩ [some a0, some a1, none] M) : sem T (n + 1) 38 ex [a0, a1] M P := ⟨rfl, h⟩
theorem u39 {n : Nat} {ex : XP} {a0 a1 : D} {M : Mem} {P : Po} (h : c_law_same ⟨sem T n, fun _ => ex⟩ ⟨fun _ M' => P .non M', P, fun _ _ => False, fun _ _ => False⟩ [some a0, some a1, none, none, none, none] M) : sem T (n + 1) 39 ex [a0, a1] M P := ⟨rfl, h⟩
theorem u40 {n : Nat} {ex : XP} {a0 a1 : D} {M : Mem} {P : Po} (h : c_law_lot ⟨sem T n, fun _ => ex⟩ ⟨fun _ M' => P .non M', P, fun _ _ => False, fun _ _ => False⟩ [some a0, some a1, none, none] M) : sem T (n + 1) 40 ex [a0, a1] M P := ⟨rfl, h⟩
theorem u41 {n : Nat} {ex : XP} {a0 : D} {M : Mem} {P : Po} (h : c_law_numbers ⟨sem T n, fun _ => ex⟩ ⟨fun _ M' => P .non M', P, fun _ _ => False, fun _ _ => False⟩ [some a0, none, none, none, none, none] M) : sem T (n + 1) 41 ex [a0] M P := ⟨rfl, h⟩
theorem u42 {n : Nat} {ex : XP} {a0 : D} {M : Mem} {P : Po} (h : c_law_any ⟨sem T n, fun _ => ex⟩ ⟨fun _ M' => P .non M', P, fun _ _ => False, fun _ _ => False⟩ [some a0, none, none, none, none, none] M) : sem T (n + 1) 42 ex [a0] M P := ⟨rfl, h⟩
theorem u43 {n : Nat} {ex : XP} {a0 : D} {M : Mem} {P : Po} (h : c_law_rooms ⟨sem T n, fun _ => ex⟩ ⟨fun _ M' => P .non M', P, fun _ _ => False, fun _ _ => False⟩ [some a0, none, none, none, none, none, none, none, none, none, none, none, none, none] M) : sem T (n + 1) 43 ex [a0] M P := ⟨rfl, h⟩
theorem u44 {n : Nat} {ex : XP} {a0 : D} {M : Mem} {P : Po} (h : c_law_webs ⟨sem T n, fun _ => ex⟩ ⟨fun _ M' => P .non M', P, fun _ _ => False, fun _ _ => False⟩ [some a0, none, none, none, none, none, none, none, none, none, none, none, none, none, none, none] M) : sem T (n + 1) 44 ex [a0] M P := ⟨rfl, h⟩
theorem u45 {n : Nat} {ex : XP} {a0 : D} {M : Mem} {P : Po} (h : c_law ⟨sem T n, fun _ => ex⟩ ⟨fun _ M' => P .non M', P, fun _ _ => False, fun _ _ => False⟩ [some a0, none, none] M) : sem T (n + 1) 45 ex [a0] M P := ⟨rfl, h⟩
theorem tab : TabOk G ds T := ⟨by rfl, fun i d h => by
  match i, h with
  | 0, h => cases h; exact ⟨_, rfl, o0⟩
  | 1, h => cases h; exact ⟨_, rfl, o1⟩
  | 2, h => cases h; exact ⟨_, rfl, o2⟩
  | 3, h => cases h; exact ⟨_, rfl, o3⟩
  | 4, h => cases h; exact ⟨_, rfl, o4⟩
  | 5, h => cases h; exact ⟨_, rfl, o5⟩
  | 6, h => cases h; exact ⟨_, rfl, o6⟩
  | 7, h => cases h; exact ⟨_, rfl, o7⟩
  | 8, h => cases h; exact ⟨_, rfl, o8⟩
  | 9, h => cases h; exact ⟨_, rfl, o9⟩
  | 10, h => cases h; exact ⟨_, rfl, o10⟩
  | 11, h => cases h; exact ⟨_, rfl, o11⟩
  | 12, h => cases h; exact ⟨_, rfl, o12⟩
  | 13, h => cases h; exact ⟨_, rfl, o13⟩
  | 14, h => cases h; exact ⟨_, rfl, o14⟩
  | 15, h => cases h; exact ⟨_, rfl, o15⟩
  | 16, h => cases h; exact ⟨_, rfl, o16⟩
  | 17, h => cases h; exact ⟨_, rfl, o17⟩
  | 18, h => cases h; exact ⟨_, rfl, o18⟩
  | 19, h => cases h; exact ⟨_, rfl, o19⟩
  | 20, h => cases h; exact ⟨_, rfl, o20⟩
  | 21, h => cases h; exact ⟨_, rfl, o21⟩
  | 22, h => cases h; exact ⟨_, rfl, o22⟩
  | 23, h => cases h; exact ⟨_, rfl, o23⟩
  | 24, h => cases h; exact ⟨_, rfl, o24⟩
  | 25, h => cases h; exact ⟨_, rfl, o25⟩
  | 26, h => cases h; exact ⟨_, rfl, o26⟩
  | 27, h => cases h; exact ⟨_, rfl, o27⟩
  | 28, h => cases h; exact ⟨_, rfl, o28⟩
  | 29, h => cases h; exact ⟨_, rfl, o29⟩
  | 30, h => cases h; exact ⟨_, rfl, o30⟩
  | 31, h => cases h; exact ⟨_, rfl, o31⟩
  | 32, h => cases h; exact ⟨_, rfl, o32⟩
  | 33, h => cases h; exact ⟨_, rfl, o33⟩
  | 34, h => cases h; exact ⟨_, rfl, o34⟩
  | 35, h => cases h; exact ⟨_, rfl, o35⟩
  | 36, h => cases h; exact ⟨_, rfl, o36⟩
  | 37, h => cases h; exact ⟨_, rfl, o37⟩
  | 38, h => cases h; exact ⟨_, rfl, o38⟩
  | 39, h => cases h; exact ⟨_, rfl, o39⟩
  | 40, h => cases h; exact ⟨_, rfl, o40⟩
  | 41, h => cases h; exact ⟨_, rfl, o41⟩
  | 42, h => cases h; exact ⟨_, rfl, o42⟩
  | 43, h => cases h; exact ⟨_, rfl, o43⟩
  | 44, h => cases h; exact ⟨_, rfl, o44⟩
  | 45, h => cases h; exact ⟨_, rfl, o45⟩
  | i + 46, h => exact absurd h (by simp [ds])⟩
end DL.Law

namespace DL.Law
open PySem PySem.Spec PyProof.Rows L2
local macro_rules | `(tactic| walk_at "dl_m0") => `(tactic| first | assumption | exact get_new)
local macro_rules | `(tactic| walk_at "dl_m1") => `(tactic| first | assumption | exact get_new | exact get_set_self (by walk_at "dl_m0") | exact get_app (by walk_at "dl_m0") | (rw [get_set_ne (by omega)]; walk_at "dl_m0"))
local macro_rules | `(tactic| walk_at "dl_m2") => `(tactic| first | assumption | exact get_new | exact get_set_self (by walk_at "dl_m1") | exact get_app (by walk_at "dl_m1") | (rw [get_set_ne (by omega)]; walk_at "dl_m1"))
local macro_rules | `(tactic| walk_at "dl_mem") => `(tactic| first | assumption | exact get_new | exact get_set_self (by walk_at "dl_m2") | exact get_app (by walk_at "dl_m2") | (rw [get_set_ne (by omega)]; walk_at "dl_m2"))
local macro_rules | `(tactic| walk_at "dl_mul") => `(tactic| first | exact W.mulR (by omega) | exact W.mulL (by omega) | assumption)
local macro_rules | `(tactic| walk_at "dl_at") => `(tactic| first | exact W.at0 | exact W.at1 | exact W.at2 | exact W.at3 | exact W.at4 | exact W.at5 | assumption | exact W.at_nat (by assumption) | exact W.ix0 | exact W.ix1 | exact W.ix2 | exact W.ix_lt (by omega))
local macro_rules | `(tactic| walk_at "dl_size") => `(tactic| first | assumption | (simp only [W.size_is, List.length_append, List.length_cons, List.length_nil, List.length_map, List.length_set]; omega) | (simp only [W.size_is, List.length_append, List.length_cons, List.length_nil, List.length_map, List.length_set] at *; omega))
local macro_rules | `(tactic| walk_at "dl_kit") => `(tactic| first | exact W.k_NoneType_int | exact W.k_NoneType_bool | exact W.k_NoneType_str | exact W.k_NoneType_tuple | exact W.k_NoneType_list | exact W.k_NoneType_dict | exact W.k_bool_int | exact W.k_bool_bool | exact W.k_bool_str | exact W.k_bool_tuple | exact W.k_bool_list | exact W.k_bool_dict | exact W.k_int_int | exact W.k_int_bool | exact W.k_int_str | exact W.k_int_tuple | exact W.k_int_list | exact W.k_int_dict | exact W.k_str_int | exact W.k_str_bool | exact W.k_str_str | exact W.k_str_tuple | exact W.k_str_list | exact W.k_str_dict | exact W.k_tuple_int | exact W.k_tuple_bool | exact W.k_tuple_str | exact W.k_tuple_tuple | exact W.k_tuple_list | exact W.k_tuple_dict | exact W.k_list_int | exact W.k_list_bool | exact W.k_list_str | exact W.k_list_tuple | exact W.k_list_list | exact W.k_list_dict | exact W.k_dict_int | exact W.k_dict_bool | exact W.k_dict_str | exact W.k_dict_tuple | exact W.k_dict_list | exact W.k_dict_dict)
local macro_rules | `(tactic| walk_at "dl_ev1") => `(tactic| first
  | refine W.var rfl ?_ | refine W.con ?_ | refine W.bin ?_ | refine W.acons ?_ | refine W.anil ?_ | refine W.fn ?_ | refine W.tof ?_ | refine W.bl_ ?_ | refine W.yes ?_ | refine W.no ?_ | refine W.ttru ?_ | refine W.truB ?_
  | refine W.isi ?_ | refine W.ty rfl (by walk_at "dl_kit") ?_ | refine W.asg ?_ | refine W.seq ?_ | refine W.sif ?_ | refine W.drop ?_ | refine W.meth ?_ | refine W.next ?_ | refine W.call ?_ | refine W.add ?_ | refine W.sub ?_ | refine W.int_ ?_
  | (refine' W.lenL ?hm ?_; (case hm => walk_at "dl_mem")) | refine W.lenT ?_ | refine W.mod (by omega) ?_ | refine W.mul (by walk_at "dl_mul") ?_ | refine W.lt ?_ | refine W.le ?_ | refine W.gt ?_ | refine W.ge ?_ | refine W.eq_ ?_ | refine W.ne_ ?_ | refine W.eif ?_ | refine W.tand ?_
  | refine W.tor ?_ | refine W.tnot ?_ | (refine' W.ixL ?hm ?ha ?_; (case hm => walk_at "dl_mem"); (case ha => walk_at "dl_at")) | (refine' W.append ?hm ?hl ?_; (case hm => walk_at "dl_mem"); (case hl => walk_at "dl_size")) | refine W.ret ?_ | refine W.name0 ?_ | refine W.name1 ?_ | refine W.name2 ?_ | refine W.name3 ?_ | refine W.name4 ?_ | refine W.name5 ?_ | refine W.name6 ?_
  | refine W.name7 ?_ | refine W.name8 ?_ | refine W.name9 ?_ | refine W.name10 ?_ | refine W.name11 ?_ | refine W.name12 ?_ | refine W.name13 ?_ | refine W.name14 ?_ | refine W.name15 ?_ | refine W.name ?_ | refine W.aug rfl ?_ | refine W.augS ?_
  | refine W.par ?_ | refine W.pr ?_ | refine W.for_ ?_ | refine W.retN ?_ | refine W.brk ?_ | refine W.cont ?_ | refine W.gsub ?_ | refine W.gtup rfl ?_ | refine W.gcons ?_ | refine W.gnil ?_ | refine W.un ?_ | refine W.enot ?_
  | refine W.eand ?_ | refine W.eor ?_ | refine W.tup ?_ | refine W.lst ?_ | refine W.enew ?_ | refine W.tupL ?_ | refine W.fl ?_ | refine W.comp ?_ | refine W.cut ?_ | refine W.onone ?_ | refine W.osome ?_ | refine W.tyes ?_
  | refine W.chain ?_ | refine W.iseq ?_ | refine W.irng1 ?_ | refine W.ienum ?_ | refine W.izip ?_ | refine W.in_ ?_ | refine W.iadd ?_ | refine W.imul (by walk_at "dl_mul") ?_ | refine W.div (by omega) (by first | assumption | decide) ?_ | refine W.neg ?_ | refine W.ixT (by walk_at "dl_at") ?_ | (refine' W.getL ?hm ?ha ?_; (case hm => walk_at "dl_mem"); (case ha => walk_at "dl_at"))
  | (refine' W.set0 ?hm ?_; (case hm => walk_at "dl_mem")) | (refine' W.set1 ?hm ?_; (case hm => walk_at "dl_mem")) | (refine' W.setL ?hm ?ha ?_; (case hm => walk_at "dl_mem"); (case ha => walk_at "dl_at")) | refine W.intB ?_ | refine W.abs_ ?_ | refine W.max2 ?_ | refine W.min2 ?_ | refine W.gcd_ ?_ | refine W.tupT ?_ | (refine' W.tupL1 ?hm ?_; (case hm => walk_at "dl_mem")) | (refine' W.listL ?hm ?_; (case hm => walk_at "dl_mem")) | refine W.listT ?_
  | refine W.sqT ?_ | refine W.sqK ?_ | refine W.sqR ?_ | (refine' W.sqL ?hm ?_; (case hm => walk_at "dl_mem")) | refine W.neTT ?_ | refine W.neTF ?_ | refine W.neFT ?_ | refine W.neFF ?_ | refine W.eqTT ?_ | refine W.eqTF ?_ | refine W.eqFT ?_ | refine W.eqFF ?_
  | refine W.neB ?_ | refine W.eqB ?_ | refine W.is0I ?_ | refine W.is0T ?_ | refine W.is0S ?_ | refine W.is0B ?_ | refine W.is0R ?_ | refine W.is0N ?_ | refine W.isnt0I ?_ | refine W.isnt0T ?_ | refine W.isnt0S ?_ | refine W.isnt0B ?_
  | refine W.isnt0R ?_ | refine W.isnt0N ?_ | refine W.nyes ?_ | refine W.nno ?_ | (refine' And.intro (W.isL ?hm) ?_; (case hm => walk_at "dl_mem")) | refine And.intro (show _ ≤ sizeLine by walk_at "dl_size") ?_ | (refine' W.pop0 ?hm ?_; (case hm => walk_at "dl_mem")) | (refine' W.extend ?hm ?hn ?hl ?_; (case hm => walk_at "dl_mem"); (case hn => walk_at "dl_mem"); (case hl => walk_at "dl_size")) | (refine' W.addL ?hm ?hn ?hl ?_; (case hm => walk_at "dl_mem"); (case hn => walk_at "dl_mem"); (case hl => walk_at "dl_size")) | refine W.cutR ?_ | refine W.cutT ?_ | (refine' W.cutL ?hm ?_; (case hm => walk_at "dl_mem")) | refine W.truI ?_ | (refine' W.truL ?hm ?_; (case hm => walk_at "dl_mem")))
local macro_rules | `(tactic| walk_at "dl_ev") => `(tactic| with_reducible repeat walk_at "dl_ev1")

/-! ### the numbers' source -/
def Pool (M : Mem) (n d : Nat) : Prop := ∃ (a b : Int) (gs : List Int), M[n]? = some (.lst [.ref d, .int a, .int b]) ∧ M[d]? = some (.lst (gs.map .int)) ∧ n ≠ d ∧ 0 ≤ a ∧ 0 ≤ b ∧ gs.length ≤ 63 ∧ ∀ g ∈ gs, (0 : Int) ≤ g
theorem Pool.keep {M M' : Mem} {n d : Nat} (h : Pool M n d) (e1 : M'[n]? = M[n]?) (e2 : M'[d]? = M[d]?) : Pool M' n d := by
  obtain ⟨a, b, gs, h1, h2, r⟩ := h
  exact ⟨a, b, gs, e1.trans h1, e2.trans h2, r⟩
theorem Pool.apd {M M' : Mem} {n d : Nat} (h : Pool M n d) (a : Apd M M') : Pool M' n d := by
  obtain ⟨x, y, gs, h1, h2, r⟩ := h
  exact ⟨x, y, gs, a.get h1, a.get h2, r⟩
theorem Pool.ltn {M : Mem} {n d : Nat} (h : Pool M n d) : n < M.length := by
  obtain ⟨a, b, gs, h1, _⟩ := h
  exact lt_of_get h1
theorem Pool.ltd {M : Mem} {n d : Nat} (h : Pool M n d) : d < M.length := by
  obtain ⟨a, b, gs, _, h1, _⟩ := h
  exact lt_of_get h1
theorem Pool.set {M : Mem} {n d m : Nat} {c : Cell} (h : Pool M n d) (h1 : m ≠ n) (h2 : m ≠ d) : Pool (M.set m c) n d := h.keep (List.getElem?_set_ne h1) (List.getElem?_set_ne h2)
theorem s_dip {k n d : Nat} {ex : XP} {M : Mem} {m : Int} {P : Po} (hp : Pool M n d) (hm : 1 ≤ m) (hl : m < 2 ^ 64) (go : ∀ (r : Nat) M', (r : Int) < m → K2 n d M M' → Pool M' n d → P (nD r) M') : sem T (k + 1) 38 ex [.ref n, .int m] M P := by
  obtain ⟨a, b, gs, hM, hD, hnd, ha, hb, hg, hgs⟩ := hp
  have szl : sizeLine = 16777216 := by decide
  have hlog := log_smallI (x := m) (by omega) hl
  have fin : ∀ (v : Int) (M' : Mem), 0 ≤ v → v < m → K2 n d M M' → Pool M' n d → P (.int v) M' := fun v M' h0 h1 k p => by
    obtain ⟨r, rfl⟩ := Int.eq_ofNat_of_zero_le h0
    exact go r M' h1 k p
  refine u38 ?_
  unfold c_law_dip
  walk_at "dl_ev"
  refine W.dec (fun h => ?_) (fun h => ?_)
  · rcases List.eq_nil_or_concat gs with e | ⟨gs', g, e⟩
    · subst e
      simp at h
    · rw [List.concat_eq_append] at e
      subst e
      have hD2 : M[d]? = some (.lst (gs'.map .int ++ [.int g])) := by rw [hD]; simp
      have hg2 : gs'.length ≤ 62 := by simp at hg; omega
      have hgs2 : ∀ y ∈ gs', (0 : Int) ≤ y := fun y hy => hgs y (by simp [hy])
      have hg0 : 0 ≤ g := hgs g (by simp)
      have hat : atI ((gs' ++ [g]).map D.int) (-1) = some (.int g) := by
        unfold atI ixN
        simp
        rw [if_pos (by omega)]
        simp only [Option.bind_some]
        rw [show (-1 + ((gs'.length : Int) + 1)).toNat = (gs'.map D.int).length by rw [List.length_map]; omega]
        simp
      walk_at "dl_ev"
      refine W.ixL hD hat ?_
      walk_at "dl_ev"
      have hn3 : (M.set d (.lst (gs'.map .int)))[n]? = some (.lst [.ref d, .int a, .int b]) := by rw [get_set_ne (Ne.symm hnd)]; exact hM
      have hd3 : (M.set d (.lst (gs'.map D.int)))[d]? = some (.lst (gs'.map .int)) := get_set_self hD
      refine W.dec (fun h => ?_) (fun h => ?_)
      · have hsl : (gs'.map D.int).length < sizeLine := by rw [List.length_map]; omega
        unfold c_law_dip_s1
        walk_at "dl_ev"
        refine fin _ _ (Int.emod_nonneg _ (by omega)) (Int.emod_lt_of_pos _ (by omega)) (K2.set2.trans K2.set2) ⟨a, b, gs' ++ [g / m], ?_, ?_, hnd, ha, hb, by simp; omega, fun y hy => ?_⟩
        · rw [get_set_ne (Ne.symm hnd)]; exact hn3
        · rw [get_set_self hd3]; simp
        · rcases List.mem_append.mp hy with z | z
          · exact hgs2 y z
          · have : y = g / m := by simpa using z
            subst this
            exact Int.ediv_nonneg hg0 (by omega)
      · unfold c_law_dip_s1
        walk_at "dl_ev"
        exact fin _ _ (Int.emod_nonneg _ (by omega)) (Int.emod_lt_of_pos _ (by omega)) K2.set2 ⟨a, b, gs', hn3, hd3, hnd, ha, hb, by omega, hgs2⟩
  · unfold c_law_dip_s2
    walk_at "dl_ev"
    have h1 : (M.set n (.lst ([D.ref d, .int a, .int b].set 2 (.int (b + 1)))))[n]? = some (.lst [.ref d, .int a, .int (b + 1)]) := get_set_self hM
    walk_at "dl_ev"
    have h2 := get_set_self (c' := .lst [D.ref d, .int ((a * 41387 + (b + 1) * 2749 + 1) % 4294967291), .int (b + 1)]) h1
    refine fin _ _ (Int.emod_nonneg _ (by omega)) (Int.emod_lt_of_pos _ (by omega)) (K2.set1.trans K2.set1) ⟨_, _, gs, h2, ?_, hnd, Int.emod_nonneg _ (by decide), by omega, hg, hgs⟩
    rw [get_set_ne hnd, get_set_ne hnd]
    exact hD

/-! ### _law_same: of two alike things -/
inductive Val : D → Prop
  | non : Val .non
  | bl (b : Bool) : Val (.bl b)
  | int (i : Int) : Val (.int i)
  | str (z : Str) (h : SeqAt.shaped (.str z) = true) : Val (.str z)
  | tup (xs : List D) (h : ∀ x ∈ xs, Val x) : Val (.tup xs)
mutual
def sz : D → Nat
  | .tup xs => szs xs + 1
  | _ => 1
def szs : List D → Nat
  | [] => 0
  | x :: xs => sz x + szs xs
end
theorem sz_pos (d : D) : 0 < sz d := by cases d <;> simp [sz]
theorem szs_app : ∀ (a b : List D), szs (a ++ b) = szs a + szs b
  | [], b => by simp [szs]
  | x :: a, b => by
    show sz x + szs (a ++ b) = sz x + szs a + szs b
    rw [szs_app a b]
    omega
theorem szs_len : ∀ st : List D, st.length ≤ szs st
  | [] => Nat.zero_le _
  | x :: st => by
    have := szs_len st
    have := sz_pos x
    simp only [szs, List.length_cons]
    omega
def dbl (x : D) : D := .tup [x, x]
theorem set_new {M : Mem} {c c' : Cell} : (M ++ [c]).set M.length c' = M ++ [c'] := by
  rw [List.set_append_right _ _ (Nat.le_refl _)]
  simp
theorem s_same {k : Nat} {ex : XP} {M : Mem} {a : D} {P : Po} (ha : Val a) (hs : sz a ≤ 1000000) (go : ∀ M', Apd M M' → P (.bl true) M') : sem T (k + 1) 39 ex [a, a] M P := by
  refine u39 ?_
  unfold c_law_same
  walk_at "dl_ev"
  have szl : sizeLine = 16777216 := by decide
  refine while_inv (fun n ρ M' => ∃ (st : List D) (o3 o4 o5 : Option D), ρ = [some a, some a, some (.ref M.length), o3, o4, o5] ∧ M' = M ++ [.lst (st.map dbl)] ∧ (∀ p ∈ st, Val p) ∧ n = szs st ∧ n ≤ 1000000) (sz a)
    ⟨[a], none, none, none, rfl, rfl, fun p hp => by simp at hp; subst hp; exact ha, by simp [szs], hs⟩ ?_
  rintro n ρ M' ⟨st, o3, o4, o5, rfl, rfl, hv, rfl, hn⟩ K hK
  unfold c_law_same_w1
  walk_at "dl_ev"
  rcases List.eq_nil_or_concat st with e | ⟨st, x, e⟩
  · subst e
    refine W.dec (fun h => absurd h (by simp)) fun _ => ?_
    unfold c_law_same_s1
    walk_at "dl_ev"
    exact go _ Apd.one
  · rw [List.concat_eq_append] at e
    subst e
    refine W.dec (fun _ => ?_) fun h => absurd (show (0 : Int) < (((st ++ [x]).map dbl).length : Nat) by simp) h
    have vx := hv x (by simp)
    have hv' : ∀ q ∈ st, Val q := fun q hq => hv q (by simp [hq])
    rw [szs_app] at hn hK
    have hsz : szs [x] = sz x := by simp [szs]
    have hlen := szs_len st
    have hM : (M ++ [Cell.lst ((st ++ [x]).map dbl)])[M.length]? = some (.lst (st.map dbl ++ [dbl x])) := by rw [get_new]; simp
    unfold c_law_same_b2
    walk_at "dl_ev"
    rw [set_new]
    unfold dbl
    walk_at "dl_ev"
    have hpos := sz_pos x
    have fin : ∀ (o3 o4 o5 : Option D), K [some a, some a, some (.ref M.length), o3, o4, o5] (M ++ [.lst (st.map dbl)]) := fun o3 o4 o5 => hK (szs st) _ _ (by omega) ⟨st, o3, o4, o5, rfl, rfl, hv', rfl, by omega⟩
    cases vx with
    | non =>
      walk_at "dl_ev"
      exact fin _ _ _
    | bl b =>
      walk_at "dl_ev"
      cases b <;> walk_at "dl_ev" <;> exact fin _ _ _
    | int i =>
      walk_at "dl_ev"
      refine W.dec_not (fun h => absurd rfl h) fun _ => ?_
      walk_at "dl_ev"
      exact fin _ _ _
    | str z hz =>
      walk_at "dl_ev"
      refine neS hz hz ?_
      walk_at "dl_ev"
      refine W.dec_not (fun h => absurd rfl h) fun _ => ?_
      walk_at "dl_ev"
      exact fin _ _ _
    | tup xs hxs =>
      walk_at "dl_ev"
      refine W.dec_not (fun h => absurd rfl h) fun _ => ?_
      have hszx : sz (.tup xs) = szs xs + 1 := rfl
      have hxl := szs_len xs
      walk_at "dl_ev"
      refine ⟨⟨by omega, by omega⟩, ?_⟩
      refine floop_inv (fun zs ρ M' => ∃ (i : Nat) (o5 : Option D), i ≤ xs.length ∧ ρ = [some a, some a, some (.ref M.length), some (.tup xs), some (.tup xs), o5] ∧ zs = rngI i (xs.length - i) ∧ M' = M ++ [.lst ((st ++ xs.take i).map dbl)]) ?_ ?_ _ _ _ ⟨0, o5, Nat.zero_le _, rfl, rfl, by simp [dbl]⟩
      · rintro z zs ρ M' ⟨i, o5, hi, rfl, e, rfl⟩
        obtain ⟨hlt, rfl, rfl⟩ := rng_next e
        refine ⟨True.intro, fun K2 hK2 => ?_⟩
        unfold c_law_same_b1
        have hM2 : (M ++ [Cell.lst ((st ++ xs.take i).map dbl)])[M.length]? = some (.lst ((st ++ xs.take i).map dbl)) := get_new
        have hsl : ((st ++ xs.take i).map dbl).length < sizeLine := by rw [List.length_map, List.length_append, List.length_take]; omega
        have hx : xs[i]? = some xs[i] := List.getElem?_eq_getElem hlt
        walk_at "dl_ev"
        rw [set_new]
        refine hK2 _ _ ⟨i + 1, _, hlt, rfl, rfl, ?_⟩
        rw [List.take_succ_eq_append_getElem hlt, ← List.append_assoc, List.map_append (l₂ := [xs[i]])]
        rfl
      · rintro ρ M' ⟨i, o5, hi, rfl, e, rfl⟩
        have := rng_end hi e
        subst this
        rw [List.take_length]
        refine ⟨True.intro, hK (szs (st ++ xs)) _ _ (by rw [szs_app]; omega) ⟨st ++ xs, _, _, o5, rfl, rfl, fun q hq => ?_, rfl, by rw [szs_app]; omega⟩⟩
        rcases List.mem_append.mp hq with z | z
        · exact hv' q z
        · exact hxs q z

/-! ### the source made; a drawn lot -/
theorem s_well {k : Nat} {ex : XP} {ns : List Int} {P : Po} (hs : ns.length ≤ 63) (go : ∀ n d M', Pool M' n d → P (.ref n) M') : sem T (k + 1) 37 ex [.rol (ns.map .int)] [] P := by
  have szl : sizeLine = 16777216 := by decide
  refine u37 ?_
  unfold c_law_well
  walk_at "dl_ev"
  have ecut : cutD (ns.map D.int) none (some 60) = (ns.take 60).map D.int := by
    rw [show (some (60 : Int)) = some ((60 : Nat) : Int) from rfl, W.cut_to, List.map_take]
  rw [ecut]
  have hs2 : (ns.take 60).length ≤ 60 := by rw [List.length_take]; omega
  generalize ns.take 60 = ms at hs2
  refine floop_inv (fun js ρ M' => ∃ (mx : Int) (o3 o4 : Option D) (gs zs : List Int), ρ = [some (.rol (ns.map .int)), some (.ref 0), some (.int mx), o3, o4] ∧ js = zs.map .int ∧ gs.length + zs.length ≤ 60 ∧ 0 ≤ mx ∧ mx < 4294967291 ∧ (∀ g ∈ gs, (0 : Int) ≤ g) ∧ M'[0]? = some (.lst (gs.map .int)) ∧ M'[1]? = some (.lst (ms.map .int))) ?_ ?_ _ _ _
    ⟨680027, none, none, [], ms, rfl, rfl, by simpa using hs2, by decide, by decide, (fun g h => (by cases h)), rfl, rfl⟩
  · rintro x js ρ M' ⟨mx, o3, o4, gs, zs, rfl, e, hl, hm0, hm1, hg, h1, h2⟩
    cases zs with
    | nil => cases e
    | cons z zs =>
      obtain ⟨e1, e2⟩ := List.cons.inj e
      subst e1 e2
      refine ⟨h2, fun K hK => ?_⟩
      unfold c_law_well_b1
      walk_at "dl_ev"
      refine W.shl ⟨by decide, by decide, by decide⟩ ?_
      obtain ⟨B, hB, hB0⟩ : ∃ B : Int, B = 1 * 2 ^ Int.toNat 1800 ∧ 0 < B := ⟨_, rfl, by rw [Int.one_mul]; exact Int.pow_pos (by decide)⟩
      rw [← hB]
      refine W.mod hB0 ?_
      have hn0 := Int.emod_nonneg (if z < 0 then -z else z) (by omega : B ≠ 0)
      generalize (if z < 0 then -z else z) % B = nb at hn0
      clear hB hB0
      have hm2 := Int.emod_nonneg (mx * 45767 + nb % 2147481961 + 23027) (by omega : (4294967291 : Int) ≠ 0)
      have hm3 := Int.emod_lt_of_pos (mx * 45767 + nb % 2147481961 + 23027) (by omega : (0 : Int) < 4294967291)
      walk_at "dl_ev"
      refine W.pow ⟨by decide, by decide, by decide⟩ ?_
      walk_at "dl_ev"
      refine W.dec (fun h => ?_) (fun h => ?_)
      · have hsl : (gs.map D.int).length < sizeLine := by simp at hl ⊢; omega
        walk_at "dl_ev"
        refine hK _ _ ⟨_, _, _, gs ++ [nb], zs, rfl, rfl, by simp at hl ⊢; omega, hm2, hm3, fun g hgg => ?_, ?_, ?_⟩
        · rcases List.mem_append.mp hgg with q | q
          · exact hg g q
          · have : g = nb := by simpa using q
            omega
        · rw [get_set_self h1]; simp
        · rw [get_set_ne (by simp)]; exact h2
      · walk_at "dl_ev"
        exact hK _ _ ⟨_, _, _, gs, zs, rfl, rfl, by simp at hl ⊢; omega, hm2, hm3, hg, h1, h2⟩
  · rintro ρ M' ⟨mx, o3, o4, gs, zs, rfl, e, hl, hm0, hm1, hg, h1, h2⟩
    refine ⟨h2, ?_⟩
    unfold c_law_well_s1
    walk_at "dl_ev"
    exact go _ 0 _ ⟨mx, 0, gs, get_new, get_app h1, by have := lt_of_get h1; omega, hm0, by decide, by omega, hg⟩
/-- a lot: numbers that ascend, below m -/
def Lot (m : Nat) (l : List Nat) : Prop := l.Pairwise (· < ·) ∧ ∀ x ∈ l, x < m
theorem Lot.filter {m : Nat} {l : List Nat} (h : Lot m l) (p : Nat → Bool) : Lot m (l.filter p) := ⟨h.1.filter _, fun x hx => h.2 x (List.mem_filter.mp hx).1⟩
theorem Lot.range (m : Nat) : Lot m (List.range m) := ⟨List.pairwise_lt_range, fun x hx => List.mem_range.mp hx⟩
theorem Lot.len : ∀ {m : Nat} {l : List Nat}, Lot m l → l.length ≤ m := fun {m l} h => by
  have : ∀ (l : List Nat) (lo : Nat), l.Pairwise (· < ·) → (∀ x ∈ l, lo ≤ x ∧ x < m) → l.length ≤ m - lo := by
    intro l
    induction l with
    | nil => intro lo _ _; exact Nat.zero_le _
    | cons a l ih =>
      intro lo hp hb
      obtain ⟨h1, h2⟩ := List.pairwise_cons.mp hp
      have ha := hb a List.mem_cons_self
      have := ih (a + 1) h2 fun x hx => ⟨h1 x hx, (hb x (List.mem_cons_of_mem _ hx)).2⟩
      rw [List.length_cons]
      omega
  have := this l 0 h.1 fun x hx => ⟨Nat.zero_le _, h.2 x hx⟩
  omega
theorem s_lot {k n d m : Nat} {ex : XP} {M : Mem} {P : Po} (hp : Pool M n d) (hm : m ≤ 1000) (go : ∀ l M', Lot m l → K2 n d M M' → Pool M' n d → P (tN l) M') : sem T (k + 2) 40 ex [.ref n, nD m] M P := by
  have szl : sizeLine = 16777216 := by decide
  refine u40 ?_
  unfold c_law_lot
  walk_at "dl_ev"
  refine s_dip hp (by omega) (by omega) fun r M1 hr k1 p1 => ?_
  obtain ⟨v, hv⟩ : ∃ v : Int, atI [D.int 0, D.int 5, D.int 1, D.int 4, D.int 2, D.int 3] (r : Int) = some (.int v) := by
    have : r = 0 ∨ r = 1 ∨ r = 2 ∨ r = 3 ∨ r = 4 ∨ r = 5 := by omega
    rcases this with e | e | e | e | e | e <;> subst e
    · exact ⟨_, W.at0⟩
    · exact ⟨_, W.at1⟩
    · exact ⟨_, W.at2⟩
    · exact ⟨_, W.at3⟩
    · exact ⟨_, W.at4⟩
    · exact ⟨_, W.at5⟩
  unfold nD
  refine W.ixT hv ?_
  walk_at "dl_ev"
  refine ⟨⟨by omega, by omega⟩, ?_⟩
  refine cloop_inv (fun xs acc M' => ∃ (i : Nat) (l : List Nat), i ≤ m ∧ xs = rngI i (m - i) ∧ acc = l.map nD ∧ Lot i l ∧ K2 n d M M' ∧ Pool M' n d) ?_ ?_ _ _ _ ⟨0, [], Nat.zero_le _, by simp, rfl, ⟨.nil, fun x hx => by cases hx⟩, k1, p1⟩
  · rintro x xs acc M' ⟨i, l, hi, e, rfl, hl, k2, p2⟩
    obtain ⟨hlt, rfl, rfl⟩ := rng_next e
    refine ⟨True.intro, fun K hK => ?_⟩
    unfold c_law_lot_t1
    walk_at "dl_ev"
    refine s_dip p2 (by omega) (by omega) fun r2 M2 hr2 k3 p3 => ?_
    unfold nD
    walk_at "dl_ev"
    refine W.dec (fun h => ?_) fun h => ?_
    · walk_at "dl_ev"
      refine hK _ _ ⟨i + 1, l ++ [i], hlt, rfl, by simp, ⟨?_, ?_⟩, k2.trans k3, p3⟩
      · rw [List.pairwise_append]
        refine ⟨hl.1, by simp, fun a ha b hb => ?_⟩
        have : b = i := by simpa using hb
        have := hl.2 a ha
        omega
      · intro x hx
        rcases List.mem_append.mp hx with z | z
        · have := hl.2 x z
          omega
        · have : x = i := by simpa using z
          omega
    · exact hK _ _ ⟨i + 1, l, hlt, rfl, rfl, ⟨hl.1, fun x hx => by have := hl.2 x hx; omega⟩, k2.trans k3, p3⟩
  · rintro acc M' ⟨i, l, hi, e, rfl, hl, k2, p2⟩
    have := rng_end hi e
    subst this
    refine ⟨True.intro, ?_⟩
    exact go l M' hl k2 p2

/-! ### rules, made -/
def partD (p : List Nat × Nat) : D := .tup [tN p.1, nD p.2]
abbrev quotasD (m : Nat) (ps : List (List Nat × Nat)) : D := .tup [.str "quotas", nD m, .tup (ps.map partD)]
abbrev webD (m places : Nat) (ts : List (Nat × Nat)) : D := .tup [.str "web", nD m, nD places, .tup (ts.map prD)]
def ring (m : Nat) : List (Nat × Nat) := (List.range (m - 1)).map (fun p => (p, p + 1)) ++ [(0, m - 1)]
def rooms (first : Nat) : List Nat → Nat → List (List Nat × Nat)
  | [], _ => []
  | s :: r, q => (List.range' first s, q) :: rooms (first + s) r q
theorem rooms_snoc : ∀ (a : List Nat) (first s q : Nat), rooms first (a ++ [s]) q = rooms first a q ++ [(List.range' (first + a.sum) s, q)]
  | [], first, s, q => by simp [rooms]
  | x :: a, first, s, q => by
    show (List.range' first x, q) :: rooms (first + x) (a ++ [s]) q = _
    rw [rooms_snoc a]
    simp [rooms, Nat.add_assoc]
section
variable {k : Nat} {ex : XP} {M : Mem} {P : Po}
theorem s_free {m : Nat} (go : P (quotasD m []) M) : sem T (k + 1) 0 ex [nD m] M P := by
  refine u0 ?_
  unfold c_free_rule
  walk_at "dl_ev"
  exact go
theorem s_any {m q : Nat} (hm : m ≤ 1000) (go : P (quotasD m [(List.range m, q)]) M) : sem T (k + 1) 1 ex [nD m, nD q] M P := by
  have szl : sizeLine = 16777216 := by decide
  refine u1 ?_
  unfold c_any_rule
  walk_at "dl_ev"
  refine ⟨⟨by omega, by omega, by omega, by omega, by omega⟩, ?_⟩
  walk_at "dl_ev"
  have e : rngI 0 ((m : Int) - 0).toNat = (List.range m).map nD := by rw [show ((m : Int) - 0).toNat = m by omega, rng0]
  rw [e]
  exact go
theorem s_ring {m : Nat} (h1 : 1 ≤ m) (hm : m ≤ 1000) (go : ∀ M', Apd M M' → P (webD m m (ring m)) M') : sem T (k + 1) 3 ex [nD m] M P := by
  have szl : sizeLine = 16777216 := by decide
  refine u3 ?_
  unfold c_ring_rule
  walk_at "dl_ev"
  refine ⟨⟨by omega, by omega⟩, ?_⟩
  rw [show ((m : Int) - 1).toNat = m - 1 by omega, rng0]
  refine cloop_pure (fun _ => true) (fun x => match x with | .int i => .tup [.int i, .int (i + 1)] | _ => .non) True.intro _ _ ?_ ?_
  · intro x hx acc K hK
    obtain ⟨i, _, rfl⟩ := List.mem_map.mp hx
    unfold c_ring_rule_e1
    walk_at "dl_ev"
    exact hK
  · rw [List.filter_eq_self.mpr (fun _ _ => rfl), List.map_map, List.nil_append]
    have e : ((List.range (m - 1)).map ((fun x => match x with | D.int i => D.tup [.int i, .int (i + 1)] | _ => .non) ∘ nD)) = ((List.range (m - 1)).map fun p => (p, p + 1)).map prD := by
      rw [List.map_map]
      refine List.map_congr_left fun i _ => ?_
      show D.tup [.int (i : Int), .int ((i : Int) + 1)] = prD (i, i + 1)
      unfold prD
      simp
    rw [e]
    have hl : (((List.range (m - 1)).map fun p => (p, p + 1)).map prD).length ≤ 1000 := by simp; omega
    generalize hL : ((List.range (m - 1)).map fun p => (p, p + 1)).map prD = L at hl
    walk_at "dl_ev"
    have e2 : L ++ [D.tup [.int 0, .int ((m : Int) - 1)]] = (ring m).map prD := by
      unfold ring
      rw [List.map_append, hL]
      congr 2
      unfold prD
      simp
      omega
    rw [e2]
    exact go _ (Apd.one.trans (Apd.one.trans Apd.one))
theorem s_pairs {m : Nat} {L : List (Nat × Nat)} (hm : m ≤ 1000) (hL : Co.Alls m L) (hl : L.length ≤ 1000) (go : P (webD L.length m L) M) : sem T (k + 1) 4 ex [nD m] M P := by
  have szl : sizeLine = 16777216 := by decide
  refine u4 ?_
  unfold c_all_pairs_rule
  walk_at "dl_ev"
  refine ⟨rfl, ⟨by omega, by omega, by omega, by omega, by omega⟩, L, by simpa using hL, hl, ?_⟩
  walk_at "dl_ev"
  rw [List.length_map]
  exact go
theorem s_rooms {ss : List Nat} {q : Nat} (hs : ss.sum ≤ 1000) (hl : ss.length ≤ 1000) (go : ∀ M', Apd M M' → P (quotasD ss.sum (rooms 0 ss q)) M') : sem T (k + 1) 2 ex [.tup (ss.map nD), nD q] M P := by
  have szl : sizeLine = 16777216 := by decide
  refine u2 ?_
  unfold c_rooms_rule
  walk_at "dl_ev"
  refine floop_inv (fun xs ρ M' => ∃ (a r : List Nat) (o4 : Option D), a ++ r = ss ∧ ρ = [some (.tup (ss.map nD)), some (nD q), some (.ref M.length), some (nD a.sum), o4] ∧ xs = r.map nD ∧ M' = M ++ [.lst ((rooms 0 a q).map partD)]) ?_ ?_ _ _ _ ⟨[], ss, none, rfl, rfl, rfl, rfl⟩
  · rintro x xs ρ M' ⟨a, r, o4, ha, rfl, e, rfl⟩
    cases r with
    | nil => cases e
    | cons s r =>
      obtain ⟨e1, e2⟩ := List.cons.inj e
      subst e1 e2
      have hsum : a.sum + s + r.sum = ss.sum := by rw [← ha]; simp; omega
      have hlen : a.length + 1 + r.length = ss.length := by rw [← ha]; simp; omega
      refine ⟨True.intro, fun K hK => ?_⟩
      have hM : (M ++ [Cell.lst ((rooms 0 a q).map partD)])[M.length]? = some (.lst ((rooms 0 a q).map partD)) := get_new
      have hrl : ∀ (a : List Nat) (f : Nat), (rooms f a q).length = a.length := by
        intro a
        induction a with
        | nil => intro f; rfl
        | cons x a ih => intro f; simp [rooms, ih]
      have hsl : ((rooms 0 a q).map partD).length < sizeLine := by rw [List.length_map, hrl]; omega
      unfold c_rooms_rule_b1
      walk_at "dl_ev"
      refine ⟨⟨by omega, by omega, by omega, by omega, by omega⟩, ?_⟩
      walk_at "dl_ev"
      rw [set_new]
      refine hK _ _ ⟨a ++ [s], r, some (nD s), by rw [List.append_assoc]; exact ha, ?_, rfl, ?_⟩
      · have : ((a ++ [s]).sum : Nat) = a.sum + s := by simp
        rw [this]
        rfl
      · rw [rooms_snoc, List.map_append]
        have e : rngI (a.sum : Int) ((a.sum : Int) + s - a.sum).toNat = (List.range' a.sum s).map nD := by
          rw [show ((a.sum : Int) + s - a.sum).toNat = s by omega, rngN]
        rw [e, Nat.zero_add]
        rfl
  · rintro ρ M' ⟨a, r, o4, ha, rfl, e, rfl⟩
    have : r = [] := by cases r with | nil => rfl | cons x r => cases e
    subst this
    rw [List.append_nil] at ha
    subst ha
    refine ⟨True.intro, ?_⟩
    have hM : (M ++ [Cell.lst ((rooms 0 a q).map partD)])[M.length]? = some (.lst ((rooms 0 a q).map partD)) := get_new
    unfold c_rooms_rule_s1
    walk_at "dl_ev"
    exact go _ Apd.one
end

/-! ### watching -/
def keeps (ps : List (List Nat × Nat)) (l : List Nat) : Bool := ps.all fun p => decide ((p.1.filter (· ∈ l)).length ≤ p.2)
def forest : List Nat → List (Nat × Nat) → Bool
  | _, [] => true
  | ms, p :: r => match ms[p.1]?, ms[p.2]? with
    | some x, some y => if x = y then false else forest (ms.map fun m => if m = y then x else m) r
    | _, _ => false
section
variable {k : Nat} {ex : XP} {M : Mem} {P : Po}
theorem s_isint {i : Int} (go : P (.bl true) M) : sem T (k + 1) 5 ex [.int i] M P := by
  refine u5 ?_
  unfold c_is_integer
  walk_at "dl_ev"
  exact go
theorem s_within {i lo hi : Int} (h1 : lo ≤ i) (h2 : i ≤ hi) (go : P (.bl true) M) : sem T (k + 2) 6 ex [.int i, .int lo, .int hi] M P := by
  refine u6 ?_
  unfold c_integer_within
  walk_at "dl_ev"
  refine s_isint ?_
  walk_at "dl_ev"
  refine W.dec (fun _ => ?_) fun h => absurd h1 h
  walk_at "dl_ev"
  have e : decide (i ≤ hi) = true := decide_eq_true h2
  rw [e]
  exact go
theorem s_fault {m : Nat} {l : List Nat} (hl : Lot m l) (hs : l.length ≤ 1000) (go : P .non M) : sem T (k + 3) 7 ex [nD m, tN l] M P := by
  refine u7 ?_
  unfold c_lot_fault
  walk_at "dl_ev"
  unfold c_lot_fault_s3
  walk_at "dl_ev"
  refine floop_inv (fun xs ρ M' => ∃ (i : Nat) (r : List Nat) (o2 o3 o4 : Option D), ρ = [some (nD m), some (tN l), o2, o3, o4] ∧ l.drop i = r ∧ xs = enumD i (r.map nD) ∧ M' = M) ?_ ?_ _ _ _ ⟨0, l, none, none, none, rfl, rfl, rfl, rfl⟩
  · rintro x xs ρ M' ⟨i, r, o2, o3, o4, rfl, hd, e, rfl⟩
    cases r with
    | nil => cases e
    | cons v r =>
      obtain ⟨e1, e2⟩ := List.cons.inj e
      subst e1 e2
      have hv : l[i]? = some v := by
        have : (l.drop i)[0]? = some v := by rw [hd]; rfl
        rwa [List.getElem?_drop, Nat.add_zero] at this
      have hvm : v < m := hl.2 v (List.mem_of_getElem? hv)
      have hr : l.drop (i + 1) = r := by rw [← List.drop_drop, hd]; rfl
      refine ⟨True.intro, fun K hK => ?_⟩
      have fin : ∀ (o : Option D), K [some (nD m), some (tN l), some (.int (i : Nat)), some (nD v), o] M' := fun o => hK _ _ ⟨i + 1, r, _, _, o, rfl, hr, rfl, rfl⟩
      unfold c_lot_fault_g1 c_lot_fault_b1
      walk_at "dl_ev"
      refine W.dec (fun h => ?_) fun h => ?_
      · walk_at "dl_ev"
        unfold c_lot_fault_s1
        walk_at "dl_ev"
        refine s_within (by omega) (by omega) ?_
        walk_at "dl_ev"
        exact fin _
      · obtain ⟨j, rfl⟩ : ∃ j, i = j + 1 := ⟨i - 1, by omega⟩
        have hj : j < l.length := by have := (List.getElem?_eq_some_iff.mp hv).1; omega
        have hjv : l[j] < v := by
          have h1 := (List.getElem?_eq_some_iff.mp hv)
          obtain ⟨h2, h3⟩ := h1
          have := List.pairwise_iff_getElem.mp hl.1 j (j + 1) hj h2 (by omega)
          rw [h3] at this
          exact this
        walk_at "dl_ev"
        rw [show ((j + 1 : Nat) : Int) - 1 = (j : Nat) by omega]
        refine W.ixT (atN (v := l[j]) (List.getElem?_eq_getElem hj)) ?_
        walk_at "dl_ev"
        unfold c_lot_fault_s1
        walk_at "dl_ev"
        refine s_within (by omega) (by omega) ?_
        walk_at "dl_ev"
        exact fin _
  · rintro ρ M' ⟨i, r, o2, o3, o4, rfl, hd, e, rfl⟩
    cases r with
    | cons v r => cases e
    | nil =>
      refine ⟨True.intro, ?_⟩
      unfold c_lot_fault_s2
      walk_at "dl_ev"
      exact go
theorem s_islot {m : Nat} {l : List Nat} (hl : Lot m l) (hs : l.length ≤ 1000) (go : P (.bl true) M) : sem T (k + 4) 8 ex [nD m, tN l] M P := by
  refine u8 ?_
  unfold c_is_lot
  walk_at "dl_ev"
  refine s_fault hl hs ?_
  walk_at "dl_ev"
  exact go
theorem s_common {a l : List Nat} (go : P (tN (a.filter (· ∈ l))) M) : sem T (k + 1) 9 ex [tN a, tN l] M P := by
  refine u9 ?_
  unfold c_common_of
  walk_at "dl_ev"
  refine cloop_pure (fun x => match x with | .int i => decide (i.toNat ∈ l) | _ => false) id True.intro _ _ ?_ ?_
  · intro x hx acc K hK
    obtain ⟨i, _, rfl⟩ := List.mem_map.mp hx
    unfold c_common_of_t1
    walk_at "dl_ev"
    refine inN rfl ?_
    have hK : K (if decide (((i : Int)).toNat ∈ l) = true then acc ++ [nD i] else acc) M := hK
    rw [show ((i : Int)).toNat = i by omega] at hK
    walk_at "dl_ev"
    by_cases h : i ∈ l
    · rw [if_pos (decide_eq_true h)] at hK ⊢
      walk_at "dl_ev"
      exact hK
    · rw [if_neg (by simpa using h)] at hK ⊢
      exact hK
  · rw [List.filter_map, List.map_map, List.nil_append]
    have e : (a.filter ((fun x => match x with | D.int i => decide (i.toNat ∈ l) | _ => false) ∘ nD)) = a.filter (· ∈ l) := by
      refine List.filter_congr fun i _ => ?_
      show decide (((i : Int)).toNat ∈ l) = _
      rw [show ((i : Int)).toNat = i by omega]
    rw [e]
    exact go
theorem any_not {ps : List (List Nat × Nat)} {l : List Nat} : (!(ps.map fun p => decide (p.2 < (p.1.filter (· ∈ l)).length)).any id) = keeps ps l := by
  unfold keeps
  induction ps with
  | nil => rfl
  | cons p ps ih =>
    rw [List.map_cons, List.any_cons, List.all_cons, ← ih, Bool.not_or]
    congr 1
    show (!decide _) = decide _
    rw [Bool.eq_iff_iff]
    simp
theorem bools_map : ∀ bs : List Bool, boolsOf (bs.map D.bl) = some bs
  | [] => rfl
  | b :: bs => by
    show (boolsOf (bs.map D.bl)).map (b :: ·) = _
    rw [bools_map bs]
    rfl
theorem s_quotas {ps : List (List Nat × Nat)} {l : List Nat} (go : P (.bl (keeps ps l)) M) : sem T (k + 2) 31 ex [.tup (ps.map partD), tN l] M P := by
  refine u31 ?_
  unfold c_keeps_quotas
  walk_at "dl_ev"
  refine cloop_inv (fun xs acc M' => ∃ (a r : List (List Nat × Nat)), a ++ r = ps ∧ xs = r.map partD ∧ acc = (a.map fun p => decide (p.2 < (p.1.filter (· ∈ l)).length)).map D.bl ∧ M' = M) ?_ ?_ _ _ _ ⟨[], ps, rfl, rfl, rfl, rfl⟩
  · rintro x xs acc M' ⟨a, r, ha, e, rfl, rfl⟩
    cases r with
    | nil => cases e
    | cons p r =>
      obtain ⟨e1, e2⟩ := List.cons.inj e
      subst e1 e2
      refine ⟨True.intro, fun K hK => ?_⟩
      unfold c_keeps_quotas_g1 c_keeps_quotas_e1 partD
      walk_at "dl_ev"
      refine s_common ?_
      walk_at "dl_ev"
      refine hK _ _ ⟨a ++ [p], r, by rw [List.append_assoc]; exact ha, rfl, ?_, rfl⟩
      rw [List.map_append, List.map_append, List.length_map]
      congr 1
      show [D.bl _] = [D.bl _]
      congr 2
      rw [Bool.eq_iff_iff, decide_eq_true_eq, decide_eq_true_eq]
      omega
  · rintro acc M' ⟨a, r, ha, e, rfl, rfl⟩
    have : r = [] := by cases r with | nil => rfl | cons x r => cases e
    subst this
    rw [List.append_nil] at ha
    subst ha
    refine ⟨True.intro, ?_⟩
    show cAny _ _
    unfold cAny
    rw [bools_map]
    walk_at "dl_ev"
    rw [any_not]
    exact go
end

/-! ### forests; watching *-/
section
variable {k : Nat} {ex : XP} {M : Mem} {P : Po}
theorem s_merged {c a b : Nat} {ms : List Nat} (hM : M[c]? = some (.lst (ms.map nD))) (go : P (.ref M.length) (M ++ [.lst ((ms.map fun m => if m = b then a else m).map nD)])) : sem T (k + 1) 12 ex [.ref c, nD a, nD b] M P := by
  refine u12 ?_
  unfold c_merged_marks
  walk_at "dl_ev"
  refine cloop_pure (fun _ => true) (fun x => match x with | .int i => if i = (b : Int) then nD a else .int i | _ => .non) hM _ _ ?_ ?_
  · intro x hx acc K hK
    obtain ⟨i, _, rfl⟩ := List.mem_map.mp hx
    have hK : K (acc ++ [if (i : Int) = (b : Int) then nD a else .int i]) M := hK
    unfold c_merged_marks_e1
    walk_at "dl_ev"
    refine W.dec (fun h => ?_) fun h => ?_
    · rw [if_pos h] at hK
      walk_at "dl_ev"
      exact hK
    · rw [if_neg h] at hK
      walk_at "dl_ev"
      exact hK
  · rw [List.filter_eq_self.mpr (fun _ _ => rfl), List.map_map, List.nil_append]
    have e : (ms.map ((fun x => match x with | D.int i => if i = (b : Int) then nD a else .int i | _ => .non) ∘ nD)) = (ms.map fun m => if m = b then a else m).map nD := by
      rw [List.map_map]
      refine List.map_congr_left fun i _ => ?_
      show (if (i : Int) = (b : Int) then nD a else .int i) = nD (if i = b then a else i)
      by_cases h : i = b
      · rw [if_pos (by omega), if_pos h]
      · rw [if_neg (by omega), if_neg h]
    rw [e]
    walk_at "dl_ev"
    exact go
theorem s_forest {places q : Nat} {ts : List (Nat × Nat)} (hp : places ≤ 1000) (hq : M[q]? = some (.lst (ts.map prD))) (ht : ∀ t ∈ ts, t.1 < places ∧ t.2 < places) (go : ∀ M', Apd M M' → P (.bl (forest (List.range places) ts)) M') : sem T (k + 2) 13 ex [nD places, .ref q] M P := by
  have szl : sizeLine = 16777216 := by decide
  refine u13 ?_
  unfold c_is_forest
  walk_at "dl_ev"
  refine ⟨⟨by omega, by omega, by omega, by omega, by omega⟩, ?_⟩
  rw [show ((places : Int) - 0).toNat = places by omega, rng0]
  walk_at "dl_ev"
  refine floop_inv (fun xs ρ M' => ∃ (c : Nat) (ms : List Nat) (r : List (Nat × Nat)) (o3 o4 : Option D), ρ = [some (nD places), some (.ref q), some (.ref c), o3, o4] ∧ xs = r.map prD ∧ (∀ t ∈ r, t.1 < places ∧ t.2 < places) ∧ ms.length = places ∧ M'[c]? = some (.lst (ms.map nD)) ∧ forest ms r = forest (List.range places) ts ∧ Apd M M') ?_ ?_ _ _ _
    ⟨M.length, List.range places, ts, none, none, rfl, rfl, ht, by simp, get_new, rfl, Apd.one⟩
  · rintro x xs ρ M' ⟨c, ms, r, o3, o4, rfl, e, hr, hl, hc, hf, ap⟩
    cases r with
    | nil => cases e
    | cons t r =>
      obtain ⟨e1, e2⟩ := List.cons.inj e
      subst e1 e2
      refine ⟨ap.get hq, fun K hK => ?_⟩
      obtain ⟨h1, h2⟩ := hr t List.mem_cons_self
      have g1 : ms[t.1]? = some (ms[t.1]'(by omega)) := List.getElem?_eq_getElem _
      have g2 : ms[t.2]? = some (ms[t.2]'(by omega)) := List.getElem?_eq_getElem _
      have hf : (match ms[t.1]?, ms[t.2]? with
        | some x, some y => if x = y then false else forest (ms.map fun m => if m = y then x else m) r
        | _, _ => false) = forest (List.range places) ts := hf
      rw [g1, g2] at hf
      dsimp only at hf
      generalize ms[t.1]'(by omega) = x at g1 hf
      generalize ms[t.2]'(by omega) = y at g2 hf
      unfold c_is_forest_g1 c_is_forest_b1 prD
      walk_at "dl_ev"
      refine W.ixL hc (atN g1) ?_
      walk_at "dl_ev"
      refine W.ixL hc (atN g2) ?_
      walk_at "dl_ev"
      refine W.dec (fun h => ?_) fun h => ?_
      · have h : x = y := by omega
        rw [if_pos h] at hf
        walk_at "dl_ev"
        rw [hf]
        exact go _ ap
      · have h : ¬ x = y := by omega
        rw [if_neg h] at hf
        walk_at "dl_ev"
        unfold c_is_forest_s1
        walk_at "dl_ev"
        refine W.ixL hc (atN g1) ?_
        walk_at "dl_ev"
        refine W.ixL hc (atN g2) ?_
        walk_at "dl_ev"
        refine s_merged hc ?_
        walk_at "dl_ev"
        exact hK _ _ ⟨_, _, r, _, _, rfl, rfl, fun t' h' => hr t' (List.mem_cons_of_mem _ h'), by rw [List.length_map]; exact hl, get_new, hf, ap.trans Apd.one⟩
  · rintro ρ M' ⟨c, ms, r, o3, o4, rfl, e, hr, hl, hc, hf, ap⟩
    have : r = [] := by cases r with | nil => rfl | cons x r => cases e
    subst this
    have hf : true = _ := hf
    refine ⟨ap.get hq, ?_⟩
    unfold c_is_forest_s2
    walk_at "dl_ev"
    rw [hf]
    exact go _ ap
theorem s_things {kd : Str} {m : Nat} {r : List D} (hk : (["posts", "quotas", "web", "vectors"] : List Str).any (fun (z : Str) => PyData.eqv (.str z) (.str kd)) = true) (go : P (nD m) M) : sem T (k + 1) 22 ex [.tup (.str kd :: nD m :: r)] M P := by
  refine u22 ?_
  unfold c_things_of
  walk_at "dl_ev"
  refine inS (ys := ["posts", "quotas", "web", "vectors"]) rfl hk ?_
  walk_at "dl_ev"
  exact go
theorem s_plainq {m : Nat} {ps : List (List Nat × Nat)} {l : List Nat} (go : P (.bl (keeps ps l)) M) : sem T (k + 3) 32 ex [quotasD m ps, tN l] M P := by
  refine u32 ?_
  unfold c_is_plain_watchable
  walk_at "dl_ev"
  refine eqS (by kernel_rfl) (by kernel_rfl) ?_
  rw [show decide (("quotas" : Str) = "posts") = false by decide]
  walk_at "dl_ev"
  unfold c_is_plain_watchable_s3
  walk_at "dl_ev"
  refine eqS (by kernel_rfl) (by kernel_rfl) ?_
  rw [show decide (("quotas" : Str) = "quotas") = true by decide]
  walk_at "dl_ev"
  exact s_quotas go
theorem s_plainw {m places : Nat} {ts : List (Nat × Nat)} {l : List Nat} (hl : Lot ts.length l) (hp : places ≤ 1000) (ht : ∀ t ∈ ts, t.1 < places ∧ t.2 < places) (go : ∀ M', Apd M M' → P (.bl (forest (List.range places) (l.map fun i => ts.getD i (0, 0)))) M') : sem T (k + 3) 32 ex [webD m places ts, tN l] M P := by
  refine u32 ?_
  unfold c_is_plain_watchable
  walk_at "dl_ev"
  refine eqS (by kernel_rfl) (by kernel_rfl) ?_
  rw [show decide (("web" : Str) = "posts") = false by decide]
  walk_at "dl_ev"
  unfold c_is_plain_watchable_s3
  walk_at "dl_ev"
  refine eqS (by kernel_rfl) (by kernel_rfl) ?_
  rw [show decide (("web" : Str) = "quotas") = false by decide]
  walk_at "dl_ev"
  unfold c_is_plain_watchable_s2
  walk_at "dl_ev"
  refine eqS (by kernel_rfl) (by kernel_rfl) ?_
  rw [show decide (("web" : Str) = "web") = true by decide]
  walk_at "dl_ev"
  refine cloop_inv (fun xs acc M' => ∃ (a r : List Nat), a ++ r = l ∧ xs = r.map nD ∧ acc = (a.map fun i => ts.getD i (0, 0)).map prD ∧ M' = M) ?_ ?_ _ _ _ ⟨[], l, rfl, rfl, rfl, rfl⟩
  · rintro x xs acc M' ⟨a, r, ha, e, rfl, rfl⟩
    cases r with
    | nil => cases e
    | cons i r =>
      obtain ⟨e1, e2⟩ := List.cons.inj e
      subst e1 e2
      have hi : i < ts.length := hl.2 i (by rw [← ha]; simp)
      refine ⟨True.intro, fun K hK => ?_⟩
      unfold c_is_plain_watchable_e1
      walk_at "dl_ev"
      refine W.ixT (W.at_nat (d := prD (ts.getD i (0, 0))) ?_) ?_
      · rw [List.getElem?_map, List.getElem?_eq_getElem hi]
        simp [List.getD_eq_getElem?_getD, hi]
      · refine hK _ _ ⟨a ++ [i], r, by rw [List.append_assoc]; exact ha, rfl, by simp, rfl⟩
  · rintro acc M' ⟨a, r, ha, e, rfl, rfl⟩
    have : r = [] := by cases r with | nil => rfl | cons x r => cases e
    subst this
    rw [List.append_nil] at ha
    subst ha
    refine ⟨True.intro, ?_⟩
    walk_at "dl_ev"
    refine s_forest hp get_new (fun t h => ?_) fun M2 ap => go M2 (Apd.one.trans ap)
    obtain ⟨i, hi, rfl⟩ := List.mem_map.mp h
    have hi := hl.2 i hi
    have : ts.getD i (0, 0) = ts[i] := by simp [List.getD_eq_getElem?_getD, hi]
    rw [this]
    exact ht _ (List.getElem_mem hi)
theorem s_watchq {m : Nat} {ps : List (List Nat × Nat)} {l : List Nat} (hl : Lot m l) (hm : m ≤ 1000) (go : P (.bl (keeps ps l)) M) : sem T (k + 5) 36 ex [quotasD m ps, tN l] M P := by
  refine u36 ?_
  unfold c_is_watchable
  walk_at "dl_ev"
  refine s_things (by kernel_rfl) ?_
  walk_at "dl_ev"
  refine s_islot hl (Nat.le_trans hl.len hm) ?_
  walk_at "dl_ev"
  refine u35 ?_
  unfold c_holds
  walk_at "dl_ev"
  refine inS (ys := ["posts", "quotas", "web", "vectors"]) rfl (b := true) (by kernel_rfl) ?_
  walk_at "dl_ev"
  exact s_plainq go
theorem s_watchw {places : Nat} {ts : List (Nat × Nat)} {l : List Nat} (hl : Lot ts.length l) (hm : ts.length ≤ 1000) (hp : places ≤ 1000) (ht : ∀ t ∈ ts, t.1 < places ∧ t.2 < places) (go : ∀ M', Apd M M' → P (.bl (forest (List.range places) (l.map fun i => ts.getD i (0, 0)))) M') : sem T (k + 5) 36 ex [webD ts.length places ts, tN l] M P := by
  refine u36 ?_
  unfold c_is_watchable
  walk_at "dl_ev"
  refine s_things (by kernel_rfl) ?_
  walk_at "dl_ev"
  refine s_islot hl (Nat.le_trans hl.len hm) ?_
  walk_at "dl_ev"
  refine u35 ?_
  unfold c_holds
  walk_at "dl_ev"
  refine inS (ys := ["posts", "quotas", "web", "vectors"]) rfl (b := true) (by kernel_rfl) ?_
  walk_at "dl_ev"
  exact s_plainw hl hp ht go
end

/-! ### numbers of lots -/
def S (l : List Nat) : Nat := (l.map (2 ^ ·)).sum
def bl (N : Nat) : Nat := Builtin.Int.intBits (N : Int)
def Bits (N : Nat) : List Nat := (List.range (bl N)).filter (N.testBit ·)
theorem S_app (a b : List Nat) : S (a ++ b) = S a + S b := by simp [S]
theorem lt_bl (N : Nat) : N < 2 ^ bl N := by
  unfold bl Builtin.Int.intBits
  by_cases h : N = 0
  · subst h; decide
  · rw [if_neg (by simpa using h)]
    exact Nat.lt_log2_self
theorem sorted_ext : ∀ {a b : List Nat}, a.Pairwise (· < ·) → b.Pairwise (· < ·) → (∀ x, x ∈ a ↔ x ∈ b) → a = b
  | [], [], _, _, _ => rfl
  | [], y :: b, _, _, h => absurd ((h y).mpr List.mem_cons_self) (by simp)
  | x :: a, [], _, _, h => absurd ((h x).mp List.mem_cons_self) (by simp)
  | x :: a, y :: b, ha, hb, h => by
    obtain ⟨ha1, ha2⟩ := List.pairwise_cons.mp ha
    obtain ⟨hb1, hb2⟩ := List.pairwise_cons.mp hb
    have e : x = y := by
      have h1 := (h x).mp List.mem_cons_self
      have h2 := (h y).mpr List.mem_cons_self
      rcases List.mem_cons.mp h1 with z | z
      · exact z
      · rcases List.mem_cons.mp h2 with z' | z'
        · exact z'.symm
        · have := hb1 x z
          have := ha1 y z'
          omega
    subst e
    rw [sorted_ext ha2 hb2 fun z => ?_]
    have hz := h z
    constructor
    · intro m
      have hlt := ha1 z m
      rcases List.mem_cons.mp (hz.mp (List.mem_cons_of_mem _ m)) with q | q
      · omega
      · exact q
    · intro m
      have hlt := hb1 z m
      rcases List.mem_cons.mp (hz.mpr (List.mem_cons_of_mem _ m)) with q | q
      · omega
      · exact q
theorem bits_of {N : Nat} {l : List Nat} (hl : l.Pairwise (· < ·)) (h : ∀ i, N.testBit i = decide (i ∈ l)) : Bits N = l := by
  refine sorted_ext (List.pairwise_lt_range.filter _) hl fun x => ?_
  unfold Bits
  rw [List.mem_filter, List.mem_range]
  constructor
  · rintro ⟨_, h2⟩
    rw [h x] at h2
    simpa using h2
  · intro hx
    have h2 : N.testBit x = true := by rw [h x]; simpa using hx
    refine ⟨?_, h2⟩
    rcases Nat.lt_or_ge x (bl N) with z | z
    · exact z
    · have := Nat.testBit_lt_two_pow (Nat.lt_of_lt_of_le (lt_bl N) (Nat.pow_le_pow_right (by decide) z))
      rw [this] at h2
      cases h2
theorem S_filt (t : Nat) : ∀ {l : List Nat}, l.Pairwise (· < ·) → S (l.filter (t ≤ ·)) = S (l.filter (t + 1 ≤ ·)) + if t ∈ l then 2 ^ t else 0
  | [], _ => by simp [S]
  | x :: l, h => by
    obtain ⟨h1, h2⟩ := List.pairwise_cons.mp h
    have ih := S_filt t h2
    rw [List.filter_cons, List.filter_cons]
    rcases Nat.lt_trichotomy x t with z | z | z
    · rw [if_neg (by simpa using z), if_neg (by simp; omega), ih]
      congr 1
      by_cases m : t ∈ l
      · rw [if_pos m, if_pos (List.mem_cons_of_mem _ m)]
      · rw [if_neg m, if_neg (fun q => (List.mem_cons.mp q).elim (fun e => by omega) m)]
    · subst z
      have nm : x ∉ l := fun m => Nat.lt_irrefl _ (h1 x m)
      rw [if_neg nm, Nat.add_zero] at ih
      rw [if_pos (by simp), if_neg (by simp), if_pos List.mem_cons_self]
      show S ([x] ++ _) = _
      rw [S_app, ih]
      simp [S]
      omega
    · rw [if_pos (by simp; omega), if_pos (by simp; omega)]
      show S ([x] ++ _) = S ([x] ++ _) + _
      rw [S_app, S_app, ih]
      by_cases m : t ∈ l
      · rw [if_pos m, if_pos (List.mem_cons_of_mem _ m)]
        omega
      · rw [if_neg m, if_neg (fun q => (List.mem_cons.mp q).elim (fun e => by omega) m)]
        omega
theorem val_ints (l : List Nat) : Val (tN l) := .tup _ fun x hx => by
  obtain ⟨i, _, rfl⟩ := List.mem_map.mp hx
  exact .int _
theorem szs_nats : ∀ l : List Nat, szs (l.map nD) = l.length
  | [] => rfl
  | a :: l => by
    show sz (nD a) + szs (l.map nD) = _
    rw [szs_nats l]
    show 1 + l.length = _
    rw [List.length_cons]
    omega
theorem sz_tN (l : List Nat) : sz (tN l) = l.length + 1 := by
  show szs (l.map nD) + 1 = _
  rw [szs_nats]
section
variable {k : Nat} {ex : XP} {M : Mem} {P : Po}
theorem s_lotnum {l : List Nat} (h : ∀ x ∈ l, x ≤ 1000) (go : P (nD (S l)) M) : sem T (k + 1) 10 ex [tN l] M P := by
  refine u10 ?_
  unfold c_lot_number
  walk_at "dl_ev"
  refine cloop_inv (fun xs acc M' => ∃ (a r : List Nat), a ++ r = l ∧ xs = r.map nD ∧ acc = (a.map (2 ^ ·)).map nD ∧ M' = M) ?_ ?_ _ _ _ ⟨[], l, rfl, rfl, rfl, rfl⟩
  · rintro x xs acc M' ⟨a, r, ha, e, rfl, rfl⟩
    cases r with
    | nil => cases e
    | cons i r =>
      obtain ⟨e1, e2⟩ := List.cons.inj e
      subst e1 e2
      have hi : i ≤ 1000 := h i (by rw [← ha]; simp)
      refine ⟨True.intro, fun K hK => ?_⟩
      unfold c_lot_number_e1
      walk_at "dl_ev"
      refine shlN1 hi ?_
      exact hK _ _ ⟨a ++ [i], r, by rw [List.append_assoc]; exact ha, rfl, by simp, rfl⟩
  · rintro acc M' ⟨a, r, ha, e, rfl, rfl⟩
    have : r = [] := by cases r with | nil => rfl | cons x r => cases e
    subst this
    rw [List.append_nil] at ha
    subst ha
    refine ⟨True.intro, ?_⟩
    show cSum _ _
    unfold cSum
    rw [intsN]
    dsimp only
    rw [sumN]
    exact go
theorem s_numlot {N : Nat} (h : bl N ≤ 1000) (go : P (tN (Bits N)) M) : sem T (k + 1) 11 ex [nD N] M P := by
  have szl : sizeLine = 16777216 := by decide
  refine u11 ?_
  unfold c_numbered_lot
  walk_at "dl_ev"
  refine ⟨rfl, ?_⟩
  walk_at "dl_ev"
  show mBits (nD N) [] M _
  show (fun d M1 => _) (D.int (Builtin.Int.intBits (N : Int) : Nat)) M
  dsimp only
  walk_at "dl_ev"
  have hb : Builtin.Int.intBits (N : Int) ≤ 1000 := h
  refine ⟨⟨by omega, by omega⟩, ?_⟩
  rw [Int.toNat_natCast, rng0]
  refine cloop_pure (fun x => match x with | .int i => N.testBit i.toNat | _ => false) id True.intro _ _ ?_ ?_
  · intro x hx acc K hK
    obtain ⟨i, hi, rfl⟩ := List.mem_map.mp hx
    have hK : K (if N.testBit ((i : Int)).toNat = true then acc ++ [nD i] else acc) M := hK
    rw [Int.toNat_natCast] at hK
    unfold c_numbered_lot_t1
    walk_at "dl_ev"
    refine shrN ?_
    walk_at "dl_ev"
    refine andN1 ?_
    walk_at "dl_ev"
    have e : decide (((N / 2 ^ i % 2 : Nat) : Int) ≠ 0) = N.testBit i := by
      rw [tb, Bool.eq_iff_iff, decide_eq_true_eq, decide_eq_true_eq]
      omega
    rw [e]
    cases hb : N.testBit i with
    | true =>
      rw [hb, if_pos rfl] at hK
      walk_at "dl_ev"
      exact hK
    | false =>
      rw [hb, if_neg (by decide)] at hK
      exact hK
  · rw [List.filter_map, List.map_map, List.nil_append]
    have e : ((List.range (bl N)).filter ((fun x => match x with | D.int i => N.testBit i.toNat | _ => false) ∘ nD)) = Bits N := by
      refine List.filter_congr fun i _ => ?_
      show N.testBit ((i : Int)).toNat = _
      rw [Int.toNat_natCast]
    have e2 : (List.filter ((fun x => match x with | D.int i => N.testBit i.toNat | _ => false) ∘ nD) (List.range (Builtin.Int.intBits (N : Int)))) = Bits N := e
    rw [e2]
    exact go
end

/-! ### _law_numbers -/
theorem bl_le {N m : Nat} (h : N < 2 ^ m) : bl N ≤ m := by
  unfold bl Builtin.Int.intBits
  by_cases h0 : N = 0
  · subst h0; exact Nat.zero_le _
  · rw [if_neg (by simpa using h0)]
    have : N.log2 < m := (Nat.log2_lt h0).mpr h
    exact this
theorem two_pow_int (i : Nat) : ((2 : Int) ^ i) = ((2 ^ i : Nat) : Int) := by simp
section
variable {k n d : Nat} {ex : XP} {M : Mem} {P : Po}
theorem s_numb2 {N : Nat} {x1 : Option D} (hp : Pool M n d) (hN : N < 2 ^ 20) (go : ∀ M', Pool M' n d → P (.bl true) M') :
    sWhile c_law_numbers_w1 c_law_numbers_b2 ⟨sem T (k + 4), fun _ => ex⟩ ⟨fun ρ' M' => c_law_numbers_s2 ⟨sem T (k + 4), fun _ => ex⟩ ⟨fun _ M' => P .non M', P, fun _ _ => False, fun _ _ => False⟩ ρ' M', P, fun _ _ => False, fun _ _ => False⟩ [some (.ref n), x1, some (nD N), some (.int 0), some (.ref M.length), some (nD N)] (M ++ [.lst []]) := by
  have szl : sizeLine = 16777216 := by decide
  have hpn := hp.ltn
  have hpd := hp.ltd
  refine while_inv (fun w ρ M' => ∃ (t : Nat), w = N / 2 ^ t ∧ t ≤ 20 ∧ ρ = [some (.ref n), x1, some (nD N), some (nD t), some (.ref M.length), some (nD (N / 2 ^ t))] ∧ M'[M.length]? = some (.lst (((List.range t).filter (N.testBit ·)).map nD)) ∧ S ((List.range t).filter (N.testBit ·)) + N / 2 ^ t * 2 ^ t = N ∧ Pool M' n d) N ⟨0, by simp, by omega, by simp, get_new, by simp [S], hp.apd Apd.one⟩ ?_
  rintro w ρ M' ⟨t, rfl, ht, rfl, hM, hS, hp'⟩ K hK
  unfold c_law_numbers_w1
  walk_at "dl_ev"
  have hlen : ((List.range t).filter (N.testBit ·)).length ≤ 20 := by
    have := List.length_filter_le (N.testBit ·) (List.range t)
    rw [List.length_range] at this
    omega
  refine W.dec (fun h => ?_) fun h => ?_
  · have hR0 : 0 < N / 2 ^ t := by omega
    have ht20 : t < 20 := by
      rcases Nat.lt_or_ge t 20 with z | z
      · exact z
      · have e : t = 20 := by omega
        subst e
        have : N / 2 ^ 20 = 0 := Nat.div_eq_of_lt hN
        omega
    have ediv : N / 2 ^ (t + 1) = N / 2 ^ t / 2 := by rw [Nat.pow_succ, Nat.div_div_eq_div_mul]
    have emod : N / 2 ^ t = 2 * (N / 2 ^ t / 2) + N / 2 ^ t % 2 := by omega
    have epow : 2 ^ (t + 1) = 2 * 2 ^ t := by rw [Nat.pow_succ]; omega
    have eint : ((N / 2 ^ t : Nat) : Int) / 2 = ((N / 2 ^ (t + 1) : Nat) : Int) := by rw [ediv]; omega
    have erng : (List.range (t + 1)).filter (N.testBit ·) = (List.range t).filter (N.testBit ·) ++ if N.testBit t = true then [t] else [] := by
      rw [List.range_succ, List.filter_append]
      congr 1
      simp [List.filter_cons]
    have fin : ∀ M2, M2[M.length]? = some (.lst (((List.range (t + 1)).filter (N.testBit ·)).map nD)) → Pool M2 n d →
        c_law_numbers_s1 ⟨sem T (k + 4), fun _ => ex⟩ { nx := K, rt := P, ct := K, bk := fun ρ' M' => c_law_numbers_s2 ⟨sem T (k + 4), fun _ => ex⟩ ⟨fun _ M' => P .non M', P, fun _ _ => False, fun _ _ => False⟩ ρ' M' } [some (.ref n), x1, some (nD N), some (nD t), some (.ref M.length), some (nD (N / 2 ^ t))] M2 := by
      intro M2 hM2 hp2
      unfold c_law_numbers_s1
      walk_at "dl_ev"
      rw [eint]
      refine hK (N / 2 ^ (t + 1)) _ _ (by rw [ediv]; omega) ⟨t + 1, rfl, by omega, rfl, hM2, ?_, hp2⟩
      rw [erng, S_app, ediv, epow]
      have hm : N / 2 ^ t * 2 ^ t = (N / 2 ^ t / 2) * (2 * 2 ^ t) + N / 2 ^ t % 2 * 2 ^ t := by
        conv => lhs; rw [emod]
        rw [Nat.add_mul, Nat.mul_comm 2 (N / 2 ^ t / 2), Nat.mul_assoc]
      have hb : S (if N.testBit t = true then [t] else []) = N / 2 ^ t % 2 * 2 ^ t := by
        rw [tb]
        by_cases q : N / 2 ^ t % 2 = 1
        · rw [if_pos (decide_eq_true q), q]
          simp [S]
        · rw [if_neg (by simpa using q), show N / 2 ^ t % 2 = 0 by omega]
          simp [S]
      rw [hb]
      omega
    unfold c_law_numbers_b2
    walk_at "dl_ev"
    refine andN1 ?_
    walk_at "dl_ev"
    refine W.dec (fun h1 => ?_) fun h1 => ?_
    · have htb : N.testBit t = true := by rw [tb]; exact decide_eq_true (by omega)
      have hsl : ((((List.range t).filter (N.testBit ·)).map nD)).length < sizeLine := by rw [List.length_map]; omega
      walk_at "dl_ev"
      refine fin _ ?_ (hp'.set (by omega) (by omega))
      rw [get_set_self hM, erng, if_pos htb, List.map_append]
      rfl
    · have htb : N.testBit t = false := by rw [tb]; exact decide_eq_false (by omega)
      walk_at "dl_ev"
      refine fin _ ?_ hp'
      rw [hM, erng, if_neg (by rw [htb]; decide), List.append_nil]
  · have hR0 : N / 2 ^ t = 0 := Nat.eq_zero_of_not_pos fun q => h (Int.ofNat_lt.mpr q)
    have hlt : N < 2 ^ t := by
      rcases Nat.lt_or_ge N (2 ^ t) with z | z
      · exact z
      · have := Nat.div_pos z (Nat.pow_pos (by decide))
        omega
    rw [hR0, Nat.zero_mul, Nat.add_zero] at hS
    have hB : Bits N = (List.range t).filter (N.testBit ·) := by
      refine bits_of (List.pairwise_lt_range.filter _) fun i => ?_
      rw [Bool.eq_iff_iff, decide_eq_true_eq, List.mem_filter, List.mem_range]
      refine ⟨fun q => ⟨?_, q⟩, fun q => q.2⟩
      rcases Nat.lt_or_ge i t with z | z
      · exact z
      · have := Nat.testBit_lt_two_pow (Nat.lt_of_lt_of_le hlt (Nat.pow_le_pow_right (by decide) z))
        rw [this] at q
        cases q
    unfold c_law_numbers_s2
    walk_at "dl_ev"
    refine s_numlot (k := k + 3) (Nat.le_trans (bl_le hN) (by decide)) ?_
    rw [hB]
    walk_at "dl_ev"
    refine s_lotnum (k := k + 3) (fun x hx => ?_) ?_
    · have := List.mem_range.mp (List.mem_filter.mp hx).1
      omega
    rw [hS]
    walk_at "dl_ev"
    refine s_same (k := k + 3) (.tup _ fun x hx => ?_) ?_ fun M2 ap => ?_
    · rcases List.mem_cons.mp hx with e | hx
      · subst e; exact val_ints _
      · have : x = nD N := by simpa using hx
        subst this; exact .int _
    · show sz (tN _) + (1 + 0) + 1 ≤ _
      rw [sz_tN]
      omega
    · exact go _ (hp'.apd ap)
theorem s_numbers (hp : Pool M n d) (go : ∀ M', Pool M' n d → P (.bl true) M') : sem T (k + 5) 41 ex [.ref n] M P := by
  have szl : sizeLine = 16777216 := by decide
  refine u41 ?_
  unfold c_law_numbers
  walk_at "dl_ev"
  refine s_dip (k := k + 3) hp (by omega) (by omega) fun r M1 hr k1 p1 => ?_
  obtain ⟨m, hm, hm20⟩ : ∃ m : Nat, atI [D.int 20, D.int 8] (r : Int) = some (nD m) ∧ m ≤ 20 := by
    have : r = 0 ∨ r = 1 := by omega
    rcases this with e | e <;> subst e
    · exact ⟨20, W.at0, by omega⟩
    · exact ⟨8, W.at1, by omega⟩
  refine W.ixT hm ?_
  walk_at "dl_ev"
  refine s_lot (k := k + 2) p1 (by omega) fun l M2 hl k2 p2 => ?_
  have hl20 : ∀ x ∈ l, x < 20 := fun x hx => by have := hl.2 x hx; omega
  walk_at "dl_ev"
  show ∃ n : Nat, (n ≤ sizeLine ∧ RgC 19 (-1) (-1) n) ∧ _
  refine ⟨20, ⟨by omega, RgC.neg (by decide) (by decide) (by decide) (by decide)⟩, ?_⟩
  refine floop_inv (fun xs ρ M' => ∃ (t N : Nat) (o3 : Option D), ρ = [some (.ref n), some (tN l), some (nD N), o3, none, none] ∧ t ≤ 20 ∧ xs = (rngC 19 (-1) 20).drop (20 - t) ∧ (∀ i, N.testBit i = decide (i + t ∈ l)) ∧ N * 2 ^ t = S (l.filter (t ≤ ·)) ∧ N < 2 ^ (20 - t) ∧ M' = M2) ?_ ?_ _ _ _ ⟨20, 0, none, rfl, by omega, rfl, fun i => ?_, ?_, by decide, rfl⟩
  · rintro x xs ρ M' ⟨t, N, o3, rfl, ht, e, htb, hS, hlt, rfl⟩
    have ht0 : 0 < t := by
      rcases Nat.eq_zero_or_pos t with z | z
      · subst z
        have : (rngC 19 (-1) 20).drop (20 - 0) = [] := by decide +kernel
        rw [this] at e
        cases e
      · exact z
    obtain ⟨j, rfl⟩ : ∃ j, t = j + 1 := ⟨t - 1, by omega⟩
    have hlr : (rngC 19 (-1) 20).length = 20 := by simp [rngC]
    have hdr : (rngC 19 (-1) 20).drop (20 - (j + 1)) = nD j :: (rngC 19 (-1) 20).drop (20 - j) := by
      rw [List.drop_eq_getElem_cons (by rw [hlr]; omega), show 20 - (j + 1) + 1 = 20 - j by omega]
      congr 1
      simp [rngC]
      omega
    rw [hdr] at e
    obtain ⟨e1, e2⟩ := List.cons.inj e
    subst e1 e2
    refine ⟨True.intro, fun K hK => ?_⟩
    unfold c_law_numbers_b1
    walk_at "dl_ev"
    refine inN rfl ?_
    walk_at "dl_ev"
    obtain ⟨b, hb, hb1⟩ : ∃ b : Nat, (if decide (j ∈ l) = true then (1 : Int) else 0) = (b : Nat) ∧ (b = if j ∈ l then 1 else 0) := by
      by_cases h : j ∈ l
      · exact ⟨1, by rw [if_pos (decide_eq_true h)]; rfl, by rw [if_pos h]⟩
      · exact ⟨0, by rw [if_neg (by simpa using h)]; rfl, by rw [if_neg h]⟩
    have hv : (2 * (N : Int) + if decide (j ∈ l) = true then (1 : Int) else 0) = ((2 * N + b : Nat) : Int) := by rw [hb]; omega
    rw [hv]
    have hb2 : b ≤ 1 := by rw [hb1]; split <;> omega
    refine hK _ _ ⟨j, 2 * N + b, _, rfl, by omega, rfl, fun i => ?_, ?_, ?_, rfl⟩
    · cases i with
      | zero =>
        rw [Nat.testBit_zero, Nat.zero_add, hb1]
        by_cases h : j ∈ l
        · rw [if_pos h, decide_eq_true h]
          exact decide_eq_true (by omega)
        · rw [if_neg h, decide_eq_false h]
          exact decide_eq_false (by omega)
      | succ i =>
        rw [Nat.testBit_succ, show (2 * N + b) / 2 = N by omega, htb i, show i + 1 + j = i + (j + 1) by omega]
    · have hf := S_filt j (l := l) hl.1
      rw [hf, ← hS, hb1]
      have e2 : 2 ^ (j + 1) = 2 * 2 ^ j := by rw [Nat.pow_succ]; omega
      rw [e2, Nat.add_mul, ← Nat.mul_assoc, Nat.mul_comm N 2]
      congr 1
      split <;> simp
    · have e2 : 2 ^ (20 - j) = 2 * 2 ^ (20 - (j + 1)) := by rw [show 20 - j = 20 - (j + 1) + 1 by omega, Nat.pow_succ]; omega
      omega
  · rintro ρ M' ⟨t, N, o3, rfl, ht, e, htb, hS, hlt, rfl⟩
    have ht0 : t = 0 := by
      rcases Nat.eq_zero_or_pos t with z | z
      · exact z
      · have h1 : ((rngC 19 (-1) 20).drop (20 - t)).length = 0 := by rw [← e]; rfl
        rw [List.length_drop] at h1
        have hlr : (rngC 19 (-1) 20).length = 20 := by simp [rngC]
        omega
    subst ht0
    have hSl : S l = N := by
      rw [Nat.pow_zero, Nat.mul_one] at hS
      rw [hS]
      congr 1
      exact (List.filter_eq_self.mpr fun x _ => by simp).symm
    have hB : Bits N = l := bits_of hl.1 fun i => htb i
    have hN20 : N < 2 ^ 20 := hlt
    refine ⟨True.intro, ?_⟩
    unfold c_law_numbers_s4
    walk_at "dl_ev"
    refine s_lotnum (k := k + 3) (fun x hx => by have := hl20 x hx; omega) ?_
    rw [hSl]
    walk_at "dl_ev"
    refine s_numlot (k := k + 3) (Nat.le_trans (bl_le hN20) (by decide)) ?_
    rw [hB]
    walk_at "dl_ev"
    refine s_lotnum (k := k + 3) (l := []) (fun x hx => by cases hx) ?_
    walk_at "dl_ev"
    refine s_numlot (k := k + 3) (N := 0) (by decide) ?_
    rw [show Bits 0 = [] from rfl, show S [] = 0 from rfl]
    walk_at "dl_ev"
    refine s_same (k := k + 3) (.tup _ fun x hx => ?_) ?_ fun M3 ap => ?_
    · simp at hx
      rcases hx with e | e | e | e <;> subst e
      · exact .int _
      · exact val_ints _
      · exact .int _
      · exact val_ints []
    · have := sz_tN l
      have := hl.len
      show sz (nD N) + (sz (tN l) + (sz (nD 0) + (sz (tN []) + 0))) + 1 ≤ _
      rw [sz_tN, sz_tN]
      show 1 + (l.length + 1 + (1 + (0 + 1 + 0))) + 1 ≤ _
      omega
    walk_at "dl_ev"
    have p3 := p2.apd ap
    unfold c_law_numbers_s3
    walk_at "dl_ev"
    refine s_dip (k := k + 3) p3 (by omega) (by omega) fun r1 M4 hr1 k4 p4 => ?_
    walk_at "dl_ev"
    refine shlN1 (i := 20) (by omega) ?_
    walk_at "dl_ev"
    refine s_dip (k := k + 3) p4 (by decide) (by decide) fun r2 M5 hr2 k5 p5 => ?_
    walk_at "dl_ev"
    refine s_dip (k := k + 3) p5 (by omega) (by omega) fun r3 M6 hr3 k6 p6 => ?_
    walk_at "dl_ev"
    refine shlN1 (by omega) ?_
    walk_at "dl_ev"
    refine shlN1 (i := 20) (by omega) ?_
    walk_at "dl_ev"
    refine s_dip (k := k + 3) p6 (by omega) (by omega) fun r4 M7 hr4 k7 p7 => ?_
    obtain ⟨v, hv, hvl⟩ : ∃ v : Nat, atI [nD r1, nD r2, nD (2 ^ r3), D.int ((2 ^ 20 : Nat) - 1)] (r4 : Int) = some (nD v) ∧ v < 2 ^ 20 := by
      have : r4 = 0 ∨ r4 = 1 ∨ r4 = 2 ∨ r4 = 3 := by omega
      have e20 : (2 : Nat) ^ 20 = 1048576 := by decide
      rcases this with e | e | e | e <;> subst e
      · exact ⟨r1, W.at0, by omega⟩
      · exact ⟨r2, W.at1, by omega⟩
      · exact ⟨2 ^ r3, W.at2, Nat.pow_lt_pow_right (by decide) (by omega)⟩
      · exact ⟨2 ^ 20 - 1, W.at3, by omega⟩
    refine W.ixT hv ?_
    walk_at "dl_ev"
    exact s_numb2 p7 hvl go
  · rw [Nat.zero_testBit]
    exact (decide_eq_false fun h => by have := hl20 _ h; omega).symm
  · rw [Nat.zero_mul]
    have : l.filter (20 ≤ ·) = [] := List.filter_eq_nil_iff.mpr fun x hx => by
      have := hl20 x hx
      simp
      omega
    rw [this]
    rfl
end

/-! ### _law_any -/
theorem val_q (m : Nat) (ps : List (List Nat × Nat)) : Val (quotasD m ps) := .tup _ fun x hx => by
  simp at hx
  rcases hx with e | e | e <;> subst e
  · exact .str _ (by kernel_rfl)
  · exact .int _
  · refine .tup _ fun y hy => ?_
    obtain ⟨p, _, rfl⟩ := List.mem_map.mp hy
    refine .tup _ fun z hz => ?_
    simp at hz
    rcases hz with e | e <;> subst e
    · exact val_ints _
    · exact .int _
theorem szs_parts : ∀ ps : List (List Nat × Nat), szs (ps.map partD) = (ps.map fun p => p.1.length + 3).sum
  | [] => rfl
  | p :: ps => by
    show sz (partD p) + szs (ps.map partD) = _
    rw [szs_parts ps, List.map_cons, List.sum_cons]
    have : sz (partD p) = sz (tN p.1) + (1 + 0) + 1 := rfl
    rw [this, sz_tN]
    try omega
theorem sz_q (m : Nat) (ps : List (List Nat × Nat)) : sz (quotasD m ps) = (ps.map fun p => p.1.length + 3).sum + 4 := by
  show 1 + (1 + (szs (ps.map partD) + 1 + 0)) + 1 = _
  rw [szs_parts]
  omega
theorem filter_range {m : Nat} {l : List Nat} (h : Lot m l) : (List.range m).filter (· ∈ l) = l := by
  refine sorted_ext (List.pairwise_lt_range.filter _) h.1 fun x => ?_
  rw [List.mem_filter, List.mem_range]
  exact ⟨fun q => by simpa using q.2, fun q => ⟨h.2 x q, by simpa using q⟩⟩
section
variable {k n d : Nat} {ex : XP} {M : Mem} {P : Po}
theorem s_lany (hp : Pool M n d) (go : ∀ M', Pool M' n d → P (.bl true) M') : sem T (k + 6) 42 ex [.ref n] M P := by
  have szl : sizeLine = 16777216 := by decide
  refine u42 ?_
  unfold c_law_any
  walk_at "dl_ev"
  refine s_dip (k := k + 4) hp (by omega) (by omega) fun r1 M1 hr1 k1 p1 => ?_
  walk_at "dl_ev"
  refine s_dip (k := k + 4) p1 (by omega) (by omega) fun r2 M2 hr2 k2 p2 => ?_
  walk_at "dl_ev"
  obtain ⟨m, hm, hm20⟩ : ∃ m : Nat, atI [nD r1, D.int 20] (if decide ((r2 : Int) = 0) = true then (1 : Int) else 0) = some (nD m) ∧ m ≤ 20 := by
    by_cases h : (r2 : Int) = 0
    · exact ⟨20, by rw [if_pos (decide_eq_true h)]; exact W.at1, by omega⟩
    · exact ⟨r1, by rw [if_neg (by simpa using h)]; exact W.at0, by omega⟩
  refine W.ixT hm ?_
  walk_at "dl_ev"
  refine s_dip (k := k + 4) p2 (by omega) (by omega) fun r3 M3 hr3 k3 p3 => ?_
  walk_at "dl_ev"
  refine W.pow ⟨by decide, by decide, by decide⟩ ?_
  walk_at "dl_ev"
  refine s_dip (k := k + 4) p3 (by omega) (by omega) fun r4 M4 hr4 k4 p4 => ?_
  obtain ⟨q, hq⟩ : ∃ q : Nat, atI [D.int 0, D.int 1, D.int 2, nD r3, D.int (10 ^ (6 : Int).toNat)] (r4 : Int) = some (nD q) := by
    have : r4 = 0 ∨ r4 = 1 ∨ r4 = 2 ∨ r4 = 3 ∨ r4 = 4 := by omega
    rcases this with e | e | e | e | e <;> subst e
    · exact ⟨0, W.at0⟩
    · exact ⟨1, W.at1⟩
    · exact ⟨2, W.at2⟩
    · exact ⟨r3, W.at3⟩
    · exact ⟨10 ^ 6, W.at4⟩
  refine W.ixT hq ?_
  walk_at "dl_ev"
  refine ⟨⟨by omega, by omega, by omega, by omega, by omega⟩, ?_⟩
  rw [show ((m : Int) - 0).toNat = m by omega, rng0]
  walk_at "dl_ev"
  refine s_free (k := k + 4) ?_
  walk_at "dl_ev"
  refine s_any (k := k + 4) (by omega) ?_
  walk_at "dl_ev"
  have hv1 : Val (D.tup [quotasD m [], quotasD m [(List.range m, q)]]) := .tup _ fun x hx => by
    simp at hx
    rcases hx with e | e <;> subst e
    · exact val_q m []
    · exact val_q m [(List.range m, q)]
  refine s_same (k := k + 4) (a := D.tup [quotasD m [], quotasD m [(List.range m, q)]]) hv1 ?_ fun M5 ap => ?_
  · show sz (quotasD m []) + (sz (quotasD m [(List.range m, q)]) + 0) + 1 ≤ _
    rw [sz_q, sz_q]
    simp
    omega
  have p5 := p4.apd ap
  walk_at "dl_ev"
  unfold c_law_any_s1
  walk_at "dl_ev"
  refine s_lot (k := k + 3) p5 (by omega) fun l M6 hl k6 p6 => ?_
  walk_at "dl_ev"
  refine s_free (k := k + 4) ?_
  walk_at "dl_ev"
  refine s_watchq (k := k) hl (by omega) ?_
  walk_at "dl_ev"
  refine s_any (k := k + 4) (by omega) ?_
  walk_at "dl_ev"
  refine s_watchq (k := k) hl (by omega) ?_
  walk_at "dl_ev"
  refine s_free (k := k + 4) ?_
  walk_at "dl_ev"
  refine s_watchq (k := k) (Lot.range m) (by omega) ?_
  walk_at "dl_ev"
  have e1 : keeps [] l = true := rfl
  have e2 : keeps [(List.range m, q)] l = decide (l.length ≤ q) := by
    unfold keeps
    rw [List.all_cons, List.all_nil, Bool.and_true]
    show decide (((List.range m).filter (· ∈ l)).length ≤ q) = _
    rw [filter_range hl]
  have e3 : keeps [] (List.range m) = true := rfl
  have e4 : decide (((l.map nD).length : Int) ≤ (q : Int)) = decide (l.length ≤ q) := by
    rw [List.length_map, Bool.eq_iff_iff, decide_eq_true_eq, decide_eq_true_eq]
    omega
  rw [e1, e2, e3, e4]
  refine s_same (k := k + 4) (.tup _ fun x hx => ?_) (by simp [sz, szs]) fun M7 ap7 => go _ (p6.apd ap7)
  simp at hx
  rcases hx with e | e | e <;> subst e <;> exact .bl _
end

/-! ### rooms, plainly -/
theorem plt (f s : Nat) : (List.range' f s).Pairwise (· < ·) := List.pairwise_lt_range' ..
def takes : Nat → List Nat → Nat → List Nat
  | _, [], _ => []
  | f, s :: r, q => (List.range' f s).take q ++ takes (f + s) r q
theorem takes_sub : ∀ (ss : List Nat) (f q : Nat), (takes f ss q).Sublist (List.range' f ss.sum)
  | [], _, _ => List.Sublist.refl _
  | s :: r, f, q => by
    have e : List.range' f (s :: r).sum = List.range' f s ++ List.range' (f + s) r.sum := by
      rw [List.sum_cons, ← List.range'_append_1]
    rw [e]
    exact (List.take_sublist _ _).append (takes_sub r (f + s) q)
theorem takes_lot (ss : List Nat) (q : Nat) : Lot ss.sum (takes 0 ss q) := by
  have h := takes_sub ss 0 q
  refine ⟨(plt 0 ss.sum).sublist h, fun x hx => ?_⟩
  have := h.subset hx
  rw [List.mem_range'_1] at this
  omega
theorem takes_lo {ss : List Nat} {f q x : Nat} (h : x ∈ takes f ss q) : f ≤ x ∧ x < f + ss.sum := by
  have := (takes_sub ss f q).subset h
  rw [List.mem_range'_1] at this
  exact this
theorem keeps_cons {p : List Nat × Nat} {ps : List (List Nat × Nat)} {X : List Nat} : keeps (p :: ps) X = (decide ((p.1.filter (· ∈ X)).length ≤ p.2) && keeps ps X) := rfl
theorem keep_good (q : Nat) (X : List Nat) : ∀ (ss : List Nat) (f : Nat), (∀ y, f ≤ y → (y ∈ X ↔ y ∈ takes f ss q)) → keeps (rooms f ss q) X = true
  | [], _, _ => rfl
  | s :: r, f, h => by
    show keeps ((List.range' f s, q) :: rooms (f + s) r q) X = true
    rw [keeps_cons, keep_good q X r (f + s) fun y hy => ?_, Bool.and_true, decide_eq_true_eq]
    · show ((List.range' f s).filter (· ∈ X)).length ≤ q
      have e : (List.range' f s).filter (· ∈ X) = (List.range' f s).take q := by
        refine sorted_ext ((plt f s).filter _) ((plt f s).sublist (List.take_sublist _ _)) fun y => ?_
        rw [List.mem_filter, List.mem_range'_1]
        constructor
        · rintro ⟨h1, h2⟩
          have h2 : y ∈ X := by simpa using h2
          rcases List.mem_append.mp ((h y h1.1).mp h2) with z | z
          · exact z
          · have := (takes_lo z).1
            omega
        · intro z
          have h1 := List.mem_range'_1.mp (List.mem_of_mem_take z)
          exact ⟨h1, by simpa using (h y h1.1).mpr (List.mem_append_left _ z)⟩
      rw [e, List.length_take]
      omega
    · rw [h y (by omega)]
      show y ∈ _ ++ _ ↔ _
      rw [List.mem_append]
      refine ⟨fun z => z.elim (fun z => ?_) id, .inr⟩
      have := List.mem_range'_1.mp (List.mem_of_mem_take z)
      omega
theorem keep_bad (q : Nat) (X : List Nat) (x : Nat) : ∀ (ss : List Nat) (f : Nat), x ∉ takes f ss q → f ≤ x → x < f + ss.sum → (∀ y, f ≤ y → (y ∈ X ↔ y ∈ takes f ss q ∨ y = x)) → keeps (rooms f ss q) X = false
  | [], f, _, h1, h2, _ => by simp at h2; omega
  | s :: r, f, hx, h1, h2, h => by
    have hx : x ∉ (List.range' f s).take q ++ takes (f + s) r q := hx
    rw [List.mem_append, not_or] at hx
    show keeps ((List.range' f s, q) :: rooms (f + s) r q) X = false
    rw [keeps_cons]
    rcases Nat.lt_or_ge x (f + s) with z | z
    · have hl : ¬ ((List.range' f s).filter (· ∈ X)).length ≤ q := by
        have e := List.take_append_drop q (List.range' f s)
        have hxm : x ∈ List.range' f s := List.mem_range'_1.mpr ⟨h1, z⟩
        have hxd : x ∈ (List.range' f s).drop q := by
          rw [← e, List.mem_append] at hxm
          exact hxm.resolve_left hx.1
        have hq : q < s := by
          rcases Nat.lt_or_ge q s with w | w
          · exact w
          · rw [List.drop_eq_nil_of_le (by simpa using w)] at hxd
            cases hxd
        rw [← e, List.filter_append, List.length_append]
        have e1 : ((List.range' f s).take q).filter (· ∈ X) = (List.range' f s).take q := List.filter_eq_self.mpr fun y hy => by
          have := List.mem_range'_1.mp (List.mem_of_mem_take hy)
          simpa using (h y this.1).mpr (.inl (List.mem_append_left _ hy))
        have e2 : 0 < (((List.range' f s).drop q).filter (· ∈ X)).length := List.length_pos_of_mem (a := x) (List.mem_filter.mpr ⟨hxd, by simpa using (h x h1).mpr (.inr rfl)⟩)
        rw [e1, List.length_take, List.length_range']
        omega
      have hd : decide ((((List.range' f s, q) : List Nat × Nat).1.filter (· ∈ X)).length ≤ ((List.range' f s, q) : List Nat × Nat).2) = false := decide_eq_false hl
      rw [hd]
      rfl
    · rw [keep_bad q X x r (f + s) hx.2 z (by simp at h2; omega) fun y hy => ?_, Bool.and_false]
      rw [h y (by omega)]
      show y ∈ _ ++ _ ∨ _ ↔ _
      rw [List.mem_append]
      refine ⟨fun w => w.elim (fun w => w.elim (fun w => ?_) .inl) .inr, fun w => w.elim (fun w => .inl (.inr w)) .inr⟩
      have := List.mem_range'_1.mp (List.mem_of_mem_take w)
      omega
theorem rooms_len : ∀ (ss : List Nat) (f q : Nat), (rooms f ss q).length = ss.length
  | [], _, _ => rfl
  | s :: r, f, q => by
    show (rooms (f + s) r q).length + 1 = r.length + 1
    rw [rooms_len r]
theorem rooms_sz : ∀ (ss : List Nat) (f q : Nat), ((rooms f ss q).map fun p => p.1.length + 3).sum = ss.sum + 3 * ss.length
  | [], _, _ => rfl
  | s :: r, f, q => by
    show (List.range' f s).length + 3 + ((rooms (f + s) r q).map fun p => p.1.length + 3).sum = (s + r.sum) + 3 * (r.length + 1)
    rw [rooms_sz r, List.length_range']
    omega
theorem rooms_fst : ∀ (ss : List Nat) (f q : Nat), (rooms f ss q).flatMap (fun p => p.1.take q) = takes f ss q
  | [], _, _ => rfl
  | s :: r, f, q => by
    show (List.range' f s).take q ++ (rooms (f + s) r q).flatMap _ = _
    rw [rooms_fst r]
    rfl

/-! ### _law_rooms -/
section
variable {k n d : Nat} {ex : XP} {M : Mem} {P : Po} {o1 o2 o3 o4 o10 o11 : Option D}
theorem K2.ap {n d : Nat} {M M' M'' : Mem} (a : K2 n d M M') (b : Apd M' M'') : K2 n d M M'' := a.trans b.k2
/-- the last part: a lot of all rooms, one thing more -/
theorem s_rooms3 {ss : List Nat} {q c r5 : Nat} (hp : Pool M n d) (hs : ss.sum ≤ 20) (hl : ss.length ≤ 20) (hc : M[c]? = some (.lst ((takes 0 ss q).map nD))) (hcn : c ≠ n) (hcd : c ≠ d) (go : ∀ M', Pool M' n d → P (.bl true) M') :
    c_law_rooms_s3 ⟨sem T (k + 5), fun _ => ex⟩ ⟨fun _ M' => P .non M', P, fun _ _ => False, fun _ _ => False⟩ [some (.ref n), o1, o2, o3, o4, some (nD q), some (.ref r5), some (nD ss.sum), some (quotasD ss.sum (rooms 0 ss q)), some (.ref c), o10, o11, none, none] M := by
  have szl : sizeLine = 16777216 := by decide
  have hlot := takes_lot ss q
  have hlen := hlot.len
  have hpn := hp.ltn
  have hpd := hp.ltd
  have hcl := lt_of_get hc
  unfold c_law_rooms_s3
  walk_at "dl_ev"
  refine s_watchq (k := k) hlot (by omega) ?_
  rw [keep_good q (takes 0 ss q) ss 0 fun y _ => Iff.rfl]
  walk_at "dl_ev"
  refine s_same (k := k + 4) (.bl true) (by simp [sz]) fun M1 ap1 => ?_
  walk_at "dl_ev"
  unfold c_law_rooms_s2
  walk_at "dl_ev"
  refine ⟨⟨by omega, by omega⟩, ?_⟩
  rw [Int.toNat_natCast, rng0]
  have hc1 := ap1.get hc
  refine cloop_pure (fun x => match x with | .int i => !decide (i.toNat ∈ takes 0 ss q) | _ => false) id True.intro _ _ ?_ ?_
  · intro x hx acc K hK
    obtain ⟨i, hi, rfl⟩ := List.mem_map.mp hx
    have hK : K (if (!decide (((i : Int)).toNat ∈ takes 0 ss q)) = true then acc ++ [nD i] else acc) M1 := hK
    rw [Int.toNat_natCast] at hK
    unfold c_law_rooms_t1
    walk_at "dl_ev"
    refine notinN (seqL hc1) ?_
    walk_at "dl_ev"
    by_cases h : i ∈ takes 0 ss q
    · rw [decide_eq_true h] at hK ⊢
      exact hK
    · rw [decide_eq_false h] at hK ⊢
      walk_at "dl_ev"
      exact hK
  · rw [List.filter_map, List.map_map, Function.id_comp, List.nil_append]
    have e : (List.range ss.sum).filter ((fun x => match x with | D.int i => !decide (i.toNat ∈ takes 0 ss q) | _ => false) ∘ nD) = (List.range ss.sum).filter fun i => !decide (i ∈ takes 0 ss q) := by
      refine List.filter_congr fun i _ => ?_
      show (!decide (((i : Int)).toNat ∈ takes 0 ss q)) = _
      rw [Int.toNat_natCast]
    rw [e]
    have hspot : ∀ x ∈ (List.range ss.sum).filter fun i => !decide (i ∈ takes 0 ss q), x < ss.sum ∧ x ∉ takes 0 ss q := fun x hx => by
      obtain ⟨h1, h2⟩ := List.mem_filter.mp hx
      exact ⟨List.mem_range.mp h1, by simpa using h2⟩
    have hsl : ((List.range ss.sum).filter fun i => !decide (i ∈ takes 0 ss q)).length ≤ 20 := by
      have := List.length_filter_le (fun i => !decide (i ∈ takes 0 ss q)) (List.range ss.sum)
      rw [List.length_range] at this
      omega
    show (fun ds M1 => _) (((List.range ss.sum).filter fun i => !decide (i ∈ takes 0 ss q)).map nD) M1
    generalize (List.range ss.sum).filter (fun i => !decide (i ∈ takes 0 ss q)) = sp at hspot hsl
    dsimp only
    have p1 := hp.apd ap1
    walk_at "dl_ev"
    refine W.dec (fun h => ?_) fun h => ?_
    · walk_at "dl_ev"
      exact go _ (p1.apd Apd.one)
    · walk_at "dl_ev"
      unfold c_law_rooms_s1
      have hspl : 0 < sp.length := by
        rw [List.length_map] at h
        omega
      walk_at "dl_ev"
      rw [List.length_map]
      refine s_dip (k := k + 4) (p1.apd Apd.one) (by omega) (by omega) fun r M2 hr k2 p2 => ?_
      have hrl : r < sp.length := by omega
      have hsp2 : M2[M1.length]? = some (.lst (sp.map nD)) := k2.get get_new (by have := p1.ltn; omega) (by have := p1.ltd; omega)
      have hc2 : M2[c]? = some (.lst ((takes 0 ss q).map nD)) := k2.get (get_app hc1) hcn hcd
      obtain ⟨h1, h2⟩ := hspot sp[r] (List.getElem_mem hrl)
      generalize hx : sp[r] = x at h1 h2
      refine W.ixL hsp2 (atN (v := x) (by rw [List.getElem?_eq_getElem hrl, hx])) ?_
      have hl2 : ((takes 0 ss q).map nD).length < sizeLine := by rw [List.length_map]; omega
      walk_at "dl_ev"
      have hc3 : (M2.set c (.lst ((takes 0 ss q).map nD ++ [nD x])))[c]? = some (.lst ((takes 0 ss q ++ [x]).map nD)) := by rw [get_set_self hc2]; simp
      refine sortN (seqL hc3) ?_ fun ms hms hmm => ?_
      · rw [List.nodup_append]
        refine ⟨hlot.1.imp fun {a b} q => Nat.ne_of_lt q, by simp, fun a ha b hb => ?_⟩
        have : b = x := by simpa using hb
        subst this
        exact fun z => h2 (by rw [← z]; exact ha)
      · have hmem : ∀ y, y ∈ ms ↔ y ∈ takes 0 ss q ∨ y = x := fun y => by rw [hmm y, List.mem_append, List.mem_singleton]
        walk_at "dl_ev"
        refine s_watchq (k := k) (l := ms) ⟨hms, fun y hy => ?_⟩ (by omega) ?_
        · rcases (hmem y).mp hy with z | z
          · exact hlot.2 y z
          · omega
        rw [keep_bad q ms x ss 0 h2 (Nat.zero_le _) (by omega) fun y _ => hmem y]
        walk_at "dl_ev"
        refine s_same (k := k + 4) (.bl false) (by simp [sz]) fun M4 ap4 => ?_
        exact go _ (((p2.set hcn hcd).apd Apd.one).apd ap4)
end

section
variable {k n d : Nat} {ex : XP} {M : Mem} {P : Po} {o1 o2 o3 o4 o8 o10 o11 : Option D}
/-- the rule is told; the lot is gathered -/
theorem s_rooms5 {ss : List Nat} {q c : Nat} (hp : Pool M n d) (hs : ss.sum ≤ 20) (hl : ss.length ≤ 20) (hc : M[c]? = some (.lst ((rooms 0 ss q).map partD))) (hcn : c ≠ n) (hcd : c ≠ d) (go : ∀ M', Pool M' n d → P (.bl true) M') :
    c_law_rooms_s5 ⟨sem T (k + 5), fun _ => ex⟩ ⟨fun _ M' => P .non M', P, fun _ _ => False, fun _ _ => False⟩ [some (.ref n), o1, some (.tup (ss.map nD)), o3, o4, some (nD q), some (.ref c), some (nD ss.sum), none, none, none, none, none, none] M := by
  have szl : sizeLine = 16777216 := by decide
  have hpn := hp.ltn
  have hpd := hp.ltd
  have hcl := lt_of_get hc
  unfold c_law_rooms_s5
  walk_at "dl_ev"
  refine s_rooms (k := k + 4) (by omega) (by omega) fun M1 ap1 => ?_
  walk_at "dl_ev"
  refine s_same (k := k + 4) (a := quotasD ss.sum (rooms 0 ss q)) (val_q _ _) (by rw [sz_q, rooms_sz]; omega) fun M2 ap2 => ?_
  have ap := ap1.trans ap2
  have p2 := hp.apd ap
  have hc2 := ap.get hc
  have hl2 := ap.len
  walk_at "dl_ev"
  unfold c_law_rooms_s4
  walk_at "dl_ev"
  refine floop_inv (fun xs ρ M' => ∃ (a r : List (List Nat × Nat)) (g : Nat) (o10 o11 : Option D), a ++ r = rooms 0 ss q ∧ xs = r.map partD ∧ ρ = [some (.ref n), o1, some (.tup (ss.map nD)), o3, o4, some (nD q), some (.ref c), some (nD ss.sum), some (quotasD ss.sum (rooms 0 ss q)), some (.ref g), o10, o11, none, none] ∧ M'[g]? = some (.lst ((a.flatMap fun p => p.1.take q).map nD)) ∧ M.length ≤ g ∧ Pool M' n d ∧ M'[c]? = some (.lst ((rooms 0 ss q).map partD))) ?_ ?_ _ _ _
    ⟨[], rooms 0 ss q, M2.length, none, none, rfl, rfl, rfl, get_new, hl2, p2.apd Apd.one, get_app hc2⟩
  · rintro x xs ρ M' ⟨a, r, g, o10, o11, ha, e, rfl, hg, hgl, hp', hc'⟩
    cases r with
    | nil => cases e
    | cons p r =>
      obtain ⟨e1, e2⟩ := List.cons.inj e
      subst e1 e2
      refine ⟨hc', fun K hK => ?_⟩
      have hsub : (a.flatMap fun p => p.1.take q).length + (p.1.take q).length ≤ 20 := by
        have h1 := (takes_lot ss q).len
        rw [← rooms_fst, ← ha, List.flatMap_append, List.flatMap_cons, List.length_append, List.length_append] at h1
        omega
      unfold c_law_rooms_g1 c_law_rooms_b3 partD
      walk_at "dl_ev"
      rw [W.cut_to, ← List.map_take]
      have hsz : ((a.flatMap fun p => p.1.take q).map nD).length + ((p.1.take q).map nD).length ≤ sizeLine := by rw [List.length_map, List.length_map]; omega
      walk_at "dl_ev"
      refine hK _ _ ⟨a ++ [p], r, _, _, _, by rw [List.append_assoc]; exact ha, rfl, rfl, ?_, ?_, (hp'.apd Apd.one).apd Apd.one, get_app (get_app hc')⟩
      · rw [get_new, List.flatMap_append, List.map_append]
        simp
      · have := lt_of_get hg
        simp
        omega
  · rintro ρ M' ⟨a, r, g, o10, o11, ha, e, rfl, hg, hgl, hp', hc'⟩
    have : r = [] := by cases r with | nil => rfl | cons x r => cases e
    subst this
    rw [List.append_nil] at ha
    subst ha
    rw [rooms_fst] at hg
    refine ⟨hc', ?_⟩
    exact s_rooms3 hp' hs hl hg (by omega) (by omega) go
/-- the parts are made -/
theorem s_rooms6 {ss : List Nat} (hp : Pool M n d) (hs : ss.sum ≤ 20) (hl : ss.length ≤ 20) (go : ∀ M', Pool M' n d → P (.bl true) M') :
    c_law_rooms_s6 ⟨sem T (k + 5), fun _ => ex⟩ ⟨fun _ M' => P .non M', P, fun _ _ => False, fun _ _ => False⟩ [some (.ref n), o1, some (.tup (ss.map nD)), o3, o4, none, none, none, none, none, none, none, none, none] M := by
  have szl : sizeLine = 16777216 := by decide
  unfold c_law_rooms_s6
  walk_at "dl_ev"
  refine W.pow ⟨by decide, by decide, by decide⟩ ?_
  walk_at "dl_ev"
  refine s_dip (k := k + 4) hp (by omega) (by omega) fun r4 M1 hr4 k1 p1 => ?_
  obtain ⟨q, hq⟩ : ∃ q : Nat, atI [D.int 0, D.int 1, D.int 1, D.int 2, D.int (10 ^ (6 : Int).toNat)] (r4 : Int) = some (nD q) := by
    have : r4 = 0 ∨ r4 = 1 ∨ r4 = 2 ∨ r4 = 3 ∨ r4 = 4 := by omega
    rcases this with e | e | e | e | e <;> subst e
    · exact ⟨0, W.at0⟩
    · exact ⟨1, W.at1⟩
    · exact ⟨1, W.at2⟩
    · exact ⟨2, W.at3⟩
    · exact ⟨10 ^ 6, W.at4⟩
  refine W.ixT hq ?_
  have hpn := p1.ltn
  have hpd := p1.ltd
  walk_at "dl_ev"
  refine floop_inv (fun xs ρ M' => ∃ (a r : List Nat) (o4 : Option D), a ++ r = ss ∧ ρ = [some (.ref n), o1, some (.tup (ss.map nD)), o3, o4, some (nD q), some (.ref M1.length), some (nD a.sum), none, none, none, none, none, none] ∧ xs = r.map nD ∧ M'[M1.length]? = some (.lst ((rooms 0 a q).map partD)) ∧ Pool M' n d) ?_ ?_ _ _ _ ⟨[], ss, o4, rfl, rfl, rfl, get_new, p1.apd Apd.one⟩
  · rintro x xs ρ M' ⟨a, r, o4, ha, rfl, e, hM, hp'⟩
    cases r with
    | nil => cases e
    | cons s r =>
      obtain ⟨e1, e2⟩ := List.cons.inj e
      subst e1 e2
      have hsum : a.sum + s + r.sum = ss.sum := by rw [← ha]; simp; omega
      have hlen : a.length + 1 + r.length = ss.length := by rw [← ha]; simp; omega
      refine ⟨True.intro, fun K hK => ?_⟩
      have hsl : ((rooms 0 a q).map partD).length < sizeLine := by rw [List.length_map, rooms_len]; omega
      unfold c_law_rooms_b2
      walk_at "dl_ev"
      refine ⟨⟨by omega, by omega⟩, ?_⟩
      rw [Int.toNat_natCast, rng0]
      refine cloop_pure (fun _ => true) (fun x => match x with | .int i => .int (a.sum + i) | _ => .non) True.intro _ _ ?_ ?_
      · intro x hx acc K hK
        obtain ⟨i, _, rfl⟩ := List.mem_map.mp hx
        unfold c_law_rooms_e1
        walk_at "dl_ev"
        exact hK
      · rw [List.filter_eq_self.mpr (fun _ _ => rfl), List.map_map, List.nil_append]
        have e : (List.range s).map ((fun x => match x with | D.int i => D.int (a.sum + i) | _ => .non) ∘ nD) = (List.range' a.sum s).map nD := by
          rw [List.range'_eq_map_range, List.map_map]
          refine List.map_congr_left fun i _ => ?_
          show D.int ((a.sum : Int) + (i : Int)) = D.int ((a.sum + i : Nat) : Int)
          congr 1
          try omega
        rw [e]
        walk_at "dl_ev"
        refine hK _ _ ⟨a ++ [s], r, some (nD s), by rw [List.append_assoc]; exact ha, ?_, rfl, ?_, hp'.set (by omega) (by omega)⟩
        · have : ((a ++ [s]).sum : Nat) = a.sum + s := by simp
          rw [this]
          rfl
        · rw [get_set_self hM, rooms_snoc, List.map_append, Nat.zero_add]
          rfl
  · rintro ρ M' ⟨a, r, o4, ha, rfl, e, hM, hp'⟩
    have : r = [] := by cases r with | nil => rfl | cons x r => cases e
    subst this
    rw [List.append_nil] at ha
    subst ha
    refine ⟨True.intro, ?_⟩
    exact s_rooms5 hp' hs hl hM (by omega) (by omega) go
theorem s_lrooms (hp : Pool M n d) (go : ∀ M', Pool M' n d → P (.bl true) M') : sem T (k + 6) 43 ex [.ref n] M P := by
  have szl : sizeLine = 16777216 := by decide
  refine u43 ?_
  unfold c_law_rooms
  walk_at "dl_ev"
  refine s_dip (k := k + 4) hp (by omega) (by omega) fun h M1 hh k1 p1 => ?_
  walk_at "dl_ev"
  refine s_dip (k := k + 4) p1 (by omega) (by omega) fun r1 M2 hr1 k2 p2 => ?_
  obtain ⟨t0, ht0, ht⟩ : ∃ t : Nat, atI [nD r1, D.int 0, D.int 20, D.int 4] (h : Int) = some (nD t) ∧ t ≤ 20 := by
    have : h = 0 ∨ h = 1 ∨ h = 2 ∨ h = 3 := by omega
    rcases this with e | e | e | e <;> subst e
    · exact ⟨r1, W.at0, by omega⟩
    · exact ⟨0, W.at1, by omega⟩
    · exact ⟨20, W.at2, by omega⟩
    · exact ⟨4, W.at3, by omega⟩
  walk_at "dl_ev"
  refine ⟨⟨by omega, by omega⟩, ?_⟩
  rw [Int.toNat_natCast]
  refine floop_inv (fun xs ρ M' => ∃ (i : Nat) (ss : List Nat) (o3 o4 : Option D), i ≤ t0 ∧ xs = rngI i (t0 - i) ∧ ρ = [some (.ref n), some (nD h), some (.tup (ss.map nD)), o3, o4, none, none, none, none, none, none, none, none, none] ∧ ss.sum ≤ 20 ∧ ss.length ≤ i ∧ Pool M' n d) ?_ ?_ _ _ _ ⟨0, [], none, none, Nat.zero_le _, rfl, rfl, Nat.zero_le _, Nat.zero_le _, p2⟩
  · rintro x xs ρ M' ⟨i, ss, o3, o4, hi, e, rfl, hsum, hlen, hp'⟩
    obtain ⟨hlt, rfl, rfl⟩ := rng_next e
    refine ⟨True.intro, fun K hK => ?_⟩
    unfold c_law_rooms_b1
    walk_at "dl_ev"
    refine s_dip (k := k + 4) hp' (by omega) (by omega) fun a1 N1 ha1 l1 q1 => ?_
    walk_at "dl_ev"
    refine s_dip (k := k + 4) q1 (by omega) (by omega) fun a2 N2 ha2 l2 q2 => ?_
    walk_at "dl_ev"
    refine s_dip (k := k + 4) q2 (by omega) (by omega) fun a3 N3 ha3 l3 q3 => ?_
    have ha2' : a2 ≤ 2 := by omega
    have ha3' : a3 ≤ 2 := by omega
    refine W.mul (W.mulR (by omega)) ?_
    have em : (a2 : Int) * (a3 : Int) = ((a2 * a3 : Nat) : Int) := by simp
    rw [em]
    walk_at "dl_ev"
    obtain ⟨s, hs⟩ : ∃ s : Nat, atI [nD a1, D.int 0, D.int 1, nD (a2 * a3)] (h : Int) = some (nD s) := by
      have : h = 0 ∨ h = 1 ∨ h = 2 ∨ h = 3 := by omega
      rcases this with e | e | e | e <;> subst e
      · exact ⟨a1, W.at0⟩
      · exact ⟨0, W.at1⟩
      · exact ⟨1, W.at2⟩
      · exact ⟨a2 * a3, W.at3⟩
    refine W.ixT hs ?_
    walk_at "dl_ev"
    refine sumT ?_
    walk_at "dl_ev"
    refine W.dec (fun hle => ?_) fun hle => ?_
    · walk_at "dl_ev"
      refine W.addT (by rw [List.length_map]; show ss.length + 1 ≤ _; omega) ?_
      walk_at "dl_ev"
      refine hK _ _ ⟨i + 1, ss ++ [s], _, _, hlt, rfl, by rw [List.map_append]; rfl, ?_, by simp; omega, q3⟩
      rw [List.sum_append, List.sum_cons, List.sum_nil]
      omega
    · walk_at "dl_ev"
      exact hK _ _ ⟨i + 1, ss, _, _, hlt, rfl, rfl, hsum, by omega, q3⟩
  · rintro ρ M' ⟨i, ss, o3, o4, hi, e, rfl, hsum, hlen, hp'⟩
    refine ⟨True.intro, ?_⟩
    exact s_rooms6 hp' hsum (by omega) go
end

/-! ### webs, plainly -/
def wf (places : Nat) (ts : List (Nat × Nat)) (l : List Nat) : Bool := forest (List.range places) (l.map fun i => ts.getD i (0, 0))
theorem ring_len {m : Nat} (h : 1 ≤ m) : (ring m).length = m := by
  unfold ring
  simp
  omega
theorem ring_lt {m : Nat} (h : 1 ≤ m) : ∀ t ∈ ring m, t.1 < m ∧ t.2 < m := by
  intro t ht
  unfold ring at ht
  rcases List.mem_append.mp ht with z | z
  · obtain ⟨p, hp, rfl⟩ := List.mem_map.mp z
    have := List.mem_range.mp hp
    exact ⟨by show p < m; omega, by show p + 1 < m; omega⟩
  · have : t = (0, m - 1) := by simpa using z
    subst this
    exact ⟨by show 0 < m; omega, by show m - 1 < m; omega⟩
theorem ring_whole : ∀ m : Nat, m < 21 → 1 ≤ m → wf m (ring m) (List.range m) = false := by decide +kernel
theorem ring_less : ∀ m : Nat, m < 21 → ∀ g, g < m → wf m (ring m) ((List.range m).filter fun x => !decide (x = g)) = true := by decide +kernel
def allp (n : Nat) : List (Nat × Nat) := (List.range n).flatMap fun a => ((List.range n).filter fun b => decide (a < b)).map fun b => (a, b)
def chainDec (n : Nat) : ∀ (a b : Nat) (r : List (Nat × Nat)), Decidable (Co.Chain n a b r)
  | a, b, [] => inferInstanceAs (Decidable (Co.nx n a b = none))
  | a, b, q :: r => @instDecidableAnd _ _ (inferInstanceAs (Decidable (Co.nx n a b = some [q.1, q.2]))) (chainDec n q.1 q.2 r)
instance (n a b : Nat) (r : List (Nat × Nat)) : Decidable (Co.Chain n a b r) := chainDec n a b r
theorem allp_ch : ∀ n : Nat, n < 7 → 2 ≤ n → allp n = (0, 1) :: (allp n).tail ∧ Co.Chain n 0 1 (allp n).tail := by decide +kernel
theorem allp_ok : ∀ n : Nat, 1 ≤ n → n < 7 → Co.Alls n (allp n) := by
  intro n h1 h2
  rcases Nat.lt_or_ge n 2 with z | z
  · have : n = 1 := by omega
    subst this
    exact .inl ⟨by decide, rfl⟩
  · obtain ⟨e, c⟩ := allp_ch n h2 z
    exact .inr ⟨z, _, e, c⟩
theorem allp_len : ∀ n : Nat, n < 7 → (allp n).length ≤ 15 := by decide
theorem allp_lt : ∀ n : Nat, n < 7 → ∀ t ∈ allp n, t.1 < n ∧ t.2 < n := by decide
def starL (n c : Nat) : List Nat := (List.range (allp n).length).filter fun i => decide (c ∈ [((allp n).getD i (0, 0)).1, ((allp n).getD i (0, 0)).2])
theorem star_good : ∀ n : Nat, n < 7 → ∀ c, c < n → wf n (allp n) (starL n c) = true := by decide +kernel
theorem star_bad : ∀ n : Nat, n < 7 → ∀ c, c < n → ∀ x, x < (allp n).length → x ∉ starL n c → wf n (allp n) ((List.range (allp n).length).filter fun y => decide (y ∈ starL n c ++ [x])) = false := by decide +kernel
theorem val_w (m p : Nat) (ts : List (Nat × Nat)) : Val (webD m p ts) := .tup _ fun x hx => by
  simp at hx
  rcases hx with e | e | e | e <;> subst e
  · exact .str _ (by kernel_rfl)
  · exact .int _
  · exact .int _
  · refine .tup _ fun y hy => ?_
    obtain ⟨p, _, rfl⟩ := List.mem_map.mp hy
    refine .tup _ fun z hz => ?_
    simp at hz
    rcases hz with e | e <;> subst e <;> exact .int _
theorem szs_prs : ∀ ts : List (Nat × Nat), szs (ts.map prD) = 3 * ts.length
  | [] => rfl
  | t :: ts => by
    show sz (prD t) + szs (ts.map prD) = _
    rw [szs_prs ts]
    show (1 + (1 + 0) + 1) + 3 * ts.length = 3 * (ts.length + 1)
    omega
theorem sz_w (m p : Nat) (ts : List (Nat × Nat)) : sz (webD m p ts) = 3 * ts.length + 5 := by
  show 1 + (1 + (1 + (szs (ts.map prD) + 1 + 0))) + 1 = _
  rw [szs_prs]
  omega

/-! ### _law_webs -/
section
variable {k n d : Nat} {ex : XP} {M : Mem} {P : Po} {o1 o2 o3 o4 o5 o6 o9 o10 o14 o15 : Option D}
/-- one tie more than a star -/
theorem s_webs2 {p c q : Nat} (hp : Pool M n d) (h1 : 1 ≤ p) (h7 : p < 7) (hc : c < p) (hq : M[q]? = some (.lst ((allp p).map prD))) (go : ∀ M', Pool M' n d → P (.bl true) M') :
    c_law_webs_s2 ⟨sem T (k + 5), fun _ => ex⟩ ⟨fun _ M' => P .non M', P, fun _ _ => False, fun _ _ => False⟩ [some (.ref n), o1, o2, o3, o4, o5, o6, some (nD p), some (.ref q), o9, o10, some (webD (allp p).length p (allp p)), some (nD c), some (tN (starL p c)), none, none] M := by
  have szl : sizeLine = 16777216 := by decide
  have hlen := allp_len p h7
  unfold c_law_webs_s2
  walk_at "dl_ev"
  refine ⟨⟨by omega, by simp; omega⟩, ?_⟩
  rw [List.length_map, Int.toNat_natCast, rng0]
  refine cloop_pure (fun x => match x with | .int i => !decide (i.toNat ∈ starL p c) | _ => false) id True.intro _ _ ?_ ?_
  · intro x hx acc K hK
    obtain ⟨i, hi, rfl⟩ := List.mem_map.mp hx
    have hK : K (if (!decide (((i : Int)).toNat ∈ starL p c)) = true then acc ++ [nD i] else acc) M := hK
    rw [Int.toNat_natCast] at hK
    unfold c_law_webs_t3
    walk_at "dl_ev"
    refine notinN rfl ?_
    walk_at "dl_ev"
    by_cases h : i ∈ starL p c
    · rw [decide_eq_true h] at hK ⊢
      exact hK
    · rw [decide_eq_false h] at hK ⊢
      walk_at "dl_ev"
      exact hK
  · rw [List.filter_map, List.map_map, Function.id_comp, List.nil_append]
    have e : (List.range (allp p).length).filter ((fun x => match x with | D.int i => !decide (i.toNat ∈ starL p c) | _ => false) ∘ nD) = (List.range (allp p).length).filter fun i => !decide (i ∈ starL p c) := by
      refine List.filter_congr fun i _ => ?_
      show (!decide (((i : Int)).toNat ∈ starL p c)) = _
      rw [Int.toNat_natCast]
    rw [e]
    have hspot : ∀ x ∈ (List.range (allp p).length).filter fun i => !decide (i ∈ starL p c), x < (allp p).length ∧ x ∉ starL p c := fun x hx => by
      obtain ⟨h1, h2⟩ := List.mem_filter.mp hx
      exact ⟨List.mem_range.mp h1, by simpa using h2⟩
    have hsl : ((List.range (allp p).length).filter fun i => !decide (i ∈ starL p c)).length ≤ 20 := by
      have := List.length_filter_le (fun i => !decide (i ∈ starL p c)) (List.range (allp p).length)
      rw [List.length_range] at this
      omega
    generalize (List.range (allp p).length).filter (fun i => !decide (i ∈ starL p c)) = sp at hspot hsl
    walk_at "dl_ev"
    refine W.dec (fun h => ?_) fun h => ?_
    · walk_at "dl_ev"
      exact go _ (hp.apd Apd.one)
    · walk_at "dl_ev"
      unfold c_law_webs_s1
      have hspl : 0 < sp.length := by
        rw [List.length_map] at h
        omega
      walk_at "dl_ev"
      rw [List.length_map]
      refine s_dip (k := k + 4) (hp.apd Apd.one) (by omega) (by omega) fun r M2 hr k2 p2 => ?_
      have hrl : r < sp.length := by omega
      have hsp2 : M2[M.length]? = some (.lst (sp.map nD)) := k2.get get_new (by have := hp.ltn; omega) (by have := hp.ltd; omega)
      obtain ⟨g1, g2⟩ := hspot sp[r] (List.getElem_mem hrl)
      generalize hx : sp[r] = x at g1 g2
      refine W.ixL hsp2 (atN (v := x) (by rw [List.getElem?_eq_getElem hrl, hx])) ?_
      have hst : Lot (allp p).length (starL p c) := (Lot.range _).filter _
      have hstl := hst.len
      walk_at "dl_ev"
      refine W.addT (by rw [List.length_map]; show (starL p c).length + 1 ≤ _; omega) ?_
      walk_at "dl_ev"
      refine sortN (l := starL p c ++ [x]) (by rw [List.map_append]; rfl) ?_ fun ms hms hmm => ?_
      · rw [List.nodup_append]
        refine ⟨hst.1.imp fun {a b} q => Nat.ne_of_lt q, by simp, fun a ha b hb => ?_⟩
        have : b = x := by simpa using hb
        subst this
        exact fun z => g2 (by rw [← z]; exact ha)
      · have hml : ∀ y ∈ ms, y < (allp p).length := fun y hy => by
          rcases List.mem_append.mp ((hmm y).mp hy) with z | z
          · exact hst.2 y z
          · have : y = x := by simpa using z
            omega
        have hme : ms = (List.range (allp p).length).filter fun y => decide (y ∈ starL p c ++ [x]) := by
          refine sorted_ext hms (List.pairwise_lt_range.filter _) fun y => ?_
          rw [List.mem_filter, List.mem_range, decide_eq_true_eq]
          exact ⟨fun z => ⟨hml y z, (hmm y).mp z⟩, fun z => (hmm y).mpr z.2⟩
        walk_at "dl_ev"
        refine s_watchw (k := k) (l := ms) ⟨hms, hml⟩ (by omega) (by omega) (allp_lt p h7) fun M4 ap4 => ?_
        have hb : forest (List.range p) (ms.map fun i => (allp p).getD i (0, 0)) = false := by
          rw [hme]
          exact star_bad p h7 c hc x g1 g2
        rw [hb]
        walk_at "dl_ev"
        refine s_same (k := k + 4) (.bl false) (by simp [sz]) fun M5 ap5 => ?_
        exact go _ (((p2.apd Apd.one).apd ap4).apd ap5)
/-- the star -/
theorem s_webs4 {p q : Nat} (hp : Pool M n d) (h1 : 1 ≤ p) (h7 : p < 7) (hq : M[q]? = some (.lst ((allp p).map prD))) (hqn : q ≠ n) (hqd : q ≠ d) (go : ∀ M', Pool M' n d → P (.bl true) M') :
    c_law_webs_s4 ⟨sem T (k + 5), fun _ => ex⟩ ⟨fun _ M' => P .non M', P, fun _ _ => False, fun _ _ => False⟩ [some (.ref n), o1, o2, o3, o4, o5, o6, some (nD p), some (.ref q), o9, o10, none, none, none, none, none] M := by
  have szl : sizeLine = 16777216 := by decide
  have hlen := allp_len p h7
  unfold c_law_webs_s4
  walk_at "dl_ev"
  rw [List.length_map]
  refine s_pairs (k := k + 4) (by omega) (allp_ok p h1 h7) (by omega) ?_
  walk_at "dl_ev"
  refine s_same (k := k + 4) (a := webD (allp p).length p (allp p)) (val_w _ _ _) (by rw [sz_w]; omega) fun M1 ap1 => ?_
  walk_at "dl_ev"
  unfold c_law_webs_s3
  have p1 := hp.apd ap1
  walk_at "dl_ev"
  refine s_dip (k := k + 4) p1 (by omega) (by omega) fun c M2 hc k2 p2 => ?_
  have hc : c < p := by omega
  have hq2 := k2.get (ap1.get hq) hqn hqd
  walk_at "dl_ev"
  refine ⟨⟨by omega, by simp; omega⟩, ?_⟩
  rw [List.length_map, Int.toNat_natCast, rng0]
  refine cloop_inv (fun xs acc M' => ∃ (a r : List Nat), a ++ r = List.range (allp p).length ∧ xs = r.map nD ∧ acc = (a.filter fun i => decide (c ∈ [((allp p).getD i (0, 0)).1, ((allp p).getD i (0, 0)).2])).map nD ∧ M' = M2) ?_ ?_ _ _ _ ⟨[], _, rfl, rfl, rfl, rfl⟩
  · rintro x xs acc M' ⟨a, r, ha, e, rfl, rfl⟩
    cases r with
    | nil => cases e
    | cons i r =>
      obtain ⟨e1, e2⟩ := List.cons.inj e
      subst e1 e2
      have hi : i < (allp p).length := List.mem_range.mp (by rw [← ha]; simp)
      refine ⟨True.intro, fun K hK => ?_⟩
      have hK : K ((a.filter fun i => decide (c ∈ [((allp p).getD i (0, 0)).1, ((allp p).getD i (0, 0)).2])).map nD ++ if decide (c ∈ [((allp p).getD i (0, 0)).1, ((allp p).getD i (0, 0)).2]) = true then [nD i] else []) M' := by
        refine hK _ _ ⟨a ++ [i], r, by rw [List.append_assoc]; exact ha, rfl, ?_, rfl⟩
        rw [List.filter_append, List.map_append]
        congr 1
        by_cases h : c ∈ [((allp p).getD i (0, 0)).1, ((allp p).getD i (0, 0)).2]
        · rw [if_pos (decide_eq_true h), List.filter_cons, if_pos (decide_eq_true h)]
          rfl
        · rw [if_neg (by simpa using h), List.filter_cons, if_neg (by simpa using h)]
          rfl
      unfold c_law_webs_t2
      walk_at "dl_ev"
      refine W.ixL hq2 (W.at_nat (d := prD ((allp p).getD i (0, 0))) ?_) ?_
      · rw [List.getElem?_map, List.getElem?_eq_getElem hi]
        simp [List.getD_eq_getElem?_getD, hi]
      refine inN (l := [((allp p).getD i (0, 0)).1, ((allp p).getD i (0, 0)).2]) rfl ?_
      walk_at "dl_ev"
      by_cases h : c ∈ [((allp p).getD i (0, 0)).1, ((allp p).getD i (0, 0)).2]
      · rw [decide_eq_true h] at hK ⊢
        walk_at "dl_ev"
        exact hK
      · rw [decide_eq_false h] at hK ⊢
        walk_at "dl_ev"
        rw [if_neg (by decide), List.append_nil] at hK
        exact hK
  · rintro acc M' ⟨a, r, ha, e, rfl, rfl⟩
    have : r = [] := by cases r with | nil => rfl | cons x r => cases e
    subst this
    rw [List.append_nil] at ha
    subst ha
    refine ⟨True.intro, ?_⟩
    have est : (List.range (allp p).length).filter (fun i => decide (c ∈ [((allp p).getD i (0, 0)).1, ((allp p).getD i (0, 0)).2])) = starL p c := rfl
    rw [est]
    have hst : Lot (allp p).length (starL p c) := (Lot.range _).filter _
    walk_at "dl_ev"
    refine s_watchw (k := k) hst (by omega) (by omega) (allp_lt p h7) fun M4 ap4 => ?_
    have hb : forest (List.range p) ((starL p c).map fun i => (allp p).getD i (0, 0)) = true := star_good p h7 c hc
    rw [hb]
    walk_at "dl_ev"
    refine s_same (k := k + 4) (.bl true) (by simp [sz]) fun M5 ap5 => ?_
    walk_at "dl_ev"
    exact s_webs2 ((p2.apd ap4).apd ap5) h1 h7 hc (ap5.get (ap4.get hq2)) go
end

section
variable {k n d : Nat} {ex : XP} {M : Mem} {P : Po} {o1 o2 o3 o4 o5 o6 o9 o10 o14 o15 : Option D}
theorem s_watchr {m : Nat} {l : List Nat} (h1 : 1 ≤ m) (hm : m ≤ 1000) (hl : Lot m l) (go : ∀ M', Apd M M' → P (.bl (wf m (ring m) l)) M') : sem T (k + 5) 36 ex [webD m m (ring m), tN l] M P := by
  have w := s_watchw (k := k) (ex := ex) (M := M) (P := P) (places := m) (ts := ring m) (l := l)
  rw [ring_len h1] at w
  exact w hl hm hm (ring_lt h1) go
/-- the pairs of the places -/
theorem s_webs5 (hp : Pool M n d) (go : ∀ M', Pool M' n d → P (.bl true) M') :
    c_law_webs_s5 ⟨sem T (k + 5), fun _ => ex⟩ ⟨fun _ M' => P .non M', P, fun _ _ => False, fun _ _ => False⟩ [some (.ref n), o1, o2, o3, o4, o5, o6, none, none, none, none, none, none, none, none, none] M := by
  have szl : sizeLine = 16777216 := by decide
  unfold c_law_webs_s5
  walk_at "dl_ev"
  refine s_dip (k := k + 4) hp (by omega) (by omega) fun p' M1 hp' k1 p1 => ?_
  walk_at "dl_ev"
  obtain ⟨p, hpe, h1, h7⟩ : ∃ p : Nat, (1 + (p' : Int)) = (p : Nat) ∧ 1 ≤ p ∧ p < 7 := ⟨1 + p', by omega, by omega, by omega⟩
  rw [hpe]
  have hpn := p1.ltn
  have hpd := p1.ltd
  refine ⟨⟨by omega, by omega⟩, ?_⟩
  rw [Int.toNat_natCast]
  have hall : ∀ a : Nat, a ≤ p → ((List.range a).flatMap fun x => ((List.range p).filter fun b => decide (x < b)).map fun b => (x, b)).length ≤ 50 := by
    have : p = 1 ∨ p = 2 ∨ p = 3 ∨ p = 4 ∨ p = 5 ∨ p = 6 := by omega
    rcases this with e | e | e | e | e | e <;> subst e <;> decide
  refine floop_inv (fun xs ρ M' => ∃ (a : Nat) (o9 o10 : Option D), a ≤ p ∧ xs = rngI a (p - a) ∧ ρ = [some (.ref n), o1, o2, o3, o4, o5, o6, some (nD p), some (.ref M1.length), o9, o10, none, none, none, none, none] ∧ M'[M1.length]? = some (.lst (((List.range a).flatMap fun x => ((List.range p).filter fun b => decide (x < b)).map fun b => (x, b)).map prD)) ∧ Pool M' n d) ?_ ?_ _ _ _ ⟨0, none, none, Nat.zero_le _, rfl, rfl, get_new, p1.apd Apd.one⟩
  · rintro x xs ρ M' ⟨a, o9, o10, ha, e, rfl, hM, hpM⟩
    obtain ⟨hlt, rfl, rfl⟩ := rng_next e
    have hl0 := hall a ha
    refine ⟨True.intro, fun K hK => ?_⟩
    unfold c_law_webs_b3
    walk_at "dl_ev"
    refine ⟨⟨by omega, by omega⟩, ?_⟩
    rw [Int.toNat_natCast]
    refine floop_inv (fun xs ρ M' => ∃ (b : Nat) (o10 : Option D), b ≤ p ∧ xs = rngI b (p - b) ∧ ρ = [some (.ref n), o1, o2, o3, o4, o5, o6, some (nD p), some (.ref M1.length), some (nD a), o10, none, none, none, none, none] ∧ M'[M1.length]? = some (.lst (((List.range a).flatMap (fun x => ((List.range p).filter fun b => decide (x < b)).map fun b => (x, b)) ++ (((List.range b).filter fun y => decide (a < y)).map fun y => (a, y))).map prD)) ∧ Pool M' n d) ?_ ?_ _ _ _ ⟨0, o10, Nat.zero_le _, rfl, rfl, by rw [hM]; simp, hpM⟩
    · rintro x xs ρ M' ⟨b, o10, hb, e, rfl, hM2, hpM2⟩
      obtain ⟨hlt2, rfl, rfl⟩ := rng_next e
      refine ⟨True.intro, fun K2 hK2 => ?_⟩
      have hl1 : (((List.range b).filter fun y => decide (a < y)).map fun y => (a, y)).length ≤ 50 := by
        have := List.length_filter_le (fun y => decide (a < y)) (List.range b)
        rw [List.length_range] at this
        rw [List.length_map]
        omega
      have hsl : ((((List.range a).flatMap (fun x => ((List.range p).filter fun b => decide (x < b)).map fun b => (x, b)) ++ (((List.range b).filter fun y => decide (a < y)).map fun y => (a, y))).map prD)).length < sizeLine := by
        rw [List.length_map, List.length_append]
        omega
      have est : ((List.range (b + 1)).filter fun y => decide (a < y)).map (fun y => (a, y)) = ((List.range b).filter fun y => decide (a < y)).map (fun y => (a, y)) ++ if a < b then [(a, b)] else [] := by
        rw [List.range_succ, List.filter_append, List.map_append, List.filter_cons]
        by_cases h : a < b
        · rw [if_pos (decide_eq_true h), if_pos h]
          rfl
        · rw [if_neg (by simpa using h), if_neg h]
          rfl
      unfold c_law_webs_b2
      walk_at "dl_ev"
      refine W.dec (fun h => ?_) fun h => ?_
      · have h : a < b := by omega
        walk_at "dl_ev"
        refine hK2 _ _ ⟨b + 1, _, hlt2, rfl, rfl, ?_, hpM2.set (by omega) (by omega)⟩
        rw [get_set_self hM2, est, if_pos h, ← List.append_assoc, List.map_append (l₂ := [(a, b)])]
        rfl
      · have h : ¬ a < b := by omega
        walk_at "dl_ev"
        refine hK2 _ _ ⟨b + 1, _, hlt2, rfl, rfl, ?_, hpM2⟩
        rw [hM2, est, if_neg h, List.append_nil]
    · rintro ρ M' ⟨b, o10, hb, e, rfl, hM2, hpM2⟩
      have := rng_end hb e
      subst this
      refine ⟨True.intro, hK _ _ ⟨a + 1, _, _, hlt, rfl, rfl, ?_, hpM2⟩⟩
      rw [hM2, List.range_succ, List.flatMap_append]
      simp
  · rintro ρ M' ⟨a, o9, o10, ha, e, rfl, hM, hpM⟩
    have := rng_end ha e
    subst this
    refine ⟨True.intro, ?_⟩
    exact s_webs4 hpM h1 h7 hM (by omega) (by omega) go
theorem s_lwebs (hp : Pool M n d) (go : ∀ M', Pool M' n d → P (.bl true) M') : sem T (k + 6) 44 ex [.ref n] M P := by
  have szl : sizeLine = 16777216 := by decide
  refine u44 ?_
  unfold c_law_webs
  walk_at "dl_ev"
  refine s_dip (k := k + 4) hp (by omega) (by omega) fun r1 M1 hr1 k1 p1 => ?_
  walk_at "dl_ev"
  obtain ⟨v, hv, hv20⟩ : ∃ v : Nat, atI [D.int 6, D.int 20] (if decide ((r1 : Int) = 0) = true then (1 : Int) else 0) = some (nD v) ∧ 1 ≤ v ∧ v ≤ 20 := by
    by_cases h : (r1 : Int) = 0
    · exact ⟨20, by rw [if_pos (decide_eq_true h)]; exact W.at1, by omega, by omega⟩
    · exact ⟨6, by rw [if_neg (by simpa using h)]; exact W.at0, by omega, by omega⟩
  refine W.ixT hv ?_
  walk_at "dl_ev"
  refine s_dip (k := k + 4) p1 (by omega) (by omega) fun m' M2 hm' k2 p2 => ?_
  walk_at "dl_ev"
  obtain ⟨m, hme, h1, h21⟩ : ∃ m : Nat, (1 + (m' : Int)) = (m : Nat) ∧ 1 ≤ m ∧ m < 21 := ⟨1 + m', by omega, by omega, by omega⟩
  rw [hme]
  have hpn := p2.ltn
  have hpd := p2.ltd
  refine ⟨⟨by omega, by omega⟩, ?_⟩
  rw [show ((m : Int) - 1).toNat = m - 1 by omega]
  refine floop_inv (fun xs ρ M' => ∃ (a : Nat) (o3 : Option D), a ≤ m - 1 ∧ xs = rngI a (m - 1 - a) ∧ ρ = [some (.ref n), some (nD m), some (.ref M2.length), o3, none, none, none, none, none, none, none, none, none, none, none, none] ∧ M'[M2.length]? = some (.lst (((List.range a).map fun x => (x, x + 1)).map prD)) ∧ Pool M' n d) ?_ ?_ _ _ _ ⟨0, none, Nat.zero_le _, rfl, rfl, get_new, p2.apd Apd.one⟩
  · rintro x xs ρ M' ⟨a, o3, ha, e, rfl, hM, hpM⟩
    obtain ⟨hlt, rfl, rfl⟩ := rng_next e
    refine ⟨True.intro, fun K hK => ?_⟩
    have hsl : (((List.range a).map fun x => (x, x + 1)).map prD).length < sizeLine := by simp; omega
    unfold c_law_webs_b1
    walk_at "dl_ev"
    refine hK _ _ ⟨a + 1, _, hlt, rfl, rfl, ?_, hpM.set (by omega) (by omega)⟩
    rw [get_set_self hM, List.range_succ, List.map_append, List.map_append]
    rfl
  · rintro ρ M' ⟨a, o3, ha, e, rfl, hM, hpM⟩
    have := rng_end ha e
    subst this
    refine ⟨True.intro, ?_⟩
    have hsl : (((List.range (m - 1)).map fun x => (x, x + 1)).map prD).length < sizeLine := by simp; omega
    unfold c_law_webs_s7
    walk_at "dl_ev"
    have hM3 : (M'.set M2.length (.lst (((List.range (m - 1)).map fun x => (x, x + 1)).map prD ++ [D.tup [.int 0, .int ((m : Int) - 1)]])))[M2.length]? = some (.lst ((ring m).map prD)) := by
      rw [get_set_self hM]
      congr 2
      unfold ring
      rw [List.map_append]
      congr 1
      show [D.tup [.int 0, .int ((m : Int) - 1)]] = [prD (0, m - 1)]
      unfold prD
      simp
      omega
    have pM3 := hpM.set (c := .lst (((List.range (m - 1)).map fun x => (x, x + 1)).map prD ++ [D.tup [.int 0, .int ((m : Int) - 1)]])) (show M2.length ≠ n by omega) (show M2.length ≠ d by omega)
    generalize M'.set M2.length (.lst (((List.range (m - 1)).map fun x => (x, x + 1)).map prD ++ [D.tup [.int 0, .int ((m : Int) - 1)]])) = M3 at hM3 pM3
    refine s_ring (k := k + 4) h1 (by omega) fun M4 ap4 => ?_
    have hM4 := ap4.get hM3
    walk_at "dl_ev"
    refine s_same (k := k + 4) (a := webD m m (ring m)) (val_w _ _ _) (by rw [sz_w, ring_len h1]; omega) fun M5 ap5 => ?_
    have p5 := (pM3.apd ap4).apd ap5
    walk_at "dl_ev"
    unfold c_law_webs_s6
    walk_at "dl_ev"
    refine ⟨⟨by omega, by omega, by omega, by omega, by omega⟩, ?_⟩
    rw [show ((m : Int) - 0).toNat = m by omega, rng0]
    walk_at "dl_ev"
    refine s_dip (k := k + 4) p5 (by omega) (by omega) fun g M6 hg k6 p6 => ?_
    have hg : g < m := by omega
    walk_at "dl_ev"
    refine cloop_pure (fun x => match x with | .int i => !decide (i.toNat = g) | _ => false) id True.intro _ _ ?_ ?_
    · intro x hx acc K hK
      obtain ⟨i, hi, rfl⟩ := List.mem_map.mp hx
      have hK : K (if (!decide (((i : Int)).toNat = g)) = true then acc ++ [nD i] else acc) M6 := hK
      rw [Int.toNat_natCast] at hK
      unfold c_law_webs_t1
      walk_at "dl_ev"
      refine W.dec_not (fun h => ?_) fun h => ?_
      · have h : ¬ i = g := by omega
        rw [decide_eq_false h] at hK
        walk_at "dl_ev"
        exact hK
      · have h : i = g := by omega
        rw [decide_eq_true h] at hK
        exact hK
    · rw [List.filter_map, List.map_map, Function.id_comp, List.nil_append]
      have e : (List.range m).filter ((fun x => match x with | D.int i => !decide (i.toNat = g) | _ => false) ∘ nD) = (List.range m).filter fun x => !decide (x = g) := by
        refine List.filter_congr fun i _ => ?_
        show (!decide (((i : Int)).toNat = g)) = _
        rw [Int.toNat_natCast]
      rw [e]
      walk_at "dl_ev"
      refine s_ring (k := k + 4) h1 (by omega) fun M7 ap7 => ?_
      walk_at "dl_ev"
      refine s_watchr (k := k) h1 (by omega) (Lot.range m) fun M8 ap8 => ?_
      rw [ring_whole m h21 h1]
      walk_at "dl_ev"
      refine s_ring (k := k + 4) h1 (by omega) fun M9 ap9 => ?_
      walk_at "dl_ev"
      refine s_watchr (k := k) h1 (by omega) ((Lot.range m).filter _) fun M10 ap10 => ?_
      rw [ring_less m h21 g hg]
      walk_at "dl_ev"
      refine s_same (k := k + 4) (.tup _ fun x hx => ?_) (by simp [sz, szs]) fun M11 ap11 => ?_
      · simp at hx
        rcases hx with e | e <;> subst e <;> exact .bl _
      walk_at "dl_ev"
      exact s_webs5 (((((p6.apd ap7).apd ap8).apd ap9).apd ap10).apd ap11) go
end

/-! ### the law -/
theorem law_data : ∀ ns, Small ns → sem T 40 45 (fun _ _ _ => False) [.rol (ns.map D.int)] [] fun r _ => r = .bl true := by
  intro ns hs
  have szl : sizeLine = 16777216 := by decide
  refine u45 (n := 39) ?_
  unfold c_law
  walk_at "dl_ev"
  refine s_well (k := 38) hs.1 fun n d M hp => ?_
  walk_at "dl_ev"
  refine ⟨⟨by decide, by decide⟩, ?_⟩
  refine floop_inv (fun xs ρ M' => ∃ (i : Nat) (o2 : Option D), i ≤ 2 ∧ xs = rngI i (2 - i) ∧ ρ = [some (.rol (ns.map .int)), some (.ref n), o2] ∧ Pool M' n d) ?_ ?_ _ _ _ ⟨0, none, by omega, rfl, rfl, hp⟩
  · rintro x xs ρ M' ⟨i, o2, hi, e, rfl, hp'⟩
    obtain ⟨hlt, rfl, rfl⟩ := rng_next e
    refine ⟨True.intro, fun K hK => ?_⟩
    unfold c_law_b1
    walk_at "dl_ev"
    refine s_numbers (k := 34) hp' fun M1 p1 => ?_
    walk_at "dl_ev"
    refine s_lany (k := 33) p1 fun M2 p2 => ?_
    walk_at "dl_ev"
    refine s_lrooms (k := 33) p2 fun M3 p3 => ?_
    walk_at "dl_ev"
    refine s_lwebs (k := 33) p3 fun M4 p4 => ?_
    walk_at "dl_ev"
    exact hK _ _ ⟨i + 1, _, hlt, rfl, rfl, p4⟩
  · rintro ρ M' ⟨i, o2, hi, e, rfl, hp'⟩
    refine ⟨True.intro, ?_⟩
    unfold c_law_s2
    walk_at "dl_ev"
    refine s_ring (k := 38) (m := 1) (by omega) (by omega) fun M1 ap1 => ?_
    walk_at "dl_ev"
    refine s_ring (k := 38) (m := 2) (by omega) (by omega) fun M2 ap2 => ?_
    walk_at "dl_ev"
    refine s_pairs (k := 38) (m := 1) (L := []) (by omega) (.inl ⟨by decide, rfl⟩) (by decide) ?_
    walk_at "dl_ev"
    refine s_same (k := 38) (a := .tup [webD 1 1 (ring 1), webD 2 2 (ring 2), webD 0 1 []]) (.tup _ fun x hx => ?_) (by decide) fun M3 ap3 => ?_
    · simp at hx
      rcases hx with e | e | e <;> subst e
      · exact val_w 1 1 (ring 1)
      · exact val_w 2 2 (ring 2)
      · exact val_w 0 1 []
    walk_at "dl_ev"
    unfold c_law_s1
    walk_at "dl_ev"
    refine s_rooms (k := 38) (ss := []) (q := 1) (by decide) (by decide) fun M4 ap4 => ?_
    walk_at "dl_ev"
    refine s_rooms (k := 38) (ss := [0, 1]) (q := 0) (by decide) (by decide) fun M5 ap5 => ?_
    walk_at "dl_ev"
    refine s_any (k := 38) (m := 0) (q := 0) (by omega) ?_
    walk_at "dl_ev"
    refine s_same (k := 38) (a := .tup [quotasD 0 (rooms 0 [] 1), quotasD 1 (rooms 0 [0, 1] 0), quotasD 0 [(List.range 0, 0)]]) (.tup _ fun x hx => ?_) (by decide) fun M6 ap6 => ?_
    · simp at hx
      rcases hx with e | e | e <;> subst e
      · exact val_q 0 (rooms 0 [] 1)
      · exact val_q 1 (rooms 0 [0, 1] 0)
      · exact val_q 0 [(List.range 0, 0)]
    · rfl

/-! ### the head -/
def names0 : List PySem.Str := ["__name__", "free_rule", "any_rule", "rooms_rule", "ring_rule", "all_pairs_rule", "is_integer", "integer_within", "lot_fault", "is_lot", "common_of", "lot_number", "numbered_lot", "merged_marks", "is_forest", "first_place", "cleared", "reduced", "turned_over", "scaled", "are_free", "given_more", "matched", "PLAIN_KINDS", "things_of", "others_of", "with_thing", "without_thing", "in_the_way", "lacking_lots"]
def names1 : List PySem.Str := ["way_out", "changed_lots", "parted", "keeps_quotas", "is_plain_watchable", "led_lot", "beside_lots", "holds", "is_watchable", "_law_well", "_law_dip", "_law_same", "_law_lot", "_law_numbers", "_law_any", "_law_rooms", "_law_webs"]
def names : List PySem.Str := names0 ++ names1
abbrev Rw : PySem.W.OpenRow := PySem.W.OpenLaw.row PySem.Challenge.rw_watchedbylot_k02_makers_numbers
abbrev hk : PySem.W.Hook := hookM 4 G ds
theorem run (w : World) : HandSHeadRun.RunEqI Rw (PySem.W.view Rw.prog [0, 56]) hk (obM 4 G ds) 4000 names w := by
  unfold HandSHeadRun.RunEqI
  kernel_rfl
end DL.Law
open PySem PySem.W PySem.Calls PyProof.Rows in
theorem PySem.Challenge.cw_watchedbylot_k02_makers_numbers_holds : PySem.Challenge.rw_watchedbylot_k02_makers_numbers.Holds := by
  w_on; o_law
  refine HandSHeadRun.head_imp (r := OpenLaw.row PySem.Challenge.rw_watchedbylot_k02_makers_numbers) (q := view (OpenLaw.row PySem.Challenge.rw_watchedbylot_k02_makers_numbers).prog [0, 56]) (H := DL.Law.hk) (ob := DL.obM 4 DL.Law.G DL.Law.ds) (M := 4000) (loose := DL.Law.names)
    (d := HandSHeadRun.topDef (OpenLaw.row PySem.Challenge.rw_watchedbylot_k02_makers_numbers).prog 56) (kwd := []) (fun s => DL.obM_eq s) DL.Law.run (by kernel_rfl) (by kernel_rfl) (by kernel_rfl) (by rfl) (by first | assumption | decide +kernel) (by decide +kernel) ⟨rfl, rfl, rfl, rfl, rfl, by decide +kernel⟩ ?hw ?hc
  case hw => w_witness2
  case hc => exact DL.walk_M (k := 40) (i := 45) (x := "script") (e := DL.Law.d45) rfl (by kernel_rfl) ⟨rfl, by decide, by decide⟩ DL.Law.tab rfl (by kernel_rfl) rfl DL.Law.law_data

